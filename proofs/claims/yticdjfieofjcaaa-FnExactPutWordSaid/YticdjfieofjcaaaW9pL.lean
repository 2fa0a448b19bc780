/- The row FnExactPutWord. No conditions. -/
import Derived.Test.YticdjfieofjcaaaW9pPutWord2
import Derived.Test.YticdjfieofjcaaaW9pC
import Derived.Test.YticdjfieofjcaaaRows
import Derived.Test.YticdjfieofjcaaaOwn3
set_option linter.unusedVariables false
set_option linter.unusedSimpArgs false
set_option linter.unnecessarySimpa false
namespace Go.Own
open Go Go.Proofs Go.RowKit
theorem mixed : Try.prog.follows .mixedOrders = true := by kernel_rfl
theorem op3 (n : Nat) : OpF Try.prog n 3 (fun a : Int => [T.int .i64 a]) (fun a : Int => IntKind.i64.min ≤ a ∧ a ≤ IntKind.i64.max) := OpF.int Try.underlying3
theorem op9 (n : Nat) : OpF Try.prog n 9 (fun a : List UInt8 => [T.str a]) (fun a : List UInt8 => a.length ≤ maxLen) := OpF.str Try.underlying9
theorem ops43 : ∀ n : Nat, OpF Try.prog n 43 rS_laws_Term Q.okTerm ∧ OpF Try.prog n 41 (fun l : List S_laws_Term => [T.sl (l.map rS_laws_Term)]) (fun l : List S_laws_Term => l.length ≤ maxLen ∧ ∀ a ∈ l, Q.okTerm a) := by
  intro n
  induction n with
  | zero => exact ⟨OpF.zero, OpF.zero⟩
  | succ n ih =>
    refine ⟨?_, OpF.slice (s := 4) Try.underlying41 (by kernel_rfl) (by decide) (fun a => by rw [rS_laws_Term_eq]; rfl) (ih.1)⟩
    intro H enc w base spare held cs x h
    obtain ⟨xs, m, hn, _, hl, hlen, hf⟩ := DataW.trod_struct Try.underlying43 h
    obtain rfl : n = m := by omega
    obtain ⟨a0, c0, o0⟩ := OpF.field hlen hf (i := 0) (off := 0) (size := 1) rfl rfl rfl (by kernel_rfl) (op3 n)
    obtain ⟨a1, c1, o1⟩ := OpF.field hlen hf (i := 1) (off := 1) (size := 1) rfl rfl rfl (by kernel_rfl) (op3 n)
    obtain ⟨a2, c2, o2⟩ := OpF.field hlen hf (i := 2) (off := 2) (size := 1) rfl rfl rfl (by kernel_rfl) (op9 n)
    obtain ⟨a3, c3, o3⟩ := OpF.field hlen hf (i := 3) (off := 3) (size := 1) rfl rfl rfl (by kernel_rfl) (ih.2)
    have hnil : (cs.drop 4).length = 0 := by
      have e : Try.prog.cellsOf 43 = 4 := by kernel_rfl
      rw [List.length_drop, hl, e]
    have key := (CR.cons (off := 0) (size := 1) rfl c0 (CR.cons (off := 1) (size := 1) rfl c1 (CR.cons (off := 2) (size := 1) rfl c2 (CR.cons (off := 3) (size := 1) rfl c3 (CR.nil (w := w) (cs := cs.drop 4) (hnil))))))
    refine ⟨.mk a0 a1 a2 a3, ?_, ?_⟩
    · rw [rS_laws_Term_eq]; exact key
    · simp only [Q.okTerm]; exact ⟨o0, o1, o2, o3.1, (Q.okTerms_iff _).2 o3.2⟩
theorem op43 (n : Nat) : OpF Try.prog n 43 rS_laws_Term Q.okTerm := (ops43 n).1
theorem op41 (n : Nat) : OpF Try.prog n 41 (fun l : List S_laws_Term => [T.sl (l.map rS_laws_Term)]) (fun l : List S_laws_Term => l.length ≤ maxLen ∧ ∀ a ∈ l, Q.okTerm a) := (ops43 n).2
def rS_laws_Worker (a : S_laws_Worker) : List T := [.int .i64 a.f0, .str a.f1, .str a.f2, .int .i64 a.f3, .int .i64 a.f4, .int .i64 a.f5, .str a.f6, .sl (a.f7.map rS_laws_Term), .sl (a.f8.map rS_laws_Term)]
theorem rS_laws_Worker_eq (a : S_laws_Worker) : rS_laws_Worker a = [.int .i64 a.f0, .str a.f1, .str a.f2, .int .i64 a.f3, .int .i64 a.f4, .int .i64 a.f5, .str a.f6, .sl (a.f7.map rS_laws_Term), .sl (a.f8.map rS_laws_Term)] := rfl
theorem op45 (n : Nat) : OpF Try.prog n 45 rS_laws_Worker Q.okWorker := by
  intro H enc w base spare held cs x h
  obtain ⟨xs, m, hn, _, hl, hlen, hf⟩ := DataW.trod_struct Try.underlying45 h
  obtain ⟨a0, c0, o0⟩ := OpF.field hlen hf (i := 0) (off := 0) (size := 1) rfl rfl rfl (by kernel_rfl) (op3 m)
  obtain ⟨a1, c1, o1⟩ := OpF.field hlen hf (i := 1) (off := 1) (size := 1) rfl rfl rfl (by kernel_rfl) (op9 m)
  obtain ⟨a2, c2, o2⟩ := OpF.field hlen hf (i := 2) (off := 2) (size := 1) rfl rfl rfl (by kernel_rfl) (op9 m)
  obtain ⟨a3, c3, o3⟩ := OpF.field hlen hf (i := 3) (off := 3) (size := 1) rfl rfl rfl (by kernel_rfl) (op3 m)
  obtain ⟨a4, c4, o4⟩ := OpF.field hlen hf (i := 4) (off := 4) (size := 4) rfl rfl rfl (by kernel_rfl) (op43 m)
  rw [rS_laws_Term_eq] at c4
  obtain ⟨a5, c5, o5⟩ := OpF.field hlen hf (i := 5) (off := 8) (size := 1) rfl rfl rfl (by kernel_rfl) (op41 m)
  have hnil : (cs.drop 9).length = 0 := by
    have e : Try.prog.cellsOf 45 = 9 := by kernel_rfl
    rw [List.length_drop, hl, e]
  have key := (CR.cons (off := 0) (size := 1) rfl c0 (CR.cons (off := 1) (size := 1) rfl c1 (CR.cons (off := 2) (size := 1) rfl c2 (CR.cons (off := 3) (size := 1) rfl c3 (CR.cons (off := 4) (size := 4) rfl c4 (CR.cons (off := 8) (size := 1) rfl c5 (CR.nil (w := w) (cs := cs.drop 9) (hnil))))))))
  exact ⟨⟨a0, a1, a2, a3, a4.f0, a4.f1, a4.f2, a4.f3, a5⟩, key, ⟨o0, o1, o2, o3, (by rw [Q.S_laws_Term_eta]; exact o4), o5⟩⟩
set_option maxRecDepth 100000 in
theorem tc (a0 : S_laws_Worker) (a1 : S_laws_Term) (o0 : Q.okWorker a0) (o1 : Q.okTerm a1) : TC Try.prog 9 { bi := ⟨[(0, [[.S, .S, .S, .S, .S, .S, .S, .F, .F]]), (1, [[.S, .S, .S, .F]])], []⟩, bo := ⟨[(0, [[.S]])], []⟩, np := 2, ext := false } [.one (.ag (rS_laws_Worker a0)), .one (.ag (rS_laws_Term a1))] [] (.one (.c (.bool true))) none [] none := by
  obtain ⟨n, h⟩ := Q.law a0 a1 o0 o1
  rw [rS_laws_Term_eq]
  exact TC.of mixed tables checked (big_laws_FnExactPutWord h) (by unfold Sgs; simp) rfl rfl
set_option maxRecDepth 100000 in
theorem row (a0 : S_laws_Worker) (a1 : S_laws_Term) (o0 : Q.okWorker a0) (o1 : Q.okTerm a1) (W : World) (cs0 : Array Value) (h0 : CR W cs0.toList (rS_laws_Worker a0)) (cs1 : Array Value) (h1 : CR W cs1.toList (rS_laws_Term a1)) : Calls Try.prog 9 #[.agg cs0, .agg cs1] W fun e w' => e = .returned (.bool true) ∧ Below W.heap.size W w' := by
  refine (tc a0 a1 o0 o1).row rfl rfl rfl (by decide) Try.func9 rfl (by decide) W #[.agg cs0, .agg cs1] rfl (fun i => ?_) (fun i hi => ?_)
  · match i with
    | 0 => rfl
    | 1 => rfl
    | _ + 2 => rfl
  · match i, hi with
    | 0, _ => exact rv_ag h0 rfl
    | 1, _ => exact rv_ag h1 (by rw [rS_laws_Term_eq]; rfl)
    | _ + 2, hi => cases hi
end Go.Own
namespace Go.Proofs.Yticdjfieofjcaaa.fnExactPutWord
open Go.ChangeShapes Go.WideShapes Go.ChangeAt Go.RowKit
open Go.ChangeMaps (open_string shut_string)
set_option linter.unusedVariables false
theorem own : ownKnob Try.prog.godebug = none := by kernel_rfl
theorem laidOut : laidOutB Try.prog = true := by kernel_rfl
set_option maxRecDepth 100000 in
theorem lifted (os : Os) (started : os.Started) (H : Type) (enc : TypeId × Value → H) :
    ReturnsInHanded {} Try.checked os 9 .any (Rows.fnExactPutWordSpec.pre6 enc Try.prog Try.f9 Rows.fnExactPutWordRow.domain false) (Rows.fnExactPutWordSpec.post enc Try.prog Try.f9 false true false false) := by
  refine returnsInHanded_of_change_sized (C := Try.checked) own started (by kernel_rfl) Try.func9
    (ChangeSpec.witness6 (enc := enc) (C := Try.checked) false ⟨#[], #[.agg #[.int .i64 0, .string ⟨#[]⟩, .string ⟨#[]⟩, .int .i64 0, .int .i64 0, .int .i64 0, .string ⟨#[]⟩, .slice none 0 0, .slice none 0 0], .agg #[.int .i64 0, .int .i64 0, .string ⟨#[]⟩, .slice none 0 0]], []⟩ 8 (by kernel_rfl) (by kernel_rfl) (by kernel_rfl) (by kernel_rfl)) ?_
  intro W base args ds gs before hval0 hW hcnd hsz0 _
  have hsz : (DataW.weightsEach Try.prog (Try.f9.params.toList ++ Rows.fnExactPutWordSpec.plain.varTypes Try.prog) (ds ++ gs)).all (· ≤ reachBytes) = true := hsz0
  have hval : ∀ (j : Nat) t v, Try.f9.params[j]? = some t → args[j]? = some v → Value.okWide Try.prog W .any base t v := hval0
  have hW' := hW
  obtain ⟨p, q, hA0, hV, rfl, hfz, hnd⟩ := hW
  have hA : DataW.TrodAll enc Try.prog W 0 (fun _ => true) true Try.f9.params.toList args.toList ds p := hA0
  rw [Try.params9] at hA hval hsz
  obtain ⟨v0, vs0, d0, ds0, p0, q0, hargs0, rfl, rfl, h0, r0⟩ := trodAll_cons hA
  obtain ⟨v1, vs1, d1, ds1, p1, q1, hargs1, rfl, rfl, h1, r1⟩ := trodAll_cons r0
  obtain ⟨rfl, rfl, rfl⟩ := trodAll_nil r1
  obtain rfl : args = #[v0, v1] := by cases args; simp_all
  obtain ⟨rfl, rfl⟩ := trodVars_none hV
  obtain ⟨cs0, rfl, _⟩ := okWide_struct Try.underlying45 (hval 0 45 v0 rfl rfl)
  have k0 := h0
  have lt0 : ∀ x ∈ p0, x.block < W.heap.size := by obtain ⟨m, hm⟩ := k0; exact DataW.trod_lt m _ _ _ hm
  obtain ⟨a0, e0, o0⟩ : ∃ a, Own.CR W _ (Own.rS_laws_Worker a) ∧ Own.Q.okWorker a := by
    obtain ⟨fuel, hf⟩ := h0
    exact Own.op45 fuel enc W _ _ _ _ _ hf
  obtain ⟨cs1, rfl, _⟩ := okWide_struct Try.underlying43 (hval 1 43 v1 rfl rfl)
  have k1 := h1
  have lt1 : ∀ x ∈ p1, x.block < W.heap.size := by obtain ⟨m, hm⟩ := k1; exact DataW.trod_lt m _ _ _ hm
  obtain ⟨a1, e1, o1⟩ : ∃ a, Own.CR W _ (Own.rS_laws_Term a) ∧ Own.Q.okTerm a := by
    obtain ⟨fuel, hf⟩ := h1
    exact Own.op43 fuel enc W _ _ _ _ _ hf
  clear hA0 hval0 hsz0 hsz
  refine (Own.row a0 a1 o0 o1 W cs0 e0 cs1 e1).mono fun e W' ⟨he, bel⟩ => ?_
  subst he
  exact ⟨_, rfl, _, _, _, [], _, [], hW', trodAll_mk1 (shut_bool Try.underlying4 _), (trodAll_cons_mk (Below.trod laidOut (by kernel_rfl) (of_decide_eq_true (by kernel_rfl)) k0 bel lt0) (trodAll_cons_mk (Below.trod laidOut (by kernel_rfl) (of_decide_eq_true (by kernel_rfl)) k1 bel lt1) trodAll_mk0)), rfl, bel.frame _, fun h => by cases h⟩
set_option maxHeartbeats 4000000 in
theorem closed : joinedFacts Try.pinned.checked.prog 9 Try.f9 Rows.fnExactPutWordSpec Rows.fnExactPutWordRow = true := by
  unfold joinedFacts
  simp only [Bool.and_eq_true]
  repeat' refine And.intro ?_ ?_
  all_goals as_aux_lemma => kernel_rfl
theorem over : Rows.fnExactPutWordRow.holds Try.pinned (OpenSpec.ofChange Rows.fnExactPutWordSpec) :=
  OpenClaim.holds_of_wide 9 Try.f9 rfl rfl rfl rfl rfl rfl rfl ⟨rfl, rfl, rfl, rfl, rfl⟩ rfl rfl rfl rfl rfl (by kernel_rfl) Try.func9 closed
    (of_decide_eq_true (by kernel_rfl)) (by unfold Func.isWrapper; first | (rw [if_pos (by decide +kernel)]; kernel_rfl) | (rw [if_neg (by decide +kernel)]; exact ⟨rfl, rfl⟩))
    (fun os started H enc _ => lifted os started H enc)
theorem proved : Rows.FnExactPutWordSaid := over
#print axioms proved
end Go.Proofs.Yticdjfieofjcaaa.fnExactPutWord
namespace Go.Proofs.Yticdjfieofjcaaa
/-- The row, under a short name, for the claim. -/
theorem fnExactPutWord_holds : Rows.FnExactPutWordSaid := fnExactPutWord.proved
end Go.Proofs.Yticdjfieofjcaaa
