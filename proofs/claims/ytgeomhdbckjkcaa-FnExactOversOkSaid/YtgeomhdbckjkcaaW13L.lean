/- The row FnExactOversOk. No conditions. -/
import Derived.Test.YtgeomhdbckjkcaaW13OversOk2
import Derived.Test.YtgeomhdbckjkcaaW13C
import Derived.Test.YtgeomhdbckjkcaaRows
import Derived.Test.YtgeomhdbckjkcaaOwn2
set_option linter.unusedVariables false
set_option linter.unusedSimpArgs false
set_option linter.unnecessarySimpa false
namespace Go.Own
open Go Go.Proofs Go.RowKit
theorem mixed : Try.prog.follows .mixedOrders = true := by kernel_rfl
theorem op3 (n : Nat) : OpF Try.prog n 3 (fun a : Int => [T.int .i64 a]) (fun a : Int => IntKind.i64.min ≤ a ∧ a ≤ IntKind.i64.max) := OpF.int Try.underlying3
theorem op9 (n : Nat) : OpF Try.prog n 9 (fun a : List UInt8 => [T.str a]) (fun a : List UInt8 => a.length ≤ maxLen) := OpF.str Try.underlying9
theorem ops88 : ∀ n : Nat, OpF Try.prog n 88 rS_laws_Term Q.okTerm ∧ OpF Try.prog n 59 (fun l : List S_laws_Term => [T.sl (l.map rS_laws_Term)]) (fun l : List S_laws_Term => l.length ≤ maxLen ∧ ∀ a ∈ l, Q.okTerm a) := by
  intro n
  induction n with
  | zero => exact ⟨OpF.zero, OpF.zero⟩
  | succ n ih =>
    refine ⟨?_, OpF.slice (s := 4) Try.underlying59 (by kernel_rfl) (by decide) (fun a => by rw [rS_laws_Term_eq]; rfl) (ih.1)⟩
    intro H enc w base spare held cs x h
    obtain ⟨xs, m, hn, _, hl, hlen, hf⟩ := DataW.trod_struct Try.underlying88 h
    obtain rfl : n = m := by omega
    obtain ⟨a0, c0, o0⟩ := OpF.field hlen hf (i := 0) (off := 0) (size := 1) rfl rfl rfl (by kernel_rfl) (op3 n)
    obtain ⟨a1, c1, o1⟩ := OpF.field hlen hf (i := 1) (off := 1) (size := 1) rfl rfl rfl (by kernel_rfl) (op3 n)
    obtain ⟨a2, c2, o2⟩ := OpF.field hlen hf (i := 2) (off := 2) (size := 1) rfl rfl rfl (by kernel_rfl) (op9 n)
    obtain ⟨a3, c3, o3⟩ := OpF.field hlen hf (i := 3) (off := 3) (size := 1) rfl rfl rfl (by kernel_rfl) (ih.2)
    have hnil : (cs.drop 4).length = 0 := by
      have e : Try.prog.cellsOf 88 = 4 := by kernel_rfl
      rw [List.length_drop, hl, e]
    have key := (CR.cons (off := 0) (size := 1) rfl c0 (CR.cons (off := 1) (size := 1) rfl c1 (CR.cons (off := 2) (size := 1) rfl c2 (CR.cons (off := 3) (size := 1) rfl c3 (CR.nil (w := w) (cs := cs.drop 4) (hnil))))))
    refine ⟨.mk a0 a1 a2 a3, ?_, ?_⟩
    · rw [rS_laws_Term_eq]; exact key
    · simp only [Q.okTerm]; exact ⟨o0, o1, o2, o3.1, (Q.okTerms_iff _).2 o3.2⟩
theorem op88 (n : Nat) : OpF Try.prog n 88 rS_laws_Term Q.okTerm := (ops88 n).1
theorem op59 (n : Nat) : OpF Try.prog n 59 (fun l : List S_laws_Term => [T.sl (l.map rS_laws_Term)]) (fun l : List S_laws_Term => l.length ≤ maxLen ∧ ∀ a ∈ l, Q.okTerm a) := (ops88 n).2
theorem op261 (n : Nat) : OpF Try.prog n 261 rS_laws_Kid Q.okKid := by
  intro H enc w base spare held cs x h
  obtain ⟨xs, m, hn, _, hl, hlen, hf⟩ := DataW.trod_struct Try.underlying261 h
  obtain ⟨a0, c0, o0⟩ := OpF.field hlen hf (i := 0) (off := 0) (size := 1) rfl rfl rfl (by kernel_rfl) (op9 m)
  obtain ⟨a1, c1, o1⟩ := OpF.field hlen hf (i := 1) (off := 1) (size := 1) rfl rfl rfl (by kernel_rfl) (op9 m)
  obtain ⟨a2, c2, o2⟩ := OpF.field hlen hf (i := 2) (off := 2) (size := 4) rfl rfl rfl (by kernel_rfl) (op88 m)
  rw [rS_laws_Term_eq] at c2
  obtain ⟨a3, c3, o3⟩ := OpF.field hlen hf (i := 3) (off := 6) (size := 1) rfl rfl rfl (by kernel_rfl) (op3 m)
  have hnil : (cs.drop 7).length = 0 := by
    have e : Try.prog.cellsOf 261 = 7 := by kernel_rfl
    rw [List.length_drop, hl, e]
  have key := (CR.cons (off := 0) (size := 1) rfl c0 (CR.cons (off := 1) (size := 1) rfl c1 (CR.cons (off := 2) (size := 4) rfl c2 (CR.cons (off := 6) (size := 1) rfl c3 (CR.nil (w := w) (cs := cs.drop 7) (hnil))))))
  exact ⟨⟨a0, a1, a2.f0, a2.f1, a2.f2, a2.f3, a3⟩, key, ⟨o0, o1, (by rw [Q.S_laws_Term_eta]; exact o2), o3⟩⟩
theorem op111 (n : Nat) : OpF Try.prog n 111 (fun l : List S_laws_Kid => [T.sl (l.map rS_laws_Kid)]) (fun l : List S_laws_Kid => l.length ≤ maxLen ∧ ∀ a ∈ l, Q.okKid a) := by
  cases n with
  | zero => exact OpF.zero
  | succ n => exact OpF.slice (s := 7) Try.underlying111 (by kernel_rfl) (by decide) (fun a => rfl) (op261 n)
theorem op112 (n : Nat) : OpF Try.prog n 112 (fun l : List Int => [T.sl (l.map rI_i64)]) (fun l : List Int => l.length ≤ maxLen ∧ ∀ a ∈ l, (fun a : Int => IntKind.i64.min ≤ a ∧ a ≤ IntKind.i64.max) a) := by
  cases n with
  | zero => exact OpF.zero
  | succ n => exact OpF.slice (s := 1) Try.underlying112 (by kernel_rfl) (by decide) (fun a => rfl) (op3 n)
theorem op4 (n : Nat) : OpF Try.prog n 4 (fun a : Bool => [T.bool a]) (fun _ : Bool => True) := OpF.bool Try.underlying4
theorem op114 (n : Nat) : OpF Try.prog n 114 rS_laws_Over Q.okOver := by
  intro H enc w base spare held cs x h
  obtain ⟨xs, m, hn, _, hl, hlen, hf⟩ := DataW.trod_struct Try.underlying114 h
  obtain ⟨a0, c0, o0⟩ := OpF.field hlen hf (i := 0) (off := 0) (size := 1) rfl rfl rfl (by kernel_rfl) (op3 m)
  obtain ⟨a1, c1, o1⟩ := OpF.field hlen hf (i := 1) (off := 1) (size := 1) rfl rfl rfl (by kernel_rfl) (op3 m)
  obtain ⟨a2, c2, o2⟩ := OpF.field hlen hf (i := 2) (off := 2) (size := 1) rfl rfl rfl (by kernel_rfl) (op3 m)
  obtain ⟨a3, c3, o3⟩ := OpF.field hlen hf (i := 3) (off := 3) (size := 1) rfl rfl rfl (by kernel_rfl) (op111 m)
  obtain ⟨a4, c4, o4⟩ := OpF.field hlen hf (i := 4) (off := 4) (size := 1) rfl rfl rfl (by kernel_rfl) (op112 m)
  obtain ⟨a5, c5, o5⟩ := OpF.field hlen hf (i := 5) (off := 5) (size := 1) rfl rfl rfl (by kernel_rfl) (op112 m)
  obtain ⟨a6, c6, o6⟩ := OpF.field hlen hf (i := 6) (off := 6) (size := 1) rfl rfl rfl (by kernel_rfl) (op4 m)
  have hnil : (cs.drop 7).length = 0 := by
    have e : Try.prog.cellsOf 114 = 7 := by kernel_rfl
    rw [List.length_drop, hl, e]
  have key := (CR.cons (off := 0) (size := 1) rfl c0 (CR.cons (off := 1) (size := 1) rfl c1 (CR.cons (off := 2) (size := 1) rfl c2 (CR.cons (off := 3) (size := 1) rfl c3 (CR.cons (off := 4) (size := 1) rfl c4 (CR.cons (off := 5) (size := 1) rfl c5 (CR.cons (off := 6) (size := 1) rfl c6 (CR.nil (w := w) (cs := cs.drop 7) (hnil)))))))))
  exact ⟨⟨a0, a1, a2, a3, a4, a5, a6⟩, key, ⟨o0, o1, o2, o3, o4, o5⟩⟩
theorem op22 (n : Nat) : OpF Try.prog n 22 (fun l : List S_laws_Over => [T.sl (l.map rS_laws_Over)]) (fun l : List S_laws_Over => l.length ≤ maxLen ∧ ∀ a ∈ l, Q.okOver a) := by
  cases n with
  | zero => exact OpF.zero
  | succ n => exact OpF.slice (s := 7) Try.underlying22 (by kernel_rfl) (by decide) (fun a => rfl) (op114 n)
set_option maxRecDepth 100000 in
theorem tc (a0 : List S_laws_Over) (o0 : (fun l : List S_laws_Over => l.length ≤ maxLen ∧ ∀ a ∈ l, Q.okOver a) a0) : TC Try.prog 3 { bi := ⟨[(0, [[.F]])], []⟩, bo := ⟨[(0, [[.S]])], []⟩, np := 1, ext := false } [.one (.c (.sl (a0.map rS_laws_Over)))] [] (.one (.c (.bool true))) none [] none := by
  obtain ⟨n, h⟩ := Q.law a0 o0
  exact TC.of mixed tables checked (big_laws_FnExactOversOk h) (by unfold Sgs; simp) rfl rfl
set_option maxRecDepth 100000 in
theorem row (a0 : List S_laws_Over) (o0 : (fun l : List S_laws_Over => l.length ≤ maxLen ∧ ∀ a ∈ l, Q.okOver a) a0) (W : World) (v0 : Value) (h0 : CR W [v0] [.sl (a0.map rS_laws_Over)]) : Calls Try.prog 3 #[v0] W fun e w' => e = .returned (.bool true) ∧ Below W.heap.size W w' := by
  refine (tc a0 o0).row rfl rfl rfl (by decide) Try.func3 rfl (by decide) W #[v0] rfl (fun i => ?_) (fun i hi => ?_)
  · match i with
    | 0 => rfl
    | _ + 1 => rfl
  · match i, hi with
    | 0, _ => exact rv_c h0 rfl
    | _ + 1, hi => cases hi
end Go.Own
namespace Go.Proofs.Ytgeomhdbckjkcaa.fnExactOversOk
open Go.ChangeShapes Go.WideShapes Go.ChangeAt Go.RowKit
open Go.ChangeMaps (open_string shut_string)
set_option linter.unusedVariables false
theorem own : ownKnob Try.prog.godebug = none := by kernel_rfl
theorem laidOut : laidOutB Try.prog = true := by kernel_rfl
set_option maxRecDepth 100000 in
theorem lifted (os : Os) (started : os.Started) (H : Type) (enc : TypeId × Value → H) :
    ReturnsInHanded {} Try.checked os 3 .any (Rows.fnExactOversOkSpec.pre6 enc Try.prog Try.f3 Rows.fnExactOversOkRow.domain false) (Rows.fnExactOversOkSpec.post enc Try.prog Try.f3 false true false false) := by
  refine returnsInHanded_of_change_sized (C := Try.checked) own started (by kernel_rfl) Try.func3
    (ChangeSpec.witness6 (enc := enc) (C := Try.checked) false ⟨#[], #[.slice none 0 0], []⟩ 8 (by kernel_rfl) (by kernel_rfl) (by kernel_rfl) (by kernel_rfl)) ?_
  intro W base args ds gs before hval0 hW hcnd hsz0 _
  have hsz : (DataW.weightsEach Try.prog (Try.f3.params.toList ++ Rows.fnExactOversOkSpec.plain.varTypes Try.prog) (ds ++ gs)).all (· ≤ reachBytes) = true := hsz0
  have hval : ∀ (j : Nat) t v, Try.f3.params[j]? = some t → args[j]? = some v → Value.okWide Try.prog W .any base t v := hval0
  have hW' := hW
  obtain ⟨p, q, hA0, hV, rfl, hfz, hnd⟩ := hW
  have hA : DataW.TrodAll enc Try.prog W 0 (fun _ => true) true Try.f3.params.toList args.toList ds p := hA0
  rw [Try.params3] at hA hval hsz
  obtain ⟨v0, vs0, d0, ds0, p0, q0, hargs0, rfl, rfl, h0, r0⟩ := trodAll_cons hA
  obtain ⟨rfl, rfl, rfl⟩ := trodAll_nil r0
  obtain rfl : args = #[v0] := by cases args; simp_all
  obtain ⟨rfl, rfl⟩ := trodVars_none hV
  obtain ⟨x0, y0, z0, rfl⟩ := okWide_slice Try.underlying22 (hval 0 22 v0 rfl rfl)
  have k0 := h0
  have lt0 : ∀ x ∈ p0, x.block < W.heap.size := by obtain ⟨m, hm⟩ := k0; exact DataW.trod_lt m _ _ _ hm
  obtain ⟨a0, e0, o0⟩ : ∃ a, Own.CR W _ ((fun l : List Own.S_laws_Over => [Own.T.sl (l.map Own.rS_laws_Over)]) a) ∧ (fun l : List Own.S_laws_Over => l.length ≤ maxLen ∧ ∀ a ∈ l, Own.Q.okOver a) a := by
    obtain ⟨fuel, hf⟩ := h0
    exact Own.op22 fuel enc W _ _ _ _ _ hf
  clear hA0 hval0 hsz0 hsz
  refine (Own.row a0 o0 W _ e0).mono fun e W' ⟨he, bel⟩ => ?_
  subst he
  exact ⟨_, rfl, _, _, _, [], _, [], hW', trodAll_mk1 (shut_bool Try.underlying4 _), (trodAll_cons_mk (Below.trod laidOut (by kernel_rfl) (of_decide_eq_true (by kernel_rfl)) k0 bel lt0) trodAll_mk0), rfl, bel.frame _, fun h => by cases h⟩
set_option maxHeartbeats 4000000 in
theorem closed : joinedFacts Try.pinned.checked.prog 3 Try.f3 Rows.fnExactOversOkSpec Rows.fnExactOversOkRow = true := by
  unfold joinedFacts
  simp only [Bool.and_eq_true]
  repeat' refine And.intro ?_ ?_
  all_goals as_aux_lemma => kernel_rfl
theorem over : Rows.fnExactOversOkRow.holds Try.pinned (OpenSpec.ofChange Rows.fnExactOversOkSpec) :=
  OpenClaim.holds_of_wide 3 Try.f3 rfl rfl rfl rfl rfl rfl rfl ⟨rfl, rfl, rfl, rfl, rfl⟩ rfl rfl rfl rfl rfl (by kernel_rfl) Try.func3 closed
    (of_decide_eq_true (by kernel_rfl)) (by unfold Func.isWrapper; first | (rw [if_pos (by decide +kernel)]; kernel_rfl) | (rw [if_neg (by decide +kernel)]; exact ⟨rfl, rfl⟩))
    (fun os started H enc _ => lifted os started H enc)
theorem proved : Rows.FnExactOversOkSaid := over
#print axioms proved
end Go.Proofs.Ytgeomhdbckjkcaa.fnExactOversOk
namespace Go.Proofs.Ytgeomhdbckjkcaa
/-- The row, under a short name, for the claim. -/
theorem fnExactOversOk_holds : Rows.FnExactOversOkSaid := fnExactOversOk.proved
end Go.Proofs.Ytgeomhdbckjkcaa
