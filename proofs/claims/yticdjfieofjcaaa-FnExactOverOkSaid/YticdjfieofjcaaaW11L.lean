/- The row FnExactOverOk. No conditions. -/
import Derived.Test.YticdjfieofjcaaaW11LOverOk
import Derived.Test.YticdjfieofjcaaaW11C
import Derived.Test.YticdjfieofjcaaaRows
import Derived.Test.YticdjfieofjcaaaOwn2
set_option linter.unusedVariables false
set_option linter.unusedSimpArgs false
set_option linter.unnecessarySimpa false
namespace Go.Own
open Go Go.Proofs Go.RowKit
theorem mixed : Try.prog.follows .mixedOrders = true := by kernel_rfl
theorem op3 (n : Nat) : OpF Try.prog n 3 (fun a : Int => [T.int .i64 a]) (fun a : Int => IntKind.i64.min ≤ a ∧ a ≤ IntKind.i64.max) := OpF.int Try.underlying3
theorem op9 (n : Nat) : OpF Try.prog n 9 (fun a : List UInt8 => [T.str a]) (fun a : List UInt8 => a.length ≤ maxLen) := OpF.str Try.underlying9
theorem ops43 : ∀ n : Nat, OpF Try.prog n 43 rS_laws_Term Q.okTerm ∧ OpF Try.prog n 41 (fun l : List S_laws_Term => [T.sl (l.map rS_laws_Term)]) (fun l : List S_laws_Term => l.length ≤ maxLen ∧ ∀ a ∈ l, Q.okTerm a) := by
  intro n
  induction n with
  | zero => exact ⟨OpF.zero, OpF.zero⟩
  | succ n ih =>
    refine ⟨?_, OpF.slice (s := 4) Try.underlying41 (by kernel_rfl) (by decide) (fun a => by rw [rS_laws_Term_eq]; rfl) (ih.1)⟩
    intro H enc w base spare held cs x h
    obtain ⟨xs, m, hn, _, hl, hlen, hf⟩ := DataW.trod_struct Try.underlying43 h
    obtain rfl : n = m := by omega
    obtain ⟨a0, c0, o0⟩ := OpF.field hlen hf (i := 0) (off := 0) (size := 1) rfl rfl rfl (by kernel_rfl) (op3 n)
    obtain ⟨a1, c1, o1⟩ := OpF.field hlen hf (i := 1) (off := 1) (size := 1) rfl rfl rfl (by kernel_rfl) (op3 n)
    obtain ⟨a2, c2, o2⟩ := OpF.field hlen hf (i := 2) (off := 2) (size := 1) rfl rfl rfl (by kernel_rfl) (op9 n)
    obtain ⟨a3, c3, o3⟩ := OpF.field hlen hf (i := 3) (off := 3) (size := 1) rfl rfl rfl (by kernel_rfl) (ih.2)
    have hnil : (cs.drop 4).length = 0 := by
      have e : Try.prog.cellsOf 43 = 4 := by kernel_rfl
      rw [List.length_drop, hl, e]
    have key := (CR.cons (off := 0) (size := 1) rfl c0 (CR.cons (off := 1) (size := 1) rfl c1 (CR.cons (off := 2) (size := 1) rfl c2 (CR.cons (off := 3) (size := 1) rfl c3 (CR.nil (w := w) (cs := cs.drop 4) (hnil))))))
    refine ⟨.mk a0 a1 a2 a3, ?_, ?_⟩
    · rw [rS_laws_Term_eq]; exact key
    · simp only [Q.okTerm]; exact ⟨o0, o1, o2, o3.1, (Q.okTerms_iff _).2 o3.2⟩
theorem op43 (n : Nat) : OpF Try.prog n 43 rS_laws_Term Q.okTerm := (ops43 n).1
theorem op41 (n : Nat) : OpF Try.prog n 41 (fun l : List S_laws_Term => [T.sl (l.map rS_laws_Term)]) (fun l : List S_laws_Term => l.length ≤ maxLen ∧ ∀ a ∈ l, Q.okTerm a) := (ops43 n).2
theorem op155 (n : Nat) : OpF Try.prog n 155 rS_laws_Kid Q.okKid := by
  intro H enc w base spare held cs x h
  obtain ⟨xs, m, hn, _, hl, hlen, hf⟩ := DataW.trod_struct Try.underlying155 h
  obtain ⟨a0, c0, o0⟩ := OpF.field hlen hf (i := 0) (off := 0) (size := 1) rfl rfl rfl (by kernel_rfl) (op9 m)
  obtain ⟨a1, c1, o1⟩ := OpF.field hlen hf (i := 1) (off := 1) (size := 1) rfl rfl rfl (by kernel_rfl) (op9 m)
  obtain ⟨a2, c2, o2⟩ := OpF.field hlen hf (i := 2) (off := 2) (size := 4) rfl rfl rfl (by kernel_rfl) (op43 m)
  rw [rS_laws_Term_eq] at c2
  obtain ⟨a3, c3, o3⟩ := OpF.field hlen hf (i := 3) (off := 6) (size := 1) rfl rfl rfl (by kernel_rfl) (op3 m)
  have hnil : (cs.drop 7).length = 0 := by
    have e : Try.prog.cellsOf 155 = 7 := by kernel_rfl
    rw [List.length_drop, hl, e]
  have key := (CR.cons (off := 0) (size := 1) rfl c0 (CR.cons (off := 1) (size := 1) rfl c1 (CR.cons (off := 2) (size := 4) rfl c2 (CR.cons (off := 6) (size := 1) rfl c3 (CR.nil (w := w) (cs := cs.drop 7) (hnil))))))
  exact ⟨⟨a0, a1, a2.f0, a2.f1, a2.f2, a2.f3, a3⟩, key, ⟨o0, o1, (by rw [Q.S_laws_Term_eta]; exact o2), o3⟩⟩
theorem op77 (n : Nat) : OpF Try.prog n 77 (fun l : List S_laws_Kid => [T.sl (l.map rS_laws_Kid)]) (fun l : List S_laws_Kid => l.length ≤ maxLen ∧ ∀ a ∈ l, Q.okKid a) := by
  cases n with
  | zero => exact OpF.zero
  | succ n => exact OpF.slice (s := 7) Try.underlying77 (by kernel_rfl) (by decide) (fun a => rfl) (op155 n)
theorem op22 (n : Nat) : OpF Try.prog n 22 (fun l : List Int => [T.sl (l.map rI_i64)]) (fun l : List Int => l.length ≤ maxLen ∧ ∀ a ∈ l, (fun a : Int => IntKind.i64.min ≤ a ∧ a ≤ IntKind.i64.max) a) := by
  cases n with
  | zero => exact OpF.zero
  | succ n => exact OpF.slice (s := 1) Try.underlying22 (by kernel_rfl) (by decide) (fun a => rfl) (op3 n)
theorem op4 (n : Nat) : OpF Try.prog n 4 (fun a : Bool => [T.bool a]) (fun _ : Bool => True) := OpF.bool Try.underlying4
def rS_laws_Over (a : S_laws_Over) : List T := [.int .i64 a.f0, .int .i64 a.f1, .int .i64 a.f2, .sl (a.f3.map rS_laws_Kid), .sl (a.f4.map rI_i64), .sl (a.f5.map rI_i64), .bool a.f6]
theorem rS_laws_Over_eq (a : S_laws_Over) : rS_laws_Over a = [.int .i64 a.f0, .int .i64 a.f1, .int .i64 a.f2, .sl (a.f3.map rS_laws_Kid), .sl (a.f4.map rI_i64), .sl (a.f5.map rI_i64), .bool a.f6] := rfl
theorem op79 (n : Nat) : OpF Try.prog n 79 rS_laws_Over Q.okOver := by
  intro H enc w base spare held cs x h
  obtain ⟨xs, m, hn, _, hl, hlen, hf⟩ := DataW.trod_struct Try.underlying79 h
  obtain ⟨a0, c0, o0⟩ := OpF.field hlen hf (i := 0) (off := 0) (size := 1) rfl rfl rfl (by kernel_rfl) (op3 m)
  obtain ⟨a1, c1, o1⟩ := OpF.field hlen hf (i := 1) (off := 1) (size := 1) rfl rfl rfl (by kernel_rfl) (op3 m)
  obtain ⟨a2, c2, o2⟩ := OpF.field hlen hf (i := 2) (off := 2) (size := 1) rfl rfl rfl (by kernel_rfl) (op3 m)
  obtain ⟨a3, c3, o3⟩ := OpF.field hlen hf (i := 3) (off := 3) (size := 1) rfl rfl rfl (by kernel_rfl) (op77 m)
  obtain ⟨a4, c4, o4⟩ := OpF.field hlen hf (i := 4) (off := 4) (size := 1) rfl rfl rfl (by kernel_rfl) (op22 m)
  obtain ⟨a5, c5, o5⟩ := OpF.field hlen hf (i := 5) (off := 5) (size := 1) rfl rfl rfl (by kernel_rfl) (op22 m)
  obtain ⟨a6, c6, o6⟩ := OpF.field hlen hf (i := 6) (off := 6) (size := 1) rfl rfl rfl (by kernel_rfl) (op4 m)
  have hnil : (cs.drop 7).length = 0 := by
    have e : Try.prog.cellsOf 79 = 7 := by kernel_rfl
    rw [List.length_drop, hl, e]
  have key := (CR.cons (off := 0) (size := 1) rfl c0 (CR.cons (off := 1) (size := 1) rfl c1 (CR.cons (off := 2) (size := 1) rfl c2 (CR.cons (off := 3) (size := 1) rfl c3 (CR.cons (off := 4) (size := 1) rfl c4 (CR.cons (off := 5) (size := 1) rfl c5 (CR.cons (off := 6) (size := 1) rfl c6 (CR.nil (w := w) (cs := cs.drop 7) (hnil)))))))))
  exact ⟨⟨a0, a1, a2, a3, a4, a5, a6⟩, key, ⟨o0, o1, o2, o3, o4, o5⟩⟩
set_option maxRecDepth 100000 in
theorem tc (a0 : S_laws_Over) (o0 : Q.okOver a0) : TC Try.prog 11 { bi := ⟨[(0, [[.S, .S, .S, .F, .F, .F, .S]])], []⟩, bo := ⟨[(0, [[.S]])], []⟩, np := 1, ext := false } [.one (.ag (rS_laws_Over a0))] [] (.one (.c (.bool true))) none [] none := by
  obtain ⟨n, h⟩ := Q.law a0 o0
  exact TC.of mixed tables checked (big_laws_FnExactOverOk h) (by unfold Sgs; simp) rfl rfl
set_option maxRecDepth 100000 in
theorem row (a0 : S_laws_Over) (o0 : Q.okOver a0) (W : World) (cs0 : Array Value) (h0 : CR W cs0.toList (rS_laws_Over a0)) : Calls Try.prog 11 #[.agg cs0] W fun e w' => e = .returned (.bool true) ∧ Below W.heap.size W w' := by
  refine (tc a0 o0).row rfl rfl rfl (by decide) Try.func11 rfl (by decide) W #[.agg cs0] rfl (fun i => ?_) (fun i hi => ?_)
  · match i with
    | 0 => rfl
    | _ + 1 => rfl
  · match i, hi with
    | 0, _ => exact rv_ag h0 rfl
    | _ + 1, hi => cases hi
end Go.Own
namespace Go.Proofs.Yticdjfieofjcaaa.fnExactOverOk
open Go.ChangeShapes Go.WideShapes Go.ChangeAt Go.RowKit
open Go.ChangeMaps (open_string shut_string)
set_option linter.unusedVariables false
theorem own : ownKnob Try.prog.godebug = none := by kernel_rfl
theorem laidOut : laidOutB Try.prog = true := by kernel_rfl
set_option maxRecDepth 100000 in
theorem lifted (os : Os) (started : os.Started) (H : Type) (enc : TypeId × Value → H) :
    ReturnsInHanded {} Try.checked os 11 .any (Rows.fnExactOverOkSpec.pre6 enc Try.prog Try.f11 Rows.fnExactOverOkRow.domain false) (Rows.fnExactOverOkSpec.post enc Try.prog Try.f11 false true false false) := by
  refine returnsInHanded_of_change_sized (C := Try.checked) own started (by kernel_rfl) Try.func11
    (ChangeSpec.witness6 (enc := enc) (C := Try.checked) false ⟨#[], #[.agg #[.int .i64 0, .int .i64 0, .int .i64 0, .slice none 0 0, .slice none 0 0, .slice none 0 0, .bool false]], []⟩ 8 (by kernel_rfl) (by kernel_rfl) (by kernel_rfl) (by kernel_rfl)) ?_
  intro W base args ds gs before hval0 hW hcnd hsz0 _
  have hsz : (DataW.weightsEach Try.prog (Try.f11.params.toList ++ Rows.fnExactOverOkSpec.plain.varTypes Try.prog) (ds ++ gs)).all (· ≤ reachBytes) = true := hsz0
  have hval : ∀ (j : Nat) t v, Try.f11.params[j]? = some t → args[j]? = some v → Value.okWide Try.prog W .any base t v := hval0
  have hW' := hW
  obtain ⟨p, q, hA0, hV, rfl, hfz, hnd⟩ := hW
  have hA : DataW.TrodAll enc Try.prog W 0 (fun _ => true) true Try.f11.params.toList args.toList ds p := hA0
  rw [Try.params11] at hA hval hsz
  obtain ⟨v0, vs0, d0, ds0, p0, q0, hargs0, rfl, rfl, h0, r0⟩ := trodAll_cons hA
  obtain ⟨rfl, rfl, rfl⟩ := trodAll_nil r0
  obtain rfl : args = #[v0] := by cases args; simp_all
  obtain ⟨rfl, rfl⟩ := trodVars_none hV
  obtain ⟨cs0, rfl, _⟩ := okWide_struct Try.underlying79 (hval 0 79 v0 rfl rfl)
  have k0 := h0
  have lt0 : ∀ x ∈ p0, x.block < W.heap.size := by obtain ⟨m, hm⟩ := k0; exact DataW.trod_lt m _ _ _ hm
  obtain ⟨a0, e0, o0⟩ : ∃ a, Own.CR W _ (Own.rS_laws_Over a) ∧ Own.Q.okOver a := by
    obtain ⟨fuel, hf⟩ := h0
    exact Own.op79 fuel enc W _ _ _ _ _ hf
  clear hA0 hval0 hsz0 hsz
  refine (Own.row a0 o0 W cs0 e0).mono fun e W' ⟨he, bel⟩ => ?_
  subst he
  exact ⟨_, rfl, _, _, _, [], _, [], hW', trodAll_mk1 (shut_bool Try.underlying4 _), (trodAll_cons_mk (Below.trod laidOut (by kernel_rfl) (of_decide_eq_true (by kernel_rfl)) k0 bel lt0) trodAll_mk0), rfl, bel.frame _, fun h => by cases h⟩
theorem over : Rows.fnExactOverOkRow.holds Try.pinned (OpenSpec.ofChange Rows.fnExactOverOkSpec) :=
  OpenClaim.holds_of_wide 11 Try.f11 rfl rfl rfl rfl rfl rfl rfl ⟨rfl, rfl, rfl, rfl, rfl⟩ rfl rfl rfl rfl rfl (by kernel_rfl) Try.func11 (by kernel_rfl)
    (of_decide_eq_true (by kernel_rfl)) (by unfold Func.isWrapper; first | (rw [if_pos (by decide +kernel)]; kernel_rfl) | (rw [if_neg (by decide +kernel)]; exact ⟨rfl, rfl⟩))
    (fun os started H enc _ => lifted os started H enc)
theorem proved : Rows.FnExactOverOkSaid := over
#print axioms proved
end Go.Proofs.Yticdjfieofjcaaa.fnExactOverOk
namespace Go.Proofs.Yticdjfieofjcaaa
/-- The row, under a short name, for the claim. -/
theorem fnExactOverOk_holds : Rows.FnExactOverOkSaid := fnExactOverOk.proved
end Go.Proofs.Yticdjfieofjcaaa
