/- The row FnExactCodeOf. No conditions. -/
import Derived.Test.YtgeomhdbckjkcaaW34LCodeOf
import Derived.Test.YtgeomhdbckjkcaaW34C
import Derived.Test.YtgeomhdbckjkcaaRows
import Derived.Test.YtgeomhdbckjkcaaOwn3
set_option linter.unusedVariables false
set_option linter.unusedSimpArgs false
set_option linter.unnecessarySimpa false
namespace Go.Own
open Go Go.Proofs Go.RowKit
theorem mixed : Try.prog.follows .mixedOrders = true := by kernel_rfl
theorem op9 (n : Nat) : OpF Try.prog n 9 (fun a : List UInt8 => [T.str a]) (fun a : List UInt8 => a.length ≤ maxLen) := OpF.str Try.underlying9
theorem op3 (n : Nat) : OpF Try.prog n 3 (fun a : Int => [T.int .i64 a]) (fun a : Int => IntKind.i64.min ≤ a ∧ a ≤ IntKind.i64.max) := OpF.int Try.underlying3
theorem op327 (n : Nat) : OpF Try.prog n 327 rS_impl_Ins Q.okIns := by
  intro H enc w base spare held cs x h
  obtain ⟨xs, m, hn, _, hl, hlen, hf⟩ := DataW.trod_struct Try.underlying327 h
  obtain ⟨a0, c0, o0⟩ := OpF.field hlen hf (i := 0) (off := 0) (size := 1) rfl rfl rfl (by kernel_rfl) (op3 m)
  obtain ⟨a1, c1, o1⟩ := OpF.field hlen hf (i := 1) (off := 1) (size := 1) rfl rfl rfl (by kernel_rfl) (op3 m)
  obtain ⟨a2, c2, o2⟩ := OpF.field hlen hf (i := 2) (off := 2) (size := 1) rfl rfl rfl (by kernel_rfl) (op9 m)
  obtain ⟨a3, c3, o3⟩ := OpF.field hlen hf (i := 3) (off := 3) (size := 1) rfl rfl rfl (by kernel_rfl) (op3 m)
  have hnil : (cs.drop 4).length = 0 := by
    have e : Try.prog.cellsOf 327 = 4 := by kernel_rfl
    rw [List.length_drop, hl, e]
  have key := (CR.cons (off := 0) (size := 1) rfl c0 (CR.cons (off := 1) (size := 1) rfl c1 (CR.cons (off := 2) (size := 1) rfl c2 (CR.cons (off := 3) (size := 1) rfl c3 (CR.nil (w := w) (cs := cs.drop 4) (hnil))))))
  exact ⟨⟨a0, a1, a2, a3⟩, key, ⟨o0, o1, o2, o3⟩⟩
theorem op292 (n : Nat) : OpF Try.prog n 292 (fun l : List S_impl_Ins => [T.sl (l.map rS_impl_Ins)]) (fun l : List S_impl_Ins => l.length ≤ maxLen ∧ ∀ a ∈ l, Q.okIns a) := by
  cases n with
  | zero => exact OpF.zero
  | succ n => exact OpF.slice (s := 4) Try.underlying292 (by kernel_rfl) (by decide) (fun a => rfl) (op327 n)
theorem op294 (n : Nat) : OpF Try.prog n 294 rS_laws_Fn Q.okFn := by
  intro H enc w base spare held cs x h
  obtain ⟨xs, m, hn, _, hl, hlen, hf⟩ := DataW.trod_struct Try.underlying294 h
  obtain ⟨a0, c0, o0⟩ := OpF.field hlen hf (i := 0) (off := 0) (size := 1) rfl rfl rfl (by kernel_rfl) (op9 m)
  obtain ⟨a1, c1, o1⟩ := OpF.field hlen hf (i := 1) (off := 1) (size := 1) rfl rfl rfl (by kernel_rfl) (op3 m)
  obtain ⟨a2, c2, o2⟩ := OpF.field hlen hf (i := 2) (off := 2) (size := 1) rfl rfl rfl (by kernel_rfl) (op3 m)
  obtain ⟨a3, c3, o3⟩ := OpF.field hlen hf (i := 3) (off := 3) (size := 1) rfl rfl rfl (by kernel_rfl) (op292 m)
  have hnil : (cs.drop 4).length = 0 := by
    have e : Try.prog.cellsOf 294 = 4 := by kernel_rfl
    rw [List.length_drop, hl, e]
  have key := (CR.cons (off := 0) (size := 1) rfl c0 (CR.cons (off := 1) (size := 1) rfl c1 (CR.cons (off := 2) (size := 1) rfl c2 (CR.cons (off := 3) (size := 1) rfl c3 (CR.nil (w := w) (cs := cs.drop 4) (hnil))))))
  exact ⟨⟨a0, a1, a2, a3⟩, key, ⟨o0, o1, o2, o3⟩⟩
theorem op129 (n : Nat) : OpF Try.prog n 129 (fun l : List S_laws_Fn => [T.sl (l.map rS_laws_Fn)]) (fun l : List S_laws_Fn => l.length ≤ maxLen ∧ ∀ a ∈ l, Q.okFn a) := by
  cases n with
  | zero => exact OpF.zero
  | succ n => exact OpF.slice (s := 4) Try.underlying129 (by kernel_rfl) (by decide) (fun a => rfl) (op294 n)
theorem ops297 : ∀ n : Nat, OpF Try.prog n 297 rS_laws_Pat Q.okPat ∧ OpF Try.prog n 130 (fun l : List S_laws_Pat => [T.sl (l.map rS_laws_Pat)]) (fun l : List S_laws_Pat => l.length ≤ maxLen ∧ ∀ a ∈ l, Q.okPat a) := by
  intro n
  induction n with
  | zero => exact ⟨OpF.zero, OpF.zero⟩
  | succ n ih =>
    refine ⟨?_, ?_⟩
    · intro H enc w base spare held cs x h
      obtain ⟨xs, m, hn, _, hl, hlen, hf⟩ := DataW.trod_struct Try.underlying297 h
      obtain rfl : n = m := by omega
      obtain ⟨a0, c0, o0⟩ := OpF.field hlen hf (i := 0) (off := 0) (size := 1) rfl rfl rfl (by kernel_rfl) (op3 n)
      obtain ⟨a1, c1, o1⟩ := OpF.field hlen hf (i := 1) (off := 1) (size := 1) rfl rfl rfl (by kernel_rfl) (op3 n)
      obtain ⟨a2, c2, o2⟩ := OpF.field hlen hf (i := 2) (off := 2) (size := 1) rfl rfl rfl (by kernel_rfl) (op9 n)
      obtain ⟨a3, c3, o3⟩ := OpF.field hlen hf (i := 3) (off := 3) (size := 1) rfl rfl rfl (by kernel_rfl) (ih.2)
      have hnil : (cs.drop 4).length = 0 := by
        have e : Try.prog.cellsOf 297 = 4 := by kernel_rfl
        rw [List.length_drop, hl, e]
      have key := (CR.cons (off := 0) (size := 1) rfl c0 (CR.cons (off := 1) (size := 1) rfl c1 (CR.cons (off := 2) (size := 1) rfl c2 (CR.cons (off := 3) (size := 1) rfl c3 (CR.nil (w := w) (cs := cs.drop 4) (hnil))))))
      refine ⟨.mk a0 a1 a2 a3, ?_, ?_⟩
      · rw [rS_laws_Pat_eq]; exact key
      · simp only [Q.okPat]; exact ⟨o0, o1, o2, ⟨o3.1, (Q.okPats_iff _).2 o3.2⟩⟩
    · exact OpF.slice (s := 4) Try.underlying130 (by kernel_rfl) (by decide) (fun a => by rw [rS_laws_Pat_eq]; rfl) (ih.1)
theorem op297 (n : Nat) : OpF Try.prog n 297 rS_laws_Pat Q.okPat := (ops297 n).1
theorem op130 (n : Nat) : OpF Try.prog n 130 (fun l : List S_laws_Pat => [T.sl (l.map rS_laws_Pat)]) (fun l : List S_laws_Pat => l.length ≤ maxLen ∧ ∀ a ∈ l, Q.okPat a) := (ops297 n).2
def rS_laws_Code (a : S_laws_Code) : List T := [.sl (a.f0.map rS_laws_Fn), .sl (a.f1.map rS_laws_Pat)]
theorem rS_laws_Code_eq (a : S_laws_Code) : rS_laws_Code a = [.sl (a.f0.map rS_laws_Fn), .sl (a.f1.map rS_laws_Pat)] := rfl
theorem op132 (n : Nat) : OpF Try.prog n 132 rS_laws_Code Q.okCode := by
  intro H enc w base spare held cs x h
  obtain ⟨xs, m, hn, _, hl, hlen, hf⟩ := DataW.trod_struct Try.underlying132 h
  obtain ⟨a0, c0, o0⟩ := OpF.field hlen hf (i := 0) (off := 0) (size := 1) rfl rfl rfl (by kernel_rfl) (op129 m)
  obtain ⟨a1, c1, o1⟩ := OpF.field hlen hf (i := 1) (off := 1) (size := 1) rfl rfl rfl (by kernel_rfl) (op130 m)
  have hnil : (cs.drop 2).length = 0 := by
    have e : Try.prog.cellsOf 132 = 2 := by kernel_rfl
    rw [List.length_drop, hl, e]
  have key := (CR.cons (off := 0) (size := 1) rfl c0 (CR.cons (off := 1) (size := 1) rfl c1 (CR.nil (w := w) (cs := cs.drop 2) (hnil))))
  exact ⟨⟨a0, a1⟩, key, ⟨o0, o1⟩⟩
theorem op4 (n : Nat) : OpF Try.prog n 4 (fun a : Bool => [T.bool a]) (fun _ : Bool => True) := OpF.bool Try.underlying4
theorem op134 (n : Nat) : OpF Try.prog n 134 rS_laws_Entry Q.okEntry := by
  intro H enc w base spare held cs x h
  obtain ⟨xs, m, hn, _, hl, hlen, hf⟩ := DataW.trod_struct Try.underlying134 h
  obtain ⟨a0, c0, o0⟩ := OpF.field hlen hf (i := 0) (off := 0) (size := 1) rfl rfl rfl (by kernel_rfl) (op9 m)
  obtain ⟨a1, c1, o1⟩ := OpF.field hlen hf (i := 1) (off := 1) (size := 1) rfl rfl rfl (by kernel_rfl) (op3 m)
  obtain ⟨a2, c2, o2⟩ := OpF.field hlen hf (i := 2) (off := 2) (size := 2) rfl rfl rfl (by kernel_rfl) (op132 m)
  rw [rS_laws_Code_eq] at c2
  obtain ⟨a3, c3, o3⟩ := OpF.field hlen hf (i := 3) (off := 4) (size := 1) rfl rfl rfl (by kernel_rfl) (op4 m)
  obtain ⟨a4, c4, o4⟩ := OpF.field hlen hf (i := 4) (off := 5) (size := 2) rfl rfl rfl (by kernel_rfl) (op132 m)
  rw [rS_laws_Code_eq] at c4
  have hnil : (cs.drop 7).length = 0 := by
    have e : Try.prog.cellsOf 134 = 7 := by kernel_rfl
    rw [List.length_drop, hl, e]
  have key := (CR.cons (off := 0) (size := 1) rfl c0 (CR.cons (off := 1) (size := 1) rfl c1 (CR.cons (off := 2) (size := 2) rfl c2 (CR.cons (off := 4) (size := 1) rfl c3 (CR.cons (off := 5) (size := 2) rfl c4 (CR.nil (w := w) (cs := cs.drop 7) (hnil)))))))
  exact ⟨⟨a0, a1, a2.f0, a2.f1, a3, a4.f0, a4.f1⟩, key, ⟨o0, o1, (by rw [Q.S_laws_Code_eta]; exact o2), (by rw [Q.S_laws_Code_eta]; exact o4)⟩⟩
theorem op29 (n : Nat) : OpF Try.prog n 29 (fun l : List S_laws_Entry => [T.sl (l.map rS_laws_Entry)]) (fun l : List S_laws_Entry => l.length ≤ maxLen ∧ ∀ a ∈ l, Q.okEntry a) := by
  cases n with
  | zero => exact OpF.zero
  | succ n => exact OpF.slice (s := 7) Try.underlying29 (by kernel_rfl) (by decide) (fun a => rfl) (op134 n)
set_option maxRecDepth 100000 in
theorem tc (a0 : List S_laws_Entry) (a1 : List UInt8) (a2 : Int) (o0 : (fun l : List S_laws_Entry => l.length ≤ maxLen ∧ ∀ a ∈ l, Q.okEntry a) a0) (o1 : (fun a : List UInt8 => a.length ≤ maxLen) a1) (o2 : (fun a : Int => IntKind.i64.min ≤ a ∧ a ≤ IntKind.i64.max) a2) : TC Try.prog 4 sg4 [.one (.c (.sl (a0.map rS_laws_Entry))), .one (.c (.str a1)), .one (.c (.int .i64 a2))] [] (.one (.c (.bool true))) none [] none := by
  obtain ⟨n, h⟩ := Q.law a0 a1 a2 o0 o1 o2
  exact TC.of mixed tables checked (big_laws_FnExactCodeOf h) (by unfold Sgs; simp) rfl rfl
set_option maxRecDepth 100000 in
theorem row (a0 : List S_laws_Entry) (a1 : List UInt8) (a2 : Int) (o0 : (fun l : List S_laws_Entry => l.length ≤ maxLen ∧ ∀ a ∈ l, Q.okEntry a) a0) (o1 : (fun a : List UInt8 => a.length ≤ maxLen) a1) (o2 : (fun a : Int => IntKind.i64.min ≤ a ∧ a ≤ IntKind.i64.max) a2) (W : World) (v0 : Value) (h0 : CR W [v0] [.sl (a0.map rS_laws_Entry)]) (v1 : Value) (h1 : CR W [v1] [.str a1]) (v2 : Value) (h2 : CR W [v2] [.int .i64 a2]) : Calls Try.prog 4 #[v0, v1, v2] W fun e w' => e = .returned (.bool true) ∧ Below W.heap.size W w' := by
  refine (tc a0 a1 a2 o0 o1 o2).row rfl rfl rfl (by decide) Try.func4 rfl (by decide) W #[v0, v1, v2] rfl (fun i => ?_) (fun i hi => ?_)
  · match i with
    | 0 => rfl
    | 1 => rfl
    | 2 => rfl
    | _ + 3 => rfl
  · match i, hi with
    | 0, _ => exact rv_c h0 rfl
    | 1, _ => exact rv_c h1 rfl
    | 2, _ => exact rv_c h2 rfl
    | _ + 3, hi => cases hi
end Go.Own
namespace Go.Proofs.Ytgeomhdbckjkcaa.fnExactCodeOf
open Go.ChangeShapes Go.WideShapes Go.ChangeAt Go.RowKit
open Go.ChangeMaps (open_string shut_string)
set_option linter.unusedVariables false
theorem own : ownKnob Try.prog.godebug = none := by kernel_rfl
theorem laidOut : laidOutB Try.prog = true := by kernel_rfl
set_option maxRecDepth 100000 in
theorem lifted (os : Os) (started : os.Started) (H : Type) (enc : TypeId × Value → H) :
    ReturnsInHanded {} Try.checked os 4 .any (Rows.fnExactCodeOfSpec.pre6 enc Try.prog Try.f4 Rows.fnExactCodeOfRow.domain false) (Rows.fnExactCodeOfSpec.post enc Try.prog Try.f4 false true false false) := by
  refine returnsInHanded_of_change_sized (C := Try.checked) own started (by kernel_rfl) Try.func4
    (ChangeSpec.witness6 (enc := enc) (C := Try.checked) false ⟨#[], #[.slice none 0 0, .string ⟨#[]⟩, .int .i64 0], []⟩ 8 (by kernel_rfl) (by kernel_rfl) (by kernel_rfl) (by kernel_rfl)) ?_
  intro W base args ds gs before hval0 hW hcnd hsz0 _
  have hsz : (DataW.weightsEach Try.prog (Try.f4.params.toList ++ Rows.fnExactCodeOfSpec.plain.varTypes Try.prog) (ds ++ gs)).all (· ≤ reachBytes) = true := hsz0
  have hval : ∀ (j : Nat) t v, Try.f4.params[j]? = some t → args[j]? = some v → Value.okWide Try.prog W .any base t v := hval0
  have hW' := hW
  obtain ⟨p, q, hA0, hV, rfl, hfz, hnd⟩ := hW
  have hA : DataW.TrodAll enc Try.prog W 0 (fun _ => true) true Try.f4.params.toList args.toList ds p := hA0
  rw [Try.params4] at hA hval hsz
  obtain ⟨v0, vs0, d0, ds0, p0, q0, hargs0, rfl, rfl, h0, r0⟩ := trodAll_cons hA
  obtain ⟨v1, vs1, d1, ds1, p1, q1, hargs1, rfl, rfl, h1, r1⟩ := trodAll_cons r0
  obtain ⟨v2, vs2, d2, ds2, p2, q2, hargs2, rfl, rfl, h2, r2⟩ := trodAll_cons r1
  obtain ⟨rfl, rfl, rfl⟩ := trodAll_nil r2
  obtain rfl : args = #[v0, v1, v2] := by cases args; simp_all
  obtain ⟨rfl, rfl⟩ := trodVars_none hV
  obtain ⟨x0, y0, z0, rfl⟩ := okWide_slice Try.underlying29 (hval 0 29 v0 rfl rfl)
  have k0 := h0
  have lt0 : ∀ x ∈ p0, x.block < W.heap.size := by obtain ⟨m, hm⟩ := k0; exact DataW.trod_lt m _ _ _ hm
  obtain ⟨a0, e0, o0⟩ : ∃ a, Own.CR W _ ((fun l : List Own.S_laws_Entry => [Own.T.sl (l.map Own.rS_laws_Entry)]) a) ∧ (fun l : List Own.S_laws_Entry => l.length ≤ maxLen ∧ ∀ a ∈ l, Own.Q.okEntry a) a := by
    obtain ⟨fuel, hf⟩ := h0
    exact Own.op29 fuel enc W _ _ _ _ _ hf
  obtain ⟨x1, rfl⟩ := okWide_string Try.underlying9 (hval 1 9 v1 rfl rfl)
  have k1 := h1
  have lt1 : ∀ x ∈ p1, x.block < W.heap.size := by obtain ⟨m, hm⟩ := k1; exact DataW.trod_lt m _ _ _ hm
  obtain ⟨a1, e1, o1⟩ : ∃ a, Own.CR W _ ((fun a : List UInt8 => [Own.T.str a]) a) ∧ (fun a : List UInt8 => a.length ≤ maxLen) a := by
    obtain ⟨fuel, hf⟩ := h1
    exact Own.op9 fuel enc W _ _ _ _ _ hf
  obtain ⟨x2, rfl⟩ := okWide_int Try.underlying3 (hval 2 3 v2 rfl rfl)
  have k2 := h2
  have lt2 : ∀ x ∈ p2, x.block < W.heap.size := by obtain ⟨m, hm⟩ := k2; exact DataW.trod_lt m _ _ _ hm
  obtain ⟨a2, e2, o2⟩ : ∃ a, Own.CR W _ ((fun a : Int => [Own.T.int .i64 a]) a) ∧ (fun a : Int => IntKind.i64.min ≤ a ∧ a ≤ IntKind.i64.max) a := by
    obtain ⟨fuel, hf⟩ := h2
    exact Own.op3 fuel enc W _ _ _ _ _ hf
  clear hA0 hval0 hsz0 hsz
  refine (Own.row a0 a1 a2 o0 o1 o2 W _ e0 _ e1 _ e2).mono fun e W' ⟨he, bel⟩ => ?_
  subst he
  exact ⟨_, rfl, _, _, _, [], _, [], hW', trodAll_mk1 (shut_bool Try.underlying4 _), (trodAll_cons_mk (Below.trod laidOut (by kernel_rfl) (of_decide_eq_true (by kernel_rfl)) k0 bel lt0) (trodAll_cons_mk (Below.trod laidOut (by kernel_rfl) (of_decide_eq_true (by kernel_rfl)) k1 bel lt1) (trodAll_cons_mk (Below.trod laidOut (by kernel_rfl) (of_decide_eq_true (by kernel_rfl)) k2 bel lt2) trodAll_mk0))), rfl, bel.frame _, fun h => by cases h⟩
set_option maxHeartbeats 4000000 in
theorem closed : joinedFacts Try.pinned.checked.prog 4 Try.f4 Rows.fnExactCodeOfSpec Rows.fnExactCodeOfRow = true := by
  unfold joinedFacts
  simp only [Bool.and_eq_true]
  repeat' refine And.intro ?_ ?_
  all_goals as_aux_lemma => kernel_rfl
theorem over : Rows.fnExactCodeOfRow.holds Try.pinned (OpenSpec.ofChange Rows.fnExactCodeOfSpec) :=
  OpenClaim.holds_of_wide 4 Try.f4 rfl rfl rfl rfl rfl rfl rfl ⟨rfl, rfl, rfl, rfl, rfl⟩ rfl rfl rfl rfl rfl (by kernel_rfl) Try.func4 closed
    (of_decide_eq_true (by kernel_rfl)) (by unfold Func.isWrapper; first | (rw [if_pos (by decide +kernel)]; kernel_rfl) | (rw [if_neg (by decide +kernel)]; exact ⟨rfl, rfl⟩))
    (fun os started H enc _ => lifted os started H enc)
theorem proved : Rows.FnExactCodeOfSaid := over
#print axioms proved
end Go.Proofs.Ytgeomhdbckjkcaa.fnExactCodeOf
namespace Go.Proofs.Ytgeomhdbckjkcaa
/-- The row, under a short name, for the claim. -/
theorem fnExactCodeOf_holds : Rows.FnExactCodeOfSaid := fnExactCodeOf.proved
end Go.Proofs.Ytgeomhdbckjkcaa
