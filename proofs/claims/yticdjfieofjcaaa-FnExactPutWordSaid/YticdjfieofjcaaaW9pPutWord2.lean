/- The law FnExactPutWord, put together. No conditions. -/
import Derived.Test.YticdjfieofjcaaaW9pPutWord
set_option linter.unusedVariables false
set_option linter.unusedSimpArgs false
set_option linter.unnecessarySimpa false
namespace Go.Own.Q
open Go Go.Proofs
theorem law (a : S_laws_Worker) (b : S_laws_Term) (ho : okWorker a) (hb : okTerm b) : ∃ n, p_laws_FnExactPutWord n a.f0 a.f1 a.f2 a.f3 a.f4 a.f5 a.f6 a.f7 a.f8 b.f0 b.f1 b.f2 b.f3 = some true := by
  refine ⟨dWorker a + dTerm b + 200, ?_⟩
  generalize hN : dWorker a + dTerm b + 200 = n
  unfold p_laws_FnExactPutWord
  rw [szWorker_ok n (h := by rw [S_laws_Worker_eta]; omega) (ho := ho) (h0 := by omega) (h1 := by omega), S_laws_Worker_eta]
  by_cases hz : (zWorker a : Int) ≤ 1048576
  · have hd := dWorker_z a
    rw [if_pos hz]
    simp only [Option.bind_some]
    rw [decide_eq_false (by omega), cond_false]
    rw [szTerm_ok n (h := by rw [S_laws_Term_eta]; omega) (ho := by rw [S_laws_Term_eta]; exact hb) (h0 := by omega) (h1 := by omega), S_laws_Term_eta]
    by_cases hy : (zTerm b : Int) ≤ 1048576 - zWorker a
    · have hd2 := dTerm_z b
      rw [if_pos hy]
      simp only [Option.bind_some]
      rw [decide_eq_false (by omega), cond_false]
      rw [toWorker_ok n (h := by rw [S_laws_Worker_eta]; omega) (hz := by rw [S_laws_Worker_eta]; omega), toTerm_ok n (h := by rw [S_laws_Term_eta]; omega) (hz := by rw [S_laws_Term_eta]; omega)]
      simp only [S_laws_Worker_eta, S_laws_Term_eta, Option.bind_some]
      have hw : wWorker (cWorker a) + dTerm b + 200 ≤ n := by rw [wWorker_c]; omega
      have ht : wTerm (cTerm b) = dTerm b := wTerm_c b
      generalize cTerm b = t at *
      generalize cWorker a = v at *
      obtain ⟨v0, v1, v2, v3, v4, v5, v6, v7, v8⟩ := v
      have hn : n ≤ 1099511627776 := by omega
      have e1 : ((1 : Nat) : Int) = 1 := rfl
      have hwv : wWorker (.mk v0 v1 v2 v3 v4 v5 v6 v7 v8) < n := by omega
      have hwe : wWorker (.mk v0 v1 v2 v3 v4 v5 v6 v7 v8) = 3 + v1.length + v2.length + (3 + v6.length + wTerms v7) + dl wTerm v8 := rfl
      rw [wTerms_dl] at hwe
      have htf : dl wTerm t.f3 + 3 ≤ wTerm t := by
        obtain ⟨t0, t1, t2, t3⟩ := t
        simp only [S_impl_Term.f3, wTerm, wTerms_dl]; omega
      have hpw := putBox_w v0 v1 v2 v3 (.mk v4 v5 v6 v7) v8 t
      simp only [spec_PutWord_ok n v0 v1 v2 v3 v4 v5 v6 v7 v8 t hwv (by omega) hn, impl_PutWord_ok n v0 v1 v2 v3 v4 v5 v6 v7 v8 t hwv (by omega) hn, Option.bind_some]
      generalize hbx : putBox v0 v1 v2 v3 (.mk v4 v5 v6 v7) v8 t = bx at hpw ⊢
      generalize putOk v0 v1 v2 v3 (.mk v4 v5 v6 v7) v8 t = ok
      have hwb : wWorker (.mk v0 v1 v2 v3 v4 v5 v6 v7 bx) = 3 + v1.length + v2.length + (3 + v6.length + wTerms v7) + dl wTerm bx := rfl
      rw [wTerms_dl] at hwb
      have k1 := eqWorker_ok n (a0 := v0) (a1 := v1) (a2 := v2) (a3 := v3) (a4 := v4) (a5 := v5) (a6 := v6) (a7 := v7) (a8 := bx) (by omega) (by omega)
      have k2 := eqWorker_ok n (a0 := v0) (a1 := v1) (a2 := v2) (a3 := v3) (a4 := v4) (a5 := v5) (a6 := v6) (a7 := v7) (a8 := v8) hwv (by omega)
      have k3 := eqTerm_ok n (a0 := t.f0) (a1 := t.f1) (a2 := t.f2) (a3 := t.f3) (by rw [S_impl_Term_eta]; omega) (by omega)
      have m1 := markTermS_ok n hn v7 1 (by omega) (by omega) (by omega)
      have l1 := mkTerms_le v7 1
      have g1 := mkTerms_ge v7 1
      rw [wTerms_dl] at l1
      have m2 := markTermS_ok n hn v8 (mkTerms v7 1).1 (by omega) (by omega) (by omega)
      have l2 := mkTerms_le v8 (mkTerms v7 1).1
      have g2 := mkTerms_ge v8 (mkTerms v7 1).1
      rw [wTerms_dl] at l2
      have m3 := markTermS_ok n hn t.f3 (mkTerms v8 (mkTerms v7 1).1).1 (by omega) (by omega) (by omega)
      have m4 := markTermS_ok n hn bx (mkTerms v7 1).1 (by omega) (by omega) (by omega)
      have h1 := heldTermS_ok n hn v7 1 (by omega) (by omega) (by omega)
      have h2 := heldTermS_ok n hn bx (mkTerms v7 1).1 (by omega) (by omega) (by omega)
      rw [e1] at m1 h1
      have hh : p_laws_heldWorker n v0 v1 v2 v3 v4 v5 v6 (mkTerms v7 1).2 (mkTerms bx (mkTerms v7 1).1).2 1 = some ((mkTerms bx (mkTerms v7 1).1).1 : Int) := by
        unfold p_laws_heldWorker p_laws_heldTerm
        simp only [h1, Option.bind_some, decide_eq_false (show ¬ ((mkTerms v7 1).1 : Int) < 0 by omega), cond_false, h2, decide_eq_false (show ¬ ((mkTerms bx (mkTerms v7 1).1).1 : Int) < 0 by omega)]
      simp only [k1, k2, k3, Option.bind_some, Bool.not_true, cond_false, beq_self_eq_true, m1, m2, m3, m4, hh, decide_eq_false (show ¬ ((mkTerms t.f3 (mkTerms v8 (mkTerms v7 1).1).1).1 : Int) < 0 by omega), decide_eq_false (show ¬ ((mkTerms bx (mkTerms v7 1).1).1 : Int) < 0 by omega), decide_true]
    · rw [if_neg hy]; rfl
  · rw [if_neg hz]; rfl
end Go.Own.Q
