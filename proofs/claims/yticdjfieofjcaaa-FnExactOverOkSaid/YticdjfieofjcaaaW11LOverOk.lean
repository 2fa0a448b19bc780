/- The law FnExactOverOk, in plain Lean, put together. No conditions. -/
import Derived.Test.YticdjfieofjcaaaW11OverOk
set_option linter.unusedVariables false
set_option linter.unusedSimpArgs false
set_option linter.unnecessarySimpa false
namespace Go.Own.Q
open Go Go.Proofs
theorem law (a : S_laws_Over) (ho : okOver a) : ∃ n, p_laws_FnExactOverOk n a.f0 a.f1 a.f2 a.f3 a.f4 a.f5 a.f6 = some true := by
  refine ⟨dOver a + 5, ?_⟩
  generalize hN : dOver a + 5 = n
  unfold p_laws_FnExactOverOk
  rw [szOver_ok n (h := by rw [S_laws_Over_eta]; omega) (ho := ho) (h0 := by omega) (h1 := by omega), S_laws_Over_eta]
  by_cases hz : (zOver a : Int) ≤ 1048576
  · have hd := dOver_z a
    rw [if_pos hz]
    simp only [Option.bind_some]
    rw [decide_eq_false (by omega), cond_false]
    rw [toOver_ok n (h := by rw [S_laws_Over_eta]; omega) (hz := by rw [S_laws_Over_eta]; omega)]
    simp only [S_laws_Over_eta, Option.bind_some]
    have hw : wOver (.mk (cOver a).f0 (cOver a).f1 (cOver a).f2 (cOver a).f3 (cOver a).f4 (cOver a).f5 (cOver a).f6) < n := by rw [S_impl_Over_eta, wOver_c]; omega
    rw [spec_OverOk_ok n _ _ _ _ _ _ _ hw (by omega), impl_OverOk_ok n _ _ _ _ _ _ _ hw (by omega)]
    simp only [Option.bind_some, beq_self_eq_true, Bool.not_true, cond_false]
    rw [eqOver_ok n (h := hw) (hn := by omega)]
    rfl
  · rw [if_neg hz]; rfl
end Go.Own.Q
