/- The law FnExactModuleOk, put together. No conditions. -/
import Derived.Test.YtgeomhdbckjkcaaW15ModuleOk2
set_option linter.unusedVariables false
set_option linter.unusedSimpArgs false
set_option linter.unnecessarySimpa false
namespace Go.Own.Q
open Go Go.Proofs
theorem law (a : S_laws_Module) (ho : okModule a) : ∃ n, p_laws_FnExactModuleOk n a.f0 = some true := by
  refine ⟨2 * dModule a + 500, ?_⟩
  generalize hN : 2 * dModule a + 500 = n
  unfold p_laws_FnExactModuleOk
  rw [szModule_ok n (h := by rw [S_laws_Module_eta]; omega) (ho := ho) (h0 := by omega) (h1 := by omega), S_laws_Module_eta]
  by_cases hz : (zModule a : Int) ≤ 1048576
  · have hd := dModule_z a
    rw [if_pos hz]
    simp only [Option.bind_some]
    rw [decide_eq_false (by omega), cond_false]
    rw [toModule_ok n (h := by rw [S_laws_Module_eta]; omega) (hz := by rw [S_laws_Module_eta]; omega)]
    simp only [S_laws_Module_eta, Option.bind_some]
    have hw : wModule (cModule a) = dModule a := wModule_c a
    generalize cModule a = t at *
    obtain ⟨m⟩ := t
    have hwe : wModule (.mk m) = 3 + dl wFun m := rfl
    have hl := dl_len wFun m
    have k1 := eqModule_ok n (a0 := m) (by omega) (by omega)
    simp only [spec_ModuleOk_ok n (by omega) m (by omega), impl_ModuleOk_ok n (by omega) m (by omega), Option.bind_some, k1, beq_self_eq_true, Bool.not_true, cond_false]
  · rw [if_neg hz]; rfl
end Go.Own.Q
