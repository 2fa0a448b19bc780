/- The law FnExactTableOk, put together. No conditions. -/
import Derived.Test.YtgeomhdbckjkcaaW21TableOk
set_option linter.unusedVariables false
set_option linter.unusedSimpArgs false
set_option linter.unnecessarySimpa false
namespace Go.Own.Q
open Go Go.Proofs
theorem law (a : List S_laws_Entry) (ho : a.length ≤ maxLen ∧ ∀ x ∈ a, okEntry x) : ∃ n, p_laws_FnExactTableOk n a = some true := by
 refine ⟨2 * dl dEntry a + 500, ?_⟩
 generalize hN : 2 * dl dEntry a + 500 = n
 unfold p_laws_FnExactTableOk
 rw [szEntryS_ok n a _ (by omega) ho.1 ho.2 (by omega) (by omega)]
 by_cases hz : (zl zEntry a : Int) ≤ 1048576
 ·have hd := dl_le (A := 5) (B := 13) (C := 14) dEntry_z (by omega) (by omega) a
  rw [if_pos hz]
  simp only [Option.bind_some]
  rw [decide_eq_false (by omega), cond_false]
  rw [toEntryS_ok n a (by omega) (by omega)]
  simp only [Option.bind_some]
  have hw : dl wEntry (cEntrys a) = dl dEntry a := by
   unfold cEntrys
   rw [dl_map]
   exact dl_congr fun x _ => wEntry_c x
  generalize cEntrys a = t at *
  have k1 := eqEntryS_ok n t (by omega) (by omega)
  simp only [spec_TableOk_ok n (by omega) t (by omega), impl_TableOk_ok n (by omega) t (by omega), Option.bind_some, k1, beq_self_eq_true, Bool.not_true, cond_false]
 ·rw [if_neg hz]; rfl
end Go.Own.Q
