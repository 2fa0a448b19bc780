/- The law FnExactWorkerOk, in plain Lean. No conditions. -/
import Derived.Test.YticdjfieofjcaaaW9pTermOk2
set_option linter.unusedVariables false
set_option linter.unusedSimpArgs false
set_option linter.unnecessarySimpa false
namespace Go.Own.Q
open Go Go.Proofs

def workerOk (a0 : Int) (a1 a2 : List UInt8) (a3 : Int) (t : S_impl_Term) (l : List S_impl_Term) : Bool :=
  (decide (1 ≤ a0) && decide (a0 ≤ 1000000)) && atomOk a1 && atomOk a2 && (decide (1 ≤ a3) && decide (a3 ≤ 10000)) && termOk t && decide ((l.length : Int) ≤ 20) && l.all termOk
theorem termsOk_ok (n : Nat) (l : List S_impl_Term) (h : dl wTerm l < n) (hn : n < 4611686018427387904) : p_impl_termsOk n l = some (l.all termOk) := by
  unfold p_impl_termsOk
  have hl := dl_len wTerm l
  rw [loop_ok l termOk (fun i a ha => by
    have hm := dl_mem wTerm (List.mem_of_getElem? ha)
    have hi := lt_len ha
    simp only [p_impl_termsOk_b1, lt_int ha, cond_true, ix_nat, ha, Option.bind_some, wrap_succ (show i < 4611686018427387904 by omega)]
    rw [impl_TermOk_ok n _ _ _ _ (by rw [S_impl_Term_eta]; omega) hn, S_impl_Term_eta]
    cases termOk a <;> rfl) (by simp only [p_impl_termsOk_b1, not_lt_int, cond_false]) (by omega)]
  cases l.all termOk <;> rfl
theorem impl_WorkerOk_ok (n : Nat) (a0 : Int) (a1 a2 : List UInt8) (a3 a4 a5 : Int) (a6 : List UInt8) (a7 a8 : List S_impl_Term) (h : wWorker (.mk a0 a1 a2 a3 a4 a5 a6 a7 a8) < n) (hn : n < 4611686018427387904) :
    p_impl_WorkerOk n a0 a1 a2 a3 a4 a5 a6 a7 a8 = some (workerOk a0 a1 a2 a3 (.mk a4 a5 a6 a7) a8) := by
  simp only [wWorker] at h
  unfold p_impl_WorkerOk workerOk
  rw [impl_AtomOk_ok n a1 (by omega) (by omega), impl_AtomOk_ok n a2 (by omega) (by omega), impl_TermOk_ok n a4 a5 a6 a7 (by omega) hn, termsOk_ok n a8 (by omega) hn]
  simp only [inRange_ok, Option.bind_some]
  cases (decide (1 ≤ a0) && decide (a0 ≤ 1000000)) <;> cases atomOk a1 <;> cases atomOk a2 <;> cases (decide (1 ≤ a3) && decide (a3 ≤ 10000)) <;> cases termOk (.mk a4 a5 a6 a7) <;> cases decide ((a8.length : Int) ≤ 20) <;> rfl
theorem spec_WorkerOk_ok (n : Nat) (a0 : Int) (a1 a2 : List UInt8) (a3 a4 a5 : Int) (a6 : List UInt8) (a7 a8 : List S_impl_Term) (h : wWorker (.mk a0 a1 a2 a3 a4 a5 a6 a7 a8) < n) (hn : n < 4611686018427387904) :
    p_spec_WorkerOk n a0 a1 a2 a3 a4 a5 a6 a7 a8 = some (workerOk a0 a1 a2 a3 (.mk a4 a5 a6 a7) a8) := by
  simp only [wWorker] at h
  have hl := dl_len wTerm a8
  unfold p_spec_WorkerOk workerOk
  rw [spec_AtomOk_ok n a1 (by omega) (by omega), spec_AtomOk_ok n a2 (by omega) (by omega), spec_TermOk_ok n a4 a5 a6 a7 (by omega) hn]
  rw [loop_ok a8 termOk (fun i a ha => by
    have hm := dl_mem wTerm (List.mem_of_getElem? ha)
    have hi := lt_len ha
    simp only [p_spec_WorkerOk_b1, lt_int ha, cond_true, ix_nat, ha, Option.bind_some, wrap_succ (show i < 4611686018427387904 by omega)]
    rw [spec_TermOk_ok n _ _ _ _ (by rw [S_impl_Term_eta]; omega) hn, S_impl_Term_eta]
    cases termOk a <;> rfl) (by simp only [p_spec_WorkerOk_b1, not_lt_int, cond_false]) (by omega)]
  simp only [l1In_ok, Option.bind_some]
  cases a8.all termOk <;> cases (decide (1 ≤ a0) && decide (a0 ≤ 1000000)) <;> cases atomOk a1 <;> cases atomOk a2 <;> cases (decide (1 ≤ a3) && decide (a3 ≤ 10000)) <;> cases termOk (.mk a4 a5 a6 a7) <;> cases decide ((a8.length : Int) ≤ 20) <;> rfl
end Go.Own.Q
