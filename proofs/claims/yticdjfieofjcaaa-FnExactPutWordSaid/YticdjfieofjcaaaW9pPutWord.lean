/- The law FnExactPutWord, in plain Lean. No conditions. -/
import Derived.Test.YticdjfieofjcaaaW9pSends
set_option linter.unusedVariables false
set_option linter.unusedSimpArgs false
set_option linter.unnecessarySimpa false
namespace Go.Own.Q
open Go Go.Proofs
theorem workerOk_len {a0 : Int} {a1 a2 : List UInt8} {a3 : Int} {t : S_impl_Term} {l : List S_impl_Term} (h : ¬ (l.length : Int) ≤ 20) : workerOk a0 a1 a2 a3 t l = false := by
  unfold workerOk
  rw [decide_eq_false h]
  simp
def putOk (a0 : Int) (a1 a2 : List UInt8) (a3 : Int) (s : S_impl_Term) (l : List S_impl_Term) (t : S_impl_Term) : Bool := workerOk a0 a1 a2 a3 s l && (termOk t && !decide ((l.length : Int) = 20))
def putBox (a0 : Int) (a1 a2 : List UInt8) (a3 : Int) (s : S_impl_Term) (l : List S_impl_Term) (t : S_impl_Term) : List S_impl_Term := bif putOk a0 a1 a2 a3 s l t then l ++ [t] else l
theorem impl_PutWord_ok (n : Nat) (a0 : Int) (a1 a2 : List UInt8) (a3 a4 a5 : Int) (a6 : List UInt8) (a7 a8 : List S_impl_Term) (t : S_impl_Term) (h : wWorker (.mk a0 a1 a2 a3 a4 a5 a6 a7 a8) < n) (ht : wTerm t < n) (hn : n ≤ 1099511627776) :
    p_impl_PutWord n a0 a1 a2 a3 a4 a5 a6 a7 a8 t.f0 t.f1 t.f2 t.f3 = some (a0, a1, a2, a3, a4, a5, a6, a7, putBox a0 a1 a2 a3 (.mk a4 a5 a6 a7) a8 t, putOk a0 a1 a2 a3 (.mk a4 a5 a6 a7) a8 t) := by
  have hW := impl_WorkerOk_ok n a0 a1 a2 a3 a4 a5 a6 a7 a8 h (by omega)
  have hT := impl_TermOk_ok n t.f0 t.f1 t.f2 t.f3 (by rw [S_impl_Term_eta]; exact ht) (by omega)
  rw [S_impl_Term_eta] at hT
  simp only [wWorker] at h
  have hl := dl_len wTerm a8
  have hc1 := (copyTerm_oks n hn).1 a4 a5 a6 a7 (by omega)
  have hc2 := (copyTerm_oks n hn).2 a8 (by omega)
  have hcw : p_impl_copyWorker n a0 a1 a2 a3 a4 a5 a6 a7 a8 = some (a0, a1, a2, a3, a4, a5, a6, a7, a8) := by
    unfold p_impl_copyWorker
    simp only [hc1, hc2, Option.bind_some]
  have hap : app2 56 a8 [S_impl_Term.mk t.f0 t.f1 t.f2 t.f3] = some (a8 ++ [t]) := by
    rw [S_impl_Term_eta]
    exact app2_of (by simp only [List.length_singleton]; omega) (by simp only [List.length_singleton, maxLen]; omega)
  unfold p_impl_PutWord
  simp only [hcw, hT, hW, Option.bind_some, copyTerm_ok n ht hn, hap]
  have hlen := @workerOk_len a0 a1 a2 a3 (.mk a4 a5 a6 a7) a8
  unfold putBox putOk
  generalize workerOk a0 a1 a2 a3 (.mk a4 a5 a6 a7) a8 = q at *
  by_cases c : (20 : Int) ≤ (a8.length : Int)
  · rw [decide_eq_true c]
    by_cases c2 : (a8.length : Int) = 20
    · rw [decide_eq_true c2]
      cases q <;> cases termOk t <;> rfl
    · rw [hlen (by omega)]
      rfl
  · rw [decide_eq_false c, decide_eq_false (show ¬ (a8.length : Int) = 20 by omega)]
    cases q <;> cases termOk t <;> rfl
theorem l2CopyAll_ok (n : Nat) (l : List S_impl_Term) (h : dl wTerm l < n) (hn : n ≤ 1099511627776) : p_spec_l2CopyAll n l = some l := by
  have h2 := dl_len wTerm l
  have hl := loop_for (body := p_spec_l2CopyAll_b1 n l) (fun i => (l.take i, (i : Int))) (len := l.length) (r := (l, (l.length : Int), false)) (fun i hi => by
    have ha : l[i]? = some l[i] := List.getElem?_eq_getElem hi
    generalize l[i] = a at ha
    have hd := dl_mem wTerm (List.mem_of_getElem? ha)
    have hap : app2 56 (l.take i) [S_impl_Term.mk a.f0 a.f1 a.f2 a.f3] = some (l.take (i + 1)) := by
      rw [S_impl_Term_eta, ← take_succ' ha]
      exact app2_of (by rw [List.length_take]; simp only [List.length_singleton]; omega) (by rw [List.length_take]; simp only [List.length_singleton, maxLen]; omega)
    simp only [p_spec_l2CopyAll_b1, lt_int ha, cond_true, ix_nat, ha, Option.bind_some, l2Copy_ok n (a := a) (by omega) hn, hap, wrap_succ (show i < 4611686018427387904 by omega)]) (by simp only [p_spec_l2CopyAll_b1, not_lt_int, cond_false, List.take_length]) (n := n) (by omega)
  unfold p_spec_l2CopyAll
  refine (congrArg (fun q => Option.bind q _) hl).trans ?_
  rfl
theorem spec_PutWord_ok (n : Nat) (a0 : Int) (a1 a2 : List UInt8) (a3 a4 a5 : Int) (a6 : List UInt8) (a7 a8 : List S_impl_Term) (t : S_impl_Term) (h : wWorker (.mk a0 a1 a2 a3 a4 a5 a6 a7 a8) < n) (ht : wTerm t < n) (hn : n ≤ 1099511627776) :
    p_spec_PutWord n a0 a1 a2 a3 a4 a5 a6 a7 a8 t.f0 t.f1 t.f2 t.f3 = some (a0, a1, a2, a3, a4, a5, a6, a7, putBox a0 a1 a2 a3 (.mk a4 a5 a6 a7) a8 t, putOk a0 a1 a2 a3 (.mk a4 a5 a6 a7) a8 t) := by
  have hW := spec_WorkerOk_ok n a0 a1 a2 a3 a4 a5 a6 a7 a8 h (by omega)
  have hT := spec_TermOk_ok n t.f0 t.f1 t.f2 t.f3 (by rw [S_impl_Term_eta]; exact ht) (by omega)
  rw [S_impl_Term_eta] at hT
  simp only [wWorker] at h
  have hl := dl_len wTerm a8
  have hc1 := l2Copy_oks n hn a4 a5 a6 a7 (by omega)
  have hc2 := l2CopyAll_ok n a8 (by omega) hn
  have hcw : p_spec_l13Copy n a0 a1 a2 a3 a4 a5 a6 a7 a8 = some (a0, a1, a2, a3, a4, a5, a6, a7, a8) := by
    unfold p_spec_l13Copy
    simp only [hc1, hc2, Option.bind_some]
  have hap : app2 56 a8 [S_impl_Term.mk t.f0 t.f1 t.f2 t.f3] = some (a8 ++ [t]) := by
    rw [S_impl_Term_eta]
    exact app2_of (by simp only [List.length_singleton]; omega) (by simp only [List.length_singleton, maxLen]; omega)
  unfold p_spec_PutWord
  simp only [hcw, hT, hW, Option.bind_some, l2Copy_ok n ht hn, hap]
  unfold putBox putOk
  generalize workerOk a0 a1 a2 a3 (.mk a4 a5 a6 a7) a8 = q
  cases decide ((a8.length : Int) = 20) <;> cases q <;> cases termOk t <;> rfl
theorem dl_app1 {α : Type} (w : α → Nat) (a : α) : ∀ l : List α, dl w (l ++ [a]) = dl w l + 1 + w a
  | [] => by simp only [List.nil_append, dl]; omega
  | b :: r => by simp only [List.cons_append, dl, dl_app1 w a r]; omega
theorem putBox_w (a0 : Int) (a1 a2 : List UInt8) (a3 : Int) (s : S_impl_Term) (l : List S_impl_Term) (t : S_impl_Term) : dl wTerm (putBox a0 a1 a2 a3 s l t) ≤ dl wTerm l + 1 + wTerm t := by
  unfold putBox
  cases putOk a0 a1 a2 a3 s l t with
  | true => rw [cond_true, dl_app1]; omega
  | false => rw [cond_false]; omega
end Go.Own.Q
