/- When a kid and an overseer are right: both packages answer the same. No conditions. -/
import Derived.Test.YtgeomhdbckjkcaaW13TermOk2
set_option linter.unusedVariables false
set_option linter.unusedSimpArgs false
set_option linter.unnecessarySimpa false
namespace Go.Own.Q
open Go Go.Proofs

def zeroT (k m : Int) (s : List UInt8) (len : Nat) : Bool := decide (k = 0) && (decide (m = 0) && (decide (s = []) && decide ((len : Int) = 0)))
theorem l10Zero_ok (n : Nat) (k m : Int) (s : List UInt8) (l : List S_impl_Term) : p_spec_l10Zero n k m s l = some (zeroT k m s l.length) := by
  unfold p_spec_l10Zero zeroT
  cases decide (k = 0) <;> cases decide (m = 0) <;> cases decide (s = []) <;> rfl
theorem isZero_ok (n : Nat) (k m : Int) (s : List UInt8) (l : List S_impl_Term) (hn : 3 < n) : p_impl_isZero n k m s l = some (zeroT k m s l.length) := by
  obtain ⟨n, rfl⟩ : ∃ m, n = m + 3 := ⟨n - 3, by omega⟩
  unfold p_impl_isZero
  rw [p_impl_SameTerm_succ]
  unfold s_impl_SameTerm
  rw [p_slices_EqualFunc_7600_succ]
  unfold s_slices_EqualFunc_7600 zeroT
  have e : decide ((l.length : Int) = (([] : List S_impl_Term).length : Int)) = decide ((l.length : Int) = 0) := rfl
  rw [e]
  cases l with
  | nil => cases decide (k = 0) <;> cases decide (m = 0) <;> cases decide (s = []) <;> rfl
  | cons a r =>
    rw [decide_eq_false (show ¬ (((a :: r).length : Nat) : Int) = 0 by simp only [List.length_cons]; omega)]
    cases decide (k = 0) <;> cases decide (m = 0) <;> cases decide (s = []) <;> rfl
def kidB (a0 a1 : List UInt8) (t : S_impl_Term) (a6 : Int) : Bool :=
  bif decide (0 ≤ a6) then atomOk a0 && (decide (a1 = []) && zeroT t.f0 t.f1 t.f2 t.f3.length) else atomOk a0 && (decide (a6 = -1) && (atomOk a1 && termOk t))
theorem l14Kid_ok (n : Nat) (a0 a1 : List UInt8) (a2 a3 : Int) (a4 : List UInt8) (a5 : List S_impl_Term) (a6 : Int) (h : wKid (.mk a0 a1 a2 a3 a4 a5 a6) < n) (hn : n < 4611686018427387904) : p_spec_l14Kid n a0 a1 a2 a3 a4 a5 a6 = some (kidB a0 a1 (.mk a2 a3 a4 a5) a6) := by
  simp only [wKid] at h
  unfold p_spec_l14Kid kidB
  rw [spec_AtomOk_ok n a0 (by omega) (by omega), spec_AtomOk_ok n a1 (by omega) (by omega), spec_TermOk_ok n a2 a3 a4 a5 (by omega) hn, l10Zero_ok]
  show _ = some (bif _ then atomOk a0 && (decide (a1 = []) && zeroT a2 a3 a4 a5.length) else _)
  simp only [Option.bind_some]
  cases decide (0 ≤ a6) <;> cases atomOk a0 <;> cases decide (a1 = []) <;> cases decide (a6 = -1) <;> cases atomOk a1 <;> rfl
theorem kidOk_ok (n : Nat) (a0 a1 : List UInt8) (a2 a3 : Int) (a4 : List UInt8) (a5 : List S_impl_Term) (a6 : Int) (h : wKid (.mk a0 a1 a2 a3 a4 a5 a6) < n) (hn : n < 4611686018427387904) : p_impl_kidOk n a0 a1 a2 a3 a4 a5 a6 = some (kidB a0 a1 (.mk a2 a3 a4 a5) a6) := by
  simp only [wKid] at h
  unfold p_impl_kidOk kidB
  rw [impl_AtomOk_ok n a0 (by omega) (by omega), impl_AtomOk_ok n a1 (by omega) (by omega), impl_TermOk_ok n a2 a3 a4 a5 (by omega) hn, isZero_ok n _ _ _ _ (by omega)]
  show _ = some (bif _ then atomOk a0 && (decide (a1 = []) && zeroT a2 a3 a4 a5.length) else _)
  simp only [Option.bind_some]
  by_cases h0 : 0 ≤ a6
  · rw [decide_eq_true h0, decide_eq_false (show ¬ a6 = -1 by omega)]
    cases atomOk a0 <;> cases decide (a1 = []) <;> rfl
  · rw [decide_eq_false h0]
    cases atomOk a0 <;> cases decide (a6 = -1) <;> cases atomOk a1 <;> rfl
def kidX (k : S_impl_Kid) : Bool := kidB k.f0 k.f1 (.mk k.f2 k.f3 k.f4 k.f5) k.f6

/-! sorted -/
def badS (l : List Int) (i : Nat) : Bool := decide (l.getD i 0 < l.getD (i - 1) 0)
theorem getD_of {l : List Int} {i : Nat} (h : i < l.length) : l[i]? = some (l.getD i 0) := by
  rw [List.getElem?_eq_getElem h, List.getD_eq_getElem?_getD, List.getElem?_eq_getElem h]; rfl
theorem less_ok (n : Nat) (a b : Int) : p_cmp_Less_d5dd n a b = some (decide (a < b)) := by
  unfold p_cmp_Less_d5dd p_cmp_isNaN_2196
  rw [decide_eq_true (rfl : a = a)]
  rfl
theorem isSorted_ok (n : Nat) (l : List Int) (h : l.length < n) (hn : n < 4611686018427387904) : p_slices_IsSorted_bf74 n l = some (!anyDn (badS l) (l.length - 1)) := by
  unfold p_slices_IsSorted_bf74
  cases hl : l.length with
  | zero =>
    obtain ⟨m, rfl⟩ : ∃ m, n = m + 1 := ⟨n - 1, by omega⟩
    rfl
  | succ k =>
    rw [wrap_pred (by omega)]
    have e := loop_dn (body := p_slices_IsSorted_bf74_b1 n l) (fun i => (i : Int)) (badS l) (.inl false) (.inr (((0 : Nat) : Int), false)) k (fun i hi => by
      have h1 : ix l (((i + 1 : Nat) : Int)) = some (l.getD (i + 1) 0) := by rw [ix_nat]; exact getD_of (by omega)
      have h2 : ix l (i : Int) = some (l.getD i 0) := by rw [ix_nat]; exact getD_of (by omega)
      simp only [p_slices_IsSorted_bf74_b1, wrap_pred (show i < 4611686018427387904 by omega), h1, h2, Option.bind_some, less_ok]
      rw [decide_eq_true (by omega), cond_true]
      unfold badS
      rw [show i + 1 - 1 = i by omega]
      cases decide (l.getD (i + 1) 0 < l.getD i 0) <;> rfl) rfl (n := n) (by omega)
    rw [e]
    rw [show k + 1 - 1 = k by omega]
    cases anyDn (badS l) k <;> rfl
theorem spec_sorted (n : Nat) (l : List Int) (h : l.length < n) (hn : n < 4611686018427387904) : ∃ i : Int, loopN (p_spec_OverOk_b2 n l) n (1 : Int) = some (bif anyDn (badS l) (l.length - 1) then .inl false else .inr (i, false)) := by
  cases hl : l.length with
  | zero =>
    obtain ⟨m, rfl⟩ : ∃ m, n = m + 1 := ⟨n - 1, by omega⟩
    refine ⟨1, ?_⟩
    simp only [loopN, p_spec_OverOk_b2, hl]; rfl
  | succ k =>
    refine ⟨((k + 1 : Nat) : Int), ?_⟩
    have e := loop_up (body := p_spec_OverOk_b2 n l) (fun i => (i : Int)) (badS l) (.inl false) (.inr (((k + 1 : Nat) : Int), false)) (len := k + 1) k 1 (by omega) (fun i h1 hi => by
      obtain ⟨j, rfl⟩ : ∃ j, i = j + 1 := ⟨i - 1, by omega⟩
      have h1 : ix l (((j + 1 : Nat) : Int)) = some (l.getD (j + 1) 0) := by rw [ix_nat]; exact getD_of (by omega)
      have h2 : ix l (j : Int) = some (l.getD j 0) := by rw [ix_nat]; exact getD_of (by omega)
      simp only [p_spec_OverOk_b2, wrap_pred (show j < 4611686018427387904 by omega), h1, h2, Option.bind_some]
      rw [decide_eq_true (by omega), cond_true, wrap_succ (by omega)]
      unfold badS
      rw [show j + 1 - 1 = j by omega]
      cases decide (l.getD (j + 1) 0 < l.getD j 0) <;> rfl) (by
      simp only [p_spec_OverOk_b2, hl]
      rw [decide_eq_false (by omega)]; rfl) (n := n) (by omega)
    rw [anyUp_dn] at e
    exact e
end Go.Own.Q
