/- Copies of terms, and whether they are the same, in plain Lean. No conditions. -/
import Derived.Test.YticdjfieofjcaaaW5Qloop
set_option linter.unusedVariables false
set_option linter.unusedSimpArgs false
set_option linter.unnecessarySimpa false
namespace Go.Own
open Go Go.Proofs

mutual
def tsz : S_impl_Term → Nat
  | .mk _ _ _ l => 1 + tszs l
def tszs : List S_impl_Term → Nat
  | [] => 0
  | x :: r => 1 + tsz x + tszs r
end
theorem tsz_f3 (x : S_impl_Term) : tsz x = 1 + tszs x.f3 := by cases x; simp [tsz, S_impl_Term.f3]
theorem tszs_mem : ∀ {l : List S_impl_Term} {x : S_impl_Term}, x ∈ l → tsz x < tszs l
  | y :: r, x, h => by
    cases h with
    | head => simp only [tszs]; omega
    | tail _ h => have := tszs_mem h; simp only [tszs]; omega
theorem tszs_len : ∀ l : List S_impl_Term, l.length ≤ tszs l
  | [] => by simp [tszs]
  | y :: r => by have := tszs_len r; simp only [tszs, List.length_cons]; omega
theorem term_eta (x : S_impl_Term) : S_impl_Term.mk x.f0 x.f1 x.f2 x.f3 = x := by cases x; rfl

theorem spec_l2Copy_ok : ∀ (n : Nat) (x : S_impl_Term), tsz x < n → n ≤ 1000000 → p_spec_l2Copy n x.f0 x.f1 x.f2 x.f3 = some (x.f0, x.f1, x.f2, x.f3)
  | 0, x, h, _ => by omega
  | n + 1, x, h, hn => by
    rw [p_spec_l2Copy_succ]
    unfold s_spec_l2Copy
    rw [tsz_f3] at h
    have hlen := tszs_len x.f3
    have hl := loop_for (body := p_spec_l2Copy_b1 n (p_spec_l2Copy n) x.f3) (fun i => ((i : Int), x.f0, x.f1, x.f2, x.f3.take i)) (len := x.f3.length) (r := ((x.f3.length : Int), false, x.f0, x.f1, x.f2, x.f3)) (fun i hi => by
      have hx : x.f3[i]? = some x.f3[i] := List.getElem?_eq_getElem hi
      have hm := tszs_mem (List.getElem_mem hi)
      have ih := spec_l2Copy_ok n x.f3[i] (by omega) (by omega)
      have hi' : (i : Int) < (x.f3.length : Int) := by omega
      simp only [p_spec_l2Copy_b1, hi', decide_true, cond_true, ix_nat, hx, Option.bind_some, ih]
      rw [app2_of (by simp; omega) (by simp [maxLen]; omega)]
      simp only [Option.bind_some, term_eta, take_succ' hx, wrap_succ (show i < 4611686018427387904 by omega)]) (by
      have hi' : ¬ (x.f3.length : Int) < (x.f3.length : Int) := by omega
      simp only [p_spec_l2Copy_b1, hi', decide_false, cond_false, List.take_length]) (n := n) (by omega)
    simp only [List.take_zero] at hl
    have hl : loopN (p_spec_l2Copy_b1 n (p_spec_l2Copy n) x.f3) n ((0 : Int), x.f0, x.f1, x.f2, ([] : List S_impl_Term)) = _ := hl
    rw [hl]
    rfl

theorem impl_copy_ok : ∀ (n : Nat), n ≤ 1000000 → (∀ x : S_impl_Term, 2 * tsz x < n → p_impl_copyTerm n x.f0 x.f1 x.f2 x.f3 = some (x.f0, x.f1, x.f2, x.f3)) ∧ ∀ l : List S_impl_Term, 2 * tszs l + 1 < n → p_impl_copyTerms n l = some l
  | 0, _ => ⟨fun x h => by omega, fun l h => by omega⟩
  | n + 1, hn => by
    obtain ⟨ih1, ih2⟩ := impl_copy_ok n (by omega)
    refine ⟨fun x h => ?_, fun l h => ?_⟩
    · rw [p_impl_copyTerm_succ]
      unfold s_impl_copyTerm
      rw [tsz_f3] at h
      rw [ih2 x.f3 (by omega)]
      rfl
    · rw [p_impl_copyTerms_succ]
      unfold s_impl_copyTerms
      have hlen := tszs_len l
      have hl := loop_for (body := p_impl_copyTerms_b1 n (p_impl_copyTerm n) l) (fun i => (l.take i, (i : Int))) (len := l.length) (r := (l, (l.length : Int), false)) (fun i hi => by
        have hx : l[i]? = some l[i] := List.getElem?_eq_getElem hi
        have hm := tszs_mem (List.getElem_mem hi)
        have ih := ih1 l[i] (by omega)
        have hi' : (i : Int) < (l.length : Int) := by omega
        simp only [p_impl_copyTerms_b1, hi', decide_true, cond_true, ix_nat, hx, Option.bind_some, ih]
        rw [app2_of (by simp; omega) (by simp [maxLen]; omega)]
        simp only [Option.bind_some, term_eta, take_succ' hx, wrap_succ (show i < 4611686018427387904 by omega)]) (by
        have hi' : ¬ (l.length : Int) < (l.length : Int) := by omega
        simp only [p_impl_copyTerms_b1, hi', decide_false, cond_false, List.take_length]) (n := n) (by omega)
      have hl : loopN (p_impl_copyTerms_b1 n (p_impl_copyTerm n) l) n (([] : List S_impl_Term), (0 : Int)) = _ := hl
      rw [hl]
      rfl

theorem same_refl : ∀ (n : Nat), n ≤ 1000000 → (∀ x : S_impl_Term, 2 * tsz x < n → p_impl_SameTerm n x.f0 x.f1 x.f2 x.f3 x.f0 x.f1 x.f2 x.f3 = some true) ∧ ∀ l : List S_impl_Term, 2 * tszs l + 1 < n → p_slices_EqualFunc_7600 n l l = some true
  | 0, _ => ⟨fun x h => by omega, fun l h => by omega⟩
  | n + 1, hn => by
    obtain ⟨ih1, ih2⟩ := same_refl n (by omega)
    refine ⟨fun x h => ?_, fun l h => ?_⟩
    · rw [p_impl_SameTerm_succ]
      unfold s_impl_SameTerm
      rw [tsz_f3] at h
      simp only [decide_true, cond_true, ih2 x.f3 (by omega), Option.bind_some]
    · rw [p_slices_EqualFunc_7600_succ]
      unfold s_slices_EqualFunc_7600
      have hlen := tszs_len l
      have hl := loop_for (body := p_slices_EqualFunc_7600_b1 n (p_impl_SameTerm n) l l) (fun i => (i : Int)) (len := l.length) (r := .inr ((l.length : Int), false)) (fun i hi => by
        have hx : l[i]? = some l[i] := List.getElem?_eq_getElem hi
        have hm := tszs_mem (List.getElem_mem hi)
        have ih := ih1 l[i] (by omega)
        have hi' : (i : Int) < (l.length : Int) := by omega
        simp only [p_slices_EqualFunc_7600_b1, hi', decide_true, cond_true, ix_nat, hx, Option.bind_some, ih, Bool.not_true, cond_false, wrap_succ (show i < 4611686018427387904 by omega)]) (by
        have hi' : ¬ (l.length : Int) < (l.length : Int) := by omega
        simp only [p_slices_EqualFunc_7600_b1, hi', decide_false, cond_false]) (n := n) (by omega)
      have hl : loopN (p_slices_EqualFunc_7600_b1 n (p_impl_SameTerm n) l l) n (0 : Int) = _ := hl
      simp only [decide_true, Bool.not_true, cond_false]
      rw [hl]
      rfl
end Go.Own
