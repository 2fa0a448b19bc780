/- Copies of terms, in plain Lean. No conditions. -/
import Derived.Test.YtgeomhdbckjkcaaW16TermOk2
set_option linter.unusedVariables false
set_option linter.unusedSimpArgs false
set_option linter.unnecessarySimpa false
namespace Go.Own.Q
open Go Go.Proofs

theorem copyTerm_oks : ∀ (n : Nat), n ≤ 1099511627776 → (∀ (a0 a1 : Int) (a2 : List UInt8) (a3 : List S_impl_Term), wTerm (.mk a0 a1 a2 a3) < n → p_impl_copyTerm n a0 a1 a2 a3 = some (a0, a1, a2, a3)) ∧ ∀ (l : List S_impl_Term), dl wTerm l < n → p_impl_copyTerms n l = some l
 | 0, _ => ⟨fun a0 a1 a2 a3 h => by omega, fun l h => by omega⟩
 | n + 1, hn => by
  obtain ⟨ih1, ih2⟩ := copyTerm_oks n (by omega)
  refine ⟨fun a0 a1 a2 a3 h => ?_, fun l h => ?_⟩
  ·rw [p_impl_copyTerm_succ]
   unfold s_impl_copyTerm
   simp only [wTerm, wTerms_dl] at h
   simp only [ih2 a3 (by omega), Option.bind_some]
  ·rw [p_impl_copyTerms_succ]
   unfold s_impl_copyTerms
   have h2 := dl_len wTerm l
   have hl := loop_for (body := p_impl_copyTerms_b1 n (p_impl_copyTerm n) l) (fun i => (l.take i, (i : Int))) (len := l.length) (r := (l, (l.length : Int), false)) (fun i hi => by
    have ha : l[i]? = some l[i] := List.getElem?_eq_getElem hi
    generalize l[i] = a at ha
    have hd := dl_mem wTerm (List.mem_of_getElem? ha)
    have hap : app2 56 (l.take i) [S_impl_Term.mk a.f0 a.f1 a.f2 a.f3] = some (l.take (i + 1)) := by
     rw [S_impl_Term_eta, ← take_succ' ha]
     exact app2_of (by rw [List.length_take]; simp only [List.length_singleton]; omega) (by rw [List.length_take]; simp only [List.length_singleton, maxLen]; omega)
    simp only [p_impl_copyTerms_b1, lt_int ha, cond_true, ix_nat, ha, Option.bind_some, ih1 a.f0 a.f1 a.f2 a.f3 (by rw [S_impl_Term_eta]; omega), hap, wrap_succ (show i < 4611686018427387904 by omega)]) (by simp only [p_impl_copyTerms_b1, not_lt_int, cond_false, List.take_length]) (n := n) (by omega)
   refine (congrArg (fun q => Option.bind q _) hl).trans ?_
   rfl
theorem copyTerm_ok (n : Nat) {a : S_impl_Term} (h : wTerm a < n) (hn : n ≤ 1099511627776) : p_impl_copyTerm n a.f0 a.f1 a.f2 a.f3 = some (a.f0, a.f1, a.f2, a.f3) := (copyTerm_oks n hn).1 _ _ _ _ (by rw [S_impl_Term_eta]; exact h)
theorem l2Copy_oks : ∀ (n : Nat), n ≤ 1099511627776 → ∀ (a0 a1 : Int) (a2 : List UInt8) (a3 : List S_impl_Term), wTerm (.mk a0 a1 a2 a3) < n → p_spec_l2Copy n a0 a1 a2 a3 = some (a0, a1, a2, a3)
 | 0, _ => fun a0 a1 a2 a3 h => by omega
 | n + 1, hn => fun a0 a1 a2 l h => by
  have ih1 := l2Copy_oks n (by omega)
  rw [p_spec_l2Copy_succ]
  unfold s_spec_l2Copy
  simp only [wTerm, wTerms_dl] at h
  have h2 := dl_len wTerm l
  have hl := loop_for (body := p_spec_l2Copy_b1 n (p_spec_l2Copy n) l) (fun i => ((i : Int), a0, a1, a2, l.take i)) (len := l.length) (r := ((l.length : Int), false, a0, a1, a2, l)) (fun i hi => by
   have ha : l[i]? = some l[i] := List.getElem?_eq_getElem hi
   generalize l[i] = a at ha
   have hd := dl_mem wTerm (List.mem_of_getElem? ha)
   have hap : app2 56 (l.take i) [S_impl_Term.mk a.f0 a.f1 a.f2 a.f3] = some (l.take (i + 1)) := by
    rw [S_impl_Term_eta, ← take_succ' ha]
    exact app2_of (by rw [List.length_take]; simp only [List.length_singleton]; omega) (by rw [List.length_take]; simp only [List.length_singleton, maxLen]; omega)
   simp only [p_spec_l2Copy_b1, lt_int ha, cond_true, ix_nat, ha, Option.bind_some, ih1 a.f0 a.f1 a.f2 a.f3 (by rw [S_impl_Term_eta]; omega), hap, wrap_succ (show i < 4611686018427387904 by omega)]) (by simp only [p_spec_l2Copy_b1, not_lt_int, cond_false, List.take_length]) (n := n) (by omega)
  refine (congrArg (fun q => Option.bind q _) hl).trans ?_
  rfl
theorem l2Copy_ok (n : Nat) {a : S_impl_Term} (h : wTerm a < n) (hn : n ≤ 1099511627776) : p_spec_l2Copy n a.f0 a.f1 a.f2 a.f3 = some (a.f0, a.f1, a.f2, a.f3) := l2Copy_oks n hn _ _ _ _ (by rw [S_impl_Term_eta]; exact h)

end Go.Own.Q
