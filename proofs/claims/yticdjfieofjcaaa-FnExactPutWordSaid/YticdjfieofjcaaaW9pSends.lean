/- Copies, marks and what is to be sent, in plain Lean. No conditions. -/
import Derived.Test.YticdjfieofjcaaaW9pMarks
set_option linter.unusedVariables false
set_option linter.unusedSimpArgs false
set_option linter.unnecessarySimpa false
namespace Go.Own.Q
open Go Go.Proofs

theorem p_impl_copyTerm_succ (n : Nat) : p_impl_copyTerm (n + 1) = s_impl_copyTerm n (p_impl_copyTerm n) (p_impl_copyTerms n) := rfl
theorem p_impl_copyTerms_succ (n : Nat) : p_impl_copyTerms (n + 1) = s_impl_copyTerms n (p_impl_copyTerm n) (p_impl_copyTerms n) := rfl
theorem copyTerm_oks : ∀ (n : Nat), n ≤ 1099511627776 → (∀ (a0 a1 : Int) (a2 : List UInt8) (a3 : List S_impl_Term), wTerm (.mk a0 a1 a2 a3) < n → p_impl_copyTerm n a0 a1 a2 a3 = some (a0, a1, a2, a3)) ∧ ∀ (l : List S_impl_Term), dl wTerm l < n → p_impl_copyTerms n l = some l
  | 0, _ => ⟨fun a0 a1 a2 a3 h => by omega, fun l h => by omega⟩
  | n + 1, hn => by
    obtain ⟨ih1, ih2⟩ := copyTerm_oks n (by omega)
    refine ⟨fun a0 a1 a2 a3 h => ?_, fun l h => ?_⟩
    · rw [p_impl_copyTerm_succ]
      unfold s_impl_copyTerm
      simp only [wTerm, wTerms_dl] at h
      simp only [ih2 a3 (by omega), Option.bind_some]
    · rw [p_impl_copyTerms_succ]
      unfold s_impl_copyTerms
      have h2 := dl_len wTerm l
      have hl := loop_for (body := p_impl_copyTerms_b1 n (p_impl_copyTerm n) l) (fun i => (l.take i, (i : Int))) (len := l.length) (r := (l, (l.length : Int), false)) (fun i hi => by
        have ha : l[i]? = some l[i] := List.getElem?_eq_getElem hi
        generalize l[i] = a at ha
        have hd := dl_mem wTerm (List.mem_of_getElem? ha)
        have hap : app2 56 (l.take i) [S_impl_Term.mk a.f0 a.f1 a.f2 a.f3] = some (l.take (i + 1)) := by
          rw [S_impl_Term_eta, ← take_succ' ha]
          exact app2_of (by rw [List.length_take]; simp only [List.length_singleton]; omega) (by rw [List.length_take]; simp only [List.length_singleton, maxLen]; omega)
        simp only [p_impl_copyTerms_b1, lt_int ha, cond_true, ix_nat, ha, Option.bind_some, ih1 a.f0 a.f1 a.f2 a.f3 (by rw [S_impl_Term_eta]; omega), hap, wrap_succ (show i < 4611686018427387904 by omega)]) (by simp only [p_impl_copyTerms_b1, not_lt_int, cond_false, List.take_length]) (n := n) (by omega)
      refine (congrArg (fun q => Option.bind q _) hl).trans ?_
      rfl
theorem copyTerm_ok (n : Nat) {a : S_impl_Term} (h : wTerm a < n) (hn : n ≤ 1099511627776) : p_impl_copyTerm n a.f0 a.f1 a.f2 a.f3 = some (a.f0, a.f1, a.f2, a.f3) := (copyTerm_oks n hn).1 _ _ _ _ (by rw [S_impl_Term_eta]; exact h)
theorem p_spec_l2Copy_succ (n : Nat) : p_spec_l2Copy (n + 1) = s_spec_l2Copy n (p_spec_l2Copy n) := rfl
theorem l2Copy_oks : ∀ (n : Nat), n ≤ 1099511627776 → ∀ (a0 a1 : Int) (a2 : List UInt8) (a3 : List S_impl_Term), wTerm (.mk a0 a1 a2 a3) < n → p_spec_l2Copy n a0 a1 a2 a3 = some (a0, a1, a2, a3)
  | 0, _ => fun a0 a1 a2 a3 h => by omega
  | n + 1, hn => fun a0 a1 a2 l h => by
    have ih1 := l2Copy_oks n (by omega)
    rw [p_spec_l2Copy_succ]
    unfold s_spec_l2Copy
    simp only [wTerm, wTerms_dl] at h
    have h2 := dl_len wTerm l
    have hl := loop_for (body := p_spec_l2Copy_b1 n (p_spec_l2Copy n) l) (fun i => ((i : Int), a0, a1, a2, l.take i)) (len := l.length) (r := ((l.length : Int), false, a0, a1, a2, l)) (fun i hi => by
      have ha : l[i]? = some l[i] := List.getElem?_eq_getElem hi
      generalize l[i] = a at ha
      have hd := dl_mem wTerm (List.mem_of_getElem? ha)
      have hap : app2 56 (l.take i) [S_impl_Term.mk a.f0 a.f1 a.f2 a.f3] = some (l.take (i + 1)) := by
        rw [S_impl_Term_eta, ← take_succ' ha]
        exact app2_of (by rw [List.length_take]; simp only [List.length_singleton]; omega) (by rw [List.length_take]; simp only [List.length_singleton, maxLen]; omega)
      simp only [p_spec_l2Copy_b1, lt_int ha, cond_true, ix_nat, ha, Option.bind_some, ih1 a.f0 a.f1 a.f2 a.f3 (by rw [S_impl_Term_eta]; omega), hap, wrap_succ (show i < 4611686018427387904 by omega)]) (by simp only [p_spec_l2Copy_b1, not_lt_int, cond_false, List.take_length]) (n := n) (by omega)
    refine (congrArg (fun q => Option.bind q _) hl).trans ?_
    rfl
theorem l2Copy_ok (n : Nat) {a : S_impl_Term} (h : wTerm a < n) (hn : n ≤ 1099511627776) : p_spec_l2Copy n a.f0 a.f1 a.f2 a.f3 = some (a.f0, a.f1, a.f2, a.f3) := l2Copy_oks n hn _ _ _ _ (by rw [S_impl_Term_eta]; exact h)

/-! marks -/
mutual
def mkTerm : S_impl_Term → Nat → Nat × S_impl_Term
  | .mk _ _ _ l, k => ((mkTerms l (k + 3)).1, .mk (k : Int) ((k + 1 : Nat) : Int) (mtxt (k + 2)) (mkTerms l (k + 3)).2)
def mkTerms : List S_impl_Term → Nat → Nat × List S_impl_Term
  | [], k => (k, [])
  | a :: r, k => ((mkTerms r (mkTerm a k).1).1, (mkTerm a k).2 :: (mkTerms r (mkTerm a k).1).2)
end
theorem mkTerms_acc : ∀ (l : List S_impl_Term) (k : Nat), mkTerms l k = mapAcc (fun k a => mkTerm a k) k l
  | [], k => rfl
  | a :: r, k => by simp only [mkTerms, mapAcc, mkTerms_acc r]
mutual
theorem mkTerm_le : ∀ (a : S_impl_Term) (k : Nat), (mkTerm a k).1 ≤ k + wTerm a
  | .mk _ _ s l, k => by have := mkTerms_le l (k + 3); simp only [mkTerm, wTerm]; omega
theorem mkTerms_le : ∀ (l : List S_impl_Term) (k : Nat), (mkTerms l k).1 ≤ k + wTerms l
  | [], k => by simp [mkTerms]
  | a :: r, k => by have := mkTerm_le a k; have := mkTerms_le r (mkTerm a k).1; simp only [mkTerms, wTerms]; omega
end
mutual
theorem mkTerm_ge : ∀ (a : S_impl_Term) (k : Nat), k ≤ (mkTerm a k).1
  | .mk _ _ s l, k => by have := mkTerms_ge l (k + 3); simp only [mkTerm]; omega
theorem mkTerms_ge : ∀ (l : List S_impl_Term) (k : Nat), k ≤ (mkTerms l k).1
  | [], k => by simp [mkTerms]
  | a :: r, k => by have := mkTerm_ge a k; have := mkTerms_ge r (mkTerm a k).1; simp only [mkTerms]; omega
end
theorem p_laws_markTermS_succ (n : Nat) : p_laws_markTermS (n + 1) = s_laws_markTermS n (p_laws_markTermS n) := rfl
theorem p_laws_heldTermS_succ (n : Nat) : p_laws_heldTermS (n + 1) = s_laws_heldTermS n (p_laws_heldTermS n) := rfl
theorem markTermS_ok : ∀ (n : Nat), n ≤ 1099511627776 → ∀ (l : List S_impl_Term) (k : Nat), 20 + dl wTerm l < n → 0 < k → k + dl wTerm l ≤ 1099511627776 → p_laws_markTermS n l (k : Int) = some (((mkTerms l k).1 : Int), (mkTerms l k).2)
  | 0, _ => fun l k h => by omega
  | n + 1, hn => fun l k h hk hB => by
    have ih := markTermS_ok n (by omega)
    rw [p_laws_markTermS_succ]
    unfold s_laws_markTermS
    have h2 := dl_len wTerm l
    have hl := loop_mark (body := p_laws_markTermS_b1 n (p_laws_markTermS n)) (fun k a => mkTerm a k) wTerm (B := 1099511627776) (C := dl wTerm l) (fun a k => mkTerm_le a k) (len := l.length) (fun L s i a hL ha hs hb hc => by
      have hi := lt_len ha
      obtain ⟨a0, a1, a2, a3⟩ := a
      simp only [wTerm, wTerms_dl] at hb hc
      have hw := dl_len wTerm a3
      simp only [p_laws_markTermS_b1, decide_eq_true (show (i : Int) < (L.length : Int) by omega), cond_true, ix_nat, ha, Option.bind_some, Int.toNat_natCast, List.set_set, List.getElem?_set_self hi, S_impl_Term.f0, S_impl_Term.f1, S_impl_Term.f2, S_impl_Term.f3,
        wrap_nat (show s < 4611686018427387904 by omega), wrap_nat (show s + 1 < 4611686018427387904 by omega), wrap_nat (show s + 1 + 1 < 4611686018427387904 by omega), wrap_succ (show i < 4611686018427387904 by omega), markText_ok n (s + 1 + 1) (by omega) (by omega) (by omega), ih a3 (s + 1 + 1 + 1) (by omega) (by omega) (by omega)]
      rfl) (fun L s hL => by rw [← hL]; simp only [p_laws_markTermS_b1, not_lt_int, cond_false]) (fun a k => mkTerm_ge a k) l [] k n rfl hk hB (Nat.le_refl _) (by omega)
    refine (congrArg (fun q => Option.bind q _) hl).trans ?_
    simp only [Option.bind_some, List.nil_append, mkTerms_acc]
theorem heldTermS_ok : ∀ (n : Nat), n ≤ 1099511627776 → ∀ (l : List S_impl_Term) (k : Nat), 20 + dl wTerm l < n → 0 < k → k + dl wTerm l ≤ 1099511627776 → p_laws_heldTermS n (mkTerms l k).2 (k : Int) = some ((mkTerms l k).1 : Int)
  | 0, _ => fun l k h => by omega
  | n + 1, hn => fun l k h hk hB => by
    have ih := heldTermS_ok n (by omega)
    rw [p_laws_heldTermS_succ]
    unfold s_laws_heldTermS
    have h2 := dl_len wTerm l
    have hlen : (mkTerms l k).2.length = l.length := by rw [mkTerms_acc, mapAcc_len]
    have hl := loop_held (body := p_laws_heldTermS_b1 n (p_laws_heldTermS n) (mkTerms l k).2) (fun k a => mkTerm a k) wTerm (B := 1099511627776) (C := dl wTerm l) (fun a k => mkTerm_le a k) (fun a k => mkTerm_ge a k) (L := (mkTerms l k).2) (out := fun s => .inr ((s : Int), ((mkTerms l k).2.length : Int), false)) (fun s i a ha hs hb hc => by
      have hi := lt_len ha
      obtain ⟨a0, a1, a2, a3⟩ := a
      simp only [wTerm, wTerms_dl] at hb hc
      have hw := dl_len wTerm a3
      have hg := mkTerms_ge a3 (s + 3)
      simp only [mkTerm] at ha ⊢
      simp only [p_laws_heldTermS_b1, lt_int ha, cond_true, ix_nat, ha, Option.bind_some, S_impl_Term.f0, S_impl_Term.f1, S_impl_Term.f2, S_impl_Term.f3, decide_true, Bool.not_true, cond_false,
        wrap_nat (show s < 4611686018427387904 by omega), wrap_nat (show s + 1 < 4611686018427387904 by omega), wrap_nat (show s + 1 + 1 < 4611686018427387904 by omega), wrap_succ (show i < 4611686018427387904 by omega), markText_ok n (s + 1 + 1) (by omega) (by omega) (by omega), ih a3 (s + 3) (by omega) (by omega) (by omega),
        decide_eq_false (show ¬ ((mkTerms a3 (s + 3)).1 : Int) < 0 by omega)]) (fun s => by simp only [p_laws_heldTermS_b1, not_lt_int, cond_false]) l [] k n (by rw [List.nil_append, mkTerms_acc]) hk hB (Nat.le_refl _) (by omega)
    refine (congrArg (fun q => Option.bind q _) hl).trans ?_
    simp only [Option.bind_some, mkTerms_acc]
end Go.Own.Q
