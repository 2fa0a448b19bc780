/- What is written into slices in place, type by type, in plain Lean. No conditions. -/
import Derived.Test.YtgeomhdbckjkcaaW16Marks
set_option linter.unusedVariables false
set_option linter.unusedSimpArgs false
set_option linter.unnecessarySimpa false
namespace Go.Own.Q
open Go Go.Proofs

def mkStringS (l : List (List UInt8)) (k : Nat) : Nat × List (List UInt8) := mapAcc (fun k _ => (k + 1, mtxt k)) k l
def mkIntS (l : List Int) (k : Nat) : Nat × List Int := mapAcc (fun k _ => (k + 1, (k : Int))) k l
def mkByteS (l : List Int) (k : Nat) : Nat × List Int := mapAcc (fun k _ => (k + 1, IntKind.wrap .u8 (k : Int))) k l
theorem leStringS (l : List (List UInt8)) (k : Nat) : (mkStringS l k).1 ≤ k + dl List.length l := mapAcc_leW (fun a _ k => by simp only; omega) k
theorem geStringS (l : List (List UInt8)) (k : Nat) : k ≤ (mkStringS l k).1 := mapAcc_ge (fun a _ k => by simp only; omega) k
theorem leIntS (l : List Int) (k : Nat) : (mkIntS l k).1 ≤ k + dl (fun _ => 0) l := mapAcc_leW (fun a _ k => by simp only; omega) k
theorem geIntS (l : List Int) (k : Nat) : k ≤ (mkIntS l k).1 := mapAcc_ge (fun a _ k => by simp only; omega) k
theorem leByteS (l : List Int) (k : Nat) : (mkByteS l k).1 ≤ k + dl (fun _ => 0) l := mapAcc_leW (fun a _ k => by simp only; omega) k
theorem geByteS (l : List Int) (k : Nat) : k ≤ (mkByteS l k).1 := mapAcc_ge (fun a _ k => by simp only; omega) k

mutual
def mkTerm : S_impl_Term → Nat → Nat × S_impl_Term
 | .mk _ _ _ l, k => ((mkTermS l (k + 3)).1, .mk (k : Int) ((k + 1 : Nat) : Int) (mtxt (k + 2)) (mkTermS l (k + 3)).2)
def mkTermS : List S_impl_Term → Nat → Nat × List S_impl_Term
 | [], k => (k, [])
 | a :: r, k => ((mkTermS r (mkTerm a k).1).1, (mkTerm a k).2 :: (mkTermS r (mkTerm a k).1).2)
end
theorem mkTermS_acc : ∀ (l : List S_impl_Term) (k : Nat), mkTermS l k = mapAcc (fun k a => mkTerm a k) k l
 | [], k => rfl
 | a :: r, k => by simp only [mkTermS, mapAcc, mkTermS_acc r]
mutual
theorem mkTerm_le : ∀ (a : S_impl_Term) (k : Nat), (mkTerm a k).1 ≤ k + wTerm a
 | .mk _ _ s l, k => by have := mkTermS_le l (k + 3); simp only [mkTerm, wTerm]; omega
theorem mkTermS_le : ∀ (l : List S_impl_Term) (k : Nat), (mkTermS l k).1 ≤ k + wTerms l
 | [], k => by simp [mkTermS]
 | a :: r, k => by have := mkTerm_le a k; have := mkTermS_le r (mkTerm a k).1; simp only [mkTermS, wTerms]; omega
end
mutual
theorem mkTerm_ge : ∀ (a : S_impl_Term) (k : Nat), k ≤ (mkTerm a k).1
 | .mk _ _ s l, k => by have := mkTermS_ge l (k + 3); simp only [mkTerm]; omega
theorem mkTermS_ge : ∀ (l : List S_impl_Term) (k : Nat), k ≤ (mkTermS l k).1
 | [], k => by simp [mkTermS]
 | a :: r, k => by have := mkTerm_ge a k; have := mkTermS_ge r (mkTerm a k).1; simp only [mkTermS]; omega
end
theorem p_laws_markTermS_succ (n : Nat) : p_laws_markTermS (n + 1) = s_laws_markTermS n (p_laws_markTermS n) := rfl
theorem p_laws_heldTermS_succ (n : Nat) : p_laws_heldTermS (n + 1) = s_laws_heldTermS n (p_laws_heldTermS n) := rfl
theorem markTermS_ok : ∀ (n : Nat), n ≤ 1099511627776 → ∀ (l : List S_impl_Term) (k : Nat), 20 + dl wTerm l < n → 0 < k → k + dl wTerm l ≤ 1099511627776 → p_laws_markTermS n l (k : Int) = some (((mkTermS l k).1 : Int), (mkTermS l k).2)
 | 0, _ => fun l k h => by omega
 | n + 1, hn => fun l k h hk hB => by
  have ih := markTermS_ok n (by omega)
  rw [p_laws_markTermS_succ]
  unfold s_laws_markTermS
  have h2 := dl_len wTerm l
  have hl := loop_mark (body := p_laws_markTermS_b1 n (p_laws_markTermS n)) (fun k a => mkTerm a k) wTerm (B := 1099511627776) (C := dl wTerm l) (fun a k => mkTerm_le a k) (len := l.length) (fun L s i a hL ha hs hb hc => by
   have hi := lt_len ha
   obtain ⟨a0, a1, a2, a3⟩ := a
   simp only [wTerm, wTerms_dl] at hb hc
   have hw := dl_len wTerm a3
   simp only [p_laws_markTermS_b1, decide_eq_true (show (i : Int) < (L.length : Int) by omega), cond_true, ix_nat, ha, Option.bind_some, Int.toNat_natCast, List.set_set, List.getElem?_set_self hi, S_impl_Term.f0, S_impl_Term.f1, S_impl_Term.f2, S_impl_Term.f3,
    wrap_nat (show s < 4611686018427387904 by omega), wrap_nat (show s + 1 < 4611686018427387904 by omega), wrap_nat (show s + 1 + 1 < 4611686018427387904 by omega), wrap_succ (show i < 4611686018427387904 by omega), markText_ok n (s + 1 + 1) (by omega) (by omega) (by omega), ih a3 (s + 1 + 1 + 1) (by omega) (by omega) (by omega)]
   rfl) (fun L s hL => by rw [← hL]; simp only [p_laws_markTermS_b1, not_lt_int, cond_false]) (fun a k => mkTerm_ge a k) l [] k n rfl hk hB (Nat.le_refl _) (by omega)
  refine (congrArg (fun q => Option.bind q _) hl).trans ?_
  simp only [Option.bind_some, List.nil_append, mkTermS_acc]
theorem heldTermS_ok : ∀ (n : Nat), n ≤ 1099511627776 → ∀ (l : List S_impl_Term) (k : Nat), 20 + dl wTerm l < n → 0 < k → k + dl wTerm l ≤ 1099511627776 → p_laws_heldTermS n (mkTermS l k).2 (k : Int) = some ((mkTermS l k).1 : Int)
 | 0, _ => fun l k h => by omega
 | n + 1, hn => fun l k h hk hB => by
  have ih := heldTermS_ok n (by omega)
  rw [p_laws_heldTermS_succ]
  unfold s_laws_heldTermS
  have h2 := dl_len wTerm l
  have hlen : (mkTermS l k).2.length = l.length := by rw [mkTermS_acc, mapAcc_len]
  have hl := loop_held (body := p_laws_heldTermS_b1 n (p_laws_heldTermS n) (mkTermS l k).2) (fun k a => mkTerm a k) wTerm (B := 1099511627776) (C := dl wTerm l) (fun a k => mkTerm_le a k) (fun a k => mkTerm_ge a k) (L := (mkTermS l k).2) (out := fun s => .inr ((s : Int), ((mkTermS l k).2.length : Int), false)) (fun s i a ha hs hb hc => by
   have hi := lt_len ha
   obtain ⟨a0, a1, a2, a3⟩ := a
   simp only [wTerm, wTerms_dl] at hb hc
   have hw := dl_len wTerm a3
   have hg := mkTermS_ge a3 (s + 3)
   simp only [mkTerm] at ha ⊢
   simp only [p_laws_heldTermS_b1, lt_int ha, cond_true, ix_nat, ha, Option.bind_some, S_impl_Term.f0, S_impl_Term.f1, S_impl_Term.f2, S_impl_Term.f3, decide_true, Bool.not_true, cond_false,
    wrap_nat (show s < 4611686018427387904 by omega), wrap_nat (show s + 1 < 4611686018427387904 by omega), wrap_nat (show s + 1 + 1 < 4611686018427387904 by omega), wrap_succ (show i < 4611686018427387904 by omega), markText_ok n (s + 1 + 1) (by omega) (by omega) (by omega), ih a3 (s + 3) (by omega) (by omega) (by omega),
    decide_eq_false (show ¬ ((mkTermS a3 (s + 3)).1 : Int) < 0 by omega)]) (fun s => by simp only [p_laws_heldTermS_b1, not_lt_int, cond_false]) l [] k n (by rw [List.nil_append, mkTermS_acc]) hk hB (Nat.le_refl _) (by omega)
  refine (congrArg (fun q => Option.bind q _) hl).trans ?_
  simp only [Option.bind_some, mkTermS_acc]
theorem leTermS (l : List S_impl_Term) (k : Nat) : (mkTermS l k).1 ≤ k + dl wTerm l := by have := mkTermS_le l k; rw [wTerms_dl] at this; exact this
theorem geTermS (l : List S_impl_Term) (k : Nat) : k ≤ (mkTermS l k).1 := mkTermS_ge l k

mutual
def mkExpr : S_impl_Expr → Nat → Nat × S_impl_Expr
 | .mk _ _ _ l c, k => ((mkClauseS c (mkExprS l (k + 1 + 1 + 1)).1).1, .mk (k : Int) ((k + 1 : Nat) : Int) (mtxt (k + 1 + 1)) (mkExprS l (k + 1 + 1 + 1)).2 (mkClauseS c (mkExprS l (k + 1 + 1 + 1)).1).2)
def mkExprS : List S_impl_Expr → Nat → Nat × List S_impl_Expr
 | [], k => (k, [])
 | a :: r, k => ((mkExprS r (mkExpr a k).1).1, (mkExpr a k).2 :: (mkExprS r (mkExpr a k).1).2)
def mkClauseS : List S_impl_Clause → Nat → Nat × List S_impl_Clause
 | [], k => (k, [])
 | a :: r, k => ((mkClauseS r (mkClause a k).1).1, (mkClause a k).2 :: (mkClauseS r (mkClause a k).1).2)
def mkClause : S_impl_Clause → Nat → Nat × S_impl_Clause
 | .two p x, k => ((mkExpr x (mkExpr p k).1).1, .two (mkExpr p k).2 (mkExpr x (mkExpr p k).1).2)
end
theorem mkExprS_acc : ∀ (l : List S_impl_Expr) (k : Nat), mkExprS l k = mapAcc (fun k a => mkExpr a k) k l
 | [], k => rfl
 | a :: r, k => by simp only [mkExprS, mapAcc, mkExprS_acc r]
theorem mkClauseS_acc : ∀ (l : List S_impl_Clause) (k : Nat), mkClauseS l k = mapAcc (fun k a => mkClause a k) k l
 | [], k => rfl
 | a :: r, k => by simp only [mkClauseS, mapAcc, mkClauseS_acc r]
mutual
theorem mkExpr_le : ∀ (a : S_impl_Expr) (k : Nat), (mkExpr a k).1 ≤ k + wExpr a
 | .mk _ _ s l c, k => by have := mkExprS_le l (k + 1 + 1 + 1); have := mkClauseS_le c (mkExprS l (k + 1 + 1 + 1)).1; simp only [mkExpr, wExpr]; omega
theorem mkExprS_le : ∀ (l : List S_impl_Expr) (k : Nat), (mkExprS l k).1 ≤ k + wExprs l
 | [], k => by simp [mkExprS]
 | a :: r, k => by have := mkExpr_le a k; have := mkExprS_le r (mkExpr a k).1; simp only [mkExprS, wExprs]; omega
theorem mkClauseS_le : ∀ (l : List S_impl_Clause) (k : Nat), (mkClauseS l k).1 ≤ k + wClauses l
 | [], k => by simp [mkClauseS]
 | a :: r, k => by have := mkClause_le a k; have := mkClauseS_le r (mkClause a k).1; simp only [mkClauseS, wClauses]; omega
theorem mkClause_le : ∀ (a : S_impl_Clause) (k : Nat), (mkClause a k).1 ≤ k + wClause a
 | .two p x, k => by have := mkExpr_le p k; have := mkExpr_le x (mkExpr p k).1; simp only [mkClause, wClause]; omega
end
mutual
theorem mkExpr_ge : ∀ (a : S_impl_Expr) (k : Nat), k ≤ (mkExpr a k).1
 | .mk _ _ s l c, k => by have := mkExprS_ge l (k + 1 + 1 + 1); have := mkClauseS_ge c (mkExprS l (k + 1 + 1 + 1)).1; simp only [mkExpr]; omega
theorem mkExprS_ge : ∀ (l : List S_impl_Expr) (k : Nat), k ≤ (mkExprS l k).1
 | [], k => by simp [mkExprS]
 | a :: r, k => by have := mkExpr_ge a k; have := mkExprS_ge r (mkExpr a k).1; simp only [mkExprS]; omega
theorem mkClauseS_ge : ∀ (l : List S_impl_Clause) (k : Nat), k ≤ (mkClauseS l k).1
 | [], k => by simp [mkClauseS]
 | a :: r, k => by have := mkClause_ge a k; have := mkClauseS_ge r (mkClause a k).1; simp only [mkClauseS]; omega
theorem mkClause_ge : ∀ (a : S_impl_Clause) (k : Nat), k ≤ (mkClause a k).1
 | .two p x, k => by have := mkExpr_ge p k; have := mkExpr_ge x (mkExpr p k).1; simp only [mkClause]; omega
end
theorem leExprS (l : List S_impl_Expr) (k : Nat) : (mkExprS l k).1 ≤ k + dl wExpr l := by have := mkExprS_le l k; rw [wExprs_dl] at this; exact this
theorem leClauseS (l : List S_impl_Clause) (k : Nat) : (mkClauseS l k).1 ≤ k + dl wClause l := by have := mkClauseS_le l k; rw [wClauses_dl] at this; exact this
theorem geExprS (l : List S_impl_Expr) (k : Nat) : k ≤ (mkExprS l k).1 := mkExprS_ge l k
theorem geClauseS (l : List S_impl_Clause) (k : Nat) : k ≤ (mkClauseS l k).1 := mkClauseS_ge l k
theorem mkClause_mk (a0 a1 : Int) (a2 : List UInt8) (a3 : List S_impl_Expr) (a4 : List S_impl_Clause) (a5 a6 : Int) (a7 : List UInt8) (a8 : List S_impl_Expr) (a9 : List S_impl_Clause) (k : Nat) : mkClause (.mk a0 a1 a2 a3 a4 a5 a6 a7 a8 a9) k =
  ((mkClauseS a9 (mkExprS a8 ((mkClauseS a4 (mkExprS a3 (k + 1 + 1 + 1)).1).1 + 1 + 1 + 1)).1).1,
   .mk (k : Int) ((k + 1 : Nat) : Int) (mtxt (k + 1 + 1)) (mkExprS a3 (k + 1 + 1 + 1)).2 (mkClauseS a4 (mkExprS a3 (k + 1 + 1 + 1)).1).2
    (((mkClauseS a4 (mkExprS a3 (k + 1 + 1 + 1)).1).1 : Nat) : Int) (((mkClauseS a4 (mkExprS a3 (k + 1 + 1 + 1)).1).1 + 1 : Nat) : Int) (mtxt ((mkClauseS a4 (mkExprS a3 (k + 1 + 1 + 1)).1).1 + 1 + 1))
    (mkExprS a8 ((mkClauseS a4 (mkExprS a3 (k + 1 + 1 + 1)).1).1 + 1 + 1 + 1)).2 (mkClauseS a9 (mkExprS a8 ((mkClauseS a4 (mkExprS a3 (k + 1 + 1 + 1)).1).1 + 1 + 1 + 1)).1).2) := by
 unfold S_impl_Clause.mk
 simp only [mkClause, mkExpr]
theorem Clause_f0 {a0 a1 : Int} {a2 : List UInt8} {a3 : List S_impl_Expr} {a4 : List S_impl_Clause} {a5 a6 : Int} {a7 : List UInt8} {a8 : List S_impl_Expr} {a9 : List S_impl_Clause} : (S_impl_Clause.mk a0 a1 a2 a3 a4 a5 a6 a7 a8 a9).f0 = a0 := rfl
theorem Clause_f1 {a0 a1 : Int} {a2 : List UInt8} {a3 : List S_impl_Expr} {a4 : List S_impl_Clause} {a5 a6 : Int} {a7 : List UInt8} {a8 : List S_impl_Expr} {a9 : List S_impl_Clause} : (S_impl_Clause.mk a0 a1 a2 a3 a4 a5 a6 a7 a8 a9).f1 = a1 := rfl
theorem Clause_f2 {a0 a1 : Int} {a2 : List UInt8} {a3 : List S_impl_Expr} {a4 : List S_impl_Clause} {a5 a6 : Int} {a7 : List UInt8} {a8 : List S_impl_Expr} {a9 : List S_impl_Clause} : (S_impl_Clause.mk a0 a1 a2 a3 a4 a5 a6 a7 a8 a9).f2 = a2 := rfl
theorem Clause_f3 {a0 a1 : Int} {a2 : List UInt8} {a3 : List S_impl_Expr} {a4 : List S_impl_Clause} {a5 a6 : Int} {a7 : List UInt8} {a8 : List S_impl_Expr} {a9 : List S_impl_Clause} : (S_impl_Clause.mk a0 a1 a2 a3 a4 a5 a6 a7 a8 a9).f3 = a3 := rfl
theorem Clause_f4 {a0 a1 : Int} {a2 : List UInt8} {a3 : List S_impl_Expr} {a4 : List S_impl_Clause} {a5 a6 : Int} {a7 : List UInt8} {a8 : List S_impl_Expr} {a9 : List S_impl_Clause} : (S_impl_Clause.mk a0 a1 a2 a3 a4 a5 a6 a7 a8 a9).f4 = a4 := rfl
theorem Clause_f5 {a0 a1 : Int} {a2 : List UInt8} {a3 : List S_impl_Expr} {a4 : List S_impl_Clause} {a5 a6 : Int} {a7 : List UInt8} {a8 : List S_impl_Expr} {a9 : List S_impl_Clause} : (S_impl_Clause.mk a0 a1 a2 a3 a4 a5 a6 a7 a8 a9).f5 = a5 := rfl
theorem Clause_f6 {a0 a1 : Int} {a2 : List UInt8} {a3 : List S_impl_Expr} {a4 : List S_impl_Clause} {a5 a6 : Int} {a7 : List UInt8} {a8 : List S_impl_Expr} {a9 : List S_impl_Clause} : (S_impl_Clause.mk a0 a1 a2 a3 a4 a5 a6 a7 a8 a9).f6 = a6 := rfl
theorem Clause_f7 {a0 a1 : Int} {a2 : List UInt8} {a3 : List S_impl_Expr} {a4 : List S_impl_Clause} {a5 a6 : Int} {a7 : List UInt8} {a8 : List S_impl_Expr} {a9 : List S_impl_Clause} : (S_impl_Clause.mk a0 a1 a2 a3 a4 a5 a6 a7 a8 a9).f7 = a7 := rfl
theorem Clause_f8 {a0 a1 : Int} {a2 : List UInt8} {a3 : List S_impl_Expr} {a4 : List S_impl_Clause} {a5 a6 : Int} {a7 : List UInt8} {a8 : List S_impl_Expr} {a9 : List S_impl_Clause} : (S_impl_Clause.mk a0 a1 a2 a3 a4 a5 a6 a7 a8 a9).f8 = a8 := rfl
theorem Clause_f9 {a0 a1 : Int} {a2 : List UInt8} {a3 : List S_impl_Expr} {a4 : List S_impl_Clause} {a5 a6 : Int} {a7 : List UInt8} {a8 : List S_impl_Expr} {a9 : List S_impl_Clause} : (S_impl_Clause.mk a0 a1 a2 a3 a4 a5 a6 a7 a8 a9).f9 = a9 := rfl
theorem markExpr_oks : ∀ (n : Nat), n ≤ 1099511627776 → (∀ (l : List S_impl_Expr) (k : Nat), 20 + dl wExpr l < n → 0 < k → k + dl wExpr l ≤ 1099511627776 → p_laws_markExprS n l (k : Int) = some (((mkExprS l k).1 : Int), (mkExprS l k).2)) ∧ (∀ (l : List S_impl_Clause) (k : Nat), 20 + dl wClause l < n → 0 < k → k + dl wClause l ≤ 1099511627776 → p_laws_markClauseS n l (k : Int) = some (((mkClauseS l k).1 : Int), (mkClauseS l k).2))
 | 0, _ => ⟨fun l k h => by omega, fun l k h => by omega⟩
 | n + 1, hn => by
  obtain ⟨ih1, ih2⟩ := markExpr_oks n (by omega)
  refine ⟨fun l k h hk hB => ?_, fun l k h hk hB => ?_⟩
  ·rw [p_laws_markExprS_succ]
   unfold s_laws_markExprS
   have h2 := dl_len wExpr l
   have hl := loop_mark (body := p_laws_markExprS_b1 n (p_laws_markClauseS n) (p_laws_markExprS n)) (fun k a => mkExpr a k) wExpr (B := 1099511627776) (C := dl wExpr l) (fun a k => mkExpr_le a k) (len := l.length) (fun L s i a hL ha hs hb hc => by
    have hi := lt_len ha
    obtain ⟨a0, a1, a2, a3, a4⟩ := a
    simp only [wExpr, wExprs_dl, wClauses_dl] at hb hc
    have q1 := leExprS a3 (s + 1 + 1 + 1)
    have r1 := geExprS a3 (s + 1 + 1 + 1)
    have m1 := ih1 a3 (s + 1 + 1 + 1) (by omega) (by omega) (by omega)
    simp only [mkExpr]
    generalize mkExprS a3 (s + 1 + 1 + 1) = t1 at *
    obtain ⟨u1, b1⟩ := t1
    simp only at q1 r1 m1 ⊢
    have m2 := ih2 a4 u1 (by omega) (by omega) (by omega)
    generalize mkClauseS a4 u1 = t2 at *
    simp only [p_laws_markExprS_b1, decide_eq_true (show (i : Int) < (L.length : Int) by omega), cond_true, ix_nat, ha, Option.bind_some, Int.toNat_natCast, List.set_set, List.getElem?_set_self hi, S_impl_Expr.f0, S_impl_Expr.f1, S_impl_Expr.f2, S_impl_Expr.f3, S_impl_Expr.f4,
     wrap_nat (show s < 4611686018427387904 by omega), wrap_nat (show s + 1 < 4611686018427387904 by omega), wrap_nat (show s + 1 + 1 < 4611686018427387904 by omega), wrap_succ (show i < 4611686018427387904 by omega), markText_ok n (s + 1 + 1) (by omega) (by omega) (by omega), m1, m2]) (fun L s hL => by rw [← hL]; simp only [p_laws_markExprS_b1, not_lt_int, cond_false]) (fun a k => mkExpr_ge a k) l [] k n rfl hk hB (Nat.le_refl _) (by omega)
   refine (congrArg (fun q => Option.bind q _) hl).trans ?_
   simp only [Option.bind_some, List.nil_append, mkExprS_acc]
  ·rw [p_laws_markClauseS_succ]
   unfold s_laws_markClauseS
   have h2 := dl_len wClause l
   have hl := loop_mark (body := p_laws_markClauseS_b1 n (p_laws_markClauseS n) (p_laws_markExprS n)) (fun k a => mkClause a k) wClause (B := 1099511627776) (C := dl wClause l) (fun a k => mkClause_le a k) (len := l.length) (fun L s i a hL ha hs hb hc => by
    have hi := lt_len ha
    obtain ⟨a0, a1, a2, a3, a4, a5, a6, a7, a8, a9, rfl⟩ : ∃ a0 a1 a2 a3 a4 a5 a6 a7 a8 a9, a = S_impl_Clause.mk a0 a1 a2 a3 a4 a5 a6 a7 a8 a9 := ⟨_, _, _, _, _, _, _, _, _, _, (S_impl_Clause_eta a).symm⟩
    have e : wClause (.mk a0 a1 a2 a3 a4 a5 a6 a7 a8 a9) = 3 + (3 + a2.length + wExprs a3 + wClauses a4) + (3 + a7.length + wExprs a8 + wClauses a9) := by
     unfold S_impl_Clause.mk
     simp only [wClause, wExpr]
    rw [wExprs_dl, wClauses_dl, wExprs_dl, wClauses_dl] at e
    rw [e] at hb hc
    simp only [mkClause_mk]
    have q1 := leExprS a3 (s + 1 + 1 + 1)
    have r1 := geExprS a3 (s + 1 + 1 + 1)
    have m1 := ih1 a3 (s + 1 + 1 + 1) (by omega) (by omega) (by omega)
    generalize mkExprS a3 (s + 1 + 1 + 1) = t1 at *
    obtain ⟨u1, b1⟩ := t1
    simp only at q1 r1 m1 ⊢
    have q2 := leClauseS a4 u1
    have r2 := geClauseS a4 u1
    have m2 := ih2 a4 u1 (by omega) (by omega) (by omega)
    generalize mkClauseS a4 u1 = t2 at *
    obtain ⟨u2, b2⟩ := t2
    simp only at q2 r2 m2 ⊢
    have q3 := leExprS a8 (u2 + 1 + 1 + 1)
    have r3 := geExprS a8 (u2 + 1 + 1 + 1)
    have m3 := ih1 a8 (u2 + 1 + 1 + 1) (by omega) (by omega) (by omega)
    generalize mkExprS a8 (u2 + 1 + 1 + 1) = t3 at *
    obtain ⟨u3, b3⟩ := t3
    simp only at q3 r3 m3 ⊢
    have m4 := ih2 a9 u3 (by omega) (by omega) (by omega)
    generalize mkClauseS a9 u3 = t4 at *
    simp only [p_laws_markClauseS_b1, decide_eq_true (show (i : Int) < (L.length : Int) by omega), cond_true, ix_nat, ha, Option.bind_some, Int.toNat_natCast, List.set_set, List.getElem?_set_self hi, Clause_f0, Clause_f1, Clause_f2, Clause_f3, Clause_f4, Clause_f5, Clause_f6, Clause_f7, Clause_f8, Clause_f9,
     wrap_nat (show s < 4611686018427387904 by omega), wrap_nat (show s + 1 < 4611686018427387904 by omega), wrap_nat (show s + 1 + 1 < 4611686018427387904 by omega), wrap_succ (show i < 4611686018427387904 by omega), markText_ok n (s + 1 + 1) (by omega) (by omega) (by omega), m1, m2, m3, m4,
     wrap_nat (show u2 < 4611686018427387904 by omega), wrap_nat (show u2 + 1 < 4611686018427387904 by omega), wrap_nat (show u2 + 1 + 1 < 4611686018427387904 by omega), markText_ok n (u2 + 1 + 1) (by omega) (by omega) (by omega)]) (fun L s hL => by rw [← hL]; simp only [p_laws_markClauseS_b1, not_lt_int, cond_false]) (fun a k => mkClause_ge a k) l [] k n rfl hk hB (Nat.le_refl _) (by omega)
   refine (congrArg (fun q => Option.bind q _) hl).trans ?_
   simp only [Option.bind_some, List.nil_append, mkClauseS_acc]
theorem markExprS_ok (n : Nat) (hn : n ≤ 1099511627776) (l : List S_impl_Expr) (k : Nat) (h : 20 + dl wExpr l < n) (hk : 0 < k) (hB : k + dl wExpr l ≤ 1099511627776) : p_laws_markExprS n l (k : Int) = some (((mkExprS l k).1 : Int), (mkExprS l k).2) := (markExpr_oks n hn).1 l k h hk hB
theorem markClauseS_ok (n : Nat) (hn : n ≤ 1099511627776) (l : List S_impl_Clause) (k : Nat) (h : 20 + dl wClause l < n) (hk : 0 < k) (hB : k + dl wClause l ≤ 1099511627776) : p_laws_markClauseS n l (k : Int) = some (((mkClauseS l k).1 : Int), (mkClauseS l k).2) := (markExpr_oks n hn).2 l k h hk hB

def mkBind (k : Nat) : S_impl_Bind → Nat × S_impl_Bind
 | .mk a0 a1 a2 a3 a4 => ((mkTermS a4 (k + 1 + 1 + 1 + 1)).1, .mk (mtxt (k)) (((k + 1 : Nat) : Int)) (((k + 1 + 1 : Nat) : Int)) (mtxt (k + 1 + 1 + 1)) ((mkTermS a4 (k + 1 + 1 + 1 + 1)).2))
theorem mkBind_le (a : S_impl_Bind) (k : Nat) : (mkBind k a).1 ≤ k + wBind a := by
 obtain ⟨a0, a1, a2, a3, a4⟩ := a
 have := leTermS a4 (k + 1 + 1 + 1 + 1)
 have e : wBind (.mk a0 a1 a2 a3 a4) = (3 + a0.length + (3 + a3.length + wTerms a4)) := rfl
 rw [wTerms_dl] at e
 show (mkTermS a4 (k + 1 + 1 + 1 + 1)).1 ≤ k + wBind (.mk a0 a1 a2 a3 a4)
 omega
theorem mkBind_ge (a : S_impl_Bind) (k : Nat) : k ≤ (mkBind k a).1 := by
 obtain ⟨a0, a1, a2, a3, a4⟩ := a
 have := geTermS a4 (k + 1 + 1 + 1 + 1)
 show k ≤ (mkTermS a4 (k + 1 + 1 + 1 + 1)).1
 omega
def mkBindS (l : List S_impl_Bind) (k : Nat) : Nat × List S_impl_Bind := mapAcc mkBind k l
theorem leBindS (l : List S_impl_Bind) (k : Nat) : (mkBindS l k).1 ≤ k + dl wBind l := mapAcc_le (fun a _ k => mkBind_le a k) k
theorem geBindS (l : List S_impl_Bind) (k : Nat) : k ≤ (mkBindS l k).1 := mapAcc_ge (fun a _ k => mkBind_ge a k) k
theorem markBindS_ok (n : Nat) (hn : n ≤ 1099511627776) (l : List S_impl_Bind) (k : Nat) (h : 20 + dl wBind l < n) (hk : 0 < k) (hB : k + dl wBind l ≤ 1099511627776) : p_laws_markBindS n l (k : Int) = some (((mkBindS l k).1 : Int), (mkBindS l k).2) := by
 unfold p_laws_markBindS
 have h2 := dl_len wBind l
 have hl := loop_mark (body := p_laws_markBindS_b1 n) mkBind wBind (B := 1099511627776) (C := dl wBind l) (fun a k => mkBind_le a k) (len := l.length) (fun L s i a hL ha hs hb hc => by
  have hi := lt_len ha
  obtain ⟨a0, a1, a2, a3, a4⟩ := a
  have e : wBind (.mk a0 a1 a2 a3 a4) = (3 + a0.length + (3 + a3.length + wTerms a4)) := rfl
  rw [wTerms_dl] at e
  rw [e] at hb hc
  have g : mkBind s (.mk a0 a1 a2 a3 a4) = ((mkTermS a4 (s + 1 + 1 + 1 + 1)).1, .mk (mtxt (s)) (((s + 1 : Nat) : Int)) (((s + 1 + 1 : Nat) : Int)) (mtxt (s + 1 + 1 + 1)) ((mkTermS a4 (s + 1 + 1 + 1 + 1)).2)) := rfl
  rw [g]
  have q1 := leTermS a4 (s + 1 + 1 + 1 + 1)
  have r1 := geTermS a4 (s + 1 + 1 + 1 + 1)
  have m1 := markTermS_ok n hn a4 (s + 1 + 1 + 1 + 1) (by omega) (by omega) (by omega)
  generalize mkTermS a4 (s + 1 + 1 + 1 + 1) = t1 at *
  obtain ⟨u1, b1⟩ := t1
  simp only at q1 r1 m1 ⊢
  simp only [p_laws_markBindS_b1, decide_eq_true (show (i : Int) < (L.length : Int) by omega), cond_true, ix_nat, ha, Option.bind_some, Int.toNat_natCast, List.set_set, List.getElem?_set_self hi, wrap_succ (show i < 4611686018427387904 by omega), wrap_nat (show s < 4611686018427387904 by omega), wrap_nat (show s + 1 < 4611686018427387904 by omega), wrap_nat (show s + 1 + 1 < 4611686018427387904 by omega), wrap_nat (show s + 1 + 1 + 1 < 4611686018427387904 by omega), markText_ok n (s) (by omega) (by omega) (by omega), markText_ok n (s + 1 + 1 + 1) (by omega) (by omega) (by omega), m1]) (fun L s hL => by rw [← hL]; simp only [p_laws_markBindS_b1, not_lt_int, cond_false]) (fun a k => mkBind_ge a k) l [] k n rfl hk hB (Nat.le_refl _) (by omega)
 refine (congrArg (fun q => Option.bind q _) hl).trans ?_
 simp only [Option.bind_some, List.nil_append]
 rfl
theorem heldBindS_ok (n : Nat) (hn : n ≤ 1099511627776) (l : List S_impl_Bind) (k : Nat) (h : 20 + dl wBind l < n) (hk : 0 < k) (hB : k + dl wBind l ≤ 1099511627776) : p_laws_heldBindS n (mkBindS l k).2 (k : Int) = some ((mkBindS l k).1 : Int) := by
 unfold p_laws_heldBindS
 have h2 := dl_len wBind l
 have hl := loop_held (body := p_laws_heldBindS_b1 n (mkBindS l k).2) mkBind wBind (B := 1099511627776) (C := dl wBind l) (fun a k => mkBind_le a k) (fun a k => mkBind_ge a k) (L := (mkBindS l k).2) (out := fun s => .inr ((s : Int), ((mkBindS l k).2.length : Int), false)) (fun s i a ha hs hb hc => by
  have hi := lt_len ha
  have hll : (mkBindS l k).2.length = l.length := mapAcc_len mkBind l k
  obtain ⟨a0, a1, a2, a3, a4⟩ := a
  have e : wBind (.mk a0 a1 a2 a3 a4) = (3 + a0.length + (3 + a3.length + wTerms a4)) := rfl
  rw [wTerms_dl] at e
  rw [e] at hb hc
  have g : mkBind s (.mk a0 a1 a2 a3 a4) = ((mkTermS a4 (s + 1 + 1 + 1 + 1)).1, .mk (mtxt (s)) (((s + 1 : Nat) : Int)) (((s + 1 + 1 : Nat) : Int)) (mtxt (s + 1 + 1 + 1)) ((mkTermS a4 (s + 1 + 1 + 1 + 1)).2)) := rfl
  rw [g] at ha ⊢
  have q1 := leTermS a4 (s + 1 + 1 + 1 + 1)
  have r1 := geTermS a4 (s + 1 + 1 + 1 + 1)
  have m1 := heldTermS_ok n hn a4 (s + 1 + 1 + 1 + 1) (by omega) (by omega) (by omega)
  generalize mkTermS a4 (s + 1 + 1 + 1 + 1) = t1 at *
  obtain ⟨u1, b1⟩ := t1
  simp only at q1 r1 m1 ha ⊢
  simp only [p_laws_heldBindS_b1, lt_int ha, cond_true, ix_nat, ha, Option.bind_some, decide_true, Bool.not_true, cond_false, wrap_succ (show i < 4611686018427387904 by omega), wrap_nat (show s < 4611686018427387904 by omega), wrap_nat (show s + 1 < 4611686018427387904 by omega), wrap_nat (show s + 1 + 1 < 4611686018427387904 by omega), wrap_nat (show s + 1 + 1 + 1 < 4611686018427387904 by omega), markText_ok n (s) (by omega) (by omega) (by omega), markText_ok n (s + 1 + 1 + 1) (by omega) (by omega) (by omega), m1, decide_eq_false (show ¬ (u1 : Int) < 0 by omega)]) (fun s => by simp only [p_laws_heldBindS_b1, not_lt_int, cond_false]) l [] k n rfl hk hB (Nat.le_refl _) (by omega)
 refine (congrArg (fun q => Option.bind q _) hl).trans ?_
 simp only [Option.bind_some]
 rfl
end Go.Own.Q
