/- Sizes, copies, equality of the types, in plain Lean. No conditions. -/
import Derived.Test.YtgeomhdbckjkcaaW15Kit
set_option linter.unusedVariables false
set_option linter.unusedSimpArgs false
set_option linter.unnecessarySimpa false
namespace Go.Own.Q
open Go Go.Proofs
theorem szStringS_ok (n : Nat) (l : List (List UInt8)) (left : Int) (h : dl List.length l < n) (hl : l.length ≤ maxLen) (ho : ∀ a ∈ l, a.length ≤ maxLen) (h0 : 0 ≤ left) (h1 : left ≤ 1048576) : p_laws_szStringS n l left = some (if (zl List.length l : Int) ≤ left then left - zl List.length l else -1) := by
  unfold p_laws_szStringS
  have h2 := dl_len List.length l
  have ez : zl List.length l = l.length + sumz List.length l := rfl
  rw [ez, sub_ok hl h0 h1]
  by_cases c : left - (l.length : Int) < 0
  · rw [decide_eq_true c, cond_true, if_neg (by omega)]
  rw [decide_eq_false c, cond_false]
  rw [loop_sz l List.length (fun i a t ha t0 t1 => by
    have hm := List.mem_of_getElem? ha
    have hi := lt_len ha
    simp only [p_laws_szStringS_b1, lt_int ha, cond_true, ix_nat, ha, Option.bind_some, wrap_succ (show i < 4611686018427387904 by simp only [maxLen] at hl; omega)]
    rw [sub_ok (ho a hm) t0 t1]
    by_cases c2 : (a.length : Int) ≤ t
    · rw [if_pos c2, decide_eq_false (by omega), cond_false]
    · rw [if_neg c2, decide_eq_true (by omega), cond_true]) (fun t => by simp only [p_laws_szStringS_b1, not_lt_int, cond_false]) (by omega) (by omega) (by omega)]
  by_cases c2 : (sumz List.length l : Int) ≤ left - l.length
  · rw [if_pos c2, if_pos (by omega)]
    simp only [Option.bind_some, Option.some.injEq]; omega
  · rw [if_neg c2, if_neg (by omega)]; rfl
theorem toStringS_ok (n : Nat) (l : List (List UInt8)) (h : dl List.length l < n) (hz : zl List.length l ≤ 1048576) : p_laws_toStringS n l = some l := by
  unfold p_laws_toStringS
  have h2 := dl_len List.length l
  have ez : zl List.length l = l.length + sumz List.length l := rfl
  have hc : decide (0 ≤ (l.length : Int) ∧ (l.length : Int) ≤ maxLen ∧ 16 * (l.length : Int) ≤ 281474976710656) = true := decide_eq_true ⟨by omega, by simp only [maxLen]; omega, by omega⟩
  rw [hc]
  simp only [ck, cond_true, Option.bind_some, Int.toNat_natCast]
  rw [loop_to l id _ (fun i a o b ha hb => by
    have hi := lt_len ha
    simp only [p_laws_toStringS_b1, lt_int ha, cond_true, ix_nat, ha, hb, Option.bind_some, wrap_succ (show i < 4611686018427387904 by omega), Int.toNat_natCast, id]) (fun o => by simp only [p_laws_toStringS_b1, not_lt_int, cond_false]) (by omega)]
  simp
theorem eqStringS_ok (n : Nat) (l : List (List UInt8)) (h : dl List.length l < n) (hn : n ≤ 4611686018427387904) : p_laws_eqStringS n l l = some true := by
  unfold p_laws_eqStringS
  have h2 := dl_len List.length l
  simp only [decide_true, Bool.not_true, cond_false]
  rw [loop_eq l (fun i a ha => by
    have hi := lt_len ha
    simp only [p_laws_eqStringS_b1, lt_int ha, cond_true, ix_nat, ha, Option.bind_some, decide_true, Bool.not_true, cond_false, wrap_succ (show i < 4611686018427387904 by omega)]) (by simp only [p_laws_eqStringS_b1, not_lt_int, cond_false]) (by omega)]
  rfl
theorem S_laws_Expr_eta (a : S_laws_Expr) : S_laws_Expr.mk a.f0 a.f1 a.f2 a.f3 a.f4 = a := by cases a; rfl
theorem S_impl_Expr_eta (a : S_impl_Expr) : S_impl_Expr.mk a.f0 a.f1 a.f2 a.f3 a.f4 = a := by cases a; rfl
theorem S_laws_Clause_eta (a : S_laws_Clause) : S_laws_Clause.mk a.f0 a.f1 a.f2 a.f3 a.f4 a.f5 a.f6 a.f7 a.f8 a.f9 = a := by
  obtain ⟨p, x⟩ := a; cases p; cases x; rfl
theorem S_impl_Clause_eta (a : S_impl_Clause) : S_impl_Clause.mk a.f0 a.f1 a.f2 a.f3 a.f4 a.f5 a.f6 a.f7 a.f8 a.f9 = a := by
  obtain ⟨p, x⟩ := a; cases p; cases x; rfl
mutual
def zExpr : S_laws_Expr → Nat
  | .mk _ _ s l c => s.length + zExprs l + zClauses c
def zExprs : List S_laws_Expr → Nat
  | [] => 0
  | x :: r => 1 + zExpr x + zExprs r
def zClauses : List S_laws_Clause → Nat
  | [] => 0
  | x :: r => 1 + zClause x + zClauses r
def zClause : S_laws_Clause → Nat
  | .two p x => zExpr p + zExpr x
end
mutual
def dExpr : S_laws_Expr → Nat
  | .mk _ _ s l c => 3 + s.length + dExprs l + dClauses c
def dExprs : List S_laws_Expr → Nat
  | [] => 1
  | x :: r => 1 + dExpr x + dExprs r
def dClauses : List S_laws_Clause → Nat
  | [] => 1
  | x :: r => 1 + dClause x + dClauses r
def dClause : S_laws_Clause → Nat
  | .two p x => 3 + dExpr p + dExpr x
end
mutual
def wExpr : S_impl_Expr → Nat
  | .mk _ _ s l c => 3 + s.length + wExprs l + wClauses c
def wExprs : List S_impl_Expr → Nat
  | [] => 1
  | x :: r => 1 + wExpr x + wExprs r
def wClauses : List S_impl_Clause → Nat
  | [] => 1
  | x :: r => 1 + wClause x + wClauses r
def wClause : S_impl_Clause → Nat
  | .two p x => 3 + wExpr p + wExpr x
end
mutual
def cExpr : S_laws_Expr → S_impl_Expr
  | .mk a b s l c => .mk a b s (cExprs l) (cClauses c)
def cExprs : List S_laws_Expr → List S_impl_Expr
  | [] => []
  | x :: r => cExpr x :: cExprs r
def cClauses : List S_laws_Clause → List S_impl_Clause
  | [] => []
  | x :: r => cClause x :: cClauses r
def cClause : S_laws_Clause → S_impl_Clause
  | .two p x => .two (cExpr p) (cExpr x)
end
mutual
def okExpr : S_laws_Expr → Prop
  | .mk a b s l c => (IntKind.i64.min ≤ a ∧ a ≤ IntKind.i64.max) ∧ (IntKind.i64.min ≤ b ∧ b ≤ IntKind.i64.max) ∧ s.length ≤ maxLen ∧ (l.length ≤ maxLen ∧ okExprs l) ∧ (c.length ≤ maxLen ∧ okClauses c)
def okExprs : List S_laws_Expr → Prop
  | [] => True
  | x :: r => okExpr x ∧ okExprs r
def okClauses : List S_laws_Clause → Prop
  | [] => True
  | x :: r => okClause x ∧ okClauses r
def okClause : S_laws_Clause → Prop
  | .two p x => okExpr p ∧ okExpr x
end
theorem zExpr_e (a : S_laws_Expr) : zExpr a = a.f2.length + zExprs a.f3 + zClauses a.f4 := by cases a; simp only [zExpr]; rfl
theorem dExpr_e (a : S_laws_Expr) : dExpr a = 3 + a.f2.length + dExprs a.f3 + dClauses a.f4 := by cases a; simp only [dExpr]; rfl
theorem wExpr_e (a : S_impl_Expr) : wExpr a = 3 + a.f2.length + wExprs a.f3 + wClauses a.f4 := by cases a; simp only [wExpr]; rfl
theorem zClause_e (a : S_laws_Clause) : zClause a = zExpr a.p + zExpr a.x := by obtain ⟨p, x⟩ := a; simp only [zClause]; rfl
theorem dClause_e (a : S_laws_Clause) : dClause a = 3 + dExpr a.p + dExpr a.x := by obtain ⟨p, x⟩ := a; simp only [dClause]; rfl
theorem wClause_e (a : S_impl_Clause) : wClause a = 3 + wExpr a.p + wExpr a.x := by obtain ⟨p, x⟩ := a; simp only [wClause]; rfl
theorem okExpr_e (a : S_laws_Expr) : okExpr a ↔ (IntKind.i64.min ≤ a.f0 ∧ a.f0 ≤ IntKind.i64.max) ∧ (IntKind.i64.min ≤ a.f1 ∧ a.f1 ≤ IntKind.i64.max) ∧ a.f2.length ≤ maxLen ∧ (a.f3.length ≤ maxLen ∧ okExprs a.f3) ∧ (a.f4.length ≤ maxLen ∧ okClauses a.f4) := by cases a; simp only [okExpr]; rfl
theorem okClause_e (a : S_laws_Clause) : okClause a ↔ okExpr a.p ∧ okExpr a.x := by obtain ⟨p, x⟩ := a; simp only [okClause]; rfl
theorem cExpr_mk {a0 a1 : Int} {a2 : List UInt8} {a3 : List S_laws_Expr} {a4 : List S_laws_Clause} : cExpr (.mk a0 a1 a2 a3 a4) = .mk a0 a1 a2 (cExprs a3) (cClauses a4) := by simp only [cExpr]
theorem zExprs_zl : ∀ l, zExprs l = zl zExpr l
  | [] => rfl
  | x :: r => by simp only [zExprs, zl, sumz, zExprs_zl r, List.length_cons]; omega
theorem zClauses_zl : ∀ l : List S_laws_Clause, zClauses l = zl zClause l
  | [] => rfl
  | x :: r => by
    have e := zClauses_zl r
    have e1 : zClauses (x :: r) = 1 + zClause x + zClauses r := by simp only [zClauses]
    have e2 : zl zClause (x :: r) = (x :: r).length + (zClause x + sumz zClause r) := rfl
    have e3 : zl zClause r = r.length + sumz zClause r := rfl
    rw [e1, e2, e, e3, List.length_cons]; omega
theorem dExprs_dl : ∀ l, dExprs l = dl dExpr l
  | [] => rfl
  | x :: r => by simp only [dExprs, dl, dExprs_dl r]
theorem dClauses_dl : ∀ l : List S_laws_Clause, dClauses l = dl dClause l
  | [] => rfl
  | x :: r => by
    have e := dClauses_dl r
    have e1 : dClauses (x :: r) = 1 + dClause x + dClauses r := by simp only [dClauses]
    rw [e1, e]; rfl
theorem wExprs_dl : ∀ l, wExprs l = dl wExpr l
  | [] => rfl
  | x :: r => by simp only [wExprs, dl, wExprs_dl r]
theorem wClauses_dl : ∀ l : List S_impl_Clause, wClauses l = dl wClause l
  | [] => rfl
  | x :: r => by
    have e := wClauses_dl r
    have e1 : wClauses (x :: r) = 1 + wClause x + wClauses r := by simp only [wClauses]
    rw [e1, e]; rfl
theorem cExprs_map : ∀ l, cExprs l = l.map cExpr
  | [] => rfl
  | x :: r => by simp only [cExprs, cExprs_map r, List.map_cons]
def cCl (a : S_laws_Clause) : S_impl_Clause := cClause a
theorem cClauses_map : ∀ l : List S_laws_Clause, cClauses l = l.map cCl
  | [] => rfl
  | x :: r => by
    have e := cClauses_map r
    have e1 : cClauses (x :: r) = cClause x :: cClauses r := by simp only [cClauses]
    rw [e1, e]; rfl
theorem okExprs_iff : ∀ l, okExprs l ↔ ∀ a ∈ l, okExpr a
  | [] => by simp [okExprs]
  | x :: r => by simp [okExprs, okExprs_iff r]
theorem okClauses_iff : ∀ l : List S_laws_Clause, okClauses l ↔ ∀ a ∈ l, okClause a
  | [] => by simp [okClauses]
  | x :: r => by
    have e := okClauses_iff r
    have e1 : okClauses (x :: r) ↔ okClause x ∧ okClauses r := by simp only [okClauses]
    rw [e1, e]
    simp
mutual
theorem wExpr_c : ∀ x, wExpr (cExpr x) = dExpr x
  | .mk a b s l c => by simp only [cExpr, wExpr, dExpr, wExprs_c l, wClauses_c c]
theorem wExprs_c : ∀ l, wExprs (cExprs l) = dExprs l
  | [] => rfl
  | x :: r => by simp only [cExprs, wExprs, dExprs, wExpr_c x, wExprs_c r]
theorem wClauses_c : ∀ l, wClauses (cClauses l) = dClauses l
  | [] => rfl
  | x :: r => by simp only [cClauses, wClauses, dClauses, wClause_c x, wClauses_c r]
theorem wClause_c : ∀ x, wClause (cClause x) = dClause x
  | .two p x => by simp only [cClause, wClause, dClause, wExpr_c p, wExpr_c x]
end
mutual
theorem dExpr_z : ∀ x, dExpr x ≤ 15 * zExpr x + 5
  | .mk a b s l c => by have := dExprs_z l; have := dClauses_z c; simp only [dExpr, zExpr]; omega
theorem dExprs_z : ∀ l, dExprs l ≤ 15 * zExprs l + 1
  | [] => by simp [dExprs]
  | x :: r => by have := dExpr_z x; have := dExprs_z r; simp only [dExprs, zExprs]; omega
theorem dClauses_z : ∀ l, dClauses l ≤ 15 * zClauses l + 1
  | [] => by simp [dClauses]
  | x :: r => by have := dClause_z x; have := dClauses_z r; simp only [dClauses, zClauses]; omega
theorem dClause_z : ∀ x, dClause x ≤ 15 * zClause x + 13
  | .two p x => by have := dExpr_z p; have := dExpr_z x; simp only [dClause, zClause]; omega
end
theorem szExpr_oks : ∀ (n : Nat), (∀ (a : S_laws_Expr) (left : Int), dExpr a < n → okExpr a → 0 ≤ left → left ≤ 1048576 → p_laws_szExpr n a.f0 a.f1 a.f2 a.f3 a.f4 left = some (if (zExpr a : Int) ≤ left then left - zExpr a else -1)) ∧ (∀ (l : List S_laws_Expr) (left : Int), dl dExpr l < n → l.length ≤ maxLen → (∀ a ∈ l, okExpr a) → 0 ≤ left → left ≤ 1048576 → p_laws_szExprS n l left = some (if (zl zExpr l : Int) ≤ left then left - zl zExpr l else -1)) ∧
    (∀ (a : S_laws_Clause) (left : Int), dClause a < n → okClause a → 0 ≤ left → left ≤ 1048576 → p_laws_szClause n a.f0 a.f1 a.f2 a.f3 a.f4 a.f5 a.f6 a.f7 a.f8 a.f9 left = some (if (zClause a : Int) ≤ left then left - zClause a else -1)) ∧ (∀ (l : List S_laws_Clause) (left : Int), dl dClause l < n → l.length ≤ maxLen → (∀ a ∈ l, okClause a) → 0 ≤ left → left ≤ 1048576 → p_laws_szClauseS n l left = some (if (zl zClause l : Int) ≤ left then left - zl zClause l else -1))
  | 0 => ⟨fun a left h => by omega, fun l left h => by omega, fun a left h => by omega, fun l left h => by omega⟩
  | n + 1 => by
    obtain ⟨ih1, ih2, ih3, ih4⟩ := szExpr_oks n
    refine ⟨fun a left h ho h0 h1 => ?_, fun l left h hl ho h0 h1 => ?_, fun a left h ho h0 h1 => ?_, fun l left h hl ho h0 h1 => ?_⟩
    · rw [p_laws_szExpr_succ]
      unfold s_laws_szExpr
      rw [dExpr_e, dExprs_dl, dClauses_dl] at h
      rw [okExpr_e] at ho
      have hz := zExpr_e a
      rw [zExprs_zl, zClauses_zl] at hz
      obtain ⟨_, _, o3, o4, o5⟩ := ho
      rw [sub_ok o3 h0 h1, hz]
      by_cases c : left - (a.f2.length : Int) < 0
      · rw [decide_eq_true c, cond_true, if_neg (by omega)]
      rw [decide_eq_false c, cond_false]
      rw [ih2 a.f3 _ (by omega) o4.1 ((okExprs_iff _).1 o4.2) (by omega) (by omega)]
      by_cases c2 : (zl zExpr a.f3 : Int) ≤ left - a.f2.length
      · rw [if_pos c2, Option.bind_some, decide_eq_false (by omega), cond_false]
        rw [ih4 a.f4 _ (by omega) o5.1 ((okClauses_iff _).1 o5.2) (by omega) (by omega)]
        by_cases c3 : (zl zClause a.f4 : Int) ≤ left - a.f2.length - zl zExpr a.f3
        · rw [if_pos c3, if_pos (by omega), Option.bind_some, decide_eq_false (by omega)]
          simp only [cond_false, Option.some.injEq]; omega
        · rw [if_neg c3, if_neg (by omega)]; rfl
      · rw [if_neg c2, if_neg (by omega)]; rfl
    · rw [p_laws_szExprS_succ]
      unfold s_laws_szExprS
      have h2 := dl_len dExpr l
      have ez : zl zExpr l = l.length + sumz zExpr l := rfl
      rw [ez, sub_ok hl h0 h1]
      by_cases c : left - (l.length : Int) < 0
      · rw [decide_eq_true c, cond_true, if_neg (by omega)]
      rw [decide_eq_false c, cond_false]
      rw [loop_sz l zExpr (fun i a t ha t0 t1 => by
        have hm := List.mem_of_getElem? ha
        have hd := dl_mem dExpr hm
        have hi := lt_len ha
        have e := ih1 a t (by omega) (ho a hm) t0 t1
        simp only [p_laws_szExprS_b1, lt_int ha, cond_true, ix_nat, ha, Option.bind_some, e, wrap_succ (show i < 4611686018427387904 by simp only [maxLen] at hl; omega)]
        by_cases c2 : (zExpr a : Int) ≤ t
        · rw [if_pos c2, if_pos c2, decide_eq_false (by omega)]; rfl
        · rw [if_neg c2, if_neg c2]; rfl) (fun t => by simp only [p_laws_szExprS_b1, not_lt_int, cond_false]) (by omega) (by omega) (by omega)]
      by_cases c2 : (sumz zExpr l : Int) ≤ left - l.length
      · rw [if_pos c2, if_pos (by omega)]
        simp only [Option.bind_some, Option.some.injEq]; omega
      · rw [if_neg c2, if_neg (by omega)]; rfl
    · rw [p_laws_szClause_succ]
      unfold s_laws_szClause
      rw [dClause_e] at h
      rw [okClause_e] at ho
      have hz := zClause_e a
      have e1 : p_laws_szExpr n a.f0 a.f1 a.f2 a.f3 a.f4 left = _ := ih1 a.p left (by omega) ho.1 h0 h1
      rw [e1, hz]
      by_cases c : (zExpr a.p : Int) ≤ left
      · rw [if_pos c, Option.bind_some, decide_eq_false (by omega), cond_false]
        have e2 : p_laws_szExpr n a.f5 a.f6 a.f7 a.f8 a.f9 (left - zExpr a.p) = _ := ih1 a.x _ (by omega) ho.2 (by omega) (by omega)
        rw [e2]
        by_cases c2 : (zExpr a.x : Int) ≤ left - zExpr a.p
        · rw [if_pos c2, if_pos (by omega), Option.bind_some, decide_eq_false (by omega)]
          simp only [cond_false, Option.some.injEq]; omega
        · rw [if_neg c2, if_neg (by omega)]; rfl
      · rw [if_neg c, if_neg (by omega)]; rfl
    · rw [p_laws_szClauseS_succ]
      unfold s_laws_szClauseS
      have h2 := dl_len dClause l
      have ez : zl zClause l = l.length + sumz zClause l := rfl
      rw [ez, sub_ok hl h0 h1]
      by_cases c : left - (l.length : Int) < 0
      · rw [decide_eq_true c, cond_true, if_neg (by omega)]
      rw [decide_eq_false c, cond_false]
      rw [loop_sz l zClause (fun i a t ha t0 t1 => by
        have hm := List.mem_of_getElem? ha
        have hd := dl_mem dClause hm
        have hi := lt_len ha
        have e := ih3 a t (by omega) (ho a hm) t0 t1
        simp only [p_laws_szClauseS_b1, lt_int ha, cond_true, ix_nat, ha, Option.bind_some, e, wrap_succ (show i < 4611686018427387904 by simp only [maxLen] at hl; omega)]
        by_cases c2 : (zClause a : Int) ≤ t
        · rw [if_pos c2, if_pos c2, decide_eq_false (by omega)]; rfl
        · rw [if_neg c2, if_neg c2]; rfl) (fun t => by simp only [p_laws_szClauseS_b1, not_lt_int, cond_false]) (by omega) (by omega) (by omega)]
      by_cases c2 : (sumz zClause l : Int) ≤ left - l.length
      · rw [if_pos c2, if_pos (by omega)]
        simp only [Option.bind_some, Option.some.injEq]; omega
      · rw [if_neg c2, if_neg (by omega)]; rfl
theorem szExpr_ok (n : Nat) {a0 a1 : Int} {a2 : List UInt8} {a3 : List S_laws_Expr} {a4 : List S_laws_Clause} {left : Int} (h : dExpr (.mk a0 a1 a2 a3 a4) < n) (ho : okExpr (.mk a0 a1 a2 a3 a4)) (h0 : 0 ≤ left) (h1 : left ≤ 1048576) : p_laws_szExpr n a0 a1 a2 a3 a4 left = some (if (zExpr (.mk a0 a1 a2 a3 a4) : Int) ≤ left then left - zExpr (.mk a0 a1 a2 a3 a4) else -1) := (szExpr_oks n).1 _ _ h ho h0 h1
theorem toExpr_oks : ∀ (n : Nat), (∀ (a : S_laws_Expr), dExpr a < n → zExpr a ≤ 1048576 → p_laws_toExpr n a.f0 a.f1 a.f2 a.f3 a.f4 = some (a.f0, a.f1, a.f2, cExprs a.f3, cClauses a.f4)) ∧ (∀ (l : List S_laws_Expr), dl dExpr l < n → zl zExpr l ≤ 1048576 → p_laws_toExprS n l = some (cExprs l)) ∧
    (∀ (a : S_laws_Clause), dClause a < n → zClause a ≤ 1048576 → p_laws_toClause n a.f0 a.f1 a.f2 a.f3 a.f4 a.f5 a.f6 a.f7 a.f8 a.f9 = some (a.f0, a.f1, a.f2, cExprs a.f3, cClauses a.f4, a.f5, a.f6, a.f7, cExprs a.f8, cClauses a.f9)) ∧ (∀ (l : List S_laws_Clause), dl dClause l < n → zl zClause l ≤ 1048576 → p_laws_toClauseS n l = some (cClauses l))
  | 0 => ⟨fun a h => by omega, fun l h => by omega, fun a h => by omega, fun l h => by omega⟩
  | n + 1 => by
    obtain ⟨ih1, ih2, ih3, ih4⟩ := toExpr_oks n
    refine ⟨fun a h hz => ?_, fun l h hz => ?_, fun a h hz => ?_, fun l h hz => ?_⟩
    · rw [p_laws_toExpr_succ]
      unfold s_laws_toExpr
      rw [dExpr_e, dExprs_dl, dClauses_dl] at h
      rw [zExpr_e, zExprs_zl, zClauses_zl] at hz
      simp only [ih2 a.f3 (by omega) (by omega), ih4 a.f4 (by omega) (by omega), Option.bind_some]
    · rw [p_laws_toExprS_succ]
      unfold s_laws_toExprS
      have h2 := dl_len dExpr l
      have ez : zl zExpr l = l.length + sumz zExpr l := rfl
      have hc : decide (0 ≤ (l.length : Int) ∧ (l.length : Int) ≤ maxLen ∧ 80 * (l.length : Int) ≤ 281474976710656) = true := decide_eq_true ⟨by omega, by simp only [maxLen]; omega, by omega⟩
      rw [hc]
      simp only [ck, cond_true, Option.bind_some, Int.toNat_natCast]
      rw [loop_to l cExpr _ (fun i a o b ha hb => by
        have hm := List.mem_of_getElem? ha
        have hd := dl_mem dExpr hm
        have hi := lt_len ha
        have hs := sumz_mem zExpr hm
        simp only [p_laws_toExprS_b1, lt_int ha, cond_true, ix_nat, ha, hb, Option.bind_some, ih1 a (by omega) (by omega), wrap_succ (show i < 4611686018427387904 by omega), Int.toNat_natCast, ← cExpr_mk, S_laws_Expr_eta]) (fun o => by simp only [p_laws_toExprS_b1, not_lt_int, cond_false]) (by omega)]
      simp only [Option.bind_some, cExprs_map]
    · rw [p_laws_toClause_succ]
      unfold s_laws_toClause
      rw [dClause_e] at h
      rw [zClause_e] at hz
      have e1 : p_laws_toExpr n a.f0 a.f1 a.f2 a.f3 a.f4 = some (a.f0, a.f1, a.f2, cExprs a.f3, cClauses a.f4) := ih1 a.p (by omega) (by omega)
      have e2 : p_laws_toExpr n a.f5 a.f6 a.f7 a.f8 a.f9 = some (a.f5, a.f6, a.f7, cExprs a.f8, cClauses a.f9) := ih1 a.x (by omega) (by omega)
      simp only [e1, e2, Option.bind_some]
    · rw [p_laws_toClauseS_succ]
      unfold s_laws_toClauseS
      have h2 := dl_len dClause l
      have ez : zl zClause l = l.length + sumz zClause l := rfl
      have hc : decide (0 ≤ (l.length : Int) ∧ (l.length : Int) ≤ maxLen ∧ 160 * (l.length : Int) ≤ 281474976710656) = true := decide_eq_true ⟨by omega, by simp only [maxLen]; omega, by omega⟩
      rw [hc]
      simp only [ck, cond_true, Option.bind_some, Int.toNat_natCast]
      rw [loop_to l cCl _ (fun i a o b ha hb => by
        have hm := List.mem_of_getElem? ha
        have hd := dl_mem dClause hm
        have hi := lt_len ha
        have hs := sumz_mem zClause hm
        have hcl : S_impl_Clause.mk a.f0 a.f1 a.f2 (cExprs a.f3) (cClauses a.f4) a.f5 a.f6 a.f7 (cExprs a.f8) (cClauses a.f9) = cCl a := by
          obtain ⟨p, x⟩ := a
          show _ = cClause (.two p x)
          simp only [cClause]
          cases p; cases x
          simp only [cExpr]; rfl
        simp only [p_laws_toClauseS_b1, lt_int ha, cond_true, ix_nat, ha, hb, Option.bind_some, ih3 a (by omega) (by omega), wrap_succ (show i < 4611686018427387904 by omega), Int.toNat_natCast, hcl]) (fun o => by simp only [p_laws_toClauseS_b1, not_lt_int, cond_false]) (by omega)]
      simp only [Option.bind_some, cClauses_map]
theorem toExpr_ok (n : Nat) {a0 a1 : Int} {a2 : List UInt8} {a3 : List S_laws_Expr} {a4 : List S_laws_Clause} (h : dExpr (.mk a0 a1 a2 a3 a4) < n) (hz : zExpr (.mk a0 a1 a2 a3 a4) ≤ 1048576) : p_laws_toExpr n a0 a1 a2 a3 a4 = some ((cExpr (.mk a0 a1 a2 a3 a4)).f0, (cExpr (.mk a0 a1 a2 a3 a4)).f1, (cExpr (.mk a0 a1 a2 a3 a4)).f2, (cExpr (.mk a0 a1 a2 a3 a4)).f3, (cExpr (.mk a0 a1 a2 a3 a4)).f4) := by
  have e : p_laws_toExpr n a0 a1 a2 a3 a4 = _ := (toExpr_oks n).1 (.mk a0 a1 a2 a3 a4) h hz
  rw [e, cExpr_mk]; rfl
theorem eqExpr_oks : ∀ (n : Nat), n ≤ 4611686018427387904 → (∀ (a : S_impl_Expr), wExpr a < n → p_laws_eqExpr n a.f0 a.f1 a.f2 a.f3 a.f4 a.f0 a.f1 a.f2 a.f3 a.f4 = some true) ∧ (∀ (l : List S_impl_Expr), dl wExpr l < n → p_laws_eqExprS n l l = some true) ∧
    (∀ (a : S_impl_Clause), wClause a < n → p_laws_eqClause n a.f0 a.f1 a.f2 a.f3 a.f4 a.f5 a.f6 a.f7 a.f8 a.f9 a.f0 a.f1 a.f2 a.f3 a.f4 a.f5 a.f6 a.f7 a.f8 a.f9 = some true) ∧ (∀ (l : List S_impl_Clause), dl wClause l < n → p_laws_eqClauseS n l l = some true)
  | 0, _ => ⟨fun a h => by omega, fun l h => by omega, fun a h => by omega, fun l h => by omega⟩
  | n + 1, hn => by
    obtain ⟨ih1, ih2, ih3, ih4⟩ := eqExpr_oks n (by omega)
    refine ⟨fun a h => ?_, fun l h => ?_, fun a h => ?_, fun l h => ?_⟩
    · rw [p_laws_eqExpr_succ]
      unfold s_laws_eqExpr
      rw [wExpr_e, wExprs_dl, wClauses_dl] at h
      simp only [ih2 a.f3 (by omega), ih4 a.f4 (by omega), Option.bind_some, decide_true, Bool.not_true, cond_false]
    · rw [p_laws_eqExprS_succ]
      unfold s_laws_eqExprS
      have h2 := dl_len wExpr l
      simp only [decide_true, Bool.not_true, cond_false]
      rw [loop_eq l (fun i a ha => by
        have hm := List.mem_of_getElem? ha
        have hd := dl_mem wExpr hm
        have hi := lt_len ha
        simp only [p_laws_eqExprS_b1, lt_int ha, cond_true, ix_nat, ha, Option.bind_some, ih1 a (by omega), Bool.not_true, cond_false, wrap_succ (show i < 4611686018427387904 by omega)]) (by simp only [p_laws_eqExprS_b1, not_lt_int, cond_false]) (by omega)]
      simp only [Option.bind_some]
    · rw [p_laws_eqClause_succ]
      unfold s_laws_eqClause
      rw [wClause_e] at h
      have e1 : p_laws_eqExpr n a.f0 a.f1 a.f2 a.f3 a.f4 a.f0 a.f1 a.f2 a.f3 a.f4 = some true := ih1 a.p (by omega)
      have e2 : p_laws_eqExpr n a.f5 a.f6 a.f7 a.f8 a.f9 a.f5 a.f6 a.f7 a.f8 a.f9 = some true := ih1 a.x (by omega)
      simp only [e1, e2, Option.bind_some, Bool.not_true, cond_false]
    · rw [p_laws_eqClauseS_succ]
      unfold s_laws_eqClauseS
      have h2 := dl_len wClause l
      simp only [decide_true, Bool.not_true, cond_false]
      rw [loop_eq l (fun i a ha => by
        have hm := List.mem_of_getElem? ha
        have hd := dl_mem wClause hm
        have hi := lt_len ha
        simp only [p_laws_eqClauseS_b1, lt_int ha, cond_true, ix_nat, ha, Option.bind_some, ih3 a (by omega), Bool.not_true, cond_false, wrap_succ (show i < 4611686018427387904 by omega)]) (by simp only [p_laws_eqClauseS_b1, not_lt_int, cond_false]) (by omega)]
      simp only [Option.bind_some]
theorem eqExpr_ok (n : Nat) {a0 a1 : Int} {a2 : List UInt8} {a3 : List S_impl_Expr} {a4 : List S_impl_Clause} (h : wExpr (.mk a0 a1 a2 a3 a4) < n) (hn : n ≤ 4611686018427387904) : p_laws_eqExpr n a0 a1 a2 a3 a4 a0 a1 a2 a3 a4 = some true := (eqExpr_oks n hn).1 (.mk a0 a1 a2 a3 a4) h

theorem S_laws_Fun_eta (a : S_laws_Fun) : S_laws_Fun.mk a.f0 a.f1 a.f2 a.f3 a.f4 a.f5 a.f6 = a := rfl
theorem S_impl_Fun_eta (a : S_impl_Fun) : S_impl_Fun.mk a.f0 a.f1 a.f2 a.f3 a.f4 a.f5 a.f6 = a := rfl
def zFun : S_laws_Fun → Nat
  | .mk a0 a1 a2 a3 a4 a5 a6 => a0.length + zl List.length a1 + zExpr (.mk a2 a3 a4 a5 a6)
def dFun : S_laws_Fun → Nat
  | .mk a0 a1 a2 a3 a4 a5 a6 => 3 + a0.length + dl List.length a1 + dExpr (.mk a2 a3 a4 a5 a6)
def wFun : S_impl_Fun → Nat
  | .mk a0 a1 a2 a3 a4 a5 a6 => 3 + a0.length + dl List.length a1 + wExpr (.mk a2 a3 a4 a5 a6)
def okFun : S_laws_Fun → Prop
  | .mk a0 a1 a2 a3 a4 a5 a6 => (a0.length ≤ maxLen) ∧ (a1.length ≤ maxLen ∧ ∀ x ∈ a1, x.length ≤ maxLen) ∧ (okExpr (.mk a2 a3 a4 a5 a6))
def cFun : S_laws_Fun → S_impl_Fun
  | .mk a0 a1 a2 a3 a4 a5 a6 => .mk a0 a1 (cExpr (.mk a2 a3 a4 a5 a6)).f0 (cExpr (.mk a2 a3 a4 a5 a6)).f1 (cExpr (.mk a2 a3 a4 a5 a6)).f2 (cExpr (.mk a2 a3 a4 a5 a6)).f3 (cExpr (.mk a2 a3 a4 a5 a6)).f4
theorem szFun_ok (n : Nat) {a0 : List UInt8} {a1 : List (List UInt8)} {a2 : Int} {a3 : Int} {a4 : List UInt8} {a5 : List S_laws_Expr} {a6 : List S_laws_Clause} {left : Int} (h : dFun (.mk a0 a1 a2 a3 a4 a5 a6) < n) (ho : okFun (.mk a0 a1 a2 a3 a4 a5 a6)) (h0 : 0 ≤ left) (h1 : left ≤ 1048576) : p_laws_szFun n a0 a1 a2 a3 a4 a5 a6 left = some (if (zFun (.mk a0 a1 a2 a3 a4 a5 a6) : Int) ≤ left then left - zFun (.mk a0 a1 a2 a3 a4 a5 a6) else -1) := by
  unfold p_laws_szFun
  simp only [dFun, okFun] at h ho
  have ez : zFun (.mk a0 a1 a2 a3 a4 a5 a6) = a0.length + zl List.length a1 + zExpr (.mk a2 a3 a4 a5 a6) := rfl
  generalize zFun (.mk a0 a1 a2 a3 a4 a5 a6) = zz at ez ⊢
  obtain ⟨o0, o1, o2⟩ := ho
  rw [sub_ok o0 (by omega) (by omega)]
  by_cases q1 : left - ((a0.length : Nat) : Int) < 0
  · rw [decide_eq_true q1, cond_true, if_neg (by omega)]
  rw [decide_eq_false q1, cond_false]
  rw [szStringS_ok n _ _ (by omega) o1.1 o1.2 (by omega) (by omega)]
  by_cases q2 : ((zl List.length a1 : Nat) : Int) ≤ left - (a0.length : Nat)
  rotate_left
  · rw [if_neg q2, if_neg (by omega)]; rfl
  rw [if_pos q2, Option.bind_some, decide_eq_false (by omega), cond_false]
  rw [szExpr_ok n (h := by omega) (ho := o2) (h0 := by omega) (h1 := by omega)]
  by_cases q3 : ((zExpr (.mk a2 a3 a4 a5 a6) : Nat) : Int) ≤ left - (a0.length : Nat) - (zl List.length a1 : Nat)
  rotate_left
  · rw [if_neg q3, if_neg (by omega)]; rfl
  rw [if_pos q3, Option.bind_some, decide_eq_false (by omega), cond_false]
  rw [if_pos (by omega)]
  congr 1; omega
theorem toFun_ok (n : Nat) {a0 : List UInt8} {a1 : List (List UInt8)} {a2 : Int} {a3 : Int} {a4 : List UInt8} {a5 : List S_laws_Expr} {a6 : List S_laws_Clause} (h : dFun (.mk a0 a1 a2 a3 a4 a5 a6) < n) (hz : zFun (.mk a0 a1 a2 a3 a4 a5 a6) ≤ 1048576) : p_laws_toFun n a0 a1 a2 a3 a4 a5 a6 = some ((cFun (.mk a0 a1 a2 a3 a4 a5 a6)).f0, (cFun (.mk a0 a1 a2 a3 a4 a5 a6)).f1, (cFun (.mk a0 a1 a2 a3 a4 a5 a6)).f2, (cFun (.mk a0 a1 a2 a3 a4 a5 a6)).f3, (cFun (.mk a0 a1 a2 a3 a4 a5 a6)).f4, (cFun (.mk a0 a1 a2 a3 a4 a5 a6)).f5, (cFun (.mk a0 a1 a2 a3 a4 a5 a6)).f6) := by
  unfold p_laws_toFun
  simp only [dFun, zFun] at h hz
  rw [toStringS_ok n _ (by omega) (by omega)]
  try simp only [Option.bind_some]
  rw [toExpr_ok n (h := by omega) (hz := by omega)]
  try simp only [Option.bind_some]
  rfl
theorem eqFun_ok (n : Nat) {a0 : List UInt8} {a1 : List (List UInt8)} {a2 : Int} {a3 : Int} {a4 : List UInt8} {a5 : List S_impl_Expr} {a6 : List S_impl_Clause} (h : wFun (.mk a0 a1 a2 a3 a4 a5 a6) < n) (hn : n ≤ 4611686018427387904) : p_laws_eqFun n a0 a1 a2 a3 a4 a5 a6 a0 a1 a2 a3 a4 a5 a6 = some true := by
  unfold p_laws_eqFun
  simp only [wFun] at h
  try simp only [decide_true, beq_self_eq_true, Bool.not_true, cond_false]
  rw [eqStringS_ok n _ (by omega) hn]
  simp only [Option.bind_some, decide_true, beq_self_eq_true, Bool.not_true, cond_false]
  rw [eqExpr_ok n (h := by omega) (hn := hn)]
  simp only [Option.bind_some, decide_true, beq_self_eq_true, Bool.not_true, cond_false]
theorem wFun_c (a : S_laws_Fun) : wFun (cFun a) = dFun a := by
  cases a
  simp only [cFun, wFun, dFun, S_impl_Expr_eta, wExpr_c]
theorem dFun_z (a : S_laws_Fun) : dFun a ≤ 15 * zFun a + 9 := by
  obtain ⟨a0, a1, a2, a3, a4, a5, a6⟩ := a
  have := dl_le (A := 1) (B := 0) (C := 1) (d := List.length) (z := List.length) (fun a => by omega) (by omega) (by omega) a1
  have := dExpr_z (.mk a2 a3 a4 a5 a6)
  show 3 + a0.length + dl List.length a1 + dExpr (.mk a2 a3 a4 a5 a6) ≤ 15 * (a0.length + zl List.length a1 + zExpr (.mk a2 a3 a4 a5 a6)) + 9
  omega
def cFuns (l : List S_laws_Fun) : List S_impl_Fun := l.map cFun
theorem szFunS_ok (n : Nat) (l : List S_laws_Fun) (left : Int) (h : dl dFun l < n) (hl : l.length ≤ maxLen) (ho : ∀ a ∈ l, okFun a) (h0 : 0 ≤ left) (h1 : left ≤ 1048576) : p_laws_szFunS n l left = some (if (zl zFun l : Int) ≤ left then left - zl zFun l else -1) := by
  unfold p_laws_szFunS
  have h2 := dl_len dFun l
  have ez : zl zFun l = l.length + sumz zFun l := rfl
  rw [ez, sub_ok hl h0 h1]
  by_cases c : left - (l.length : Int) < 0
  · rw [decide_eq_true c, cond_true, if_neg (by omega)]
  rw [decide_eq_false c, cond_false]
  rw [loop_sz l zFun (fun i a t ha t0 t1 => by
    have hm := List.mem_of_getElem? ha
    have hd := dl_mem dFun hm
    have hi := lt_len ha
    simp only [p_laws_szFunS_b1, lt_int ha, cond_true, ix_nat, ha, Option.bind_some, wrap_succ (show i < 4611686018427387904 by simp only [maxLen] at hl; omega)]
    rw [szFun_ok n (h := by rw [S_laws_Fun_eta]; omega) (ho := by rw [S_laws_Fun_eta]; exact ho a hm) (h0 := t0) (h1 := t1), S_laws_Fun_eta]
    by_cases c2 : (zFun a : Int) ≤ t
    · rw [if_pos c2, if_pos c2, Option.bind_some, decide_eq_false (by omega), cond_false]
    · rw [if_neg c2, if_neg c2]; rfl) (fun t => by simp only [p_laws_szFunS_b1, not_lt_int, cond_false]) (by omega) (by omega) (by omega)]
  by_cases c2 : (sumz zFun l : Int) ≤ left - l.length
  · rw [if_pos c2, if_pos (by omega)]
    simp only [Option.bind_some, Option.some.injEq]; omega
  · rw [if_neg c2, if_neg (by omega)]; rfl
theorem toFunS_ok (n : Nat) (l : List S_laws_Fun) (h : dl dFun l < n) (hz : zl zFun l ≤ 1048576) : p_laws_toFunS n l = some (cFuns l) := by
  unfold p_laws_toFunS
  have h2 := dl_len dFun l
  have ez : zl zFun l = l.length + sumz zFun l := rfl
  have hc : decide (0 ≤ (l.length : Int) ∧ (l.length : Int) ≤ maxLen ∧ 120 * (l.length : Int) ≤ 281474976710656) = true := decide_eq_true ⟨by omega, by simp only [maxLen]; omega, by omega⟩
  rw [hc]
  simp only [ck, cond_true, Option.bind_some, Int.toNat_natCast]
  rw [loop_to l cFun _ (fun i a o b ha hb => by
    have hm := List.mem_of_getElem? ha
    have hd := dl_mem dFun hm
    have hi := lt_len ha
    have hs := sumz_mem zFun hm
    simp only [p_laws_toFunS_b1, lt_int ha, cond_true, ix_nat, ha, hb, Option.bind_some, wrap_succ (show i < 4611686018427387904 by omega), Int.toNat_natCast]
    rw [toFun_ok n (h := by rw [S_laws_Fun_eta]; omega) (hz := by rw [S_laws_Fun_eta]; omega)]
    simp only [Option.bind_some, S_laws_Fun_eta, S_impl_Fun_eta]) (fun o => by simp only [p_laws_toFunS_b1, not_lt_int, cond_false]) (by omega)]
  rfl
theorem eqFunS_ok (n : Nat) (l : List S_impl_Fun) (h : dl wFun l < n) (hn : n ≤ 4611686018427387904) : p_laws_eqFunS n l l = some true := by
  unfold p_laws_eqFunS
  have h2 := dl_len wFun l
  simp only [decide_true, Bool.not_true, cond_false]
  rw [loop_eq l (fun i a ha => by
    have hm := List.mem_of_getElem? ha
    have hd := dl_mem wFun hm
    have hi := lt_len ha
    simp only [p_laws_eqFunS_b1, lt_int ha, cond_true, ix_nat, ha, Option.bind_some, wrap_succ (show i < 4611686018427387904 by omega)]
    rw [eqFun_ok n (h := by rw [S_impl_Fun_eta]; omega) (hn := hn)]
    rfl) (by simp only [p_laws_eqFunS_b1, not_lt_int, cond_false]) (by omega)]
  rfl
theorem dl_cFun (l : List S_laws_Fun) : dl wFun (cFuns l) = dl dFun l := by
  unfold cFuns
  rw [dl_map]
  exact dl_congr fun a _ => wFun_c a
structure _root_.Go.Own.S_laws_Module where
  f0 : List S_laws_Fun
theorem S_laws_Module_eta (a : S_laws_Module) : S_laws_Module.mk a.f0 = a := rfl
structure _root_.Go.Own.S_impl_Module where
  f0 : List S_impl_Fun
theorem S_impl_Module_eta (a : S_impl_Module) : S_impl_Module.mk a.f0 = a := rfl
def zModule : S_laws_Module → Nat
  | .mk a0 => zl zFun a0
def dModule : S_laws_Module → Nat
  | .mk a0 => 3 + dl dFun a0
def wModule : S_impl_Module → Nat
  | .mk a0 => 3 + dl wFun a0
def okModule : S_laws_Module → Prop
  | .mk a0 => (a0.length ≤ maxLen ∧ ∀ x ∈ a0, okFun x)
def cModule : S_laws_Module → S_impl_Module
  | .mk a0 => .mk (cFuns a0)
theorem szModule_ok (n : Nat) {a0 : List S_laws_Fun} {left : Int} (h : dModule (.mk a0) < n) (ho : okModule (.mk a0)) (h0 : 0 ≤ left) (h1 : left ≤ 1048576) : p_laws_szModule n a0 left = some (if (zModule (.mk a0) : Int) ≤ left then left - zModule (.mk a0) else -1) := by
  unfold p_laws_szModule
  simp only [dModule, okModule] at h ho
  have ez : zModule (.mk a0) = zl zFun a0 := rfl
  generalize zModule (.mk a0) = zz at ez ⊢
  have o0 := ho
  rw [szFunS_ok n _ _ (by omega) o0.1 o0.2 (by omega) (by omega)]
  by_cases q1 : ((zl zFun a0 : Nat) : Int) ≤ left
  rotate_left
  · rw [if_neg q1, if_neg (by omega)]; rfl
  rw [if_pos q1, Option.bind_some, decide_eq_false (by omega), cond_false]
  rw [if_pos (by omega)]
  congr 1; omega
theorem toModule_ok (n : Nat) {a0 : List S_laws_Fun} (h : dModule (.mk a0) < n) (hz : zModule (.mk a0) ≤ 1048576) : p_laws_toModule n a0 = some ((cModule (.mk a0)).f0) := by
  unfold p_laws_toModule
  simp only [dModule, zModule] at h hz
  rw [toFunS_ok n _ (by omega) (by omega)]
  try simp only [Option.bind_some]
  rfl
theorem eqModule_ok (n : Nat) {a0 : List S_impl_Fun} (h : wModule (.mk a0) < n) (hn : n ≤ 4611686018427387904) : p_laws_eqModule n a0 a0 = some true := by
  unfold p_laws_eqModule
  simp only [wModule] at h
  try simp only [decide_true, beq_self_eq_true, Bool.not_true, cond_false]
  rw [eqFunS_ok n _ (by omega) hn]
  simp only [Option.bind_some, decide_true, beq_self_eq_true, Bool.not_true, cond_false]
theorem wModule_c (a : S_laws_Module) : wModule (cModule a) = dModule a := by
  cases a
  simp only [cModule, wModule, dModule, dl_cFun]
theorem dModule_z (a : S_laws_Module) : dModule a ≤ 15 * zModule a + 4 := by
  obtain ⟨a0⟩ := a
  have := dl_le (A := 15) (B := 9) (C := 15) dFun_z (by omega) (by omega) a0
  show 3 + dl dFun a0 ≤ 15 * (zl zFun a0) + 4
  omega
end Go.Own.Q
