/- Sizes, copies, equality of the types, in plain Lean. No conditions. -/
import Derived.Test.YtgeomhdbckjkcaaW16Kit
set_option linter.unusedVariables false
set_option linter.unusedSimpArgs false
set_option linter.unnecessarySimpa false
namespace Go.Own.Q
open Go Go.Proofs
theorem S_laws_Term_eta (a : S_laws_Term) : S_laws_Term.mk a.f0 a.f1 a.f2 a.f3 = a := by cases a; rfl
theorem S_impl_Term_eta (a : S_impl_Term) : S_impl_Term.mk a.f0 a.f1 a.f2 a.f3 = a := by cases a; rfl
mutual
def zTerm : S_laws_Term → Nat
 | .mk _ _ s l => s.length + zTerms l
def zTerms : List S_laws_Term → Nat
 | [] => 0
 | x :: r => 1 + zTerm x + zTerms r
end
mutual
def wTerm : S_impl_Term → Nat
 | .mk _ _ s l => 3 + s.length + wTerms l
def wTerms : List S_impl_Term → Nat
 | [] => 1
 | x :: r => 1 + wTerm x + wTerms r
end
mutual
def cTerm : S_laws_Term → S_impl_Term
 | .mk a b s l => .mk a b s (cTerms l)
def cTerms : List S_laws_Term → List S_impl_Term
 | [] => []
 | x :: r => cTerm x :: cTerms r
end
mutual
def dTerm : S_laws_Term → Nat
 | .mk _ _ s l => 3 + s.length + dTerms l
def dTerms : List S_laws_Term → Nat
 | [] => 1
 | x :: r => 1 + dTerm x + dTerms r
end
mutual
def okTerm : S_laws_Term → Prop
 | .mk a b s l => (IntKind.i64.min ≤ a ∧ a ≤ IntKind.i64.max) ∧ (IntKind.i64.min ≤ b ∧ b ≤ IntKind.i64.max) ∧ s.length ≤ maxLen ∧ l.length ≤ maxLen ∧ okTerms l
def okTerms : List S_laws_Term → Prop
 | [] => True
 | x :: r => okTerm x ∧ okTerms r
end
theorem cTerm_mk {a0 a1 : Int} {a2 : List UInt8} {a3 : List S_laws_Term} : cTerm (.mk a0 a1 a2 a3) = .mk a0 a1 a2 (cTerms a3) := by simp only [cTerm]
theorem zTerms_zl : ∀ l, zTerms l = zl zTerm l
 | [] => rfl
 | x :: r => by simp only [zTerms, zl, sumz, zTerms_zl r, List.length_cons]; omega
theorem dTerms_dl : ∀ l, dTerms l = dl dTerm l
 | [] => rfl
 | x :: r => by simp only [dTerms, dl, dTerms_dl r]
theorem wTerms_dl : ∀ l, wTerms l = dl wTerm l
 | [] => rfl
 | x :: r => by simp only [wTerms, dl, wTerms_dl r]
theorem cTerms_map : ∀ l, cTerms l = l.map cTerm
 | [] => rfl
 | x :: r => by simp only [cTerms, cTerms_map r, List.map_cons]
theorem okTerms_iff : ∀ l, okTerms l ↔ ∀ a ∈ l, okTerm a
 | [] => by simp [okTerms]
 | x :: r => by simp [okTerms, okTerms_iff r]
mutual
theorem wTerm_c : ∀ x, wTerm (cTerm x) = dTerm x
 | .mk a b s l => by simp only [cTerm, wTerm, dTerm, wTerms_c l]
theorem wTerms_c : ∀ l, wTerms (cTerms l) = dTerms l
 | [] => rfl
 | x :: r => by simp only [cTerms, wTerms, dTerms, wTerm_c x, wTerms_c r]
end
theorem dl_cTerm (l : List S_laws_Term) : dl wTerm (cTerms l) = dl dTerm l := by rw [← wTerms_dl, ← dTerms_dl, wTerms_c]
mutual
theorem dTerm_z : ∀ x, dTerm x ≤ 5 * zTerm x + 4
 | .mk a b s l => by have := dTerms_z l; simp only [dTerm, zTerm]; omega
theorem dTerms_z : ∀ l, dTerms l ≤ 5 * zTerms l + 1
 | [] => by simp [dTerms]
 | x :: r => by have := dTerm_z x; have := dTerms_z r; simp only [dTerms, zTerms]; omega
end
theorem szTerm_oks : ∀ (n : Nat), (∀ (a0 a1 : Int) (a2 : List UInt8) (a3 : List S_laws_Term) (left : Int), dTerm (.mk a0 a1 a2 a3) < n → okTerm (.mk a0 a1 a2 a3) → 0 ≤ left → left ≤ 1048576 → p_laws_szTerm n a0 a1 a2 a3 left = some (if (zTerm (.mk a0 a1 a2 a3) : Int) ≤ left then left - zTerm (.mk a0 a1 a2 a3) else -1)) ∧ ∀ (l : List S_laws_Term) (left : Int), dl dTerm l < n → l.length ≤ maxLen → (∀ a ∈ l, okTerm a) → 0 ≤ left → left ≤ 1048576 → p_laws_szTermS n l left = some (if (zl zTerm l : Int) ≤ left then left - zl zTerm l else -1)
 | 0 => ⟨fun a0 a1 a2 a3 left h => by omega, fun l left h => by omega⟩
 | n + 1 => by
  obtain ⟨ih1, ih2⟩ := szTerm_oks n
  refine ⟨fun a0 a1 a2 a3 left h ho h0 h1 => ?_, fun l left h hl ho h0 h1 => ?_⟩
  ·rw [p_laws_szTerm_succ]
   unfold s_laws_szTerm
   simp only [dTerm, okTerm, zTerm, zTerms_zl, dTerms_dl] at h ho ⊢
   obtain ⟨_, _, o3, o4, o5⟩ := ho
   rw [sub_ok o3 h0 h1]
   by_cases c : left - (a2.length : Int) < 0
   ·rw [decide_eq_true c, cond_true, if_neg (by omega)]
   rw [decide_eq_false c, cond_false]
   rw [ih2 a3 _ (by omega) o4 ((okTerms_iff _).1 o5) (by omega) (by omega)]
   by_cases c2 : (zl zTerm a3 : Int) ≤ left - a2.length
   ·rw [if_pos c2, if_pos (by omega), Option.bind_some, decide_eq_false (by omega)]
    simp only [cond_false, Option.some.injEq]; omega
   ·rw [if_neg c2, if_neg (by omega)]; rfl
  ·rw [p_laws_szTermS_succ]
   unfold s_laws_szTermS
   have h2 := dl_len dTerm l
   have ez : zl zTerm l = l.length + sumz zTerm l := rfl
   rw [ez, sub_ok hl h0 h1]
   by_cases c : left - (l.length : Int) < 0
   ·rw [decide_eq_true c, cond_true, if_neg (by omega)]
   rw [decide_eq_false c, cond_false]
   rw [loop_sz l zTerm (fun i a t ha t0 t1 => by
    have hm := List.mem_of_getElem? ha
    have hd := dl_mem dTerm hm
    have hi := lt_len ha
    have e := ih1 a.f0 a.f1 a.f2 a.f3 t (by rw [S_laws_Term_eta]; omega) (by rw [S_laws_Term_eta]; exact ho a hm) t0 t1
    rw [S_laws_Term_eta] at e
    simp only [p_laws_szTermS_b1, lt_int ha, cond_true, ix_nat, ha, Option.bind_some, e, wrap_succ (show i < 4611686018427387904 by simp only [maxLen] at hl; omega)]
    by_cases c2 : (zTerm a : Int) ≤ t
    ·rw [if_pos c2, if_pos c2, decide_eq_false (by omega)]; rfl
    ·rw [if_neg c2, if_neg c2]; rfl) (fun t => by simp only [p_laws_szTermS_b1, not_lt_int, cond_false]) (by omega) (by omega) (by omega)]
   by_cases c2 : (sumz zTerm l : Int) ≤ left - l.length
   ·rw [if_pos c2, if_pos (by omega)]
    simp only [Option.bind_some, Option.some.injEq]; omega
   ·rw [if_neg c2, if_neg (by omega)]; rfl
theorem szTerm_ok (n : Nat) {a0 a1 : Int} {a2 : List UInt8} {a3 : List S_laws_Term} {left : Int} (h : dTerm (.mk a0 a1 a2 a3) < n) (ho : okTerm (.mk a0 a1 a2 a3)) (h0 : 0 ≤ left) (h1 : left ≤ 1048576) : p_laws_szTerm n a0 a1 a2 a3 left = some (if (zTerm (.mk a0 a1 a2 a3) : Int) ≤ left then left - zTerm (.mk a0 a1 a2 a3) else -1) := (szTerm_oks n).1 _ _ _ _ _ h ho h0 h1
theorem szTermS_ok (n : Nat) (l : List S_laws_Term) (left : Int) (h : dl dTerm l < n) (hl : l.length ≤ maxLen) (ho : ∀ a ∈ l, okTerm a) (h0 : 0 ≤ left) (h1 : left ≤ 1048576) : p_laws_szTermS n l left = some (if (zl zTerm l : Int) ≤ left then left - zl zTerm l else -1) := (szTerm_oks n).2 _ _ h hl ho h0 h1
theorem toTerm_oks : ∀ (n : Nat), (∀ (a0 a1 : Int) (a2 : List UInt8) (a3 : List S_laws_Term), dTerm (.mk a0 a1 a2 a3) < n → zTerm (.mk a0 a1 a2 a3) ≤ 1048576 → p_laws_toTerm n a0 a1 a2 a3 = some (a0, a1, a2, cTerms a3)) ∧ ∀ (l : List S_laws_Term), dl dTerm l < n → zl zTerm l ≤ 1048576 → p_laws_toTermS n l = some (cTerms l)
 | 0 => ⟨fun a0 a1 a2 a3 h => by omega, fun l h => by omega⟩
 | n + 1 => by
  obtain ⟨ih1, ih2⟩ := toTerm_oks n
  refine ⟨fun a0 a1 a2 a3 h hz => ?_, fun l h hz => ?_⟩
  ·rw [p_laws_toTerm_succ]
   unfold s_laws_toTerm
   simp only [dTerm, zTerm, zTerms_zl, dTerms_dl] at h hz
   simp only [ih2 a3 (by omega) (by omega), Option.bind_some]
  ·rw [p_laws_toTermS_succ]
   unfold s_laws_toTermS
   have h2 := dl_len dTerm l
   have ez : zl zTerm l = l.length + sumz zTerm l := rfl
   have hc : decide (0 ≤ (l.length : Int) ∧ (l.length : Int) ≤ maxLen ∧ 56 * (l.length : Int) ≤ 281474976710656) = true := decide_eq_true ⟨by omega, by simp only [maxLen]; omega, by omega⟩
   rw [hc]
   simp only [ck, cond_true, Option.bind_some, Int.toNat_natCast]
   rw [loop_to l cTerm _ (fun i a o b ha hb => by
    have hm := List.mem_of_getElem? ha
    have hd := dl_mem dTerm hm
    have hi := lt_len ha
    have hs := sumz_mem zTerm hm
    simp only [p_laws_toTermS_b1, lt_int ha, cond_true, ix_nat, ha, hb, Option.bind_some, ih1 a.f0 a.f1 a.f2 a.f3 (by rw [S_laws_Term_eta]; omega) (by rw [S_laws_Term_eta]; omega), wrap_succ (show i < 4611686018427387904 by omega), Int.toNat_natCast, ← cTerm_mk, S_laws_Term_eta]) (fun o => by simp only [p_laws_toTermS_b1, not_lt_int, cond_false]) (by omega)]
   simp only [Option.bind_some, cTerms_map]
theorem toTerm_ok (n : Nat) {a0 a1 : Int} {a2 : List UInt8} {a3 : List S_laws_Term} (h : dTerm (.mk a0 a1 a2 a3) < n) (hz : zTerm (.mk a0 a1 a2 a3) ≤ 1048576) : p_laws_toTerm n a0 a1 a2 a3 = some ((cTerm (.mk a0 a1 a2 a3)).f0, (cTerm (.mk a0 a1 a2 a3)).f1, (cTerm (.mk a0 a1 a2 a3)).f2, (cTerm (.mk a0 a1 a2 a3)).f3) := by
 rw [(toTerm_oks n).1 _ _ _ _ h hz, cTerm_mk]; rfl
theorem toTermS_ok (n : Nat) (l : List S_laws_Term) (h : dl dTerm l < n) (hz : zl zTerm l ≤ 1048576) : p_laws_toTermS n l = some (cTerms l) := (toTerm_oks n).2 _ h hz
theorem eqTerm_oks : ∀ (n : Nat), n ≤ 4611686018427387904 → (∀ (a0 a1 : Int) (a2 : List UInt8) (a3 : List S_impl_Term), wTerm (.mk a0 a1 a2 a3) < n → p_laws_eqTerm n a0 a1 a2 a3 a0 a1 a2 a3 = some true) ∧ ∀ (l : List S_impl_Term), dl wTerm l < n → p_laws_eqTermS n l l = some true
 | 0, _ => ⟨fun a0 a1 a2 a3 h => by omega, fun l h => by omega⟩
 | n + 1, hn => by
  obtain ⟨ih1, ih2⟩ := eqTerm_oks n (by omega)
  refine ⟨fun a0 a1 a2 a3 h => ?_, fun l h => ?_⟩
  ·rw [p_laws_eqTerm_succ]
   unfold s_laws_eqTerm
   simp only [wTerm, wTerms_dl] at h
   simp only [ih2 a3 (by omega), Option.bind_some, decide_true, Bool.not_true, cond_false]
  ·rw [p_laws_eqTermS_succ]
   unfold s_laws_eqTermS
   have h2 := dl_len wTerm l
   simp only [decide_true, Bool.not_true, cond_false]
   rw [loop_eq l (fun i a ha => by
    have hm := List.mem_of_getElem? ha
    have hd := dl_mem wTerm hm
    have hi := lt_len ha
    simp only [p_laws_eqTermS_b1, lt_int ha, cond_true, ix_nat, ha, Option.bind_some, ih1 a.f0 a.f1 a.f2 a.f3 (by rw [S_impl_Term_eta]; omega), Bool.not_true, cond_false, wrap_succ (show i < 4611686018427387904 by omega)]) (by simp only [p_laws_eqTermS_b1, not_lt_int, cond_false]) (by omega)]
   simp only [Option.bind_some]
theorem eqTerm_ok (n : Nat) {a0 a1 : Int} {a2 : List UInt8} {a3 : List S_impl_Term} (h : wTerm (.mk a0 a1 a2 a3) < n) (hn : n ≤ 4611686018427387904) : p_laws_eqTerm n a0 a1 a2 a3 a0 a1 a2 a3 = some true := (eqTerm_oks n hn).1 _ _ _ _ h
theorem eqTermS_ok (n : Nat) (l : List S_impl_Term) (h : dl wTerm l < n) (hn : n ≤ 4611686018427387904) : p_laws_eqTermS n l l = some true := (eqTerm_oks n hn).2 _ h
theorem S_laws_Expr_eta (a : S_laws_Expr) : S_laws_Expr.mk a.f0 a.f1 a.f2 a.f3 a.f4 = a := by cases a; rfl
theorem S_impl_Expr_eta (a : S_impl_Expr) : S_impl_Expr.mk a.f0 a.f1 a.f2 a.f3 a.f4 = a := by cases a; rfl
theorem S_laws_Clause_eta (a : S_laws_Clause) : S_laws_Clause.mk a.f0 a.f1 a.f2 a.f3 a.f4 a.f5 a.f6 a.f7 a.f8 a.f9 = a := by
 obtain ⟨p, x⟩ := a; cases p; cases x; rfl
theorem S_impl_Clause_eta (a : S_impl_Clause) : S_impl_Clause.mk a.f0 a.f1 a.f2 a.f3 a.f4 a.f5 a.f6 a.f7 a.f8 a.f9 = a := by
 obtain ⟨p, x⟩ := a; cases p; cases x; rfl
mutual
def zExpr : S_laws_Expr → Nat
 | .mk _ _ s l c => s.length + zExprs l + zClauses c
def zExprs : List S_laws_Expr → Nat
 | [] => 0
 | x :: r => 1 + zExpr x + zExprs r
def zClauses : List S_laws_Clause → Nat
 | [] => 0
 | x :: r => 1 + zClause x + zClauses r
def zClause : S_laws_Clause → Nat
 | .two p x => zExpr p + zExpr x
end
mutual
def dExpr : S_laws_Expr → Nat
 | .mk _ _ s l c => 3 + s.length + dExprs l + dClauses c
def dExprs : List S_laws_Expr → Nat
 | [] => 1
 | x :: r => 1 + dExpr x + dExprs r
def dClauses : List S_laws_Clause → Nat
 | [] => 1
 | x :: r => 1 + dClause x + dClauses r
def dClause : S_laws_Clause → Nat
 | .two p x => 3 + dExpr p + dExpr x
end
mutual
def wExpr : S_impl_Expr → Nat
 | .mk _ _ s l c => 3 + s.length + wExprs l + wClauses c
def wExprs : List S_impl_Expr → Nat
 | [] => 1
 | x :: r => 1 + wExpr x + wExprs r
def wClauses : List S_impl_Clause → Nat
 | [] => 1
 | x :: r => 1 + wClause x + wClauses r
def wClause : S_impl_Clause → Nat
 | .two p x => 3 + wExpr p + wExpr x
end
mutual
def cExpr : S_laws_Expr → S_impl_Expr
 | .mk a b s l c => .mk a b s (cExprs l) (cClauses c)
def cExprs : List S_laws_Expr → List S_impl_Expr
 | [] => []
 | x :: r => cExpr x :: cExprs r
def cClauses : List S_laws_Clause → List S_impl_Clause
 | [] => []
 | x :: r => cClause x :: cClauses r
def cClause : S_laws_Clause → S_impl_Clause
 | .two p x => .two (cExpr p) (cExpr x)
end
mutual
def okExpr : S_laws_Expr → Prop
 | .mk a b s l c => (IntKind.i64.min ≤ a ∧ a ≤ IntKind.i64.max) ∧ (IntKind.i64.min ≤ b ∧ b ≤ IntKind.i64.max) ∧ s.length ≤ maxLen ∧ (l.length ≤ maxLen ∧ okExprs l) ∧ (c.length ≤ maxLen ∧ okClauses c)
def okExprs : List S_laws_Expr → Prop
 | [] => True
 | x :: r => okExpr x ∧ okExprs r
def okClauses : List S_laws_Clause → Prop
 | [] => True
 | x :: r => okClause x ∧ okClauses r
def okClause : S_laws_Clause → Prop
 | .two p x => okExpr p ∧ okExpr x
end
theorem zExpr_e (a : S_laws_Expr) : zExpr a = a.f2.length + zExprs a.f3 + zClauses a.f4 := by cases a; simp only [zExpr]; rfl
theorem dExpr_e (a : S_laws_Expr) : dExpr a = 3 + a.f2.length + dExprs a.f3 + dClauses a.f4 := by cases a; simp only [dExpr]; rfl
theorem wExpr_e (a : S_impl_Expr) : wExpr a = 3 + a.f2.length + wExprs a.f3 + wClauses a.f4 := by cases a; simp only [wExpr]; rfl
theorem zClause_e (a : S_laws_Clause) : zClause a = zExpr a.p + zExpr a.x := by obtain ⟨p, x⟩ := a; simp only [zClause]; rfl
theorem dClause_e (a : S_laws_Clause) : dClause a = 3 + dExpr a.p + dExpr a.x := by obtain ⟨p, x⟩ := a; simp only [dClause]; rfl
theorem wClause_e (a : S_impl_Clause) : wClause a = 3 + wExpr a.p + wExpr a.x := by obtain ⟨p, x⟩ := a; simp only [wClause]; rfl
theorem okExpr_e (a : S_laws_Expr) : okExpr a ↔ (IntKind.i64.min ≤ a.f0 ∧ a.f0 ≤ IntKind.i64.max) ∧ (IntKind.i64.min ≤ a.f1 ∧ a.f1 ≤ IntKind.i64.max) ∧ a.f2.length ≤ maxLen ∧ (a.f3.length ≤ maxLen ∧ okExprs a.f3) ∧ (a.f4.length ≤ maxLen ∧ okClauses a.f4) := by cases a; simp only [okExpr]; rfl
theorem okClause_e (a : S_laws_Clause) : okClause a ↔ okExpr a.p ∧ okExpr a.x := by obtain ⟨p, x⟩ := a; simp only [okClause]; rfl
theorem cExpr_mk {a0 a1 : Int} {a2 : List UInt8} {a3 : List S_laws_Expr} {a4 : List S_laws_Clause} : cExpr (.mk a0 a1 a2 a3 a4) = .mk a0 a1 a2 (cExprs a3) (cClauses a4) := by simp only [cExpr]
theorem zExprs_zl : ∀ l, zExprs l = zl zExpr l
 | [] => rfl
 | x :: r => by simp only [zExprs, zl, sumz, zExprs_zl r, List.length_cons]; omega
theorem zClauses_zl : ∀ l : List S_laws_Clause, zClauses l = zl zClause l
 | [] => rfl
 | x :: r => by
  have e := zClauses_zl r
  have e1 : zClauses (x :: r) = 1 + zClause x + zClauses r := by simp only [zClauses]
  have e2 : zl zClause (x :: r) = (x :: r).length + (zClause x + sumz zClause r) := rfl
  have e3 : zl zClause r = r.length + sumz zClause r := rfl
  rw [e1, e2, e, e3, List.length_cons]; omega
theorem dExprs_dl : ∀ l, dExprs l = dl dExpr l
 | [] => rfl
 | x :: r => by simp only [dExprs, dl, dExprs_dl r]
theorem dClauses_dl : ∀ l : List S_laws_Clause, dClauses l = dl dClause l
 | [] => rfl
 | x :: r => by
  have e := dClauses_dl r
  have e1 : dClauses (x :: r) = 1 + dClause x + dClauses r := by simp only [dClauses]
  rw [e1, e]; rfl
theorem wExprs_dl : ∀ l, wExprs l = dl wExpr l
 | [] => rfl
 | x :: r => by simp only [wExprs, dl, wExprs_dl r]
theorem wClauses_dl : ∀ l : List S_impl_Clause, wClauses l = dl wClause l
 | [] => rfl
 | x :: r => by
  have e := wClauses_dl r
  have e1 : wClauses (x :: r) = 1 + wClause x + wClauses r := by simp only [wClauses]
  rw [e1, e]; rfl
theorem cExprs_map : ∀ l, cExprs l = l.map cExpr
 | [] => rfl
 | x :: r => by simp only [cExprs, cExprs_map r, List.map_cons]
def cCl (a : S_laws_Clause) : S_impl_Clause := cClause a
theorem cClauses_map : ∀ l : List S_laws_Clause, cClauses l = l.map cCl
 | [] => rfl
 | x :: r => by
  have e := cClauses_map r
  have e1 : cClauses (x :: r) = cClause x :: cClauses r := by simp only [cClauses]
  rw [e1, e]; rfl
theorem okExprs_iff : ∀ l, okExprs l ↔ ∀ a ∈ l, okExpr a
 | [] => by simp [okExprs]
 | x :: r => by simp [okExprs, okExprs_iff r]
theorem okClauses_iff : ∀ l : List S_laws_Clause, okClauses l ↔ ∀ a ∈ l, okClause a
 | [] => by simp [okClauses]
 | x :: r => by
  have e := okClauses_iff r
  have e1 : okClauses (x :: r) ↔ okClause x ∧ okClauses r := by simp only [okClauses]
  rw [e1, e]
  simp
mutual
theorem wExpr_c : ∀ x, wExpr (cExpr x) = dExpr x
 | .mk a b s l c => by simp only [cExpr, wExpr, dExpr, wExprs_c l, wClauses_c c]
theorem wExprs_c : ∀ l, wExprs (cExprs l) = dExprs l
 | [] => rfl
 | x :: r => by simp only [cExprs, wExprs, dExprs, wExpr_c x, wExprs_c r]
theorem wClauses_c : ∀ l, wClauses (cClauses l) = dClauses l
 | [] => rfl
 | x :: r => by simp only [cClauses, wClauses, dClauses, wClause_c x, wClauses_c r]
theorem wClause_c : ∀ x, wClause (cClause x) = dClause x
 | .two p x => by simp only [cClause, wClause, dClause, wExpr_c p, wExpr_c x]
end
mutual
theorem dExpr_z : ∀ x, dExpr x ≤ 15 * zExpr x + 5
 | .mk a b s l c => by have := dExprs_z l; have := dClauses_z c; simp only [dExpr, zExpr]; omega
theorem dExprs_z : ∀ l, dExprs l ≤ 15 * zExprs l + 1
 | [] => by simp [dExprs]
 | x :: r => by have := dExpr_z x; have := dExprs_z r; simp only [dExprs, zExprs]; omega
theorem dClauses_z : ∀ l, dClauses l ≤ 15 * zClauses l + 1
 | [] => by simp [dClauses]
 | x :: r => by have := dClause_z x; have := dClauses_z r; simp only [dClauses, zClauses]; omega
theorem dClause_z : ∀ x, dClause x ≤ 15 * zClause x + 13
 | .two p x => by have := dExpr_z p; have := dExpr_z x; simp only [dClause, zClause]; omega
end
theorem szExpr_oks : ∀ (n : Nat), (∀ (a : S_laws_Expr) (left : Int), dExpr a < n → okExpr a → 0 ≤ left → left ≤ 1048576 → p_laws_szExpr n a.f0 a.f1 a.f2 a.f3 a.f4 left = some (if (zExpr a : Int) ≤ left then left - zExpr a else -1)) ∧ (∀ (l : List S_laws_Expr) (left : Int), dl dExpr l < n → l.length ≤ maxLen → (∀ a ∈ l, okExpr a) → 0 ≤ left → left ≤ 1048576 → p_laws_szExprS n l left = some (if (zl zExpr l : Int) ≤ left then left - zl zExpr l else -1)) ∧
  (∀ (a : S_laws_Clause) (left : Int), dClause a < n → okClause a → 0 ≤ left → left ≤ 1048576 → p_laws_szClause n a.f0 a.f1 a.f2 a.f3 a.f4 a.f5 a.f6 a.f7 a.f8 a.f9 left = some (if (zClause a : Int) ≤ left then left - zClause a else -1)) ∧ (∀ (l : List S_laws_Clause) (left : Int), dl dClause l < n → l.length ≤ maxLen → (∀ a ∈ l, okClause a) → 0 ≤ left → left ≤ 1048576 → p_laws_szClauseS n l left = some (if (zl zClause l : Int) ≤ left then left - zl zClause l else -1))
 | 0 => ⟨fun a left h => by omega, fun l left h => by omega, fun a left h => by omega, fun l left h => by omega⟩
 | n + 1 => by
  obtain ⟨ih1, ih2, ih3, ih4⟩ := szExpr_oks n
  refine ⟨fun a left h ho h0 h1 => ?_, fun l left h hl ho h0 h1 => ?_, fun a left h ho h0 h1 => ?_, fun l left h hl ho h0 h1 => ?_⟩
  ·rw [p_laws_szExpr_succ]
   unfold s_laws_szExpr
   rw [dExpr_e, dExprs_dl, dClauses_dl] at h
   rw [okExpr_e] at ho
   have hz := zExpr_e a
   rw [zExprs_zl, zClauses_zl] at hz
   obtain ⟨_, _, o3, o4, o5⟩ := ho
   rw [sub_ok o3 h0 h1, hz]
   by_cases c : left - (a.f2.length : Int) < 0
   ·rw [decide_eq_true c, cond_true, if_neg (by omega)]
   rw [decide_eq_false c, cond_false]
   rw [ih2 a.f3 _ (by omega) o4.1 ((okExprs_iff _).1 o4.2) (by omega) (by omega)]
   by_cases c2 : (zl zExpr a.f3 : Int) ≤ left - a.f2.length
   ·rw [if_pos c2, Option.bind_some, decide_eq_false (by omega), cond_false]
    rw [ih4 a.f4 _ (by omega) o5.1 ((okClauses_iff _).1 o5.2) (by omega) (by omega)]
    by_cases c3 : (zl zClause a.f4 : Int) ≤ left - a.f2.length - zl zExpr a.f3
    ·rw [if_pos c3, if_pos (by omega), Option.bind_some, decide_eq_false (by omega)]
     simp only [cond_false, Option.some.injEq]; omega
    ·rw [if_neg c3, if_neg (by omega)]; rfl
   ·rw [if_neg c2, if_neg (by omega)]; rfl
  ·rw [p_laws_szExprS_succ]
   unfold s_laws_szExprS
   have h2 := dl_len dExpr l
   have ez : zl zExpr l = l.length + sumz zExpr l := rfl
   rw [ez, sub_ok hl h0 h1]
   by_cases c : left - (l.length : Int) < 0
   ·rw [decide_eq_true c, cond_true, if_neg (by omega)]
   rw [decide_eq_false c, cond_false]
   rw [loop_sz l zExpr (fun i a t ha t0 t1 => by
    have hm := List.mem_of_getElem? ha
    have hd := dl_mem dExpr hm
    have hi := lt_len ha
    have e := ih1 a t (by omega) (ho a hm) t0 t1
    simp only [p_laws_szExprS_b1, lt_int ha, cond_true, ix_nat, ha, Option.bind_some, e, wrap_succ (show i < 4611686018427387904 by simp only [maxLen] at hl; omega)]
    by_cases c2 : (zExpr a : Int) ≤ t
    ·rw [if_pos c2, if_pos c2, decide_eq_false (by omega)]; rfl
    ·rw [if_neg c2, if_neg c2]; rfl) (fun t => by simp only [p_laws_szExprS_b1, not_lt_int, cond_false]) (by omega) (by omega) (by omega)]
   by_cases c2 : (sumz zExpr l : Int) ≤ left - l.length
   ·rw [if_pos c2, if_pos (by omega)]
    simp only [Option.bind_some, Option.some.injEq]; omega
   ·rw [if_neg c2, if_neg (by omega)]; rfl
  ·rw [p_laws_szClause_succ]
   unfold s_laws_szClause
   rw [dClause_e] at h
   rw [okClause_e] at ho
   have hz := zClause_e a
   have e1 : p_laws_szExpr n a.f0 a.f1 a.f2 a.f3 a.f4 left = _ := ih1 a.p left (by omega) ho.1 h0 h1
   rw [e1, hz]
   by_cases c : (zExpr a.p : Int) ≤ left
   ·rw [if_pos c, Option.bind_some, decide_eq_false (by omega), cond_false]
    have e2 : p_laws_szExpr n a.f5 a.f6 a.f7 a.f8 a.f9 (left - zExpr a.p) = _ := ih1 a.x _ (by omega) ho.2 (by omega) (by omega)
    rw [e2]
    by_cases c2 : (zExpr a.x : Int) ≤ left - zExpr a.p
    ·rw [if_pos c2, if_pos (by omega), Option.bind_some, decide_eq_false (by omega)]
     simp only [cond_false, Option.some.injEq]; omega
    ·rw [if_neg c2, if_neg (by omega)]; rfl
   ·rw [if_neg c, if_neg (by omega)]; rfl
  ·rw [p_laws_szClauseS_succ]
   unfold s_laws_szClauseS
   have h2 := dl_len dClause l
   have ez : zl zClause l = l.length + sumz zClause l := rfl
   rw [ez, sub_ok hl h0 h1]
   by_cases c : left - (l.length : Int) < 0
   ·rw [decide_eq_true c, cond_true, if_neg (by omega)]
   rw [decide_eq_false c, cond_false]
   rw [loop_sz l zClause (fun i a t ha t0 t1 => by
    have hm := List.mem_of_getElem? ha
    have hd := dl_mem dClause hm
    have hi := lt_len ha
    have e := ih3 a t (by omega) (ho a hm) t0 t1
    simp only [p_laws_szClauseS_b1, lt_int ha, cond_true, ix_nat, ha, Option.bind_some, e, wrap_succ (show i < 4611686018427387904 by simp only [maxLen] at hl; omega)]
    by_cases c2 : (zClause a : Int) ≤ t
    ·rw [if_pos c2, if_pos c2, decide_eq_false (by omega)]; rfl
    ·rw [if_neg c2, if_neg c2]; rfl) (fun t => by simp only [p_laws_szClauseS_b1, not_lt_int, cond_false]) (by omega) (by omega) (by omega)]
   by_cases c2 : (sumz zClause l : Int) ≤ left - l.length
   ·rw [if_pos c2, if_pos (by omega)]
    simp only [Option.bind_some, Option.some.injEq]; omega
   ·rw [if_neg c2, if_neg (by omega)]; rfl
theorem szExpr_ok (n : Nat) {a0 a1 : Int} {a2 : List UInt8} {a3 : List S_laws_Expr} {a4 : List S_laws_Clause} {left : Int} (h : dExpr (.mk a0 a1 a2 a3 a4) < n) (ho : okExpr (.mk a0 a1 a2 a3 a4)) (h0 : 0 ≤ left) (h1 : left ≤ 1048576) : p_laws_szExpr n a0 a1 a2 a3 a4 left = some (if (zExpr (.mk a0 a1 a2 a3 a4) : Int) ≤ left then left - zExpr (.mk a0 a1 a2 a3 a4) else -1) := (szExpr_oks n).1 _ _ h ho h0 h1
theorem toExpr_oks : ∀ (n : Nat), (∀ (a : S_laws_Expr), dExpr a < n → zExpr a ≤ 1048576 → p_laws_toExpr n a.f0 a.f1 a.f2 a.f3 a.f4 = some (a.f0, a.f1, a.f2, cExprs a.f3, cClauses a.f4)) ∧ (∀ (l : List S_laws_Expr), dl dExpr l < n → zl zExpr l ≤ 1048576 → p_laws_toExprS n l = some (cExprs l)) ∧
  (∀ (a : S_laws_Clause), dClause a < n → zClause a ≤ 1048576 → p_laws_toClause n a.f0 a.f1 a.f2 a.f3 a.f4 a.f5 a.f6 a.f7 a.f8 a.f9 = some (a.f0, a.f1, a.f2, cExprs a.f3, cClauses a.f4, a.f5, a.f6, a.f7, cExprs a.f8, cClauses a.f9)) ∧ (∀ (l : List S_laws_Clause), dl dClause l < n → zl zClause l ≤ 1048576 → p_laws_toClauseS n l = some (cClauses l))
 | 0 => ⟨fun a h => by omega, fun l h => by omega, fun a h => by omega, fun l h => by omega⟩
 | n + 1 => by
  obtain ⟨ih1, ih2, ih3, ih4⟩ := toExpr_oks n
  refine ⟨fun a h hz => ?_, fun l h hz => ?_, fun a h hz => ?_, fun l h hz => ?_⟩
  ·rw [p_laws_toExpr_succ]
   unfold s_laws_toExpr
   rw [dExpr_e, dExprs_dl, dClauses_dl] at h
   rw [zExpr_e, zExprs_zl, zClauses_zl] at hz
   simp only [ih2 a.f3 (by omega) (by omega), ih4 a.f4 (by omega) (by omega), Option.bind_some]
  ·rw [p_laws_toExprS_succ]
   unfold s_laws_toExprS
   have h2 := dl_len dExpr l
   have ez : zl zExpr l = l.length + sumz zExpr l := rfl
   have hc : decide (0 ≤ (l.length : Int) ∧ (l.length : Int) ≤ maxLen ∧ 80 * (l.length : Int) ≤ 281474976710656) = true := decide_eq_true ⟨by omega, by simp only [maxLen]; omega, by omega⟩
   rw [hc]
   simp only [ck, cond_true, Option.bind_some, Int.toNat_natCast]
   rw [loop_to l cExpr _ (fun i a o b ha hb => by
    have hm := List.mem_of_getElem? ha
    have hd := dl_mem dExpr hm
    have hi := lt_len ha
    have hs := sumz_mem zExpr hm
    simp only [p_laws_toExprS_b1, lt_int ha, cond_true, ix_nat, ha, hb, Option.bind_some, ih1 a (by omega) (by omega), wrap_succ (show i < 4611686018427387904 by omega), Int.toNat_natCast, ← cExpr_mk, S_laws_Expr_eta]) (fun o => by simp only [p_laws_toExprS_b1, not_lt_int, cond_false]) (by omega)]
   simp only [Option.bind_some, cExprs_map]
  ·rw [p_laws_toClause_succ]
   unfold s_laws_toClause
   rw [dClause_e] at h
   rw [zClause_e] at hz
   have e1 : p_laws_toExpr n a.f0 a.f1 a.f2 a.f3 a.f4 = some (a.f0, a.f1, a.f2, cExprs a.f3, cClauses a.f4) := ih1 a.p (by omega) (by omega)
   have e2 : p_laws_toExpr n a.f5 a.f6 a.f7 a.f8 a.f9 = some (a.f5, a.f6, a.f7, cExprs a.f8, cClauses a.f9) := ih1 a.x (by omega) (by omega)
   simp only [e1, e2, Option.bind_some]
  ·rw [p_laws_toClauseS_succ]
   unfold s_laws_toClauseS
   have h2 := dl_len dClause l
   have ez : zl zClause l = l.length + sumz zClause l := rfl
   have hc : decide (0 ≤ (l.length : Int) ∧ (l.length : Int) ≤ maxLen ∧ 160 * (l.length : Int) ≤ 281474976710656) = true := decide_eq_true ⟨by omega, by simp only [maxLen]; omega, by omega⟩
   rw [hc]
   simp only [ck, cond_true, Option.bind_some, Int.toNat_natCast]
   rw [loop_to l cCl _ (fun i a o b ha hb => by
    have hm := List.mem_of_getElem? ha
    have hd := dl_mem dClause hm
    have hi := lt_len ha
    have hs := sumz_mem zClause hm
    have hcl : S_impl_Clause.mk a.f0 a.f1 a.f2 (cExprs a.f3) (cClauses a.f4) a.f5 a.f6 a.f7 (cExprs a.f8) (cClauses a.f9) = cCl a := by
     obtain ⟨p, x⟩ := a
     show _ = cClause (.two p x)
     simp only [cClause]
     cases p; cases x
     simp only [cExpr]; rfl
    simp only [p_laws_toClauseS_b1, lt_int ha, cond_true, ix_nat, ha, hb, Option.bind_some, ih3 a (by omega) (by omega), wrap_succ (show i < 4611686018427387904 by omega), Int.toNat_natCast, hcl]) (fun o => by simp only [p_laws_toClauseS_b1, not_lt_int, cond_false]) (by omega)]
   simp only [Option.bind_some, cClauses_map]
theorem toExpr_ok (n : Nat) {a0 a1 : Int} {a2 : List UInt8} {a3 : List S_laws_Expr} {a4 : List S_laws_Clause} (h : dExpr (.mk a0 a1 a2 a3 a4) < n) (hz : zExpr (.mk a0 a1 a2 a3 a4) ≤ 1048576) : p_laws_toExpr n a0 a1 a2 a3 a4 = some ((cExpr (.mk a0 a1 a2 a3 a4)).f0, (cExpr (.mk a0 a1 a2 a3 a4)).f1, (cExpr (.mk a0 a1 a2 a3 a4)).f2, (cExpr (.mk a0 a1 a2 a3 a4)).f3, (cExpr (.mk a0 a1 a2 a3 a4)).f4) := by
 have e : p_laws_toExpr n a0 a1 a2 a3 a4 = _ := (toExpr_oks n).1 (.mk a0 a1 a2 a3 a4) h hz
 rw [e, cExpr_mk]; rfl
theorem eqExpr_oks : ∀ (n : Nat), n ≤ 4611686018427387904 → (∀ (a : S_impl_Expr), wExpr a < n → p_laws_eqExpr n a.f0 a.f1 a.f2 a.f3 a.f4 a.f0 a.f1 a.f2 a.f3 a.f4 = some true) ∧ (∀ (l : List S_impl_Expr), dl wExpr l < n → p_laws_eqExprS n l l = some true) ∧
  (∀ (a : S_impl_Clause), wClause a < n → p_laws_eqClause n a.f0 a.f1 a.f2 a.f3 a.f4 a.f5 a.f6 a.f7 a.f8 a.f9 a.f0 a.f1 a.f2 a.f3 a.f4 a.f5 a.f6 a.f7 a.f8 a.f9 = some true) ∧ (∀ (l : List S_impl_Clause), dl wClause l < n → p_laws_eqClauseS n l l = some true)
 | 0, _ => ⟨fun a h => by omega, fun l h => by omega, fun a h => by omega, fun l h => by omega⟩
 | n + 1, hn => by
  obtain ⟨ih1, ih2, ih3, ih4⟩ := eqExpr_oks n (by omega)
  refine ⟨fun a h => ?_, fun l h => ?_, fun a h => ?_, fun l h => ?_⟩
  ·rw [p_laws_eqExpr_succ]
   unfold s_laws_eqExpr
   rw [wExpr_e, wExprs_dl, wClauses_dl] at h
   simp only [ih2 a.f3 (by omega), ih4 a.f4 (by omega), Option.bind_some, decide_true, Bool.not_true, cond_false]
  ·rw [p_laws_eqExprS_succ]
   unfold s_laws_eqExprS
   have h2 := dl_len wExpr l
   simp only [decide_true, Bool.not_true, cond_false]
   rw [loop_eq l (fun i a ha => by
    have hm := List.mem_of_getElem? ha
    have hd := dl_mem wExpr hm
    have hi := lt_len ha
    simp only [p_laws_eqExprS_b1, lt_int ha, cond_true, ix_nat, ha, Option.bind_some, ih1 a (by omega), Bool.not_true, cond_false, wrap_succ (show i < 4611686018427387904 by omega)]) (by simp only [p_laws_eqExprS_b1, not_lt_int, cond_false]) (by omega)]
   simp only [Option.bind_some]
  ·rw [p_laws_eqClause_succ]
   unfold s_laws_eqClause
   rw [wClause_e] at h
   have e1 : p_laws_eqExpr n a.f0 a.f1 a.f2 a.f3 a.f4 a.f0 a.f1 a.f2 a.f3 a.f4 = some true := ih1 a.p (by omega)
   have e2 : p_laws_eqExpr n a.f5 a.f6 a.f7 a.f8 a.f9 a.f5 a.f6 a.f7 a.f8 a.f9 = some true := ih1 a.x (by omega)
   simp only [e1, e2, Option.bind_some, Bool.not_true, cond_false]
  ·rw [p_laws_eqClauseS_succ]
   unfold s_laws_eqClauseS
   have h2 := dl_len wClause l
   simp only [decide_true, Bool.not_true, cond_false]
   rw [loop_eq l (fun i a ha => by
    have hm := List.mem_of_getElem? ha
    have hd := dl_mem wClause hm
    have hi := lt_len ha
    simp only [p_laws_eqClauseS_b1, lt_int ha, cond_true, ix_nat, ha, Option.bind_some, ih3 a (by omega), Bool.not_true, cond_false, wrap_succ (show i < 4611686018427387904 by omega)]) (by simp only [p_laws_eqClauseS_b1, not_lt_int, cond_false]) (by omega)]
   simp only [Option.bind_some]
theorem eqExpr_ok (n : Nat) {a0 a1 : Int} {a2 : List UInt8} {a3 : List S_impl_Expr} {a4 : List S_impl_Clause} (h : wExpr (.mk a0 a1 a2 a3 a4) < n) (hn : n ≤ 4611686018427387904) : p_laws_eqExpr n a0 a1 a2 a3 a4 a0 a1 a2 a3 a4 = some true := (eqExpr_oks n hn).1 (.mk a0 a1 a2 a3 a4) h

theorem S_impl_Bind_eta (a : S_impl_Bind) : S_impl_Bind.mk a.f0 a.f1 a.f2 a.f3 a.f4 = a := rfl
def wBind : S_impl_Bind → Nat
 | .mk a0 a1 a2 a3 a4 => 3 + a0.length + wTerm (.mk a1 a2 a3 a4)
theorem eqBind_ok (n : Nat) {a0 : List UInt8} {a1 : Int} {a2 : Int} {a3 : List UInt8} {a4 : List S_impl_Term} (h : wBind (.mk a0 a1 a2 a3 a4) < n) (hn : n ≤ 4611686018427387904) : p_laws_eqBind n a0 a1 a2 a3 a4 a0 a1 a2 a3 a4 = some true := by
 unfold p_laws_eqBind
 simp only [wBind] at h
 try simp only [decide_true, beq_self_eq_true, Bool.not_true, cond_false]
 rw [eqTerm_ok n (h := by omega) (hn := hn)]
 simp only [Option.bind_some, decide_true, beq_self_eq_true, Bool.not_true, cond_false]
theorem eqBindS_ok (n : Nat) (l : List S_impl_Bind) (h : dl wBind l < n) (hn : n ≤ 4611686018427387904) : p_laws_eqBindS n l l = some true := by
 unfold p_laws_eqBindS
 have h2 := dl_len wBind l
 simp only [decide_true, Bool.not_true, cond_false]
 rw [loop_eq l (fun i a ha => by
  have hm := List.mem_of_getElem? ha
  have hd := dl_mem wBind hm
  have hi := lt_len ha
  simp only [p_laws_eqBindS_b1, lt_int ha, cond_true, ix_nat, ha, Option.bind_some, wrap_succ (show i < 4611686018427387904 by omega)]
  rw [eqBind_ok n (h := by rw [S_impl_Bind_eta]; omega) (hn := hn)]
  rfl) (by simp only [p_laws_eqBindS_b1, not_lt_int, cond_false]) (by omega)]
 rfl

end Go.Own.Q
