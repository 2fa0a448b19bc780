/- The law FnExactMatch, put together. No conditions. -/
import Derived.Test.YtgeomhdbckjkcaaW16Match3
set_option linter.unusedVariables false
set_option linter.unusedSimpArgs false
set_option linter.unnecessarySimpa false
namespace Go.Own.Q
open Go Go.Proofs
/-- What both answer. -/
def matched (a : S_impl_Expr) (t : S_impl_Term) : List S_impl_Bind × Bool := bif patOk a && termOk t then (match mt 10 a t with | some M => (M, true) | none => ([], false)) else ([], false)
theorem patOk_xok {a : S_impl_Expr} (h : patOk a = true) : xok 10 true a = true := by
 unfold patOk at h
 simp only [Bool.and_eq_true] at h
 exact h.1.1
theorem impl_Match_ok (n : Nat) (hn : n ≤ 1099511627776) (a : S_impl_Expr) (t : S_impl_Term) (h : wExpr a + wTerm t + 400 < n) : p_impl_Match n a.f0 a.f1 a.f2 a.f3 a.f4 t.f0 t.f1 t.f2 t.f3 = some (matched a t) := by
 unfold p_impl_Match matched
 have hT := impl_TermOk_ok n t.f0 t.f1 t.f2 t.f3 (by rw [S_impl_Term_eta]; omega) (by omega)
 rw [S_impl_Term_eta] at hT
 rw [impl_PatOk_ok n hn a (by omega), hT]
 cases hp : patOk a with
 | false => rfl
 | true =>
  cases ht : termOk t with
  | false => rfl
  | true =>
   obtain ⟨L, ok, e1, e2⟩ := (impl_match_oks n hn).1 10 a t [] (patOk_xok hp) (by omega) (by simp only [List.length_nil]; omega)
   simp only [Option.bind_some, Bool.not_true, cond_false, e1, Bool.and_self, cond_true]
   cases hM : mt 10 a t with
   | none => rw [hM] at e2; have e2 : ok = false := e2; subst e2; rfl
   | some M => rw [hM] at e2; obtain ⟨rfl, rfl⟩ : L = [] ++ M ∧ ok = true := e2; rfl
theorem spec_Match_ok (n : Nat) (hn : n ≤ 1099511627776) (a : S_impl_Expr) (t : S_impl_Term) (h : wExpr a + wTerm t + 400 < n) : p_spec_Match n a.f0 a.f1 a.f2 a.f3 a.f4 t.f0 t.f1 t.f2 t.f3 = some (matched a t) := by
 unfold p_spec_Match matched
 have hT := spec_TermOk_ok n t.f0 t.f1 t.f2 t.f3 (by rw [S_impl_Term_eta]; omega) (by omega)
 rw [S_impl_Term_eta] at hT
 rw [spec_PatOk_ok n hn a (by omega), hT]
 cases hp : patOk a with
 | false => rfl
 | true =>
  cases ht : termOk t with
  | false => rfl
  | true =>
   obtain ⟨L, ok, e1, e2⟩ := (spec_match_oks n hn).1 10 a t [] (patOk_xok hp) (by omega) (by simp only [List.length_nil]; omega)
   simp only [Option.bind_some, Bool.not_true, cond_false, e1, Bool.and_self, cond_true]
   cases hM : mt 10 a t with
   | none => rw [hM] at e2; have e2 : ok = false := e2; subst e2; rfl
   | some M => rw [hM] at e2; obtain ⟨rfl, rfl⟩ : L = [] ++ M ∧ ok = true := e2; rfl
theorem matched_w (a : S_impl_Expr) (t : S_impl_Term) : dl wBind (matched a t).1 ≤ 1 + wExpr a + wTerm t := by
 unfold matched
 cases patOk a && termOk t with
 | false => simp only [cond_false, dl]; omega
 | true =>
  rw [cond_true]
  cases h : mt 10 a t with
  | none => simp only [dl]; omega
  | some M => exact mt_w 10 a t M h
theorem law (a : S_laws_Expr) (b : S_laws_Term) (ho : okExpr a) (hb : okTerm b) : ∃ n, p_laws_FnExactMatch n a.f0 a.f1 a.f2 a.f3 a.f4 b.f0 b.f1 b.f2 b.f3 = some true := by
 refine ⟨dExpr a + dTerm b + 500, ?_⟩
 generalize hN : dExpr a + dTerm b + 500 = n
 unfold p_laws_FnExactMatch
 rw [szExpr_ok n (h := by rw [S_laws_Expr_eta]; omega) (ho := by rw [S_laws_Expr_eta]; exact ho) (h0 := by omega) (h1 := by omega), S_laws_Expr_eta]
 by_cases hz : (zExpr a : Int) ≤ 1048576
 ·have hd := dExpr_z a
  rw [if_pos hz]
  simp only [Option.bind_some]
  rw [decide_eq_false (by omega), cond_false]
  rw [szTerm_ok n (h := by rw [S_laws_Term_eta]; omega) (ho := by rw [S_laws_Term_eta]; exact hb) (h0 := by omega) (h1 := by omega), S_laws_Term_eta]
  by_cases hy : (zTerm b : Int) ≤ 1048576 - zExpr a
  ·have hd2 := dTerm_z b
   rw [if_pos hy]
   simp only [Option.bind_some]
   rw [decide_eq_false (by omega), cond_false]
   rw [toExpr_ok n (h := by rw [S_laws_Expr_eta]; omega) (hz := by rw [S_laws_Expr_eta]; omega), toTerm_ok n (h := by rw [S_laws_Term_eta]; omega) (hz := by rw [S_laws_Term_eta]; omega)]
   simp only [S_laws_Expr_eta, S_laws_Term_eta, Option.bind_some]
   have hx : wExpr (cExpr a) = dExpr a := wExpr_c a
   have ht : wTerm (cTerm b) = dTerm b := wTerm_c b
   generalize cExpr a = x at *
   generalize cTerm b = t at *
   have hn : n ≤ 1099511627776 := by omega
   have e1 : ((1 : Nat) : Int) = 1 := rfl
   have hM := matched_w x t
   simp only [spec_Match_ok n hn x t (by omega), impl_Match_ok n hn x t (by omega), Option.bind_some]
   generalize (matched x t).1 = M at hM
   generalize (matched x t).2 = ok
   have hwx := wExpr_e x
   have hwt := wTerm_e t
   rw [wExprs_dl, wClauses_dl] at hwx
   rw [wTerms_dl] at hwt
   have g1 := dl_len wExpr x.f3
   have g2 := dl_len wClause x.f4
   have g3 := dl_len wTerm t.f3
   have k0 := eqBindS_ok n M (by omega) (by omega)
   have k1 := eqExpr_ok n (a0 := x.f0) (a1 := x.f1) (a2 := x.f2) (a3 := x.f3) (a4 := x.f4) (by rw [S_impl_Expr_eta]; omega) (by omega)
   have k2 := eqTerm_ok n (a0 := t.f0) (a1 := t.f1) (a2 := t.f2) (a3 := t.f3) (by rw [S_impl_Term_eta]; omega) (by omega)
   have m1 := markExprS_ok n hn x.f3 1 (by omega) (by omega) (by omega)
   have l1 := leExprS x.f3 1
   have b1 := geExprS x.f3 1
   have m2 := markClauseS_ok n hn x.f4 (mkExprS x.f3 1).1 (by omega) (by omega) (by omega)
   have l2 := leClauseS x.f4 (mkExprS x.f3 1).1
   have b2 := geClauseS x.f4 (mkExprS x.f3 1).1
   have m3 := markTermS_ok n hn t.f3 (mkClauseS x.f4 (mkExprS x.f3 1).1).1 (by omega) (by omega) (by omega)
   have b3 := geTermS t.f3 (mkClauseS x.f4 (mkExprS x.f3 1).1).1
   have m4 := markBindS_ok n hn M 1 (by omega) (by omega) (by omega)
   have h4 := heldBindS_ok n hn M 1 (by omega) (by omega) (by omega)
   have b4 := geBindS M 1
   rw [e1] at m1 m4 h4
   simp only [k0, k1, k2, m1, m2, m3, m4, h4, Option.bind_some, Bool.not_true, cond_false, beq_self_eq_true, decide_true,
    decide_eq_false (show ¬ ((mkTermS t.f3 (mkClauseS x.f4 (mkExprS x.f3 1).1).1).1 : Int) < 0 by omega), decide_eq_false (show ¬ ((mkBindS M 1).1 : Int) < 0 by omega)]
  ·rw [if_neg hy]; rfl
 ·rw [if_neg hz]; rfl
end Go.Own.Q
