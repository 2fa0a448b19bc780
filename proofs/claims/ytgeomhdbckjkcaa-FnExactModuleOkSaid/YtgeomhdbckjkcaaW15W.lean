/- Each function on plain data, and its walk. No conditions. -/
import Derived.Test.YtgeomhdbckjkcaaW15A
set_option linter.unusedVariables false
set_option linter.unusedSimpArgs false
set_option linter.unnecessarySimpa false
namespace Go.Own
open Go Go.Proofs
def rStr (a : List UInt8) : List T := [.str a]
theorem rStr_eq (a : List UInt8) : rStr a = [.str a] := rfl
def rI_i64 (a : Int) : List T := [.int .i64 a]
theorem rI_i64_eq (a : Int) : rI_i64 a = [.int .i64 a] := rfl
def rI_u8 (a : Int) : List T := [.int .u8 a]
theorem rI_u8_eq (a : Int) : rI_u8 a = [.int .u8 a] := rfl
mutual
inductive S_laws_Expr where
  | mk (f0 : Int) (f1 : Int) (f2 : List UInt8) (f3 : List S_laws_Expr) (f4 : List S_laws_Clause)
inductive S_laws_Clause where
  | two (p x : S_laws_Expr)
end
def S_laws_Clause.p : S_laws_Clause → S_laws_Expr
  | .two a _ => a
def S_laws_Clause.x : S_laws_Clause → S_laws_Expr
  | .two _ a => a
def S_laws_Expr.f0 : S_laws_Expr → Int
  | .mk a _ _ _ _ => a
def S_laws_Expr.f1 : S_laws_Expr → Int
  | .mk _ a _ _ _ => a
def S_laws_Expr.f2 : S_laws_Expr → List UInt8
  | .mk _ _ a _ _ => a
def S_laws_Expr.f3 : S_laws_Expr → List S_laws_Expr
  | .mk _ _ _ a _ => a
def S_laws_Expr.f4 : S_laws_Expr → List S_laws_Clause
  | .mk _ _ _ _ a => a
def S_laws_Clause.f0 (c : S_laws_Clause) : Int := S_laws_Expr.f0 (S_laws_Clause.p c)
def S_laws_Clause.f1 (c : S_laws_Clause) : Int := S_laws_Expr.f1 (S_laws_Clause.p c)
def S_laws_Clause.f2 (c : S_laws_Clause) : List UInt8 := S_laws_Expr.f2 (S_laws_Clause.p c)
def S_laws_Clause.f3 (c : S_laws_Clause) : List S_laws_Expr := S_laws_Expr.f3 (S_laws_Clause.p c)
def S_laws_Clause.f4 (c : S_laws_Clause) : List S_laws_Clause := S_laws_Expr.f4 (S_laws_Clause.p c)
def S_laws_Clause.f5 (c : S_laws_Clause) : Int := S_laws_Expr.f0 (S_laws_Clause.x c)
def S_laws_Clause.f6 (c : S_laws_Clause) : Int := S_laws_Expr.f1 (S_laws_Clause.x c)
def S_laws_Clause.f7 (c : S_laws_Clause) : List UInt8 := S_laws_Expr.f2 (S_laws_Clause.x c)
def S_laws_Clause.f8 (c : S_laws_Clause) : List S_laws_Expr := S_laws_Expr.f3 (S_laws_Clause.x c)
def S_laws_Clause.f9 (c : S_laws_Clause) : List S_laws_Clause := S_laws_Expr.f4 (S_laws_Clause.x c)
def S_laws_Clause.mk (a0 : Int) (a1 : Int) (a2 : List UInt8) (a3 : List S_laws_Expr) (a4 : List S_laws_Clause) (a5 : Int) (a6 : Int) (a7 : List UInt8) (a8 : List S_laws_Expr) (a9 : List S_laws_Clause) : S_laws_Clause := .two (.mk a0 a1 a2 a3 a4) (.mk a5 a6 a7 a8 a9)
mutual
def rS_laws_Expr : S_laws_Expr → List T
  | .mk a0 a1 a2 a3 a4 => [.int .i64 a0, .int .i64 a1, .str a2, .sl (rS_laws_Exprs a3), .sl (rS_laws_Clauses a4)]
def rS_laws_Exprs : List S_laws_Expr → List (List T)
  | [] => []
  | x :: r => rS_laws_Expr x :: rS_laws_Exprs r
def rS_laws_Clause : S_laws_Clause → List T
  | .two p x => rS_laws_Expr p ++ rS_laws_Expr x
def rS_laws_Clauses : List S_laws_Clause → List (List T)
  | [] => []
  | x :: r => rS_laws_Clause x :: rS_laws_Clauses r
end
theorem rS_laws_Exprs_map : ∀ l : List S_laws_Expr, rS_laws_Exprs l = l.map rS_laws_Expr
  | [] => by simp [rS_laws_Exprs]
  | x :: r => by simp [rS_laws_Exprs, rS_laws_Exprs_map r]
theorem rS_laws_Clauses_map : ∀ l : List S_laws_Clause, rS_laws_Clauses l = l.map rS_laws_Clause
  | [] => by simp [rS_laws_Clauses]
  | x :: r => by simp [rS_laws_Clauses, rS_laws_Clauses_map r]
theorem rS_laws_Expr_mk (a0 : Int) (a1 : Int) (a2 : List UInt8) (a3 : List S_laws_Expr) (a4 : List S_laws_Clause) : rS_laws_Expr (.mk a0 a1 a2 a3 a4) = [.int .i64 a0, .int .i64 a1, .str a2, .sl (a3.map rS_laws_Expr), .sl (a4.map rS_laws_Clause)] := by simp only [rS_laws_Expr, rS_laws_Exprs_map, rS_laws_Clauses_map]
theorem rS_laws_Expr_eq (a : S_laws_Expr) : rS_laws_Expr a = [.int .i64 a.f0, .int .i64 a.f1, .str a.f2, .sl (a.f3.map rS_laws_Expr), .sl (a.f4.map rS_laws_Clause)] := by
  cases a
  exact rS_laws_Expr_mk _ _ _ _ _
theorem rS_laws_Clause_eq (a : S_laws_Clause) : rS_laws_Clause a = [.int .i64 a.f0, .int .i64 a.f1, .str a.f2, .sl (a.f3.map rS_laws_Expr), .sl (a.f4.map rS_laws_Clause), .int .i64 a.f5, .int .i64 a.f6, .str a.f7, .sl (a.f8.map rS_laws_Expr), .sl (a.f9.map rS_laws_Clause)] := by
  cases a with
  | two p x =>
    simp only [rS_laws_Clause]
    rw [rS_laws_Expr_eq p, rS_laws_Expr_eq x]; rfl
theorem rS_laws_Clause_mk (a0 : Int) (a1 : Int) (a2 : List UInt8) (a3 : List S_laws_Expr) (a4 : List S_laws_Clause) (a5 : Int) (a6 : Int) (a7 : List UInt8) (a8 : List S_laws_Expr) (a9 : List S_laws_Clause) : rS_laws_Clause (.mk a0 a1 a2 a3 a4 a5 a6 a7 a8 a9) = [.int .i64 a0, .int .i64 a1, .str a2, .sl (a3.map rS_laws_Expr), .sl (a4.map rS_laws_Clause), .int .i64 a5, .int .i64 a6, .str a7, .sl (a8.map rS_laws_Expr), .sl (a9.map rS_laws_Clause)] := rS_laws_Clause_eq _
structure S_laws_Fun where
  f0 : List UInt8
  f1 : List (List UInt8)
  f2 : Int
  f3 : Int
  f4 : List UInt8
  f5 : List S_laws_Expr
  f6 : List S_laws_Clause
def rS_laws_Fun (a : S_laws_Fun) : List T := [.str a.f0, .sl (a.f1.map rStr), .int .i64 a.f2, .int .i64 a.f3, .str a.f4, .sl (a.f5.map rS_laws_Expr), .sl (a.f6.map rS_laws_Clause)]
theorem rS_laws_Fun_eq (a : S_laws_Fun) : rS_laws_Fun a = [.str a.f0, .sl (a.f1.map rStr), .int .i64 a.f2, .int .i64 a.f3, .str a.f4, .sl (a.f5.map rS_laws_Expr), .sl (a.f6.map rS_laws_Clause)] := rfl
mutual
inductive S_impl_Expr where
  | mk (f0 : Int) (f1 : Int) (f2 : List UInt8) (f3 : List S_impl_Expr) (f4 : List S_impl_Clause)
inductive S_impl_Clause where
  | two (p x : S_impl_Expr)
end
def S_impl_Clause.p : S_impl_Clause → S_impl_Expr
  | .two a _ => a
def S_impl_Clause.x : S_impl_Clause → S_impl_Expr
  | .two _ a => a
def S_impl_Expr.f0 : S_impl_Expr → Int
  | .mk a _ _ _ _ => a
def S_impl_Expr.f1 : S_impl_Expr → Int
  | .mk _ a _ _ _ => a
def S_impl_Expr.f2 : S_impl_Expr → List UInt8
  | .mk _ _ a _ _ => a
def S_impl_Expr.f3 : S_impl_Expr → List S_impl_Expr
  | .mk _ _ _ a _ => a
def S_impl_Expr.f4 : S_impl_Expr → List S_impl_Clause
  | .mk _ _ _ _ a => a
def S_impl_Clause.f0 (c : S_impl_Clause) : Int := S_impl_Expr.f0 (S_impl_Clause.p c)
def S_impl_Clause.f1 (c : S_impl_Clause) : Int := S_impl_Expr.f1 (S_impl_Clause.p c)
def S_impl_Clause.f2 (c : S_impl_Clause) : List UInt8 := S_impl_Expr.f2 (S_impl_Clause.p c)
def S_impl_Clause.f3 (c : S_impl_Clause) : List S_impl_Expr := S_impl_Expr.f3 (S_impl_Clause.p c)
def S_impl_Clause.f4 (c : S_impl_Clause) : List S_impl_Clause := S_impl_Expr.f4 (S_impl_Clause.p c)
def S_impl_Clause.f5 (c : S_impl_Clause) : Int := S_impl_Expr.f0 (S_impl_Clause.x c)
def S_impl_Clause.f6 (c : S_impl_Clause) : Int := S_impl_Expr.f1 (S_impl_Clause.x c)
def S_impl_Clause.f7 (c : S_impl_Clause) : List UInt8 := S_impl_Expr.f2 (S_impl_Clause.x c)
def S_impl_Clause.f8 (c : S_impl_Clause) : List S_impl_Expr := S_impl_Expr.f3 (S_impl_Clause.x c)
def S_impl_Clause.f9 (c : S_impl_Clause) : List S_impl_Clause := S_impl_Expr.f4 (S_impl_Clause.x c)
def S_impl_Clause.mk (a0 : Int) (a1 : Int) (a2 : List UInt8) (a3 : List S_impl_Expr) (a4 : List S_impl_Clause) (a5 : Int) (a6 : Int) (a7 : List UInt8) (a8 : List S_impl_Expr) (a9 : List S_impl_Clause) : S_impl_Clause := .two (.mk a0 a1 a2 a3 a4) (.mk a5 a6 a7 a8 a9)
mutual
def rS_impl_Expr : S_impl_Expr → List T
  | .mk a0 a1 a2 a3 a4 => [.int .i64 a0, .int .i64 a1, .str a2, .sl (rS_impl_Exprs a3), .sl (rS_impl_Clauses a4)]
def rS_impl_Exprs : List S_impl_Expr → List (List T)
  | [] => []
  | x :: r => rS_impl_Expr x :: rS_impl_Exprs r
def rS_impl_Clause : S_impl_Clause → List T
  | .two p x => rS_impl_Expr p ++ rS_impl_Expr x
def rS_impl_Clauses : List S_impl_Clause → List (List T)
  | [] => []
  | x :: r => rS_impl_Clause x :: rS_impl_Clauses r
end
theorem rS_impl_Exprs_map : ∀ l : List S_impl_Expr, rS_impl_Exprs l = l.map rS_impl_Expr
  | [] => by simp [rS_impl_Exprs]
  | x :: r => by simp [rS_impl_Exprs, rS_impl_Exprs_map r]
theorem rS_impl_Clauses_map : ∀ l : List S_impl_Clause, rS_impl_Clauses l = l.map rS_impl_Clause
  | [] => by simp [rS_impl_Clauses]
  | x :: r => by simp [rS_impl_Clauses, rS_impl_Clauses_map r]
theorem rS_impl_Expr_mk (a0 : Int) (a1 : Int) (a2 : List UInt8) (a3 : List S_impl_Expr) (a4 : List S_impl_Clause) : rS_impl_Expr (.mk a0 a1 a2 a3 a4) = [.int .i64 a0, .int .i64 a1, .str a2, .sl (a3.map rS_impl_Expr), .sl (a4.map rS_impl_Clause)] := by simp only [rS_impl_Expr, rS_impl_Exprs_map, rS_impl_Clauses_map]
theorem rS_impl_Expr_eq (a : S_impl_Expr) : rS_impl_Expr a = [.int .i64 a.f0, .int .i64 a.f1, .str a.f2, .sl (a.f3.map rS_impl_Expr), .sl (a.f4.map rS_impl_Clause)] := by
  cases a
  exact rS_impl_Expr_mk _ _ _ _ _
theorem rS_impl_Clause_eq (a : S_impl_Clause) : rS_impl_Clause a = [.int .i64 a.f0, .int .i64 a.f1, .str a.f2, .sl (a.f3.map rS_impl_Expr), .sl (a.f4.map rS_impl_Clause), .int .i64 a.f5, .int .i64 a.f6, .str a.f7, .sl (a.f8.map rS_impl_Expr), .sl (a.f9.map rS_impl_Clause)] := by
  cases a with
  | two p x =>
    simp only [rS_impl_Clause]
    rw [rS_impl_Expr_eq p, rS_impl_Expr_eq x]; rfl
theorem rS_impl_Clause_mk (a0 : Int) (a1 : Int) (a2 : List UInt8) (a3 : List S_impl_Expr) (a4 : List S_impl_Clause) (a5 : Int) (a6 : Int) (a7 : List UInt8) (a8 : List S_impl_Expr) (a9 : List S_impl_Clause) : rS_impl_Clause (.mk a0 a1 a2 a3 a4 a5 a6 a7 a8 a9) = [.int .i64 a0, .int .i64 a1, .str a2, .sl (a3.map rS_impl_Expr), .sl (a4.map rS_impl_Clause), .int .i64 a5, .int .i64 a6, .str a7, .sl (a8.map rS_impl_Expr), .sl (a9.map rS_impl_Clause)] := rS_impl_Clause_eq _
structure S_impl_Fun where
  f0 : List UInt8
  f1 : List (List UInt8)
  f2 : Int
  f3 : Int
  f4 : List UInt8
  f5 : List S_impl_Expr
  f6 : List S_impl_Clause
def rS_impl_Fun (a : S_impl_Fun) : List T := [.str a.f0, .sl (a.f1.map rStr), .int .i64 a.f2, .int .i64 a.f3, .str a.f4, .sl (a.f5.map rS_impl_Expr), .sl (a.f6.map rS_impl_Clause)]
theorem rS_impl_Fun_eq (a : S_impl_Fun) : rS_impl_Fun a = [.str a.f0, .sl (a.f1.map rStr), .int .i64 a.f2, .int .i64 a.f3, .str a.f4, .sl (a.f5.map rS_impl_Expr), .sl (a.f6.map rS_impl_Clause)] := rfl

abbrev Y_laws_szClause : Type := Int → Int → (List UInt8) → (List S_laws_Expr) → (List S_laws_Clause) → Int → Int → (List UInt8) → (List S_laws_Expr) → (List S_laws_Clause) → Int → Option (Int)
abbrev B_laws_szClause (p : Y_laws_szClause) : Prop := ∀ {t0_0 t0_1 : Int} {t0_2 : List UInt8} {t0_3 : List S_laws_Expr} {t0_4 : List S_laws_Clause} {t0_5 t0_6 : Int} {t0_7 : List UInt8} {t0_8 : List S_laws_Expr} {t0_9 : List S_laws_Clause} {t1_0 : Int} {r : Int}, p t0_0 t0_1 t0_2 t0_3 t0_4 t0_5 t0_6 t0_7 t0_8 t0_9 t1_0 = some r → Big Try.prog τ An (.fn 181 [.one (.ag [.int .i64 t0_0, .int .i64 t0_1, .str t0_2, .sl (t0_3.map rS_laws_Expr), .sl (t0_4.map rS_laws_Clause), .int .i64 t0_5, .int .i64 t0_6, .str t0_7, .sl (t0_8.map rS_laws_Expr), .sl (t0_9.map rS_laws_Clause)]), .one (.c (.int .i64 t1_0))] [] (.one (.c (.int .i64 r))) none [] none)
abbrev Y_laws_szClauseS : Type := (List S_laws_Clause) → Int → Option (Int)
abbrev B_laws_szClauseS (p : Y_laws_szClauseS) : Prop := ∀ {t0_0 : List S_laws_Clause} {t1_0 : Int} {r : Int}, p t0_0 t1_0 = some r → Big Try.prog τ An (.fn 105 [.one (.c (.sl (t0_0.map rS_laws_Clause))), .one (.c (.int .i64 t1_0))] [] (.one (.c (.int .i64 r))) none [] none)
abbrev Y_laws_szExprS : Type := (List S_laws_Expr) → Int → Option (Int)
abbrev B_laws_szExprS (p : Y_laws_szExprS) : Prop := ∀ {t0_0 : List S_laws_Expr} {t1_0 : Int} {r : Int}, p t0_0 t1_0 = some r → Big Try.prog τ An (.fn 104 [.one (.c (.sl (t0_0.map rS_laws_Expr))), .one (.c (.int .i64 t1_0))] [] (.one (.c (.int .i64 r))) none [] none)
abbrev Y_laws_szExpr : Type := Int → Int → (List UInt8) → (List S_laws_Expr) → (List S_laws_Clause) → Int → Option (Int)
abbrev B_laws_szExpr (p : Y_laws_szExpr) : Prop := ∀ {t0_0 t0_1 : Int} {t0_2 : List UInt8} {t0_3 : List S_laws_Expr} {t0_4 : List S_laws_Clause} {t1_0 : Int} {r : Int}, p t0_0 t0_1 t0_2 t0_3 t0_4 t1_0 = some r → Big Try.prog τ An (.fn 31 [.one (.ag [.int .i64 t0_0, .int .i64 t0_1, .str t0_2, .sl (t0_3.map rS_laws_Expr), .sl (t0_4.map rS_laws_Clause)]), .one (.c (.int .i64 t1_0))] [] (.one (.c (.int .i64 r))) none [] none)
def s_laws_szClause (n : Nat) (r_laws_szExpr : Y_laws_szExpr) (r_laws_szExprS : Y_laws_szExprS) (r_laws_szClauseS : Y_laws_szClauseS) (r_laws_szClause : Y_laws_szClause) (t0_0 : Int) (t0_1 : Int) (t0_2 : List UInt8) (t0_3 : List S_laws_Expr) (t0_4 : List S_laws_Clause) (t0_5 : Int) (t0_6 : Int) (t0_7 : List UInt8) (t0_8 : List S_laws_Expr) (t0_9 : List S_laws_Clause) (t1_0 : Int) : Option (Int) :=
  (r_laws_szExpr t0_0 t0_1 t0_2 t0_3 t0_4 t1_0).bind fun c8_1 => bif decide (c8_1 < (0 : Int)) then some ((-1) : Int) else (r_laws_szExpr t0_5 t0_6 t0_7 t0_8 t0_9 c8_1).bind fun c14_3 => bif decide (c14_3 < (0 : Int)) then some ((-1) : Int) else some c14_3
theorem step_laws_szClause {n : Nat} {r_laws_szExpr : Y_laws_szExpr} (ih_laws_szExpr : B_laws_szExpr r_laws_szExpr) {r_laws_szExprS : Y_laws_szExprS} (ih_laws_szExprS : B_laws_szExprS r_laws_szExprS) {r_laws_szClauseS : Y_laws_szClauseS} (ih_laws_szClauseS : B_laws_szClauseS r_laws_szClauseS) {r_laws_szClause : Y_laws_szClause} (ih_laws_szClause : B_laws_szClause r_laws_szClause) : B_laws_szClause (s_laws_szClause n r_laws_szExpr r_laws_szExprS r_laws_szClauseS r_laws_szClause) := by
 intro t0_0 t0_1 t0_2 t0_3 t0_4 t0_5 t0_6 t0_7 t0_8 t0_9 t1_0 r h
 unfold s_laws_szClause at h
 refine bF Try.func181 rfl rfl ?_
 refine cRs ?_
 refine xBx rfl ?_
 refine xAs rfl ?_
 refine oRs ?_
 refine xFd rfl ?_
 refine xLd rfl ?_
 refine xMv rfl ?_
 refine xC0 h (ih_laws_szExpr ·) rfl (fun c8_1 h => ?_)
 refine xAs rfl ?_
 refine oNl ?_
 refine cSq ?_
 refine cRs ?_
 refine xMv rfl ?_
 refine xLt rfl ?_
 refine oNl ?_
 refine cIf h rfl (fun q2 h => ?_) (fun q2 h => ?_)
 refine cRs ?_
 refine xAs rfl ?_
 refine oNl ?_
 refine cRt ?_
 cases h
 exact eR rfl rfl rfl rfl
 refine cSk ?_
 refine cRs ?_
 refine xFd rfl ?_
 refine xLd rfl ?_
 refine xMv rfl ?_
 refine xC0 h (ih_laws_szExpr ·) rfl (fun c14_3 h => ?_)
 refine xAs rfl ?_
 refine oNl ?_
 refine cSq ?_
 refine cRs ?_
 refine xMv rfl ?_
 refine xLt rfl ?_
 refine oNl ?_
 refine cIf h rfl (fun q4 h => ?_) (fun q4 h => ?_)
 refine cRs ?_
 refine xAs rfl ?_
 refine oNl ?_
 refine cRt ?_
 cases h
 exact eR rfl rfl rfl rfl
 refine cSk ?_
 refine cRs ?_
 refine xMv rfl ?_
 refine xAs rfl ?_
 refine oNl ?_
 refine cRt ?_
 cases h
 exact eR rfl rfl rfl rfl
def p_laws_szClauseS_b1 (n : Nat) (r_laws_szClause : Y_laws_szClause) (t0_0 : List S_laws_Clause) : (Int × Int) → Option ((Int × Int) ⊕ ((Int) ⊕ (Int × Int × Bool)))
  | (v1_2, v5_3) => bif decide (v5_3 < (t0_0.length : Int)) then (ix t0_0 v5_3).bind fun e20_9 => (r_laws_szClause e20_9.f0 e20_9.f1 e20_9.f2 e20_9.f3 e20_9.f4 e20_9.f5 e20_9.f6 e20_9.f7 e20_9.f8 e20_9.f9 v1_2).bind fun c23_10 => bif decide (c23_10 < (0 : Int)) then some (.inr (.inl ((-1) : Int))) else some (.inl (c23_10, (IntKind.wrap .i64 (v5_3 + (1 : Int))))) else some (.inr (.inr (v1_2, v5_3, false)))
def s_laws_szClauseS (n : Nat) (r_laws_szExpr : Y_laws_szExpr) (r_laws_szExprS : Y_laws_szExprS) (r_laws_szClauseS : Y_laws_szClauseS) (r_laws_szClause : Y_laws_szClause) (t0_0 : List S_laws_Clause) (t1_0 : Int) : Option (Int) :=
  bif decide ((IntKind.wrap .i64 (t1_0 - (t0_0.length : Int))) < (0 : Int)) then some ((-1) : Int) else (loopN (p_laws_szClauseS_b1 n r_laws_szClause t0_0) n ((IntKind.wrap .i64 (t1_0 - (t0_0.length : Int))), (0 : Int))).bind fun q => (match q with | .inl v4_4 => some v4_4 | .inr (v1_5, v5_6, v15_7) => some v1_5)
theorem step_laws_szClauseS {n : Nat} {r_laws_szExpr : Y_laws_szExpr} (ih_laws_szExpr : B_laws_szExpr r_laws_szExpr) {r_laws_szExprS : Y_laws_szExprS} (ih_laws_szExprS : B_laws_szExprS r_laws_szExprS) {r_laws_szClauseS : Y_laws_szClauseS} (ih_laws_szClauseS : B_laws_szClauseS r_laws_szClauseS) {r_laws_szClause : Y_laws_szClause} (ih_laws_szClause : B_laws_szClause r_laws_szClause) : B_laws_szClauseS (s_laws_szClauseS n r_laws_szExpr r_laws_szExprS r_laws_szClauseS r_laws_szClause) := by
 intro t0_0 t1_0 r h
 unfold s_laws_szClauseS at h
 refine bF Try.func105 rfl rfl ?_
 refine cRs ?_
 refine xAs rfl ?_
 refine oRs ?_
 refine xMv rfl ?_
 refine xMv rfl ?_
 refine xLn rfl ?_
 refine xSub rfl ?_
 refine xAs rfl ?_
 refine oNl ?_
 refine cSq ?_
 refine cRs ?_
 refine xMv rfl ?_
 refine xLt rfl ?_
 refine oNl ?_
 refine cIf h rfl (fun q1 h => ?_) (fun q1 h => ?_)
 refine cRs ?_
 refine xAs rfl ?_
 refine oNl ?_
 refine cRt ?_
 cases h
 exact eR rfl rfl rfl rfl
 refine cSk ?_
 refine cSq ?_
 refine cRs ?_
 refine xAs rfl ?_
 refine oNl ?_
 refine cLp h [(1, 1), (4, 5), (12, 25)] [] (fun (v1_2, v5_3) => ([(1, I64 v1_2), (5, I64 v5_3)], [])) (fun q => match q with | .inl v4_4 => (.r, [(4, I64 v4_4)], []) | .inr (v1_5, v5_6, v15_7) => (.e 0, [(1, I64 v1_5), (5, I64 v5_6), (15, Bo v15_7)], [])) rfl (fun st _ h => ?_) (fun q h => ?_)
 obtain ⟨v1_2, v5_3⟩ := st
 unfold p_laws_szClauseS_b1 at h
 refine cSq ?_
 refine cRs ?_
 refine xMv rfl ?_
 refine xMv rfl ?_
 refine xLn rfl ?_
 refine xLt rfl ?_
 refine oNl ?_
 refine cIf h rfl (fun q8 h => ?_) (fun q8 h => ?_)
 refine cSk ?_
 refine cSq ?_
 refine cBk ?_
 refine cRs ?_
 refine xMv rfl ?_
 refine xMv rfl ?_
 refine xIx h rS_laws_Clause_eq rfl (fun e20_9 h => ?_)
 refine xLd rfl ?_
 refine xMv rfl ?_
 refine xC0 h (ih_laws_szClause ·) rfl (fun c23_10 h => ?_)
 refine xAs rfl ?_
 refine oRs ?_
 refine xMv rfl ?_
 refine xLt rfl ?_
 refine oNl ?_
 refine cIf h rfl (fun q11 h => ?_) (fun q11 h => ?_)
 refine cRs ?_
 refine xAs rfl ?_
 refine oNl ?_
 refine cRt ?_
 exact eXr h rfl
 refine cSk ?_
 refine cRg ?_
 refine xMv rfl ?_
 refine xAdd rfl ?_
 refine xAs rfl ?_
 refine oNl ?_
 exact eL h rfl
 refine cEx ?_
 exact eX h rfl
 rcases q with v4_4 | ⟨v1_5, v5_6, v15_7⟩
 cases h
 exact eR rfl rfl rfl rfl
 refine cRs ?_
 refine xMv rfl ?_
 refine xAs rfl ?_
 refine oNl ?_
 refine cRt ?_
 cases h
 exact eR rfl rfl rfl rfl
def p_laws_szExprS_b1 (n : Nat) (r_laws_szExpr : Y_laws_szExpr) (t0_0 : List S_laws_Expr) : (Int × Int) → Option ((Int × Int) ⊕ ((Int) ⊕ (Int × Int × Bool)))
  | (v1_2, v5_3) => bif decide (v5_3 < (t0_0.length : Int)) then (ix t0_0 v5_3).bind fun e20_9 => (r_laws_szExpr e20_9.f0 e20_9.f1 e20_9.f2 e20_9.f3 e20_9.f4 v1_2).bind fun c23_10 => bif decide (c23_10 < (0 : Int)) then some (.inr (.inl ((-1) : Int))) else some (.inl (c23_10, (IntKind.wrap .i64 (v5_3 + (1 : Int))))) else some (.inr (.inr (v1_2, v5_3, false)))
def s_laws_szExprS (n : Nat) (r_laws_szExpr : Y_laws_szExpr) (r_laws_szExprS : Y_laws_szExprS) (r_laws_szClauseS : Y_laws_szClauseS) (r_laws_szClause : Y_laws_szClause) (t0_0 : List S_laws_Expr) (t1_0 : Int) : Option (Int) :=
  bif decide ((IntKind.wrap .i64 (t1_0 - (t0_0.length : Int))) < (0 : Int)) then some ((-1) : Int) else (loopN (p_laws_szExprS_b1 n r_laws_szExpr t0_0) n ((IntKind.wrap .i64 (t1_0 - (t0_0.length : Int))), (0 : Int))).bind fun q => (match q with | .inl v4_4 => some v4_4 | .inr (v1_5, v5_6, v15_7) => some v1_5)
theorem step_laws_szExprS {n : Nat} {r_laws_szExpr : Y_laws_szExpr} (ih_laws_szExpr : B_laws_szExpr r_laws_szExpr) {r_laws_szExprS : Y_laws_szExprS} (ih_laws_szExprS : B_laws_szExprS r_laws_szExprS) {r_laws_szClauseS : Y_laws_szClauseS} (ih_laws_szClauseS : B_laws_szClauseS r_laws_szClauseS) {r_laws_szClause : Y_laws_szClause} (ih_laws_szClause : B_laws_szClause r_laws_szClause) : B_laws_szExprS (s_laws_szExprS n r_laws_szExpr r_laws_szExprS r_laws_szClauseS r_laws_szClause) := by
 intro t0_0 t1_0 r h
 unfold s_laws_szExprS at h
 refine bF Try.func104 rfl rfl ?_
 refine cRs ?_
 refine xAs rfl ?_
 refine oRs ?_
 refine xMv rfl ?_
 refine xMv rfl ?_
 refine xLn rfl ?_
 refine xSub rfl ?_
 refine xAs rfl ?_
 refine oNl ?_
 refine cSq ?_
 refine cRs ?_
 refine xMv rfl ?_
 refine xLt rfl ?_
 refine oNl ?_
 refine cIf h rfl (fun q1 h => ?_) (fun q1 h => ?_)
 refine cRs ?_
 refine xAs rfl ?_
 refine oNl ?_
 refine cRt ?_
 cases h
 exact eR rfl rfl rfl rfl
 refine cSk ?_
 refine cSq ?_
 refine cRs ?_
 refine xAs rfl ?_
 refine oNl ?_
 refine cLp h [(1, 1), (4, 5), (12, 25)] [] (fun (v1_2, v5_3) => ([(1, I64 v1_2), (5, I64 v5_3)], [])) (fun q => match q with | .inl v4_4 => (.r, [(4, I64 v4_4)], []) | .inr (v1_5, v5_6, v15_7) => (.e 0, [(1, I64 v1_5), (5, I64 v5_6), (15, Bo v15_7)], [])) rfl (fun st _ h => ?_) (fun q h => ?_)
 obtain ⟨v1_2, v5_3⟩ := st
 unfold p_laws_szExprS_b1 at h
 refine cSq ?_
 refine cRs ?_
 refine xMv rfl ?_
 refine xMv rfl ?_
 refine xLn rfl ?_
 refine xLt rfl ?_
 refine oNl ?_
 refine cIf h rfl (fun q8 h => ?_) (fun q8 h => ?_)
 refine cSk ?_
 refine cSq ?_
 refine cBk ?_
 refine cRs ?_
 refine xMv rfl ?_
 refine xMv rfl ?_
 refine xIx h rS_laws_Expr_eq rfl (fun e20_9 h => ?_)
 refine xLd rfl ?_
 refine xMv rfl ?_
 refine xC0 h (ih_laws_szExpr ·) rfl (fun c23_10 h => ?_)
 refine xAs rfl ?_
 refine oRs ?_
 refine xMv rfl ?_
 refine xLt rfl ?_
 refine oNl ?_
 refine cIf h rfl (fun q11 h => ?_) (fun q11 h => ?_)
 refine cRs ?_
 refine xAs rfl ?_
 refine oNl ?_
 refine cRt ?_
 exact eXr h rfl
 refine cSk ?_
 refine cRg ?_
 refine xMv rfl ?_
 refine xAdd rfl ?_
 refine xAs rfl ?_
 refine oNl ?_
 exact eL h rfl
 refine cEx ?_
 exact eX h rfl
 rcases q with v4_4 | ⟨v1_5, v5_6, v15_7⟩
 cases h
 exact eR rfl rfl rfl rfl
 refine cRs ?_
 refine xMv rfl ?_
 refine xAs rfl ?_
 refine oNl ?_
 refine cRt ?_
 cases h
 exact eR rfl rfl rfl rfl
def s_laws_szExpr (n : Nat) (r_laws_szExpr : Y_laws_szExpr) (r_laws_szExprS : Y_laws_szExprS) (r_laws_szClauseS : Y_laws_szClauseS) (r_laws_szClause : Y_laws_szClause) (t0_0 : Int) (t0_1 : Int) (t0_2 : List UInt8) (t0_3 : List S_laws_Expr) (t0_4 : List S_laws_Clause) (t1_0 : Int) : Option (Int) :=
  bif decide ((IntKind.wrap .i64 (t1_0 - (t0_2.length : Int))) < (0 : Int)) then some ((-1) : Int) else (r_laws_szExprS t0_3 (IntKind.wrap .i64 (t1_0 - (t0_2.length : Int)))).bind fun c15_2 => bif decide (c15_2 < (0 : Int)) then some ((-1) : Int) else (r_laws_szClauseS t0_4 c15_2).bind fun c21_4 => bif decide (c21_4 < (0 : Int)) then some ((-1) : Int) else some c21_4
theorem step_laws_szExpr {n : Nat} {r_laws_szExpr : Y_laws_szExpr} (ih_laws_szExpr : B_laws_szExpr r_laws_szExpr) {r_laws_szExprS : Y_laws_szExprS} (ih_laws_szExprS : B_laws_szExprS r_laws_szExprS) {r_laws_szClauseS : Y_laws_szClauseS} (ih_laws_szClauseS : B_laws_szClauseS r_laws_szClauseS) {r_laws_szClause : Y_laws_szClause} (ih_laws_szClause : B_laws_szClause r_laws_szClause) : B_laws_szExpr (s_laws_szExpr n r_laws_szExpr r_laws_szExprS r_laws_szClauseS r_laws_szClause) := by
 intro t0_0 t0_1 t0_2 t0_3 t0_4 t1_0 r h
 unfold s_laws_szExpr at h
 refine bF Try.func31 rfl rfl ?_
 refine cRs ?_
 refine xBx rfl ?_
 refine xAs rfl ?_
 refine oRs ?_
 refine xMv rfl ?_
 refine xFd rfl ?_
 refine xLd rfl ?_
 refine xLs rfl ?_
 refine xSub rfl ?_
 refine xAs rfl ?_
 refine oNl ?_
 refine cSq ?_
 refine cRs ?_
 refine xMv rfl ?_
 refine xLt rfl ?_
 refine oNl ?_
 refine cIf h rfl (fun q1 h => ?_) (fun q1 h => ?_)
 refine cRs ?_
 refine xAs rfl ?_
 refine oNl ?_
 refine cRt ?_
 cases h
 exact eR rfl rfl rfl rfl
 refine cSk ?_
 refine cRs ?_
 refine xFd rfl ?_
 refine xLd rfl ?_
 refine xMv rfl ?_
 refine xC0 h (ih_laws_szExprS ·) rfl (fun c15_2 h => ?_)
 refine xAs rfl ?_
 refine oNl ?_
 refine cSq ?_
 refine cRs ?_
 refine xMv rfl ?_
 refine xLt rfl ?_
 refine oNl ?_
 refine cIf h rfl (fun q3 h => ?_) (fun q3 h => ?_)
 refine cRs ?_
 refine xAs rfl ?_
 refine oNl ?_
 refine cRt ?_
 cases h
 exact eR rfl rfl rfl rfl
 refine cSk ?_
 refine cRs ?_
 refine xFd rfl ?_
 refine xLd rfl ?_
 refine xMv rfl ?_
 refine xC0 h (ih_laws_szClauseS ·) rfl (fun c21_4 h => ?_)
 refine xAs rfl ?_
 refine oNl ?_
 refine cSq ?_
 refine cRs ?_
 refine xMv rfl ?_
 refine xLt rfl ?_
 refine oNl ?_
 refine cIf h rfl (fun q5 h => ?_) (fun q5 h => ?_)
 refine cRs ?_
 refine xAs rfl ?_
 refine oNl ?_
 refine cRt ?_
 cases h
 exact eR rfl rfl rfl rfl
 refine cSk ?_
 refine cRs ?_
 refine xMv rfl ?_
 refine xAs rfl ?_
 refine oNl ?_
 refine cRt ?_
 cases h
 exact eR rfl rfl rfl rfl
def q_laws_szExpr : Nat → (Y_laws_szExpr) × (Y_laws_szExprS) × (Y_laws_szClauseS) × (Y_laws_szClause)
  | 0 => ((fun _ _ _ _ _ _ => none), (fun _ _ => none), (fun _ _ => none), (fun _ _ _ _ _ _ _ _ _ _ _ => none))
  | n + 1 => (s_laws_szExpr n ((q_laws_szExpr n).1) ((q_laws_szExpr n).2.1) ((q_laws_szExpr n).2.2.1) ((q_laws_szExpr n).2.2.2), s_laws_szExprS n ((q_laws_szExpr n).1) ((q_laws_szExpr n).2.1) ((q_laws_szExpr n).2.2.1) ((q_laws_szExpr n).2.2.2), s_laws_szClauseS n ((q_laws_szExpr n).1) ((q_laws_szExpr n).2.1) ((q_laws_szExpr n).2.2.1) ((q_laws_szExpr n).2.2.2), s_laws_szClause n ((q_laws_szExpr n).1) ((q_laws_szExpr n).2.1) ((q_laws_szExpr n).2.2.1) ((q_laws_szExpr n).2.2.2))
def p_laws_szExpr (n : Nat) : Y_laws_szExpr := (q_laws_szExpr n).1
def p_laws_szExprS (n : Nat) : Y_laws_szExprS := (q_laws_szExpr n).2.1
def p_laws_szClauseS (n : Nat) : Y_laws_szClauseS := (q_laws_szExpr n).2.2.1
def p_laws_szClause (n : Nat) : Y_laws_szClause := (q_laws_szExpr n).2.2.2
theorem bigs_laws_szExpr (n : Nat) : B_laws_szExpr (p_laws_szExpr n) ∧ B_laws_szExprS (p_laws_szExprS n) ∧ B_laws_szClauseS (p_laws_szClauseS n) ∧ B_laws_szClause (p_laws_szClause n) := by
  induction n with
  | zero => exact ⟨(fun h => nomatch h), (fun h => nomatch h), (fun h => nomatch h), (fun h => nomatch h)⟩
  | succ n ih => exact ⟨step_laws_szExpr (n := n) (ih.1) (ih.2.1) (ih.2.2.1) (ih.2.2.2), step_laws_szExprS (n := n) (ih.1) (ih.2.1) (ih.2.2.1) (ih.2.2.2), step_laws_szClauseS (n := n) (ih.1) (ih.2.1) (ih.2.2.1) (ih.2.2.2), step_laws_szClause (n := n) (ih.1) (ih.2.1) (ih.2.2.1) (ih.2.2.2)⟩
theorem big_laws_szExpr {n : Nat} : B_laws_szExpr (p_laws_szExpr n) := (bigs_laws_szExpr n).1
theorem big_laws_szExprS {n : Nat} : B_laws_szExprS (p_laws_szExprS n) := (bigs_laws_szExpr n).2.1
theorem big_laws_szClauseS {n : Nat} : B_laws_szClauseS (p_laws_szClauseS n) := (bigs_laws_szExpr n).2.2.1
theorem big_laws_szClause {n : Nat} : B_laws_szClause (p_laws_szClause n) := (bigs_laws_szExpr n).2.2.2
theorem p_laws_szExpr_succ (n : Nat) : p_laws_szExpr (n + 1) = s_laws_szExpr n (p_laws_szExpr n) (p_laws_szExprS n) (p_laws_szClauseS n) (p_laws_szClause n) := rfl
theorem p_laws_szExprS_succ (n : Nat) : p_laws_szExprS (n + 1) = s_laws_szExprS n (p_laws_szExpr n) (p_laws_szExprS n) (p_laws_szClauseS n) (p_laws_szClause n) := rfl
theorem p_laws_szClauseS_succ (n : Nat) : p_laws_szClauseS (n + 1) = s_laws_szClauseS n (p_laws_szExpr n) (p_laws_szExprS n) (p_laws_szClauseS n) (p_laws_szClause n) := rfl
theorem p_laws_szClause_succ (n : Nat) : p_laws_szClause (n + 1) = s_laws_szClause n (p_laws_szExpr n) (p_laws_szExprS n) (p_laws_szClauseS n) (p_laws_szClause n) := rfl
abbrev B_laws_szStringS (p : (List (List UInt8)) → Int → Option (Int)) : Prop := ∀ {t0_0 : List (List UInt8)} {t1_0 : Int} {r : Int}, p t0_0 t1_0 = some r → Big Try.prog τ An (.fn 222 [.one (.c (.sl (t0_0.map rStr))), .one (.c (.int .i64 t1_0))] [] (.one (.c (.int .i64 r))) none [] none)
def p_laws_szStringS_b1 (n : Nat) (t0_0 : List (List UInt8)) : (Int × Int) → Option ((Int × Int) ⊕ ((Int) ⊕ (Int × Int × Bool)))
  | (v1_2, v5_3) => bif decide (v5_3 < (t0_0.length : Int)) then (ix t0_0 v5_3).bind fun e21_9 => bif decide ((IntKind.wrap .i64 (v1_2 - (e21_9.length : Int))) < (0 : Int)) then some (.inr (.inl ((-1) : Int))) else some (.inl ((IntKind.wrap .i64 (v1_2 - (e21_9.length : Int))), (IntKind.wrap .i64 (v5_3 + (1 : Int))))) else some (.inr (.inr (v1_2, v5_3, false)))
def p_laws_szStringS (n : Nat) (t0_0 : List (List UInt8)) (t1_0 : Int) : Option (Int) :=
  bif decide ((IntKind.wrap .i64 (t1_0 - (t0_0.length : Int))) < (0 : Int)) then some ((-1) : Int) else (loopN (p_laws_szStringS_b1 n t0_0) n ((IntKind.wrap .i64 (t1_0 - (t0_0.length : Int))), (0 : Int))).bind fun q => (match q with | .inl v4_4 => some v4_4 | .inr (v1_5, v5_6, v15_7) => some v1_5)
theorem big_laws_szStringS {n : Nat} : B_laws_szStringS (p_laws_szStringS n) := by
 intro t0_0 t1_0 r h
 unfold p_laws_szStringS at h
 refine bF Try.func222 rfl rfl ?_
 refine cRs ?_
 refine xAs rfl ?_
 refine oRs ?_
 refine xMv rfl ?_
 refine xMv rfl ?_
 refine xLn rfl ?_
 refine xSub rfl ?_
 refine xAs rfl ?_
 refine oNl ?_
 refine cSq ?_
 refine cRs ?_
 refine xMv rfl ?_
 refine xLt rfl ?_
 refine oNl ?_
 refine cIf h rfl (fun q1 h => ?_) (fun q1 h => ?_)
 refine cRs ?_
 refine xAs rfl ?_
 refine oNl ?_
 refine cRt ?_
 cases h
 exact eR rfl rfl rfl rfl
 refine cSk ?_
 refine cSq ?_
 refine cRs ?_
 refine xAs rfl ?_
 refine oNl ?_
 refine cLp h [(1, 1), (4, 5), (12, 26)] [] (fun (v1_2, v5_3) => ([(1, I64 v1_2), (5, I64 v5_3)], [])) (fun q => match q with | .inl v4_4 => (.r, [(4, I64 v4_4)], []) | .inr (v1_5, v5_6, v15_7) => (.e 0, [(1, I64 v1_5), (5, I64 v5_6), (15, Bo v15_7)], [])) rfl (fun st _ h => ?_) (fun q h => ?_)
 obtain ⟨v1_2, v5_3⟩ := st
 unfold p_laws_szStringS_b1 at h
 refine cSq ?_
 refine cRs ?_
 refine xMv rfl ?_
 refine xMv rfl ?_
 refine xLn rfl ?_
 refine xLt rfl ?_
 refine oNl ?_
 refine cIf h rfl (fun q8 h => ?_) (fun q8 h => ?_)
 refine cSk ?_
 refine cSq ?_
 refine cBk ?_
 refine cRs ?_
 refine xMv rfl ?_
 refine xMv rfl ?_
 refine xMv rfl ?_
 refine xIx h rStr_eq rfl (fun e21_9 h => ?_)
 refine xLd rfl ?_
 refine xLs rfl ?_
 refine xSub rfl ?_
 refine xAs rfl ?_
 refine oRs ?_
 refine xMv rfl ?_
 refine xLt rfl ?_
 refine oNl ?_
 refine cIf h rfl (fun q10 h => ?_) (fun q10 h => ?_)
 refine cRs ?_
 refine xAs rfl ?_
 refine oNl ?_
 refine cRt ?_
 exact eXr h rfl
 refine cSk ?_
 refine cRg ?_
 refine xMv rfl ?_
 refine xAdd rfl ?_
 refine xAs rfl ?_
 refine oNl ?_
 exact eL h rfl
 refine cEx ?_
 exact eX h rfl
 rcases q with v4_4 | ⟨v1_5, v5_6, v15_7⟩
 cases h
 exact eR rfl rfl rfl rfl
 refine cRs ?_
 refine xMv rfl ?_
 refine xAs rfl ?_
 refine oNl ?_
 refine cRt ?_
 cases h
 exact eR rfl rfl rfl rfl
abbrev B_laws_szFun (p : (List UInt8) → (List (List UInt8)) → Int → Int → (List UInt8) → (List S_laws_Expr) → (List S_laws_Clause) → Int → Option (Int)) : Prop := ∀ {t0_0 : List UInt8} {t0_1 : List (List UInt8)} {t0_2 t0_3 : Int} {t0_4 : List UInt8} {t0_5 : List S_laws_Expr} {t0_6 : List S_laws_Clause} {t1_0 : Int} {r : Int}, p t0_0 t0_1 t0_2 t0_3 t0_4 t0_5 t0_6 t1_0 = some r → Big Try.prog τ An (.fn 170 [.one (.ag [.str t0_0, .sl (t0_1.map rStr), .int .i64 t0_2, .int .i64 t0_3, .str t0_4, .sl (t0_5.map rS_laws_Expr), .sl (t0_6.map rS_laws_Clause)]), .one (.c (.int .i64 t1_0))] [] (.one (.c (.int .i64 r))) none [] none)
def p_laws_szFun (n : Nat) (t0_0 : List UInt8) (t0_1 : List (List UInt8)) (t0_2 : Int) (t0_3 : Int) (t0_4 : List UInt8) (t0_5 : List S_laws_Expr) (t0_6 : List S_laws_Clause) (t1_0 : Int) : Option (Int) :=
  bif decide ((IntKind.wrap .i64 (t1_0 - (t0_0.length : Int))) < (0 : Int)) then some ((-1) : Int) else (p_laws_szStringS n t0_1 (IntKind.wrap .i64 (t1_0 - (t0_0.length : Int)))).bind fun c15_2 => bif decide (c15_2 < (0 : Int)) then some ((-1) : Int) else (p_laws_szExpr n t0_2 t0_3 t0_4 t0_5 t0_6 c15_2).bind fun c21_4 => bif decide (c21_4 < (0 : Int)) then some ((-1) : Int) else some c21_4
theorem big_laws_szFun {n : Nat} : B_laws_szFun (p_laws_szFun n) := by
 intro t0_0 t0_1 t0_2 t0_3 t0_4 t0_5 t0_6 t1_0 r h
 unfold p_laws_szFun at h
 refine bF Try.func170 rfl rfl ?_
 refine cRs ?_
 refine xBx rfl ?_
 refine xAs rfl ?_
 refine oRs ?_
 refine xMv rfl ?_
 refine xFd rfl ?_
 refine xLd rfl ?_
 refine xLs rfl ?_
 refine xSub rfl ?_
 refine xAs rfl ?_
 refine oNl ?_
 refine cSq ?_
 refine cRs ?_
 refine xMv rfl ?_
 refine xLt rfl ?_
 refine oNl ?_
 refine cIf h rfl (fun q1 h => ?_) (fun q1 h => ?_)
 refine cRs ?_
 refine xAs rfl ?_
 refine oNl ?_
 refine cRt ?_
 cases h
 exact eR rfl rfl rfl rfl
 refine cSk ?_
 refine cRs ?_
 refine xFd rfl ?_
 refine xLd rfl ?_
 refine xMv rfl ?_
 refine xC0 h (big_laws_szStringS ·) rfl (fun c15_2 h => ?_)
 refine xAs rfl ?_
 refine oNl ?_
 refine cSq ?_
 refine cRs ?_
 refine xMv rfl ?_
 refine xLt rfl ?_
 refine oNl ?_
 refine cIf h rfl (fun q3 h => ?_) (fun q3 h => ?_)
 refine cRs ?_
 refine xAs rfl ?_
 refine oNl ?_
 refine cRt ?_
 cases h
 exact eR rfl rfl rfl rfl
 refine cSk ?_
 refine cRs ?_
 refine xFd rfl ?_
 refine xLd rfl ?_
 refine xMv rfl ?_
 refine xC0 h (big_laws_szExpr ·) rfl (fun c21_4 h => ?_)
 refine xAs rfl ?_
 refine oNl ?_
 refine cSq ?_
 refine cRs ?_
 refine xMv rfl ?_
 refine xLt rfl ?_
 refine oNl ?_
 refine cIf h rfl (fun q5 h => ?_) (fun q5 h => ?_)
 refine cRs ?_
 refine xAs rfl ?_
 refine oNl ?_
 refine cRt ?_
 cases h
 exact eR rfl rfl rfl rfl
 refine cSk ?_
 refine cRs ?_
 refine xMv rfl ?_
 refine xAs rfl ?_
 refine oNl ?_
 refine cRt ?_
 cases h
 exact eR rfl rfl rfl rfl
abbrev B_laws_szFunS (p : (List S_laws_Fun) → Int → Option (Int)) : Prop := ∀ {t0_0 : List S_laws_Fun} {t1_0 : Int} {r : Int}, p t0_0 t1_0 = some r → Big Try.prog τ An (.fn 93 [.one (.c (.sl (t0_0.map rS_laws_Fun))), .one (.c (.int .i64 t1_0))] [] (.one (.c (.int .i64 r))) none [] none)
def p_laws_szFunS_b1 (n : Nat) (t0_0 : List S_laws_Fun) : (Int × Int) → Option ((Int × Int) ⊕ ((Int) ⊕ (Int × Int × Bool)))
  | (v1_2, v5_3) => bif decide (v5_3 < (t0_0.length : Int)) then (ix t0_0 v5_3).bind fun e20_9 => (p_laws_szFun n e20_9.f0 e20_9.f1 e20_9.f2 e20_9.f3 e20_9.f4 e20_9.f5 e20_9.f6 v1_2).bind fun c23_10 => bif decide (c23_10 < (0 : Int)) then some (.inr (.inl ((-1) : Int))) else some (.inl (c23_10, (IntKind.wrap .i64 (v5_3 + (1 : Int))))) else some (.inr (.inr (v1_2, v5_3, false)))
def p_laws_szFunS (n : Nat) (t0_0 : List S_laws_Fun) (t1_0 : Int) : Option (Int) :=
  bif decide ((IntKind.wrap .i64 (t1_0 - (t0_0.length : Int))) < (0 : Int)) then some ((-1) : Int) else (loopN (p_laws_szFunS_b1 n t0_0) n ((IntKind.wrap .i64 (t1_0 - (t0_0.length : Int))), (0 : Int))).bind fun q => (match q with | .inl v4_4 => some v4_4 | .inr (v1_5, v5_6, v15_7) => some v1_5)
theorem big_laws_szFunS {n : Nat} : B_laws_szFunS (p_laws_szFunS n) := by
 intro t0_0 t1_0 r h
 unfold p_laws_szFunS at h
 refine bF Try.func93 rfl rfl ?_
 refine cRs ?_
 refine xAs rfl ?_
 refine oRs ?_
 refine xMv rfl ?_
 refine xMv rfl ?_
 refine xLn rfl ?_
 refine xSub rfl ?_
 refine xAs rfl ?_
 refine oNl ?_
 refine cSq ?_
 refine cRs ?_
 refine xMv rfl ?_
 refine xLt rfl ?_
 refine oNl ?_
 refine cIf h rfl (fun q1 h => ?_) (fun q1 h => ?_)
 refine cRs ?_
 refine xAs rfl ?_
 refine oNl ?_
 refine cRt ?_
 cases h
 exact eR rfl rfl rfl rfl
 refine cSk ?_
 refine cSq ?_
 refine cRs ?_
 refine xAs rfl ?_
 refine oNl ?_
 refine cLp h [(1, 1), (4, 5), (12, 25)] [] (fun (v1_2, v5_3) => ([(1, I64 v1_2), (5, I64 v5_3)], [])) (fun q => match q with | .inl v4_4 => (.r, [(4, I64 v4_4)], []) | .inr (v1_5, v5_6, v15_7) => (.e 0, [(1, I64 v1_5), (5, I64 v5_6), (15, Bo v15_7)], [])) rfl (fun st _ h => ?_) (fun q h => ?_)
 obtain ⟨v1_2, v5_3⟩ := st
 unfold p_laws_szFunS_b1 at h
 refine cSq ?_
 refine cRs ?_
 refine xMv rfl ?_
 refine xMv rfl ?_
 refine xLn rfl ?_
 refine xLt rfl ?_
 refine oNl ?_
 refine cIf h rfl (fun q8 h => ?_) (fun q8 h => ?_)
 refine cSk ?_
 refine cSq ?_
 refine cBk ?_
 refine cRs ?_
 refine xMv rfl ?_
 refine xMv rfl ?_
 refine xIx h rS_laws_Fun_eq rfl (fun e20_9 h => ?_)
 refine xLd rfl ?_
 refine xMv rfl ?_
 refine xC0 h (big_laws_szFun ·) rfl (fun c23_10 h => ?_)
 refine xAs rfl ?_
 refine oRs ?_
 refine xMv rfl ?_
 refine xLt rfl ?_
 refine oNl ?_
 refine cIf h rfl (fun q11 h => ?_) (fun q11 h => ?_)
 refine cRs ?_
 refine xAs rfl ?_
 refine oNl ?_
 refine cRt ?_
 exact eXr h rfl
 refine cSk ?_
 refine cRg ?_
 refine xMv rfl ?_
 refine xAdd rfl ?_
 refine xAs rfl ?_
 refine oNl ?_
 exact eL h rfl
 refine cEx ?_
 exact eX h rfl
 rcases q with v4_4 | ⟨v1_5, v5_6, v15_7⟩
 cases h
 exact eR rfl rfl rfl rfl
 refine cRs ?_
 refine xMv rfl ?_
 refine xAs rfl ?_
 refine oNl ?_
 refine cRt ?_
 cases h
 exact eR rfl rfl rfl rfl
abbrev B_laws_szModule (p : (List S_laws_Fun) → Int → Option (Int)) : Prop := ∀ {t0_0 : List S_laws_Fun} {t1_0 : Int} {r : Int}, p t0_0 t1_0 = some r → Big Try.prog τ An (.fn 26 [.one (.ag [.sl (t0_0.map rS_laws_Fun)]), .one (.c (.int .i64 t1_0))] [] (.one (.c (.int .i64 r))) none [] none)
def p_laws_szModule (n : Nat) (t0_0 : List S_laws_Fun) (t1_0 : Int) : Option (Int) :=
  (p_laws_szFunS n t0_0 t1_0).bind fun c8_1 => bif decide (c8_1 < (0 : Int)) then some ((-1) : Int) else some c8_1
theorem big_laws_szModule {n : Nat} : B_laws_szModule (p_laws_szModule n) := by
 intro t0_0 t1_0 r h
 unfold p_laws_szModule at h
 refine bF Try.func26 rfl rfl ?_
 refine cRs ?_
 refine xBx rfl ?_
 refine xAs rfl ?_
 refine oRs ?_
 refine xFd rfl ?_
 refine xLd rfl ?_
 refine xMv rfl ?_
 refine xC0 h (big_laws_szFunS ·) rfl (fun c8_1 h => ?_)
 refine xAs rfl ?_
 refine oNl ?_
 refine cSq ?_
 refine cRs ?_
 refine xMv rfl ?_
 refine xLt rfl ?_
 refine oNl ?_
 refine cIf h rfl (fun q2 h => ?_) (fun q2 h => ?_)
 refine cRs ?_
 refine xAs rfl ?_
 refine oNl ?_
 refine cRt ?_
 cases h
 exact eR rfl rfl rfl rfl
 refine cSk ?_
 refine cRs ?_
 refine xMv rfl ?_
 refine xAs rfl ?_
 refine oNl ?_
 refine cRt ?_
 cases h
 exact eR rfl rfl rfl rfl
abbrev B_spec_l4Has (p : (List (List UInt8)) → (List UInt8) → Option (Bool)) : Prop := ∀ {t0_0 : List (List UInt8)} {t1_0 : List UInt8} {r : Bool}, p t0_0 t1_0 = some r → Big Try.prog τ An (.fn 96 [.one (.c (.sl (t0_0.map rStr))), .one (.c (.str t1_0))] [] (.one (.c (.bool r))) none [] none)
def p_spec_l4Has_b1 (n : Nat) (t0_0 : List (List UInt8)) (t1_0 : List UInt8) : (Int) → Option ((Int) ⊕ ((Bool) ⊕ (Int × Bool)))
  | v5_1 => bif decide (v5_1 < (t0_0.length : Int)) then (ix t0_0 v5_1).bind fun e14_6 => bif decide (e14_6 = t1_0) then some (.inr (.inl true)) else some (.inl (IntKind.wrap .i64 (v5_1 + (1 : Int)))) else some (.inr (.inr (v5_1, false)))
def p_spec_l4Has (n : Nat) (t0_0 : List (List UInt8)) (t1_0 : List UInt8) : Option (Bool) :=
  (loopN (p_spec_l4Has_b1 n t0_0 t1_0) n (0 : Int)).bind fun q => (match q with | .inl v4_2 => some v4_2 | .inr (v5_3, v9_4) => some false)
theorem big_spec_l4Has {n : Nat} : B_spec_l4Has (p_spec_l4Has n) := by
 intro t0_0 t1_0 r h
 unfold p_spec_l4Has at h
 refine bF Try.func96 rfl rfl ?_
 refine cRs ?_
 refine xAs rfl ?_
 refine oNl ?_
 refine cSq ?_
 refine cRs ?_
 refine xAs rfl ?_
 refine oNl ?_
 refine cLp h [(4, 17)] [] (fun v5_1 => ([(5, I64 v5_1)], [])) (fun q => match q with | .inl v4_2 => (.r, [(4, Bo v4_2)], []) | .inr (v5_3, v9_4) => (.e 0, [(5, I64 v5_3), (9, Bo v9_4)], [])) rfl (fun v5_1 _ h => ?_) (fun q h => ?_)
 unfold p_spec_l4Has_b1 at h
 refine cSq ?_
 refine cRs ?_
 refine xMv rfl ?_
 refine xMv rfl ?_
 refine xLn rfl ?_
 refine xLt rfl ?_
 refine oNl ?_
 refine cIf h rfl (fun q5 h => ?_) (fun q5 h => ?_)
 refine cSk ?_
 refine cSq ?_
 refine cBk ?_
 refine cRs ?_
 refine xMv rfl ?_
 refine xMv rfl ?_
 refine xIx h rStr_eq rfl (fun e14_6 h => ?_)
 refine xLd rfl ?_
 refine xMv rfl ?_
 refine xEs rfl ?_
 refine oNl ?_
 refine cIf h rfl (fun q7 h => ?_) (fun q7 h => ?_)
 refine cRs ?_
 refine xAs rfl ?_
 refine oNl ?_
 refine cRt ?_
 exact eXr h rfl
 refine cSk ?_
 refine cRg ?_
 refine xMv rfl ?_
 refine xAdd rfl ?_
 refine xAs rfl ?_
 refine oNl ?_
 exact eL h rfl
 refine cEx ?_
 exact eX h rfl
 rcases q with v4_2 | ⟨v5_3, v9_4⟩
 cases h
 exact eR rfl rfl rfl rfl
 refine cRs ?_
 refine xAs rfl ?_
 refine oNl ?_
 refine cRt ?_
 cases h
 exact eR rfl rfl rfl rfl
abbrev B_spec_l4Once (p : (List (List UInt8)) → Option (Bool)) : Prop := ∀ {t0_0 : List (List UInt8)} {r : Bool}, p t0_0 = some r → Big Try.prog τ An (.fn 72 [.one (.c (.sl (t0_0.map rStr)))] [] (.one (.c (.bool r))) none [] none)
def p_spec_l4Once_b1 (n : Nat) (t0_0 : List (List UInt8)) : (Int) → Option ((Int) ⊕ ((Bool) ⊕ (Int × Bool)))
  | v3_1 => bif decide (v3_1 < (t0_0.length : Int)) then (sub t0_0 none (some v3_1)).bind fun v12_6 => (ix t0_0 v3_1).bind fun e15_7 => (p_spec_l4Has n v12_6 e15_7).bind fun c17_8 => bif c17_8 then some (.inr (.inl false)) else some (.inl (IntKind.wrap .i64 (v3_1 + (1 : Int)))) else some (.inr (.inr (v3_1, false)))
def p_spec_l4Once (n : Nat) (t0_0 : List (List UInt8)) : Option (Bool) :=
  (loopN (p_spec_l4Once_b1 n t0_0) n (0 : Int)).bind fun q => (match q with | .inl v2_2 => some v2_2 | .inr (v3_3, v7_4) => some true)
theorem big_spec_l4Once {n : Nat} : B_spec_l4Once (p_spec_l4Once n) := by
 intro t0_0 r h
 unfold p_spec_l4Once at h
 refine bF Try.func72 rfl rfl ?_
 refine cRs ?_
 refine xAs rfl ?_
 refine oNl ?_
 refine cSq ?_
 refine cRs ?_
 refine xAs rfl ?_
 refine oNl ?_
 refine cLp h [(2, 17)] [] (fun v3_1 => ([(3, I64 v3_1)], [])) (fun q => match q with | .inl v2_2 => (.r, [(2, Bo v2_2)], []) | .inr (v3_3, v7_4) => (.e 0, [(3, I64 v3_3), (7, Bo v7_4)], [])) rfl (fun v3_1 _ h => ?_) (fun q h => ?_)
 unfold p_spec_l4Once_b1 at h
 refine cSq ?_
 refine cRs ?_
 refine xMv rfl ?_
 refine xMv rfl ?_
 refine xLn rfl ?_
 refine xLt rfl ?_
 refine oNl ?_
 refine cIf h rfl (fun q5 h => ?_) (fun q5 h => ?_)
 refine cSk ?_
 refine cSq ?_
 refine cBk ?_
 refine cRs ?_
 refine xMv rfl ?_
 refine xMv rfl ?_
 refine wSl (rf := rStr) h rfl rfl rfl rfl .no (.so rfl) (fun _ => rfl) rfl (fun v12_6 h => ?_)
 refine xMv rfl ?_
 refine xMv rfl ?_
 refine xIx h rStr_eq rfl (fun e15_7 h => ?_)
 refine xLd rfl ?_
 refine xC0 h (big_spec_l4Has ·) rfl (fun c17_8 h => ?_)
 refine oNl ?_
 refine cIf h rfl (fun q9 h => ?_) (fun q9 h => ?_)
 refine cRs ?_
 refine xAs rfl ?_
 refine oNl ?_
 refine cRt ?_
 exact eXr h rfl
 refine cSk ?_
 refine cRg ?_
 refine xMv rfl ?_
 refine xAdd rfl ?_
 refine xAs rfl ?_
 refine oNl ?_
 exact eL h rfl
 refine cEx ?_
 exact eX h rfl
 rcases q with v2_2 | ⟨v3_3, v7_4⟩
 cases h
 exact eR rfl rfl rfl rfl
 refine cRs ?_
 refine xAs rfl ?_
 refine oNl ?_
 refine cRt ?_
 cases h
 exact eR rfl rfl rfl rfl
abbrev B_spec_l1In (p : Int → Int → Int → Option (Bool)) : Prop := ∀ {t0_0 t1_0 t2_0 : Int} {r : Bool}, p t0_0 t1_0 t2_0 = some r → Big Try.prog τ An (.fn 69 [.one (.c (.int .i64 t0_0)), .one (.c (.int .i64 t1_0)), .one (.c (.int .i64 t2_0))] [] (.one (.c (.bool r))) none [] none)
def p_spec_l1In (n : Nat) (t0_0 : Int) (t1_0 : Int) (t2_0 : Int) : Option (Bool) :=
  (bif decide (t1_0 ≤ t0_0) then some (decide (t0_0 ≤ t2_0)) else some false).bind fun v6_1 => some v6_1
theorem big_spec_l1In {n : Nat} : B_spec_l1In (p_spec_l1In n) := by
 intro t0_0 t1_0 t2_0 r h
 unfold p_spec_l1In at h
 refine bF Try.func69 rfl rfl ?_
 refine cRs ?_
 refine xAs rfl ?_
 refine oRs ?_
 refine oJn h [(6, 14)] [] (fun v6_1 => (.n, [(6, Bo v6_1)], [])) (fun _ h => ?_) (fun v6_1 h => ?_)
 refine xMv rfl ?_
 refine xMv rfl ?_
 refine xGe rfl ?_
 refine xMv rfl ?_
 refine oIf 10 h rfl (fun q2 h => ?_) (fun q2 h => ?_)
 refine xMv rfl ?_
 refine xMv rfl ?_
 refine xLe rfl ?_
 refine xPk rfl ?_
 refine xAs rfl ?_
 refine oNl ?_
 exact eJ h rfl
 refine wSk rfl ?_
 refine wSk rfl ?_
 refine wSk rfl ?_
 refine xPk rfl ?_
 refine xAs rfl ?_
 refine oNl ?_
 exact eJ h rfl
 refine cRt ?_
 cases h
 exact eR rfl rfl rfl rfl
abbrev B_spec_l3Large (p : Int → Option (Bool)) : Prop := ∀ {t0_0 : Int} {r : Bool}, p t0_0 = some r → Big Try.prog τ An (.fn 253 [.one (.c (.int .u8 t0_0))] [] (.one (.c (.bool r))) none [] none)
def p_spec_l3Large (n : Nat) (t0_0 : Int) : Option (Bool) :=
  ((p_spec_l1In n (IntKind.wrap .i64 t0_0) (65 : Int) (90 : Int)).bind fun c5_2 => bif c5_2 then some true else some (decide (t0_0 = (95 : Int)))).bind fun v2_1 => some v2_1
theorem big_spec_l3Large {n : Nat} : B_spec_l3Large (p_spec_l3Large n) := by
 intro t0_0 r h
 unfold p_spec_l3Large at h
 refine bF Try.func253 rfl rfl ?_
 refine cRs ?_
 refine xAs rfl ?_
 refine oRs ?_
 refine oJn h [(2, 9)] [] (fun v2_1 => (.n, [(2, Bo v2_1)], [])) (fun _ h => ?_) (fun v2_1 h => ?_)
 refine xMv rfl ?_
 refine wCv rfl rfl rfl rfl rfl ?_
 refine xC0 h (big_spec_l1In ·) rfl (fun c5_2 h => ?_)
 refine xMv rfl ?_
 refine oIf 6 h rfl (fun q3 h => ?_) (fun q3 h => ?_)
 refine wSk rfl ?_
 refine wSk rfl ?_
 refine xPk rfl ?_
 refine xAs rfl ?_
 refine oNl ?_
 exact eJ h rfl
 refine xMv rfl ?_
 refine xEq rfl ?_
 refine xPk rfl ?_
 refine xAs rfl ?_
 refine oNl ?_
 exact eJ h rfl
 refine cRt ?_
 cases h
 exact eR rfl rfl rfl rfl
abbrev B_spec_l3Small (p : Int → Option (Bool)) : Prop := ∀ {t0_0 : Int} {r : Bool}, p t0_0 = some r → Big Try.prog τ An (.fn 254 [.one (.c (.int .u8 t0_0))] [] (.one (.c (.bool r))) none [] none)
def p_spec_l3Small (n : Nat) (t0_0 : Int) : Option (Bool) :=
  (p_spec_l1In n (IntKind.wrap .i64 t0_0) (97 : Int) (122 : Int)).bind fun c5_1 => some c5_1
theorem big_spec_l3Small {n : Nat} : B_spec_l3Small (p_spec_l3Small n) := by
 intro t0_0 r h
 unfold p_spec_l3Small at h
 refine bF Try.func254 rfl rfl ?_
 refine cRs ?_
 refine xAs rfl ?_
 refine oRs ?_
 refine xMv rfl ?_
 refine wCv rfl rfl rfl rfl rfl ?_
 refine xC0 h (big_spec_l1In ·) rfl (fun c5_1 h => ?_)
 refine xAs rfl ?_
 refine oNl ?_
 refine cRt ?_
 cases h
 exact eR rfl rfl rfl rfl
abbrev B_spec_l3Digit (p : Int → Option (Bool)) : Prop := ∀ {t0_0 : Int} {r : Bool}, p t0_0 = some r → Big Try.prog τ An (.fn 255 [.one (.c (.int .u8 t0_0))] [] (.one (.c (.bool r))) none [] none)
def p_spec_l3Digit (n : Nat) (t0_0 : Int) : Option (Bool) :=
  (p_spec_l1In n (IntKind.wrap .i64 t0_0) (48 : Int) (57 : Int)).bind fun c5_1 => some c5_1
theorem big_spec_l3Digit {n : Nat} : B_spec_l3Digit (p_spec_l3Digit n) := by
 intro t0_0 r h
 unfold p_spec_l3Digit at h
 refine bF Try.func255 rfl rfl ?_
 refine cRs ?_
 refine xAs rfl ?_
 refine oRs ?_
 refine xMv rfl ?_
 refine wCv rfl rfl rfl rfl rfl ?_
 refine xC0 h (big_spec_l1In ·) rfl (fun c5_1 h => ?_)
 refine xAs rfl ?_
 refine oNl ?_
 refine cRt ?_
 cases h
 exact eR rfl rfl rfl rfl
abbrev B_spec_l3VarOk (p : (List UInt8) → Option (Bool)) : Prop := ∀ {t0_0 : List UInt8} {r : Bool}, p t0_0 = some r → Big Try.prog τ An (.fn 223 [.one (.c (.str t0_0))] [] (.one (.c (.bool r))) none [] none)
def p_spec_l3VarOk_b1 (n : Nat) (t0_0 : List UInt8) : (Int) → Option ((Int) ⊕ ((Bool) ⊕ (Int × Bool)))
  | v3_1 => bif decide (v3_1 < (t0_0.length : Int)) then ((ixs t0_0 v3_1).bind fun e12_7 => (p_spec_l3Large n e12_7).bind fun c13_8 => bif !c13_8 then bif decide (v3_1 = (0 : Int)) then some true else (ixs t0_0 v3_1).bind fun e21_11 => (p_spec_l3Small n e21_11).bind fun c22_12 => bif !c22_12 then (ixs t0_0 v3_1).bind fun e27_14 => (p_spec_l3Digit n e27_14).bind fun c28_15 => some (!c28_15) else some false else some false).bind fun v32_6 => bif v32_6 then some (.inr (.inl false)) else some (.inl (IntKind.wrap .i64 (v3_1 + (1 : Int)))) else some (.inr (.inr (v3_1, false)))
def p_spec_l3VarOk (n : Nat) (t0_0 : List UInt8) : Option (Bool) :=
  (loopN (p_spec_l3VarOk_b1 n t0_0) n (0 : Int)).bind fun q => (match q with | .inl v2_2 => some v2_2 | .inr (v3_3, v7_4) => (p_spec_l1In n (t0_0.length : Int) (1 : Int) (20 : Int)).bind fun c35_17 => some c35_17)
theorem big_spec_l3VarOk {n : Nat} : B_spec_l3VarOk (p_spec_l3VarOk n) := by
 intro t0_0 r h
 unfold p_spec_l3VarOk at h
 refine bF Try.func223 rfl rfl ?_
 refine cRs ?_
 refine xAs rfl ?_
 refine oNl ?_
 refine cSq ?_
 refine cRs ?_
 refine xAs rfl ?_
 refine oNl ?_
 refine cLp h [(2, 32)] [] (fun v3_1 => ([(3, I64 v3_1)], [])) (fun q => match q with | .inl v2_2 => (.r, [(2, Bo v2_2)], []) | .inr (v3_3, v7_4) => (.e 0, [(3, I64 v3_3), (7, Bo v7_4)], [])) rfl (fun v3_1 _ h => ?_) (fun q h => ?_)
 unfold p_spec_l3VarOk_b1 at h
 refine cSq ?_
 refine cRs ?_
 refine xMv rfl ?_
 refine xMv rfl ?_
 refine xLs rfl ?_
 refine xLt rfl ?_
 refine oNl ?_
 refine cIf h rfl (fun q5 h => ?_) (fun q5 h => ?_)
 refine cSk ?_
 refine cSq ?_
 refine cBk ?_
 refine cRs ?_
 refine oJn h [(10, 32)] [] (fun v32_6 => (.n, [(32, Bo v32_6)], [])) (fun _ h => ?_) (fun v32_6 h => ?_)
 refine xMv rfl ?_
 refine xMv rfl ?_
 refine wIxs h rfl rfl rfl rfl rfl (fun e12_7 h => ?_)
 refine xC0 h (big_spec_l3Large ·) rfl (fun c13_8 h => ?_)
 refine xNot rfl ?_
 refine xMv rfl ?_
 refine oIf 15 h rfl (fun q9 h => ?_) (fun q9 h => ?_)
 refine xMv rfl ?_
 refine xEq rfl ?_
 refine xMv rfl ?_
 refine oIf 18 h rfl (fun q10 h => ?_) (fun q10 h => ?_)
 refine wSk rfl ?_
 refine wSk rfl ?_
 refine wSk rfl ?_
 refine wSk rfl ?_
 refine wSk rfl ?_
 refine wSk rfl ?_
 refine wSk rfl ?_
 refine wSk rfl ?_
 refine wSk rfl ?_
 refine wSk rfl ?_
 refine wSk rfl ?_
 refine wSk rfl ?_
 refine xPk rfl ?_
 refine xPk rfl ?_
 refine oNl ?_
 exact eJ h rfl
 refine xMv rfl ?_
 refine xMv rfl ?_
 refine wIxs h rfl rfl rfl rfl rfl (fun e21_11 h => ?_)
 refine xC0 h (big_spec_l3Small ·) rfl (fun c22_12 h => ?_)
 refine xNot rfl ?_
 refine xMv rfl ?_
 refine oIf 24 h rfl (fun q13 h => ?_) (fun q13 h => ?_)
 refine xMv rfl ?_
 refine xMv rfl ?_
 refine wIxs h rfl rfl rfl rfl rfl (fun e27_14 h => ?_)
 refine xC0 h (big_spec_l3Digit ·) rfl (fun c28_15 h => ?_)
 refine xNot rfl ?_
 refine xPk rfl ?_
 refine xPk rfl ?_
 refine xPk rfl ?_
 refine oNl ?_
 exact eJ h rfl
 refine wSk rfl ?_
 refine wSk rfl ?_
 refine wSk rfl ?_
 refine wSk rfl ?_
 refine wSk rfl ?_
 refine xPk rfl ?_
 refine xPk rfl ?_
 refine xPk rfl ?_
 refine oNl ?_
 exact eJ h rfl
 refine wSk rfl ?_
 refine wSk rfl ?_
 refine wSk rfl ?_
 refine wSk rfl ?_
 refine wSk rfl ?_
 refine wSk rfl ?_
 refine wSk rfl ?_
 refine wSk rfl ?_
 refine wSk rfl ?_
 refine wSk rfl ?_
 refine wSk rfl ?_
 refine wSk rfl ?_
 refine wSk rfl ?_
 refine wSk rfl ?_
 refine wSk rfl ?_
 refine wSk rfl ?_
 refine xPk rfl ?_
 refine oNl ?_
 exact eJ h rfl
 refine cIf h rfl (fun q16 h => ?_) (fun q16 h => ?_)
 refine cRs ?_
 refine xAs rfl ?_
 refine oNl ?_
 refine cRt ?_
 exact eXr h rfl
 refine cSk ?_
 refine cRg ?_
 refine xMv rfl ?_
 refine xAdd rfl ?_
 refine xAs rfl ?_
 refine oNl ?_
 exact eL h rfl
 refine cEx ?_
 exact eX h rfl
 rcases q with v2_2 | ⟨v3_3, v7_4⟩
 cases h
 exact eR rfl rfl rfl rfl
 refine cRs ?_
 refine xMv rfl ?_
 refine xLs rfl ?_
 refine xC0 h (big_spec_l1In ·) rfl (fun c35_17 h => ?_)
 refine xAs rfl ?_
 refine oNl ?_
 refine cRt ?_
 cases h
 exact eR rfl rfl rfl rfl
abbrev B_spec_AtomOk (p : (List UInt8) → Option (Bool)) : Prop := ∀ {t0_0 : List UInt8} {r : Bool}, p t0_0 = some r → Big Try.prog τ An (.fn 194 [.one (.c (.str t0_0))] [] (.one (.c (.bool r))) none [] none)
def p_spec_AtomOk_b1 (n : Nat) (t0_0 : List UInt8) : (Int) → Option ((Int) ⊕ ((Bool) ⊕ (Int × Bool)))
  | v3_1 => bif decide (v3_1 < (t0_0.length : Int)) then (ixs t0_0 v3_1).bind fun e14_6 => (p_spec_l1In n (IntKind.wrap .i64 e14_6) (97 : Int) (122 : Int)).bind fun c17_7 => (bif !c17_7 then bif decide (v3_1 = (0 : Int)) then some true else (p_spec_l1In n (IntKind.wrap .i64 e14_6) (48 : Int) (57 : Int)).bind fun c25_11 => bif !c25_11 then some (!decide ((IntKind.wrap .i64 e14_6) = (95 : Int))) else some false else some false).bind fun v32_8 => bif v32_8 then some (.inr (.inl false)) else some (.inl (IntKind.wrap .i64 (v3_1 + (1 : Int)))) else some (.inr (.inr (v3_1, false)))
def p_spec_AtomOk (n : Nat) (t0_0 : List UInt8) : Option (Bool) :=
  (loopN (p_spec_AtomOk_b1 n t0_0) n (0 : Int)).bind fun q => (match q with | .inl v2_2 => some v2_2 | .inr (v3_3, v9_4) => (p_spec_l1In n (t0_0.length : Int) (1 : Int) (20 : Int)).bind fun c35_14 => some c35_14)
theorem big_spec_AtomOk {n : Nat} : B_spec_AtomOk (p_spec_AtomOk n) := by
 intro t0_0 r h
 unfold p_spec_AtomOk at h
 refine bF Try.func194 rfl rfl ?_
 refine cRs ?_
 refine xAs rfl ?_
 refine oNl ?_
 refine cSq ?_
 refine cRs ?_
 refine xAs rfl ?_
 refine oNl ?_
 refine cLp h [(2, 32)] [] (fun v3_1 => ([(3, I64 v3_1)], [])) (fun q => match q with | .inl v2_2 => (.r, [(2, Bo v2_2)], []) | .inr (v3_3, v9_4) => (.e 0, [(3, I64 v3_3), (9, Bo v9_4)], [])) rfl (fun v3_1 _ h => ?_) (fun q h => ?_)
 unfold p_spec_AtomOk_b1 at h
 refine cSq ?_
 refine cRs ?_
 refine xMv rfl ?_
 refine xMv rfl ?_
 refine xLs rfl ?_
 refine xLt rfl ?_
 refine oNl ?_
 refine cIf h rfl (fun q5 h => ?_) (fun q5 h => ?_)
 refine cSk ?_
 refine cSq ?_
 refine cBk ?_
 refine cRs ?_
 refine xMv rfl ?_
 refine xMv rfl ?_
 refine wIxs h rfl rfl rfl rfl rfl (fun e14_6 h => ?_)
 refine wCv rfl rfl rfl rfl rfl ?_
 refine xAs rfl ?_
 refine oRs ?_
 refine xMv rfl ?_
 refine xC0 h (big_spec_l1In ·) rfl (fun c17_7 h => ?_)
 refine xAs rfl ?_
 refine oRs ?_
 refine oJn h [(18, 32)] [] (fun v32_8 => (.n, [(32, Bo v32_8)], [])) (fun _ h => ?_) (fun v32_8 h => ?_)
 refine xMv rfl ?_
 refine xNot rfl ?_
 refine xMv rfl ?_
 refine oIf 20 h rfl (fun q9 h => ?_) (fun q9 h => ?_)
 refine xMv rfl ?_
 refine xEq rfl ?_
 refine xMv rfl ?_
 refine oIf 23 h rfl (fun q10 h => ?_) (fun q10 h => ?_)
 refine wSk rfl ?_
 refine wSk rfl ?_
 refine wSk rfl ?_
 refine wSk rfl ?_
 refine wSk rfl ?_
 refine wSk rfl ?_
 refine wSk rfl ?_
 refine xPk rfl ?_
 refine xPk rfl ?_
 refine oNl ?_
 exact eJ h rfl
 refine xMv rfl ?_
 refine xC0 h (big_spec_l1In ·) rfl (fun c25_11 h => ?_)
 refine xNot rfl ?_
 refine xMv rfl ?_
 refine oIf 27 h rfl (fun q12 h => ?_) (fun q12 h => ?_)
 refine xMv rfl ?_
 refine xNe rfl ?_
 refine xPk rfl ?_
 refine xPk rfl ?_
 refine xPk rfl ?_
 refine oNl ?_
 exact eJ h rfl
 refine wSk rfl ?_
 refine wSk rfl ?_
 refine xPk rfl ?_
 refine xPk rfl ?_
 refine xPk rfl ?_
 refine oNl ?_
 exact eJ h rfl
 refine wSk rfl ?_
 refine wSk rfl ?_
 refine wSk rfl ?_
 refine wSk rfl ?_
 refine wSk rfl ?_
 refine wSk rfl ?_
 refine wSk rfl ?_
 refine wSk rfl ?_
 refine wSk rfl ?_
 refine wSk rfl ?_
 refine wSk rfl ?_
 refine xPk rfl ?_
 refine oNl ?_
 exact eJ h rfl
 refine cIf h rfl (fun q13 h => ?_) (fun q13 h => ?_)
 refine cRs ?_
 refine xAs rfl ?_
 refine oNl ?_
 refine cRt ?_
 exact eXr h rfl
 refine cSk ?_
 refine cRg ?_
 refine xMv rfl ?_
 refine xAdd rfl ?_
 refine xAs rfl ?_
 refine oNl ?_
 exact eL h rfl
 refine cEx ?_
 exact eX h rfl
 rcases q with v2_2 | ⟨v3_3, v9_4⟩
 cases h
 exact eR rfl rfl rfl rfl
 refine cRs ?_
 refine xMv rfl ?_
 refine xLs rfl ?_
 refine xC0 h (big_spec_l1In ·) rfl (fun c35_14 h => ?_)
 refine xAs rfl ?_
 refine oNl ?_
 refine cRt ?_
 cases h
 exact eR rfl rfl rfl rfl
abbrev B_spec_l4Reserved (p : (List UInt8) → Option (Bool)) : Prop := ∀ {t0_0 : List UInt8} {r : Bool}, p t0_0 = some r → Big Try.prog τ An (.fn 256 [.one (.c (.str t0_0))] [] (.one (.c (.bool r))) none [] none)
def p_spec_l4Reserved (n : Nat) (t0_0 : List UInt8) : Option (Bool) :=
  (bif decide (t0_0 = ([99, 97, 115, 101] : List UInt8)) then some true else bif decide (t0_0 = ([111, 102] : List UInt8)) then some true else some (decide (t0_0 = ([101, 110, 100] : List UInt8)))).bind fun v2_1 => some v2_1
theorem big_spec_l4Reserved {n : Nat} : B_spec_l4Reserved (p_spec_l4Reserved n) := by
 intro t0_0 r h
 unfold p_spec_l4Reserved at h
 refine bF Try.func256 rfl rfl ?_
 refine cRs ?_
 refine xAs rfl ?_
 refine oRs ?_
 refine oJn h [(2, 12)] [] (fun v2_1 => (.n, [(2, Bo v2_1)], [])) (fun _ h => ?_) (fun v2_1 h => ?_)
 refine xMv rfl ?_
 refine xEs rfl ?_
 refine xMv rfl ?_
 refine oIf 5 h rfl (fun q2 h => ?_) (fun q2 h => ?_)
 refine wSk rfl ?_
 refine wSk rfl ?_
 refine xPk rfl ?_
 refine xMv rfl ?_
 refine wSk rfl ?_
 refine wSk rfl ?_
 refine xPk rfl ?_
 refine xAs rfl ?_
 refine oNl ?_
 exact eJ h rfl
 refine xMv rfl ?_
 refine xEs rfl ?_
 refine xPk rfl ?_
 refine xMv rfl ?_
 refine oIf 9 h rfl (fun q3 h => ?_) (fun q3 h => ?_)
 refine wSk rfl ?_
 refine wSk rfl ?_
 refine xPk rfl ?_
 refine xAs rfl ?_
 refine oNl ?_
 exact eJ h rfl
 refine xMv rfl ?_
 refine xEs rfl ?_
 refine xPk rfl ?_
 refine xAs rfl ?_
 refine oNl ?_
 exact eJ h rfl
 refine cRt ?_
 cases h
 exact eR rfl rfl rfl rfl
abbrev B_spec_l4Atom (p : (List UInt8) → Option (Bool)) : Prop := ∀ {t0_0 : List UInt8} {r : Bool}, p t0_0 = some r → Big Try.prog τ An (.fn 224 [.one (.c (.str t0_0))] [] (.one (.c (.bool r))) none [] none)
def p_spec_l4Atom (n : Nat) (t0_0 : List UInt8) : Option (Bool) :=
  ((p_spec_AtomOk n t0_0).bind fun c4_2 => bif c4_2 then (p_spec_l4Reserved n t0_0).bind fun c7_4 => some (!c7_4) else some false).bind fun v2_1 => some v2_1
theorem big_spec_l4Atom {n : Nat} : B_spec_l4Atom (p_spec_l4Atom n) := by
 intro t0_0 r h
 unfold p_spec_l4Atom at h
 refine bF Try.func224 rfl rfl ?_
 refine cRs ?_
 refine xAs rfl ?_
 refine oRs ?_
 refine oJn h [(2, 9)] [] (fun v2_1 => (.n, [(2, Bo v2_1)], [])) (fun _ h => ?_) (fun v2_1 h => ?_)
 refine xMv rfl ?_
 refine xC0 h (big_spec_AtomOk ·) rfl (fun c4_2 h => ?_)
 refine xMv rfl ?_
 refine oIf 5 h rfl (fun q3 h => ?_) (fun q3 h => ?_)
 refine xMv rfl ?_
 refine xC0 h (big_spec_l4Reserved ·) rfl (fun c7_4 h => ?_)
 refine xNot rfl ?_
 refine xPk rfl ?_
 refine xAs rfl ?_
 refine oNl ?_
 exact eJ h rfl
 refine wSk rfl ?_
 refine wSk rfl ?_
 refine wSk rfl ?_
 refine xPk rfl ?_
 refine xAs rfl ?_
 refine oNl ?_
 exact eJ h rfl
 refine cRt ?_
 cases h
 exact eR rfl rfl rfl rfl
abbrev Y_spec_VarsOf : Type := Int → Int → (List UInt8) → (List S_impl_Expr) → (List S_impl_Clause) → Option ((List (List UInt8)))
abbrev B_spec_VarsOf (p : Y_spec_VarsOf) : Prop := ∀ {t0_0 t0_1 : Int} {t0_2 : List UInt8} {t0_3 : List S_impl_Expr} {t0_4 : List S_impl_Clause} {r : (List (List UInt8))}, p t0_0 t0_1 t0_2 t0_3 t0_4 = some r → Big Try.prog τ An (.fn 184 [.one (.ag [.int .i64 t0_0, .int .i64 t0_1, .str t0_2, .sl (t0_3.map rS_impl_Expr), .sl (t0_4.map rS_impl_Clause)])] [] (.one (.c (.sl (r.map rStr)))) none [] none)
def p_spec_VarsOf_b1 (n : Nat) (r_spec_VarsOf : Y_spec_VarsOf) (t0_3 : List S_impl_Expr) : ((List (List UInt8)) × Int) → Option (((List (List UInt8)) × Int) ⊕ (((List (List UInt8)) × Int × Bool)))
  | (v3_4, v4_5) => bif decide (v4_5 < (t0_3.length : Int)) then (ix t0_3 v4_5).bind fun e29_10 => (r_spec_VarsOf e29_10.f0 e29_10.f1 e29_10.f2 e29_10.f3 e29_10.f4).bind fun c31_11 => (app2 16 v3_4 c31_11).bind fun v32_12 => some (.inl (v32_12, (IntKind.wrap .i64 (v4_5 + (1 : Int))))) else some (.inr (v3_4, v4_5, false))
def s_spec_VarsOf (n : Nat) (r_spec_VarsOf : Y_spec_VarsOf) (t0_0 : Int) (t0_1 : Int) (t0_2 : List UInt8) (t0_3 : List S_impl_Expr) (t0_4 : List S_impl_Clause) : Option ((List (List UInt8))) :=
  bif decide (t0_0 = (3 : Int)) then bif !decide (t0_2 = ([95] : List UInt8)) then (app2 16 ([] : List (List UInt8)) ([t0_2] : List (List UInt8))).bind fun v16_3 => some v16_3 else some ([] : List (List UInt8)) else (loopN (p_spec_VarsOf_b1 n r_spec_VarsOf t0_3) n (([] : List (List UInt8)), (0 : Int))).bind fun (v3_6, v4_7, v22_8) => some v3_6
theorem step_spec_VarsOf {n : Nat} {r_spec_VarsOf : Y_spec_VarsOf} (ih_spec_VarsOf : B_spec_VarsOf r_spec_VarsOf) : B_spec_VarsOf (s_spec_VarsOf n r_spec_VarsOf) := by
 intro t0_0 t0_1 t0_2 t0_3 t0_4 r h
 unfold s_spec_VarsOf at h
 refine bF Try.func184 rfl rfl ?_
 refine cRs ?_
 refine xBx rfl ?_
 refine wAe (Li rStr []) rfl rfl rfl rfl ?_
 refine oRs ?_
 refine wLt' (L := ([] : List (List UInt8))) (f := rStr) rfl rfl rfl rfl rfl rfl rfl ?_
 refine xAs rfl ?_
 refine oNl ?_
 refine cSq ?_
 refine cRs ?_
 refine xFd rfl ?_
 refine xLd rfl ?_
 refine xEq rfl ?_
 refine oNl ?_
 refine cIf h rfl (fun q1 h => ?_) (fun q1 h => ?_)
 refine cSq ?_
 refine cRs ?_
 refine xFd rfl ?_
 refine xLd rfl ?_
 refine xNs rfl ?_
 refine oNl ?_
 refine cIf h rfl (fun q2 h => ?_) (fun q2 h => ?_)
 refine cRg ?_
 refine xMv rfl ?_
 refine xFd rfl ?_
 refine xLd rfl ?_
 refine wLt' (L := ([t0_2] : List (List UInt8))) (f := rStr) rfl rfl rfl rfl rfl rfl rfl ?_
 refine wAp (f := rStr) h rfl rfl rfl rfl rfl rfl rfl rfl rfl (fun _ => rfl) rfl (fun v16_3 h => ?_)
 refine xAs rfl ?_
 refine oNl ?_
 refine cRs ?_
 refine xMv rfl ?_
 refine xAs rfl ?_
 refine oNl ?_
 refine cRt ?_
 cases h
 exact eR rfl rfl rfl rfl
 refine cSk ?_
 refine cRs ?_
 refine xMv rfl ?_
 refine xAs rfl ?_
 refine oNl ?_
 refine cRt ?_
 cases h
 exact eR rfl rfl rfl rfl
 refine cSk ?_
 refine cSq ?_
 refine cRs ?_
 refine xAs rfl ?_
 refine oNl ?_
 refine cLp h [(3, 4), (18, 32)] [] (fun (v3_4, v4_5) => ([(3, Li rStr v3_4), (4, I64 v4_5)], [])) (fun (v3_6, v4_7, v22_8) => (.e 0, [(3, Li rStr v3_6), (4, I64 v4_7), (22, Bo v22_8)], [])) rfl (fun st _ h => ?_) (fun q h => ?_)
 obtain ⟨v3_4, v4_5⟩ := st
 unfold p_spec_VarsOf_b1 at h
 refine cSq ?_
 refine cRs ?_
 refine xMv rfl ?_
 refine xFd rfl ?_
 refine xLd rfl ?_
 refine xLn rfl ?_
 refine xLt rfl ?_
 refine oNl ?_
 refine cIf h rfl (fun q9 h => ?_) (fun q9 h => ?_)
 refine cSk ?_
 refine cSq ?_
 refine cBk ?_
 refine cRg ?_
 refine xMv rfl ?_
 refine xFd rfl ?_
 refine xLd rfl ?_
 refine xMv rfl ?_
 refine xIx h rS_impl_Expr_eq rfl (fun e29_10 h => ?_)
 refine xLd rfl ?_
 refine xC0 h (ih_spec_VarsOf ·) rfl (fun c31_11 h => ?_)
 refine wAp (f := rStr) h rfl rfl rfl rfl rfl rfl rfl rfl rfl (fun _ => rfl) rfl (fun v32_12 h => ?_)
 refine xAs rfl ?_
 refine oNl ?_
 refine cRg ?_
 refine xMv rfl ?_
 refine xAdd rfl ?_
 refine xAs rfl ?_
 refine oNl ?_
 exact eL h rfl
 refine cEx ?_
 exact eX h rfl
 obtain ⟨v3_6, v4_7, v22_8⟩ := q
 refine cRs ?_
 refine xMv rfl ?_
 refine xAs rfl ?_
 refine oNl ?_
 refine cRt ?_
 cases h
 exact eR rfl rfl rfl rfl
def q_spec_VarsOf : Nat → (Y_spec_VarsOf)
  | 0 => (fun _ _ _ _ _ => none)
  | n + 1 => s_spec_VarsOf n (q_spec_VarsOf n)
def p_spec_VarsOf (n : Nat) : Y_spec_VarsOf := q_spec_VarsOf n
theorem bigs_spec_VarsOf (n : Nat) : B_spec_VarsOf (p_spec_VarsOf n) := by
  induction n with
  | zero => exact (fun h => nomatch h)
  | succ n ih => exact step_spec_VarsOf (n := n) ih
theorem big_spec_VarsOf {n : Nat} : B_spec_VarsOf (p_spec_VarsOf n) := (bigs_spec_VarsOf n)
theorem p_spec_VarsOf_succ (n : Nat) : p_spec_VarsOf (n + 1) = s_spec_VarsOf n (p_spec_VarsOf n) := rfl
abbrev B_spec_l4Op (p : (List UInt8) → Option (Bool)) : Prop := ∀ {t0_0 : List UInt8} {r : Bool}, p t0_0 = some r → Big Try.prog τ An (.fn 260 [.one (.c (.str t0_0))] [] (.one (.c (.bool r))) none [] none)
def p_spec_l4Op (n : Nat) (t0_0 : List UInt8) : Option (Bool) :=
  (bif decide (t0_0 = ([43] : List UInt8)) then some true else bif decide (t0_0 = ([45] : List UInt8)) then some true else bif decide (t0_0 = ([42] : List UInt8)) then some true else bif decide (t0_0 = ([61, 61] : List UInt8)) then some true else some (decide (t0_0 = ([60] : List UInt8)))).bind fun v2_1 => some v2_1
theorem big_spec_l4Op {n : Nat} : B_spec_l4Op (p_spec_l4Op n) := by
 intro t0_0 r h
 unfold p_spec_l4Op at h
 refine bF Try.func260 rfl rfl ?_
 refine cRs ?_
 refine xAs rfl ?_
 refine oRs ?_
 refine oJn h [(2, 20)] [] (fun v2_1 => (.n, [(2, Bo v2_1)], [])) (fun _ h => ?_) (fun v2_1 h => ?_)
 refine xMv rfl ?_
 refine xEs rfl ?_
 refine xMv rfl ?_
 refine oIf 5 h rfl (fun q2 h => ?_) (fun q2 h => ?_)
 refine wSk rfl ?_
 refine wSk rfl ?_
 refine xPk rfl ?_
 refine xMv rfl ?_
 refine wSk rfl ?_
 refine wSk rfl ?_
 refine xPk rfl ?_
 refine xMv rfl ?_
 refine wSk rfl ?_
 refine wSk rfl ?_
 refine xPk rfl ?_
 refine xMv rfl ?_
 refine wSk rfl ?_
 refine wSk rfl ?_
 refine xPk rfl ?_
 refine xAs rfl ?_
 refine oNl ?_
 exact eJ h rfl
 refine xMv rfl ?_
 refine xEs rfl ?_
 refine xPk rfl ?_
 refine xMv rfl ?_
 refine oIf 9 h rfl (fun q3 h => ?_) (fun q3 h => ?_)
 refine wSk rfl ?_
 refine wSk rfl ?_
 refine xPk rfl ?_
 refine xMv rfl ?_
 refine wSk rfl ?_
 refine wSk rfl ?_
 refine xPk rfl ?_
 refine xMv rfl ?_
 refine wSk rfl ?_
 refine wSk rfl ?_
 refine xPk rfl ?_
 refine xAs rfl ?_
 refine oNl ?_
 exact eJ h rfl
 refine xMv rfl ?_
 refine xEs rfl ?_
 refine xPk rfl ?_
 refine xMv rfl ?_
 refine oIf 13 h rfl (fun q4 h => ?_) (fun q4 h => ?_)
 refine wSk rfl ?_
 refine wSk rfl ?_
 refine xPk rfl ?_
 refine xMv rfl ?_
 refine wSk rfl ?_
 refine wSk rfl ?_
 refine xPk rfl ?_
 refine xAs rfl ?_
 refine oNl ?_
 exact eJ h rfl
 refine xMv rfl ?_
 refine xEs rfl ?_
 refine xPk rfl ?_
 refine xMv rfl ?_
 refine oIf 17 h rfl (fun q5 h => ?_) (fun q5 h => ?_)
 refine wSk rfl ?_
 refine wSk rfl ?_
 refine xPk rfl ?_
 refine xAs rfl ?_
 refine oNl ?_
 exact eJ h rfl
 refine xMv rfl ?_
 refine xEs rfl ?_
 refine xPk rfl ?_
 refine xAs rfl ?_
 refine oNl ?_
 exact eJ h rfl
 refine cRt ?_
 cases h
 exact eR rfl rfl rfl rfl
abbrev B_spec_l4Shape (p : Int → Int → (List UInt8) → (List S_impl_Expr) → (List S_impl_Clause) → Bool → Option (Bool)) : Prop := ∀ {t0_0 t0_1 : Int} {t0_2 : List UInt8} {t0_3 : List S_impl_Expr} {t0_4 : List S_impl_Clause} {t1_0 : Bool} {r : Bool}, p t0_0 t0_1 t0_2 t0_3 t0_4 t1_0 = some r → Big Try.prog τ An (.fn 232 [.one (.ag [.int .i64 t0_0, .int .i64 t0_1, .str t0_2, .sl (t0_3.map rS_impl_Expr), .sl (t0_4.map rS_impl_Clause)]), .one (.c (.bool t1_0))] [] (.one (.c (.bool r))) none [] none)
def p_spec_l4Shape (n : Nat) (t0_0 : Int) (t0_1 : Int) (t0_2 : List UInt8) (t0_3 : List S_impl_Expr) (t0_4 : List S_impl_Clause) (t1_0 : Bool) : Option (Bool) :=
  (bif !decide (t0_0 = (9 : Int)) then bif decide ((0 : Int) < (t0_4.length : Int)) then some true else bif !decide (t0_0 = (1 : Int)) then some (!decide (t0_1 = (0 : Int))) else some false else bif !decide (t0_0 = (1 : Int)) then some (!decide (t0_1 = (0 : Int))) else some false).bind fun v27_1 => bif v27_1 then some false else bif decide (t0_0 = (1 : Int)) then ((p_spec_l1In n t0_1 (0 : Int) (1000000000000 : Int)).bind fun c34_9 => bif c34_9 then bif decide (t0_2 = ([] : List UInt8)) then some (decide ((t0_3.length : Int) = (0 : Int))) else some false else some false).bind fun v4_8 => some v4_8 else bif decide (t0_0 = (2 : Int)) then ((p_spec_l4Atom n t0_2).bind fun c48_14 => bif c48_14 then some (decide ((t0_3.length : Int) = (0 : Int))) else some false).bind fun v4_13 => some v4_13 else bif decide (t0_0 = (3 : Int)) then ((p_spec_l3VarOk n t0_2).bind fun c57_18 => bif c57_18 then bif decide ((t0_3.length : Int) = (0 : Int)) then bif t1_0 then some true else some (!decide (t0_2 = ([95] : List UInt8))) else some false else some false).bind fun v4_17 => some v4_17 else bif decide (t0_0 = (4 : Int)) then (bif decide (t0_2 = ([] : List UInt8)) then some (decide ((t0_3.length : Int) ≤ (20 : Int))) else some false).bind fun v4_23 => some v4_23 else bif decide (t0_0 = (5 : Int)) then (bif decide (t0_2 = ([] : List UInt8)) then some (decide ((t0_3.length : Int) ≤ (20 : Int))) else some false).bind fun v4_26 => some v4_26 else bif decide (t0_0 = (6 : Int)) then (bif decide (t0_2 = ([] : List UInt8)) then (p_spec_l1In n (t0_3.length : Int) (2 : Int) (6 : Int)).bind fun c87_31 => some c87_31 else some false).bind fun v4_29 => some v4_29 else bif decide (t0_0 = (7 : Int)) then (bif !t1_0 then (p_spec_l4Op n t0_2).bind fun c96_35 => bif c96_35 then some (decide ((t0_3.length : Int) = (2 : Int))) else some false else some false).bind fun v4_33 => some v4_33 else bif decide (t0_0 = (8 : Int)) then (bif !t1_0 then (p_spec_l4Atom n t0_2).bind fun c109_40 => bif c109_40 then some (decide ((t0_3.length : Int) ≤ (4 : Int))) else some false else some false).bind fun v4_38 => some v4_38 else bif decide (t0_0 = (9 : Int)) then (bif !t1_0 then bif decide (t0_2 = ([] : List UInt8)) then bif decide ((t0_3.length : Int) = (1 : Int)) then (p_spec_l1In n (t0_4.length : Int) (1 : Int) (6 : Int)).bind fun c132_47 => some c132_47 else some false else some false else some false).bind fun v4_43 => some v4_43 else some false
theorem big_spec_l4Shape {n : Nat} : B_spec_l4Shape (p_spec_l4Shape n) := by
 intro t0_0 t0_1 t0_2 t0_3 t0_4 t1_0 r h
 unfold p_spec_l4Shape at h
 refine bF Try.func232 rfl rfl ?_
 refine cRs ?_
 refine xBx rfl ?_
 refine xAs rfl ?_
 refine oRs ?_
 refine xFd rfl ?_
 refine xLd rfl ?_
 refine xLn rfl ?_
 refine xAs rfl ?_
 refine oNl ?_
 refine cSq ?_
 refine cRs ?_
 refine oJn h [(9, 27)] [] (fun v27_1 => (.n, [(27, Bo v27_1)], [])) (fun _ h => ?_) (fun v27_1 h => ?_)
 refine xFd rfl ?_
 refine xLd rfl ?_
 refine xNe rfl ?_
 refine xMv rfl ?_
 refine oIf 12 h rfl (fun q2 h => ?_) (fun q2 h => ?_)
 refine xFd rfl ?_
 refine xLd rfl ?_
 refine xLn rfl ?_
 refine xGt rfl ?_
 refine xPk rfl ?_
 refine xMv rfl ?_
 refine oIf 18 h rfl (fun q3 h => ?_) (fun q3 h => ?_)
 refine wSk rfl ?_
 refine wSk rfl ?_
 refine wSk rfl ?_
 refine wSk rfl ?_
 refine wSk rfl ?_
 refine wSk rfl ?_
 refine wSk rfl ?_
 refine wSk rfl ?_
 refine xPk rfl ?_
 refine oNl ?_
 exact eJ h rfl
 refine xFd rfl ?_
 refine xLd rfl ?_
 refine xNe rfl ?_
 refine xMv rfl ?_
 refine oIf 22 h rfl (fun q4 h => ?_) (fun q4 h => ?_)
 refine xFd rfl ?_
 refine xLd rfl ?_
 refine xNe rfl ?_
 refine xPk rfl ?_
 refine xPk rfl ?_
 refine oNl ?_
 exact eJ h rfl
 refine wSk rfl ?_
 refine wSk rfl ?_
 refine wSk rfl ?_
 refine xPk rfl ?_
 refine xPk rfl ?_
 refine oNl ?_
 exact eJ h rfl
 refine wSk rfl ?_
 refine wSk rfl ?_
 refine wSk rfl ?_
 refine wSk rfl ?_
 refine xPk rfl ?_
 refine xMv rfl ?_
 refine xFd rfl ?_
 refine xLd rfl ?_
 refine xNe rfl ?_
 refine xMv rfl ?_
 refine oIf 22 h rfl (fun q5 h => ?_) (fun q5 h => ?_)
 refine xFd rfl ?_
 refine xLd rfl ?_
 refine xNe rfl ?_
 refine xPk rfl ?_
 refine xPk rfl ?_
 refine oNl ?_
 exact eJ h rfl
 refine wSk rfl ?_
 refine wSk rfl ?_
 refine wSk rfl ?_
 refine xPk rfl ?_
 refine xPk rfl ?_
 refine oNl ?_
 exact eJ h rfl
 refine cIf h rfl (fun q6 h => ?_) (fun q6 h => ?_)
 refine cRs ?_
 refine xAs rfl ?_
 refine oNl ?_
 refine cRt ?_
 cases h
 exact eR rfl rfl rfl rfl
 refine cSk ?_
 refine cSq ?_
 refine cRs ?_
 refine xFd rfl ?_
 refine xLd rfl ?_
 refine oNl ?_
 refine cBk ?_
 refine cRs ?_
 refine xEq rfl ?_
 refine xAs rfl ?_
 refine oNl ?_
 refine cIf h rfl (fun q7 h => ?_) (fun q7 h => ?_)
 refine cRs ?_
 refine oJn h [(4, 4), (32, 43)] [] (fun v4_8 => (.n, [(4, Bo v4_8)], [])) (fun _ h => ?_) (fun v4_8 h => ?_)
 refine xFd rfl ?_
 refine xLd rfl ?_
 refine xC0 h (big_spec_l1In ·) rfl (fun c34_9 h => ?_)
 refine xMv rfl ?_
 refine oIf 35 h rfl (fun q10 h => ?_) (fun q10 h => ?_)
 refine xFd rfl ?_
 refine xLd rfl ?_
 refine xEs rfl ?_
 refine xPk rfl ?_
 refine xMv rfl ?_
 refine oIf 40 h rfl (fun q11 h => ?_) (fun q11 h => ?_)
 refine xMv rfl ?_
 refine xEq rfl ?_
 refine xPk rfl ?_
 refine xAs rfl ?_
 refine oNl ?_
 exact eJ h rfl
 refine wSk rfl ?_
 refine wSk rfl ?_
 refine xPk rfl ?_
 refine xAs rfl ?_
 refine oNl ?_
 exact eJ h rfl
 refine wSk rfl ?_
 refine wSk rfl ?_
 refine wSk rfl ?_
 refine xPk rfl ?_
 refine xMv rfl ?_
 refine wSk rfl ?_
 refine wSk rfl ?_
 refine xPk rfl ?_
 refine xAs rfl ?_
 refine oNl ?_
 exact eJ h rfl
 refine cRt ?_
 cases h
 exact eR rfl rfl rfl rfl
 refine cRs ?_
 refine xEq rfl ?_
 refine xAs rfl ?_
 refine oNl ?_
 refine cIf h rfl (fun q12 h => ?_) (fun q12 h => ?_)
 refine cRs ?_
 refine oJn h [(4, 4), (46, 52)] [] (fun v4_13 => (.n, [(4, Bo v4_13)], [])) (fun _ h => ?_) (fun v4_13 h => ?_)
 refine xFd rfl ?_
 refine xLd rfl ?_
 refine xC0 h (big_spec_l4Atom ·) rfl (fun c48_14 h => ?_)
 refine xMv rfl ?_
 refine oIf 49 h rfl (fun q15 h => ?_) (fun q15 h => ?_)
 refine xMv rfl ?_
 refine xEq rfl ?_
 refine xPk rfl ?_
 refine xAs rfl ?_
 refine oNl ?_
 exact eJ h rfl
 refine wSk rfl ?_
 refine wSk rfl ?_
 refine xPk rfl ?_
 refine xAs rfl ?_
 refine oNl ?_
 exact eJ h rfl
 refine cRt ?_
 cases h
 exact eR rfl rfl rfl rfl
 refine cRs ?_
 refine xEq rfl ?_
 refine xAs rfl ?_
 refine oNl ?_
 refine cIf h rfl (fun q16 h => ?_) (fun q16 h => ?_)
 refine cRs ?_
 refine oJn h [(4, 4), (55, 69)] [] (fun v4_17 => (.n, [(4, Bo v4_17)], [])) (fun _ h => ?_) (fun v4_17 h => ?_)
 refine xFd rfl ?_
 refine xLd rfl ?_
 refine xC0 h (big_spec_l3VarOk ·) rfl (fun c57_18 h => ?_)
 refine xMv rfl ?_
 refine oIf 58 h rfl (fun q19 h => ?_) (fun q19 h => ?_)
 refine xMv rfl ?_
 refine xEq rfl ?_
 refine xPk rfl ?_
 refine xMv rfl ?_
 refine oIf 62 h rfl (fun q20 h => ?_) (fun q20 h => ?_)
 refine xMv rfl ?_
 refine xMv rfl ?_
 refine oIf 64 h rfl (fun q21 h => ?_) (fun q21 h => ?_)
 refine wSk rfl ?_
 refine wSk rfl ?_
 refine wSk rfl ?_
 refine xPk rfl ?_
 refine xPk rfl ?_
 refine xAs rfl ?_
 refine oNl ?_
 exact eJ h rfl
 refine xFd rfl ?_
 refine xLd rfl ?_
 refine xNs rfl ?_
 refine xPk rfl ?_
 refine xPk rfl ?_
 refine xAs rfl ?_
 refine oNl ?_
 exact eJ h rfl
 refine wSk rfl ?_
 refine wSk rfl ?_
 refine wSk rfl ?_
 refine wSk rfl ?_
 refine wSk rfl ?_
 refine wSk rfl ?_
 refine xPk rfl ?_
 refine xAs rfl ?_
 refine oNl ?_
 exact eJ h rfl
 refine wSk rfl ?_
 refine wSk rfl ?_
 refine xPk rfl ?_
 refine xMv rfl ?_
 refine wSk rfl ?_
 refine wSk rfl ?_
 refine wSk rfl ?_
 refine wSk rfl ?_
 refine wSk rfl ?_
 refine wSk rfl ?_
 refine xPk rfl ?_
 refine xAs rfl ?_
 refine oNl ?_
 exact eJ h rfl
 refine cRt ?_
 cases h
 exact eR rfl rfl rfl rfl
 refine cSq ?_
 refine cRs ?_
 refine xEq rfl ?_
 refine xAs rfl ?_
 refine oNl ?_
 refine cIf h rfl (fun q22 h => ?_) (fun q22 h => ?_)
 refine cSk ?_
 refine cT rfl ?_
 refine cRs ?_
 refine oJn h [(4, 4), (73, 79)] [] (fun v4_23 => (.n, [(4, Bo v4_23)], [])) (fun _ h => ?_) (fun v4_23 h => ?_)
 refine xFd rfl ?_
 refine xLd rfl ?_
 refine xEs rfl ?_
 refine xMv rfl ?_
 refine oIf 76 h rfl (fun q24 h => ?_) (fun q24 h => ?_)
 refine xMv rfl ?_
 refine xLe rfl ?_
 refine xPk rfl ?_
 refine xAs rfl ?_
 refine oNl ?_
 exact eJ h rfl
 refine wSk rfl ?_
 refine wSk rfl ?_
 refine xPk rfl ?_
 refine xAs rfl ?_
 refine oNl ?_
 exact eJ h rfl
 refine cRt ?_
 cases h
 exact eR rfl rfl rfl rfl
 refine cRg ?_
 refine xEq rfl ?_
 refine xAs rfl ?_
 refine oNl ?_
 refine cIf h rfl (fun q25 h => ?_) (fun q25 h => ?_)
 refine cRs ?_
 refine oJn h [(4, 4), (73, 79)] [] (fun v4_26 => (.n, [(4, Bo v4_26)], [])) (fun _ h => ?_) (fun v4_26 h => ?_)
 refine xFd rfl ?_
 refine xLd rfl ?_
 refine xEs rfl ?_
 refine xMv rfl ?_
 refine oIf 76 h rfl (fun q27 h => ?_) (fun q27 h => ?_)
 refine xMv rfl ?_
 refine xLe rfl ?_
 refine xPk rfl ?_
 refine xAs rfl ?_
 refine oNl ?_
 exact eJ h rfl
 refine wSk rfl ?_
 refine wSk rfl ?_
 refine xPk rfl ?_
 refine xAs rfl ?_
 refine oNl ?_
 exact eJ h rfl
 refine cRt ?_
 cases h
 exact eR rfl rfl rfl rfl
 refine cRs ?_
 refine xEq rfl ?_
 refine xAs rfl ?_
 refine oNl ?_
 refine cIf h rfl (fun q28 h => ?_) (fun q28 h => ?_)
 refine cRs ?_
 refine oJn h [(4, 4), (82, 88)] [] (fun v4_29 => (.n, [(4, Bo v4_29)], [])) (fun _ h => ?_) (fun v4_29 h => ?_)
 refine xFd rfl ?_
 refine xLd rfl ?_
 refine xEs rfl ?_
 refine xMv rfl ?_
 refine oIf 85 h rfl (fun q30 h => ?_) (fun q30 h => ?_)
 refine xMv rfl ?_
 refine xC0 h (big_spec_l1In ·) rfl (fun c87_31 h => ?_)
 refine xPk rfl ?_
 refine xAs rfl ?_
 refine oNl ?_
 exact eJ h rfl
 refine wSk rfl ?_
 refine wSk rfl ?_
 refine xPk rfl ?_
 refine xAs rfl ?_
 refine oNl ?_
 exact eJ h rfl
 refine cRt ?_
 cases h
 exact eR rfl rfl rfl rfl
 refine cRs ?_
 refine xEq rfl ?_
 refine xAs rfl ?_
 refine oNl ?_
 refine cIf h rfl (fun q32 h => ?_) (fun q32 h => ?_)
 refine cRs ?_
 refine oJn h [(4, 4), (91, 101)] [] (fun v4_33 => (.n, [(4, Bo v4_33)], [])) (fun _ h => ?_) (fun v4_33 h => ?_)
 refine xMv rfl ?_
 refine xNot rfl ?_
 refine xMv rfl ?_
 refine oIf 93 h rfl (fun q34 h => ?_) (fun q34 h => ?_)
 refine xFd rfl ?_
 refine xLd rfl ?_
 refine xC0 h (big_spec_l4Op ·) rfl (fun c96_35 h => ?_)
 refine xPk rfl ?_
 refine xMv rfl ?_
 refine oIf 98 h rfl (fun q36 h => ?_) (fun q36 h => ?_)
 refine xMv rfl ?_
 refine xEq rfl ?_
 refine xPk rfl ?_
 refine xAs rfl ?_
 refine oNl ?_
 exact eJ h rfl
 refine wSk rfl ?_
 refine wSk rfl ?_
 refine xPk rfl ?_
 refine xAs rfl ?_
 refine oNl ?_
 exact eJ h rfl
 refine wSk rfl ?_
 refine wSk rfl ?_
 refine wSk rfl ?_
 refine xPk rfl ?_
 refine xMv rfl ?_
 refine wSk rfl ?_
 refine wSk rfl ?_
 refine xPk rfl ?_
 refine xAs rfl ?_
 refine oNl ?_
 exact eJ h rfl
 refine cRt ?_
 cases h
 exact eR rfl rfl rfl rfl
 refine cRs ?_
 refine xEq rfl ?_
 refine xAs rfl ?_
 refine oNl ?_
 refine cIf h rfl (fun q37 h => ?_) (fun q37 h => ?_)
 refine cRs ?_
 refine oJn h [(4, 4), (104, 114)] [] (fun v4_38 => (.n, [(4, Bo v4_38)], [])) (fun _ h => ?_) (fun v4_38 h => ?_)
 refine xMv rfl ?_
 refine xNot rfl ?_
 refine xMv rfl ?_
 refine oIf 106 h rfl (fun q39 h => ?_) (fun q39 h => ?_)
 refine xFd rfl ?_
 refine xLd rfl ?_
 refine xC0 h (big_spec_l4Atom ·) rfl (fun c109_40 h => ?_)
 refine xPk rfl ?_
 refine xMv rfl ?_
 refine oIf 111 h rfl (fun q41 h => ?_) (fun q41 h => ?_)
 refine xMv rfl ?_
 refine xLe rfl ?_
 refine xPk rfl ?_
 refine xAs rfl ?_
 refine oNl ?_
 exact eJ h rfl
 refine wSk rfl ?_
 refine wSk rfl ?_
 refine xPk rfl ?_
 refine xAs rfl ?_
 refine oNl ?_
 exact eJ h rfl
 refine wSk rfl ?_
 refine wSk rfl ?_
 refine wSk rfl ?_
 refine xPk rfl ?_
 refine xMv rfl ?_
 refine wSk rfl ?_
 refine wSk rfl ?_
 refine xPk rfl ?_
 refine xAs rfl ?_
 refine oNl ?_
 exact eJ h rfl
 refine cRt ?_
 cases h
 exact eR rfl rfl rfl rfl
 refine cRs ?_
 refine xEq rfl ?_
 refine xAs rfl ?_
 refine oNl ?_
 refine cIf h rfl (fun q42 h => ?_) (fun q42 h => ?_)
 refine cRs ?_
 refine oJn h [(4, 4), (117, 133)] [] (fun v4_43 => (.n, [(4, Bo v4_43)], [])) (fun _ h => ?_) (fun v4_43 h => ?_)
 refine xMv rfl ?_
 refine xNot rfl ?_
 refine xMv rfl ?_
 refine oIf 119 h rfl (fun q44 h => ?_) (fun q44 h => ?_)
 refine xFd rfl ?_
 refine xLd rfl ?_
 refine xEs rfl ?_
 refine xPk rfl ?_
 refine xMv rfl ?_
 refine oIf 124 h rfl (fun q45 h => ?_) (fun q45 h => ?_)
 refine xMv rfl ?_
 refine xEq rfl ?_
 refine xPk rfl ?_
 refine xMv rfl ?_
 refine oIf 128 h rfl (fun q46 h => ?_) (fun q46 h => ?_)
 refine xFd rfl ?_
 refine xLd rfl ?_
 refine xLn rfl ?_
 refine xC0 h (big_spec_l1In ·) rfl (fun c132_47 h => ?_)
 refine xPk rfl ?_
 refine xAs rfl ?_
 refine oNl ?_
 exact eJ h rfl
 refine wSk rfl ?_
 refine wSk rfl ?_
 refine wSk rfl ?_
 refine wSk rfl ?_
 refine xPk rfl ?_
 refine xAs rfl ?_
 refine oNl ?_
 exact eJ h rfl
 refine wSk rfl ?_
 refine wSk rfl ?_
 refine xPk rfl ?_
 refine xMv rfl ?_
 refine wSk rfl ?_
 refine wSk rfl ?_
 refine wSk rfl ?_
 refine wSk rfl ?_
 refine xPk rfl ?_
 refine xAs rfl ?_
 refine oNl ?_
 exact eJ h rfl
 refine wSk rfl ?_
 refine wSk rfl ?_
 refine wSk rfl ?_
 refine xPk rfl ?_
 refine xMv rfl ?_
 refine wSk rfl ?_
 refine wSk rfl ?_
 refine xPk rfl ?_
 refine xMv rfl ?_
 refine wSk rfl ?_
 refine wSk rfl ?_
 refine wSk rfl ?_
 refine wSk rfl ?_
 refine xPk rfl ?_
 refine xAs rfl ?_
 refine oNl ?_
 exact eJ h rfl
 refine cRt ?_
 cases h
 exact eR rfl rfl rfl rfl
 refine cSk ?_
 refine cRs ?_
 refine xAs rfl ?_
 refine oNl ?_
 refine cRt ?_
 cases h
 exact eR rfl rfl rfl rfl
abbrev Y_spec_l4Look : Type := Int → Int → (List UInt8) → (List S_impl_Expr) → (List S_impl_Clause) → Bool → Int → Int → Option (Int)
abbrev B_spec_l4Look (p : Y_spec_l4Look) : Prop := ∀ {t0_0 t0_1 : Int} {t0_2 : List UInt8} {t0_3 : List S_impl_Expr} {t0_4 : List S_impl_Clause} {t1_0 : Bool} {t2_0 t3_0 : Int} {r : Int}, p t0_0 t0_1 t0_2 t0_3 t0_4 t1_0 t2_0 t3_0 = some r → Big Try.prog τ An (.fn 183 [.one (.ag [.int .i64 t0_0, .int .i64 t0_1, .str t0_2, .sl (t0_3.map rS_impl_Expr), .sl (t0_4.map rS_impl_Clause)]), .one (.c (.bool t1_0)), .one (.c (.int .i64 t2_0)), .one (.c (.int .i64 t3_0))] [] (.one (.c (.int .i64 r))) none [] none)
def p_spec_l4Look_b1 (n : Nat) (r_spec_l4Look : Y_spec_l4Look) (t1_0 : Bool) (t2_0 : Int) (t0_3 : List S_impl_Expr) : (Int × Int) → Option ((Int × Int) ⊕ ((Int × Int × Bool)))
  | (v3_6, v9_7) => (bif decide (v9_7 < (t0_3.length : Int)) then some (decide ((0 : Int) ≤ v3_6)) else some false).bind fun v33_11 => bif v33_11 then (ix t0_3 v9_7).bind fun e39_14 => (r_spec_l4Look e39_14.f0 e39_14.f1 e39_14.f2 e39_14.f3 e39_14.f4 t1_0 (IntKind.wrap .i64 (t2_0 - (1 : Int))) v3_6).bind fun c45_15 => some (.inl (c45_15, (IntKind.wrap .i64 (v9_7 + (1 : Int))))) else some (.inr (v3_6, v9_7, false))
def p_spec_l4Look_b2 (n : Nat) (r_spec_l4Look : Y_spec_l4Look) (t2_0 : Int) (t0_4 : List S_impl_Clause) : (Int × Int) → Option ((Int × Int) ⊕ ((Int) ⊕ (Int × Int × Bool)))
  | (v3_16, v10_17) => (bif decide (v10_17 < (t0_4.length : Int)) then some (decide ((0 : Int) ≤ v3_16)) else some false).bind fun v54_22 => bif v54_22 then (((ix t0_4 v10_17).bind fun e60_27 => (p_spec_VarsOf n e60_27.f0 e60_27.f1 e60_27.f2 e60_27.f3 e60_27.f4).bind fun c63_28 => (p_spec_l4Once n c63_28).bind fun c64_29 => bif !c64_29 then some (.inl ((-1) : Int)) else (ix t0_4 v10_17).bind fun e69_31 => (r_spec_l4Look e69_31.f0 e69_31.f1 e69_31.f2 e69_31.f3 e69_31.f4 true (IntKind.wrap .i64 (t2_0 - (1 : Int))) v3_16).bind fun c75_32 => bif decide ((0 : Int) ≤ c75_32) then (ix t0_4 v10_17).bind fun e81_34 => (r_spec_l4Look e81_34.f5 e81_34.f6 e81_34.f7 e81_34.f8 e81_34.f9 false (IntKind.wrap .i64 (t2_0 - (1 : Int))) c75_32).bind fun c87_35 => some (.inr c87_35) else some (.inr c75_32) : Option ((Int) ⊕ (Int)))).bind fun q => (match q with | .inl v8_25 => some (.inr (.inl v8_25)) | .inr v3_26 => some (.inl (v3_26, (IntKind.wrap .i64 (v10_17 + (1 : Int)))))) else some (.inr (.inr (v3_16, v10_17, false)))
def s_spec_l4Look (n : Nat) (r_spec_l4Look : Y_spec_l4Look) (t0_0 : Int) (t0_1 : Int) (t0_2 : List UInt8) (t0_3 : List S_impl_Expr) (t0_4 : List S_impl_Clause) (t1_0 : Bool) (t2_0 : Int) (t3_0 : Int) : Option (Int) :=
  (bif decide (t2_0 < (1 : Int)) then some true else bif decide (t3_0 < (1 : Int)) then some true else (p_spec_l4Shape n t0_0 t0_1 t0_2 t0_3 t0_4 t1_0).bind fun c20_4 => some (!c20_4)).bind fun v22_1 => bif v22_1 then some ((-1) : Int) else (loopN (p_spec_l4Look_b1 n r_spec_l4Look t1_0 t2_0 t0_3) n ((IntKind.wrap .i64 (t3_0 - (1 : Int))), (0 : Int))).bind fun (v3_8, v9_9, v33_10) => (loopN (p_spec_l4Look_b2 n r_spec_l4Look t2_0 t0_4) n (v3_8, (0 : Int))).bind fun q => (match q with | .inl v8_18 => some v8_18 | .inr (v3_19, v10_20, v54_21) => some v3_19)
theorem step_spec_l4Look {n : Nat} {r_spec_l4Look : Y_spec_l4Look} (ih_spec_l4Look : B_spec_l4Look r_spec_l4Look) : B_spec_l4Look (s_spec_l4Look n r_spec_l4Look) := by
 intro t0_0 t0_1 t0_2 t0_3 t0_4 t1_0 t2_0 t3_0 r h
 unfold s_spec_l4Look at h
 refine bF Try.func183 rfl rfl ?_
 refine cRs ?_
 refine xBx rfl ?_
 refine xAs rfl ?_
 refine oNl ?_
 refine cSq ?_
 refine cRs ?_
 refine oJn h [(11, 22)] [] (fun v22_1 => (.n, [(22, Bo v22_1)], [])) (fun _ h => ?_) (fun v22_1 h => ?_)
 refine xMv rfl ?_
 refine xLt rfl ?_
 refine xMv rfl ?_
 refine oIf 13 h rfl (fun q2 h => ?_) (fun q2 h => ?_)
 refine wSk rfl ?_
 refine wSk rfl ?_
 refine xPk rfl ?_
 refine xMv rfl ?_
 refine wSk rfl ?_
 refine wSk rfl ?_
 refine wSk rfl ?_
 refine wSk rfl ?_
 refine xPk rfl ?_
 refine oNl ?_
 exact eJ h rfl
 refine xMv rfl ?_
 refine xLt rfl ?_
 refine xPk rfl ?_
 refine xMv rfl ?_
 refine oIf 17 h rfl (fun q3 h => ?_) (fun q3 h => ?_)
 refine wSk rfl ?_
 refine wSk rfl ?_
 refine wSk rfl ?_
 refine wSk rfl ?_
 refine xPk rfl ?_
 refine oNl ?_
 exact eJ h rfl
 refine xLd rfl ?_
 refine xMv rfl ?_
 refine xC0 h (big_spec_l4Shape ·) rfl (fun c20_4 h => ?_)
 refine xNot rfl ?_
 refine xPk rfl ?_
 refine oNl ?_
 exact eJ h rfl
 refine cIf h rfl (fun q5 h => ?_) (fun q5 h => ?_)
 refine cRs ?_
 refine xAs rfl ?_
 refine oNl ?_
 refine cRt ?_
 cases h
 exact eR rfl rfl rfl rfl
 refine cSk ?_
 refine cRs ?_
 refine xMv rfl ?_
 refine xSub rfl ?_
 refine xAs rfl ?_
 refine oNl ?_
 refine cSq ?_
 refine cRs ?_
 refine xAs rfl ?_
 refine oNl ?_
 refine cLp h [(3, 3), (9, 9), (25, 45)] [] (fun (v3_6, v9_7) => ([(3, I64 v3_6), (9, I64 v9_7)], [])) (fun (v3_8, v9_9, v33_10) => (.e 0, [(3, I64 v3_8), (9, I64 v9_9), (33, Bo v33_10)], [])) rfl (fun st _ h => ?_) (fun q h => ?_)
 obtain ⟨v3_6, v9_7⟩ := st
 unfold p_spec_l4Look_b1 at h
 refine cSq ?_
 refine cRs ?_
 refine oJn h [(25, 33)] [] (fun v33_11 => (.n, [(33, Bo v33_11)], [])) (fun _ h => ?_) (fun v33_11 h => ?_)
 refine xMv rfl ?_
 refine xFd rfl ?_
 refine xLd rfl ?_
 refine xLn rfl ?_
 refine xLt rfl ?_
 refine xMv rfl ?_
 refine oIf 30 h rfl (fun q12 h => ?_) (fun q12 h => ?_)
 refine xMv rfl ?_
 refine xGe rfl ?_
 refine xPk rfl ?_
 refine oNl ?_
 exact eJ h rfl
 refine wSk rfl ?_
 refine wSk rfl ?_
 refine xPk rfl ?_
 refine oNl ?_
 exact eJ h rfl
 refine cIf h rfl (fun q13 h => ?_) (fun q13 h => ?_)
 refine cSk ?_
 refine cSq ?_
 refine cBk ?_
 refine cRg ?_
 refine xFd rfl ?_
 refine xLd rfl ?_
 refine xMv rfl ?_
 refine xIx h rS_impl_Expr_eq rfl (fun e39_14 h => ?_)
 refine xLd rfl ?_
 refine xMv rfl ?_
 refine xMv rfl ?_
 refine xSub rfl ?_
 refine xMv rfl ?_
 refine xC0 h (ih_spec_l4Look ·) rfl (fun c45_15 h => ?_)
 refine xAs rfl ?_
 refine oNl ?_
 refine cRg ?_
 refine xMv rfl ?_
 refine xAdd rfl ?_
 refine xAs rfl ?_
 refine oNl ?_
 exact eL h rfl
 refine cEx ?_
 exact eX h rfl
 obtain ⟨v3_8, v9_9, v33_10⟩ := q
 refine cSq ?_
 refine cRs ?_
 refine xAs rfl ?_
 refine oNl ?_
 refine cLp h [(3, 3), (8, 8), (10, 10), (46, 87)] [] (fun (v3_16, v10_17) => ([(3, I64 v3_16), (10, I64 v10_17)], [])) (fun q => match q with | .inl v8_18 => (.r, [(8, I64 v8_18)], []) | .inr (v3_19, v10_20, v54_21) => (.e 2, [(3, I64 v3_19), (10, I64 v10_20), (54, Bo v54_21)], [])) rfl (fun st _ h => ?_) (fun q h => ?_)
 obtain ⟨v3_16, v10_17⟩ := st
 unfold p_spec_l4Look_b2 at h
 refine cSq ?_
 refine cRs ?_
 refine oJn h [(46, 54)] [] (fun v54_22 => (.n, [(54, Bo v54_22)], [])) (fun _ h => ?_) (fun v54_22 h => ?_)
 refine xMv rfl ?_
 refine xFd rfl ?_
 refine xLd rfl ?_
 refine xLn rfl ?_
 refine xLt rfl ?_
 refine xMv rfl ?_
 refine oIf 51 h rfl (fun q23 h => ?_) (fun q23 h => ?_)
 refine xMv rfl ?_
 refine xGe rfl ?_
 refine xPk rfl ?_
 refine oNl ?_
 exact eJ h rfl
 refine wSk rfl ?_
 refine wSk rfl ?_
 refine xPk rfl ?_
 refine oNl ?_
 exact eJ h rfl
 refine cIf h rfl (fun q24 h => ?_) (fun q24 h => ?_)
 refine cSk ?_
 refine cSq ?_
 refine cJn h [(3, 3), (8, 8), (57, 87)] [] (fun q => match q with | .inl v8_25 => (.r, [(8, I64 v8_25)], []) | .inr v3_26 => (.n, [(3, I64 v3_26)], [])) (fun _ h => ?_) (fun q h => ?_)
 refine cBk ?_
 refine cSq ?_
 refine cRs ?_
 refine xFd rfl ?_
 refine xLd rfl ?_
 refine xMv rfl ?_
 refine xIx h rS_impl_Clause_eq rfl (fun e60_27 h => ?_)
 refine xFd rfl ?_
 refine xLd rfl ?_
 refine xC0 h (big_spec_VarsOf ·) rfl (fun c63_28 h => ?_)
 refine xC0 h (big_spec_l4Once ·) rfl (fun c64_29 h => ?_)
 refine xNot rfl ?_
 refine oNl ?_
 refine cIf h rfl (fun q30 h => ?_) (fun q30 h => ?_)
 refine cRs ?_
 refine xAs rfl ?_
 refine oNl ?_
 refine cRt ?_
 exact eJ h rfl
 refine cSk ?_
 refine cRs ?_
 refine xFd rfl ?_
 refine xLd rfl ?_
 refine xMv rfl ?_
 refine xIx h rS_impl_Clause_eq rfl (fun e69_31 h => ?_)
 refine xFd rfl ?_
 refine xLd rfl ?_
 refine xMv rfl ?_
 refine xSub rfl ?_
 refine xMv rfl ?_
 refine xC0 h (ih_spec_l4Look ·) rfl (fun c75_32 h => ?_)
 refine xAs rfl ?_
 refine oRs ?_
 refine xMv rfl ?_
 refine xGe rfl ?_
 refine oNl ?_
 refine cIf h rfl (fun q33 h => ?_) (fun q33 h => ?_)
 refine cRg ?_
 refine xFd rfl ?_
 refine xLd rfl ?_
 refine xMv rfl ?_
 refine xIx h rS_impl_Clause_eq rfl (fun e81_34 h => ?_)
 refine xFd rfl ?_
 refine xLd rfl ?_
 refine xMv rfl ?_
 refine xSub rfl ?_
 refine xMv rfl ?_
 refine xC0 h (ih_spec_l4Look ·) rfl (fun c87_35 h => ?_)
 refine xAs rfl ?_
 refine oNl ?_
 exact eJ h rfl
 refine cSk ?_
 exact eJ h rfl
 rcases q with v8_25 | v3_26
 exact eXr h rfl
 refine cRg ?_
 refine xMv rfl ?_
 refine xAdd rfl ?_
 refine xAs rfl ?_
 refine oNl ?_
 exact eL h rfl
 refine cEx ?_
 exact eX h rfl
 rcases q with v8_18 | ⟨v3_19, v10_20, v54_21⟩
 cases h
 exact eR rfl rfl rfl rfl
 refine cRs ?_
 refine xMv rfl ?_
 refine xAs rfl ?_
 refine oNl ?_
 refine cRt ?_
 cases h
 exact eR rfl rfl rfl rfl
def q_spec_l4Look : Nat → (Y_spec_l4Look)
  | 0 => (fun _ _ _ _ _ _ _ _ => none)
  | n + 1 => s_spec_l4Look n (q_spec_l4Look n)
def p_spec_l4Look (n : Nat) : Y_spec_l4Look := q_spec_l4Look n
theorem bigs_spec_l4Look (n : Nat) : B_spec_l4Look (p_spec_l4Look n) := by
  induction n with
  | zero => exact (fun h => nomatch h)
  | succ n ih => exact step_spec_l4Look (n := n) ih
theorem big_spec_l4Look {n : Nat} : B_spec_l4Look (p_spec_l4Look n) := (bigs_spec_l4Look n)
theorem p_spec_l4Look_succ (n : Nat) : p_spec_l4Look (n + 1) = s_spec_l4Look n (p_spec_l4Look n) := rfl
abbrev B_spec_ExprOk (p : Int → Int → (List UInt8) → (List S_impl_Expr) → (List S_impl_Clause) → Option (Bool)) : Prop := ∀ {t0_0 t0_1 : Int} {t0_2 : List UInt8} {t0_3 : List S_impl_Expr} {t0_4 : List S_impl_Clause} {r : Bool}, p t0_0 t0_1 t0_2 t0_3 t0_4 = some r → Big Try.prog τ An (.fn 225 [.one (.ag [.int .i64 t0_0, .int .i64 t0_1, .str t0_2, .sl (t0_3.map rS_impl_Expr), .sl (t0_4.map rS_impl_Clause)])] [] (.one (.c (.bool r))) none [] none)
def p_spec_ExprOk (n : Nat) (t0_0 : Int) (t0_1 : Int) (t0_2 : List UInt8) (t0_3 : List S_impl_Expr) (t0_4 : List S_impl_Clause) : Option (Bool) :=
  (p_spec_l4Look n t0_0 t0_1 t0_2 t0_3 t0_4 false (10 : Int) (300 : Int)).bind fun c4_1 => some (decide ((0 : Int) ≤ c4_1))
theorem big_spec_ExprOk {n : Nat} : B_spec_ExprOk (p_spec_ExprOk n) := by
 intro t0_0 t0_1 t0_2 t0_3 t0_4 r h
 unfold p_spec_ExprOk at h
 refine bF Try.func225 rfl rfl ?_
 refine cRs ?_
 refine xBx rfl ?_
 refine xAs rfl ?_
 refine oRs ?_
 refine xLd rfl ?_
 refine xC0 h (big_spec_l4Look ·) rfl (fun c4_1 h => ?_)
 refine xGe rfl ?_
 refine xAs rfl ?_
 refine oNl ?_
 refine cRt ?_
 cases h
 exact eR rfl rfl rfl rfl
abbrev B_spec_l5FunOk (p : (List UInt8) → (List (List UInt8)) → Int → Int → (List UInt8) → (List S_impl_Expr) → (List S_impl_Clause) → Option (Bool)) : Prop := ∀ {t0_0 : List UInt8} {t0_1 : List (List UInt8)} {t0_2 t0_3 : Int} {t0_4 : List UInt8} {t0_5 : List S_impl_Expr} {t0_6 : List S_impl_Clause} {r : Bool}, p t0_0 t0_1 t0_2 t0_3 t0_4 t0_5 t0_6 = some r → Big Try.prog τ An (.fn 171 [.one (.ag [.str t0_0, .sl (t0_1.map rStr), .int .i64 t0_2, .int .i64 t0_3, .str t0_4, .sl (t0_5.map rS_impl_Expr), .sl (t0_6.map rS_impl_Clause)])] [] (.one (.c (.bool r))) none [] none)
def p_spec_l5FunOk_b1 (n : Nat) (t0_1 : List (List UInt8)) : (Int) → Option ((Int) ⊕ ((Bool) ⊕ (Int × Bool)))
  | v3_1 => bif decide (v3_1 < (t0_1.length : Int)) then ((ix t0_1 v3_1).bind fun e14_7 => (p_spec_l3VarOk n e14_7).bind fun c16_8 => bif !c16_8 then some true else (ix t0_1 v3_1).bind fun e22_10 => some (decide (e22_10 = ([95] : List UInt8)))).bind fun v25_6 => bif v25_6 then some (.inr (.inl false)) else some (.inl (IntKind.wrap .i64 (v3_1 + (1 : Int)))) else some (.inr (.inr (v3_1, false)))
def p_spec_l5FunOk (n : Nat) (t0_0 : List UInt8) (t0_1 : List (List UInt8)) (t0_2 : Int) (t0_3 : Int) (t0_4 : List UInt8) (t0_5 : List S_impl_Expr) (t0_6 : List S_impl_Clause) : Option (Bool) :=
  (loopN (p_spec_l5FunOk_b1 n t0_1) n (0 : Int)).bind fun q => (match q with | .inl v2_2 => some v2_2 | .inr (v3_3, v8_4) => ((p_spec_l4Atom n t0_0).bind fun c28_13 => bif c28_13 then bif decide ((t0_1.length : Int) ≤ (4 : Int)) then (p_spec_ExprOk n t0_2 t0_3 t0_4 t0_5 t0_6).bind fun c38_16 => some c38_16 else some false else some false).bind fun v2_12 => some v2_12)
theorem big_spec_l5FunOk {n : Nat} : B_spec_l5FunOk (p_spec_l5FunOk n) := by
 intro t0_0 t0_1 t0_2 t0_3 t0_4 t0_5 t0_6 r h
 unfold p_spec_l5FunOk at h
 refine bF Try.func171 rfl rfl ?_
 refine cRs ?_
 refine xBx rfl ?_
 refine xAs rfl ?_
 refine oNl ?_
 refine cSq ?_
 refine cRs ?_
 refine xAs rfl ?_
 refine oNl ?_
 refine cLp h [(2, 25)] [] (fun v3_1 => ([(3, I64 v3_1)], [])) (fun q => match q with | .inl v2_2 => (.r, [(2, Bo v2_2)], []) | .inr (v3_3, v8_4) => (.e 0, [(3, I64 v3_3), (8, Bo v8_4)], [])) rfl (fun v3_1 _ h => ?_) (fun q h => ?_)
 unfold p_spec_l5FunOk_b1 at h
 refine cSq ?_
 refine cRs ?_
 refine xMv rfl ?_
 refine xFd rfl ?_
 refine xLd rfl ?_
 refine xLn rfl ?_
 refine xLt rfl ?_
 refine oNl ?_
 refine cIf h rfl (fun q5 h => ?_) (fun q5 h => ?_)
 refine cSk ?_
 refine cSq ?_
 refine cBk ?_
 refine cRs ?_
 refine oJn h [(11, 25)] [] (fun v25_6 => (.n, [(25, Bo v25_6)], [])) (fun _ h => ?_) (fun v25_6 h => ?_)
 refine xFd rfl ?_
 refine xLd rfl ?_
 refine xMv rfl ?_
 refine xIx h rStr_eq rfl (fun e14_7 h => ?_)
 refine xLd rfl ?_
 refine xC0 h (big_spec_l3VarOk ·) rfl (fun c16_8 h => ?_)
 refine xNot rfl ?_
 refine xMv rfl ?_
 refine oIf 18 h rfl (fun q9 h => ?_) (fun q9 h => ?_)
 refine wSk rfl ?_
 refine wSk rfl ?_
 refine wSk rfl ?_
 refine wSk rfl ?_
 refine wSk rfl ?_
 refine wSk rfl ?_
 refine xPk rfl ?_
 refine oNl ?_
 exact eJ h rfl
 refine xFd rfl ?_
 refine xLd rfl ?_
 refine xMv rfl ?_
 refine xIx h rStr_eq rfl (fun e22_10 h => ?_)
 refine xLd rfl ?_
 refine xEs rfl ?_
 refine xPk rfl ?_
 refine oNl ?_
 exact eJ h rfl
 refine cIf h rfl (fun q11 h => ?_) (fun q11 h => ?_)
 refine cRs ?_
 refine xAs rfl ?_
 refine oNl ?_
 refine cRt ?_
 exact eXr h rfl
 refine cSk ?_
 refine cRg ?_
 refine xMv rfl ?_
 refine xAdd rfl ?_
 refine xAs rfl ?_
 refine oNl ?_
 exact eL h rfl
 refine cEx ?_
 exact eX h rfl
 rcases q with v2_2 | ⟨v3_3, v8_4⟩
 cases h
 exact eR rfl rfl rfl rfl
 refine cRs ?_
 refine oJn h [(2, 2), (26, 39)] [] (fun v2_12 => (.n, [(2, Bo v2_12)], [])) (fun _ h => ?_) (fun v2_12 h => ?_)
 refine xFd rfl ?_
 refine xLd rfl ?_
 refine xC0 h (big_spec_l4Atom ·) rfl (fun c28_13 h => ?_)
 refine xMv rfl ?_
 refine oIf 29 h rfl (fun q14 h => ?_) (fun q14 h => ?_)
 refine xFd rfl ?_
 refine xLd rfl ?_
 refine xLn rfl ?_
 refine xLe rfl ?_
 refine xPk rfl ?_
 refine xMv rfl ?_
 refine oIf 35 h rfl (fun q15 h => ?_) (fun q15 h => ?_)
 refine xFd rfl ?_
 refine xLd rfl ?_
 refine xC0 h (big_spec_ExprOk ·) rfl (fun c38_16 h => ?_)
 refine xPk rfl ?_
 refine xAs rfl ?_
 refine oNl ?_
 exact eJ h rfl
 refine wSk rfl ?_
 refine wSk rfl ?_
 refine wSk rfl ?_
 refine xPk rfl ?_
 refine xAs rfl ?_
 refine oNl ?_
 exact eJ h rfl
 refine wSk rfl ?_
 refine wSk rfl ?_
 refine wSk rfl ?_
 refine wSk rfl ?_
 refine xPk rfl ?_
 refine xMv rfl ?_
 refine wSk rfl ?_
 refine wSk rfl ?_
 refine wSk rfl ?_
 refine xPk rfl ?_
 refine xAs rfl ?_
 refine oNl ?_
 exact eJ h rfl
 refine cRt ?_
 cases h
 exact eR rfl rfl rfl rfl
abbrev B_spec_l5ModuleOk (p : (List S_impl_Fun) → Option (Bool)) : Prop := ∀ {t0_0 : List S_impl_Fun} {r : Bool}, p t0_0 = some r → Big Try.prog τ An (.fn 94 [.one (.ag [.sl (t0_0.map rS_impl_Fun)])] [] (.one (.c (.bool r))) none [] none)
def p_spec_l5ModuleOk_b1 (n : Nat) (t0_0 : List S_impl_Fun) : (Int) → Option ((Int) ⊕ ((Bool) ⊕ (Int × Bool)))
  | v3_1 => bif decide (v3_1 < (t0_0.length : Int)) then (ix t0_0 v3_1).bind fun e14_6 => (p_spec_l5FunOk n e14_6.f0 e14_6.f1 e14_6.f2 e14_6.f3 e14_6.f4 e14_6.f5 e14_6.f6).bind fun c16_7 => bif !c16_7 then some (.inr (.inl false)) else some (.inl (IntKind.wrap .i64 (v3_1 + (1 : Int)))) else some (.inr (.inr (v3_1, false)))
def p_spec_l5ModuleOk (n : Nat) (t0_0 : List S_impl_Fun) : Option (Bool) :=
  (loopN (p_spec_l5ModuleOk_b1 n t0_0) n (0 : Int)).bind fun q => (match q with | .inl v2_2 => some v2_2 | .inr (v3_3, v8_4) => some (decide ((t0_0.length : Int) ≤ (12 : Int))))
theorem big_spec_l5ModuleOk {n : Nat} : B_spec_l5ModuleOk (p_spec_l5ModuleOk n) := by
 intro t0_0 r h
 unfold p_spec_l5ModuleOk at h
 refine bF Try.func94 rfl rfl ?_
 refine cRs ?_
 refine xBx rfl ?_
 refine xAs rfl ?_
 refine oNl ?_
 refine cSq ?_
 refine cRs ?_
 refine xAs rfl ?_
 refine oNl ?_
 refine cLp h [(2, 17)] [] (fun v3_1 => ([(3, I64 v3_1)], [])) (fun q => match q with | .inl v2_2 => (.r, [(2, Bo v2_2)], []) | .inr (v3_3, v8_4) => (.e 0, [(3, I64 v3_3), (8, Bo v8_4)], [])) rfl (fun v3_1 _ h => ?_) (fun q h => ?_)
 unfold p_spec_l5ModuleOk_b1 at h
 refine cSq ?_
 refine cRs ?_
 refine xMv rfl ?_
 refine xFd rfl ?_
 refine xLd rfl ?_
 refine xLn rfl ?_
 refine xLt rfl ?_
 refine oNl ?_
 refine cIf h rfl (fun q5 h => ?_) (fun q5 h => ?_)
 refine cSk ?_
 refine cSq ?_
 refine cBk ?_
 refine cRs ?_
 refine xFd rfl ?_
 refine xLd rfl ?_
 refine xMv rfl ?_
 refine xIx h rS_impl_Fun_eq rfl (fun e14_6 h => ?_)
 refine xLd rfl ?_
 refine xC0 h (big_spec_l5FunOk ·) rfl (fun c16_7 h => ?_)
 refine xNot rfl ?_
 refine oNl ?_
 refine cIf h rfl (fun q8 h => ?_) (fun q8 h => ?_)
 refine cRs ?_
 refine xAs rfl ?_
 refine oNl ?_
 refine cRt ?_
 exact eXr h rfl
 refine cSk ?_
 refine cRg ?_
 refine xMv rfl ?_
 refine xAdd rfl ?_
 refine xAs rfl ?_
 refine oNl ?_
 exact eL h rfl
 refine cEx ?_
 exact eX h rfl
 rcases q with v2_2 | ⟨v3_3, v8_4⟩
 cases h
 exact eR rfl rfl rfl rfl
 refine cRs ?_
 refine xFd rfl ?_
 refine xLd rfl ?_
 refine xLn rfl ?_
 refine xLe rfl ?_
 refine xAs rfl ?_
 refine oNl ?_
 refine cRt ?_
 cases h
 exact eR rfl rfl rfl rfl
abbrev Y_spec_l4Free : Type := (List (List UInt8)) → (List (List UInt8)) → Int → Int → (List UInt8) → (List S_impl_Expr) → (List S_impl_Clause) → Option ((List (List UInt8)))
abbrev B_spec_l4Free (p : Y_spec_l4Free) : Prop := ∀ {t0_0 t1_0 : List (List UInt8)} {t2_0 t2_1 : Int} {t2_2 : List UInt8} {t2_3 : List S_impl_Expr} {t2_4 : List S_impl_Clause} {r : (List (List UInt8))}, p t0_0 t1_0 t2_0 t2_1 t2_2 t2_3 t2_4 = some r → Big Try.prog τ An (.fn 172 [.one (.c (.sl (t0_0.map rStr))), .one (.c (.sl (t1_0.map rStr))), .one (.ag [.int .i64 t2_0, .int .i64 t2_1, .str t2_2, .sl (t2_3.map rS_impl_Expr), .sl (t2_4.map rS_impl_Clause)])] [] (.one (.c (.sl (r.map rStr)))) none [] none)
def p_spec_l4Free_b1 (n : Nat) (r_spec_l4Free : Y_spec_l4Free) (t1_0 : List (List UInt8)) (t2_3 : List S_impl_Expr) : ((List (List UInt8)) × Int) → Option (((List (List UInt8)) × Int) ⊕ (((List (List UInt8)) × Int × Bool)))
  | (v0_8, v7_9) => bif decide (v7_9 < (t2_3.length : Int)) then (ix t2_3 v7_9).bind fun e43_14 => (r_spec_l4Free v0_8 t1_0 e43_14.f0 e43_14.f1 e43_14.f2 e43_14.f3 e43_14.f4).bind fun c45_15 => some (.inl (c45_15, (IntKind.wrap .i64 (v7_9 + (1 : Int))))) else some (.inr (v0_8, v7_9, false))
def p_spec_l4Free_b2 (n : Nat) (r_spec_l4Free : Y_spec_l4Free) (t1_0 : List (List UInt8)) (t2_4 : List S_impl_Clause) : ((List (List UInt8)) × Int) → Option (((List (List UInt8)) × Int) ⊕ (((List (List UInt8)) × Int × Bool)))
  | (v0_16, v8_17) => bif decide (v8_17 < (t2_4.length : Int)) then (app2 16 ([] : List (List UInt8)) t1_0).bind fun v55_22 => (ix t2_4 v8_17).bind fun e59_23 => (p_spec_VarsOf n e59_23.f0 e59_23.f1 e59_23.f2 e59_23.f3 e59_23.f4).bind fun c62_24 => (app2 16 v55_22 c62_24).bind fun v63_25 => (ix t2_4 v8_17).bind fun e69_26 => (r_spec_l4Free v0_16 v63_25 e69_26.f5 e69_26.f6 e69_26.f7 e69_26.f8 e69_26.f9).bind fun c72_27 => some (.inl (c72_27, (IntKind.wrap .i64 (v8_17 + (1 : Int))))) else some (.inr (v0_16, v8_17, false))
def s_spec_l4Free (n : Nat) (r_spec_l4Free : Y_spec_l4Free) (t0_0 : List (List UInt8)) (t1_0 : List (List UInt8)) (t2_0 : Int) (t2_1 : Int) (t2_2 : List UInt8) (t2_3 : List S_impl_Expr) (t2_4 : List S_impl_Clause) : Option ((List (List UInt8))) :=
  bif decide (t2_0 = (3 : Int)) then ((p_spec_l4Has n t1_0 t2_2).bind fun c16_3 => bif !c16_3 then (p_spec_l4Has n t0_0 t2_2).bind fun c22_5 => some (!c22_5) else some false).bind fun v24_2 => bif v24_2 then (app2 16 t0_0 ([t2_2] : List (List UInt8))).bind fun v29_7 => some v29_7 else some t0_0 else (loopN (p_spec_l4Free_b1 n r_spec_l4Free t1_0 t2_3) n (t0_0, (0 : Int))).bind fun (v0_10, v7_11, v35_12) => (loopN (p_spec_l4Free_b2 n r_spec_l4Free t1_0 t2_4) n (v0_10, (0 : Int))).bind fun (v0_18, v8_19, v50_20) => some v0_18
theorem step_spec_l4Free {n : Nat} {r_spec_l4Free : Y_spec_l4Free} (ih_spec_l4Free : B_spec_l4Free r_spec_l4Free) : B_spec_l4Free (s_spec_l4Free n r_spec_l4Free) := by
 intro t0_0 t1_0 t2_0 t2_1 t2_2 t2_3 t2_4 r h
 unfold s_spec_l4Free at h
 refine bF Try.func172 rfl rfl ?_
 refine cRs ?_
 refine xBx rfl ?_
 refine wAe (Li rStr []) rfl rfl rfl rfl ?_
 refine oNl ?_
 refine cSq ?_
 refine cRs ?_
 refine xFd rfl ?_
 refine xLd rfl ?_
 refine xEq rfl ?_
 refine oNl ?_
 refine cIf h rfl (fun q1 h => ?_) (fun q1 h => ?_)
 refine cSq ?_
 refine cRs ?_
 refine oJn h [(13, 24)] [] (fun v24_2 => (.n, [(24, Bo v24_2)], [])) (fun _ h => ?_) (fun v24_2 h => ?_)
 refine xMv rfl ?_
 refine xFd rfl ?_
 refine xLd rfl ?_
 refine xC0 h (big_spec_l4Has ·) rfl (fun c16_3 h => ?_)
 refine xNot rfl ?_
 refine xMv rfl ?_
 refine oIf 18 h rfl (fun q4 h => ?_) (fun q4 h => ?_)
 refine xMv rfl ?_
 refine xFd rfl ?_
 refine xLd rfl ?_
 refine xC0 h (big_spec_l4Has ·) rfl (fun c22_5 h => ?_)
 refine xNot rfl ?_
 refine xPk rfl ?_
 refine oNl ?_
 exact eJ h rfl
 refine wSk rfl ?_
 refine wSk rfl ?_
 refine wSk rfl ?_
 refine wSk rfl ?_
 refine wSk rfl ?_
 refine xPk rfl ?_
 refine oNl ?_
 exact eJ h rfl
 refine cIf h rfl (fun q6 h => ?_) (fun q6 h => ?_)
 refine cRg ?_
 refine xMv rfl ?_
 refine xFd rfl ?_
 refine xLd rfl ?_
 refine wLt' (L := ([t2_2] : List (List UInt8))) (f := rStr) rfl rfl rfl rfl rfl rfl rfl ?_
 refine wAp (f := rStr) h rfl rfl rfl rfl rfl rfl rfl rfl rfl (fun _ => rfl) rfl (fun v29_7 h => ?_)
 refine xAs rfl ?_
 refine oNl ?_
 refine cRs ?_
 refine xMv rfl ?_
 refine xAs rfl ?_
 refine oNl ?_
 refine cRt ?_
 cases h
 exact eR rfl rfl rfl rfl
 refine cSk ?_
 refine cRs ?_
 refine xMv rfl ?_
 refine xAs rfl ?_
 refine oNl ?_
 refine cRt ?_
 cases h
 exact eR rfl rfl rfl rfl
 refine cSk ?_
 refine cSq ?_
 refine cRs ?_
 refine xAs rfl ?_
 refine oNl ?_
 refine cLp h [(0, 0), (7, 7), (31, 45)] [] (fun (v0_8, v7_9) => ([(0, Li rStr v0_8), (7, I64 v7_9)], [])) (fun (v0_10, v7_11, v35_12) => (.e 0, [(0, Li rStr v0_10), (7, I64 v7_11), (35, Bo v35_12)], [])) rfl (fun st _ h => ?_) (fun q h => ?_)
 obtain ⟨v0_8, v7_9⟩ := st
 unfold p_spec_l4Free_b1 at h
 refine cSq ?_
 refine cRs ?_
 refine xMv rfl ?_
 refine xFd rfl ?_
 refine xLd rfl ?_
 refine xLn rfl ?_
 refine xLt rfl ?_
 refine oNl ?_
 refine cIf h rfl (fun q13 h => ?_) (fun q13 h => ?_)
 refine cSk ?_
 refine cSq ?_
 refine cBk ?_
 refine cRg ?_
 refine xMv rfl ?_
 refine xMv rfl ?_
 refine xFd rfl ?_
 refine xLd rfl ?_
 refine xMv rfl ?_
 refine xIx h rS_impl_Expr_eq rfl (fun e43_14 h => ?_)
 refine xLd rfl ?_
 refine xC0 h (ih_spec_l4Free ·) rfl (fun c45_15 h => ?_)
 refine xAs rfl ?_
 refine oNl ?_
 refine cRg ?_
 refine xMv rfl ?_
 refine xAdd rfl ?_
 refine xAs rfl ?_
 refine oNl ?_
 exact eL h rfl
 refine cEx ?_
 exact eX h rfl
 obtain ⟨v0_10, v7_11, v35_12⟩ := q
 refine cSq ?_
 refine cRs ?_
 refine xAs rfl ?_
 refine oNl ?_
 refine cLp h [(0, 0), (8, 9), (46, 72)] [] (fun (v0_16, v8_17) => ([(0, Li rStr v0_16), (8, I64 v8_17)], [])) (fun (v0_18, v8_19, v50_20) => (.e 2, [(0, Li rStr v0_18), (8, I64 v8_19), (50, Bo v50_20)], [])) rfl (fun st _ h => ?_) (fun q h => ?_)
 obtain ⟨v0_16, v8_17⟩ := st
 unfold p_spec_l4Free_b2 at h
 refine cSq ?_
 refine cRs ?_
 refine xMv rfl ?_
 refine xFd rfl ?_
 refine xLd rfl ?_
 refine xLn rfl ?_
 refine xLt rfl ?_
 refine oNl ?_
 refine cIf h rfl (fun q21 h => ?_) (fun q21 h => ?_)
 refine cSk ?_
 refine cSq ?_
 refine cBk ?_
 refine cRs ?_
 refine wLt' (L := ([] : List (List UInt8))) (f := rStr) rfl rfl rfl rfl rfl rfl rfl ?_
 refine xMv rfl ?_
 refine wAp (f := rStr) h rfl rfl rfl rfl rfl rfl rfl rfl rfl (fun _ => rfl) rfl (fun v55_22 h => ?_)
 refine xFd rfl ?_
 refine xLd rfl ?_
 refine xMv rfl ?_
 refine xIx h rS_impl_Clause_eq rfl (fun e59_23 h => ?_)
 refine xFd rfl ?_
 refine xLd rfl ?_
 refine xC0 h (big_spec_VarsOf ·) rfl (fun c62_24 h => ?_)
 refine wAp (f := rStr) h rfl rfl rfl rfl rfl rfl rfl rfl rfl (fun _ => rfl) rfl (fun v63_25 h => ?_)
 refine xAs rfl ?_
 refine oNl ?_
 refine cRg ?_
 refine xMv rfl ?_
 refine xMv rfl ?_
 refine xFd rfl ?_
 refine xLd rfl ?_
 refine xMv rfl ?_
 refine xIx h rS_impl_Clause_eq rfl (fun e69_26 h => ?_)
 refine xFd rfl ?_
 refine xLd rfl ?_
 refine xC0 h (ih_spec_l4Free ·) rfl (fun c72_27 h => ?_)
 refine xAs rfl ?_
 refine oNl ?_
 refine cRg ?_
 refine xMv rfl ?_
 refine xAdd rfl ?_
 refine xAs rfl ?_
 refine oNl ?_
 exact eL h rfl
 refine cEx ?_
 exact eX h rfl
 obtain ⟨v0_18, v8_19, v50_20⟩ := q
 refine cRs ?_
 refine xMv rfl ?_
 refine xAs rfl ?_
 refine oNl ?_
 refine cRt ?_
 cases h
 exact eR rfl rfl rfl rfl
def q_spec_l4Free : Nat → (Y_spec_l4Free)
  | 0 => (fun _ _ _ _ _ _ _ => none)
  | n + 1 => s_spec_l4Free n (q_spec_l4Free n)
def p_spec_l4Free (n : Nat) : Y_spec_l4Free := q_spec_l4Free n
theorem bigs_spec_l4Free (n : Nat) : B_spec_l4Free (p_spec_l4Free n) := by
  induction n with
  | zero => exact (fun h => nomatch h)
  | succ n ih => exact step_spec_l4Free (n := n) ih
theorem big_spec_l4Free {n : Nat} : B_spec_l4Free (p_spec_l4Free n) := (bigs_spec_l4Free n)
theorem p_spec_l4Free_succ (n : Nat) : p_spec_l4Free (n + 1) = s_spec_l4Free n (p_spec_l4Free n) := rfl
abbrev B_spec_FreeOf (p : Int → Int → (List UInt8) → (List S_impl_Expr) → (List S_impl_Clause) → Option ((List (List UInt8)))) : Prop := ∀ {t0_0 t0_1 : Int} {t0_2 : List UInt8} {t0_3 : List S_impl_Expr} {t0_4 : List S_impl_Clause} {r : (List (List UInt8))}, p t0_0 t0_1 t0_2 t0_3 t0_4 = some r → Big Try.prog τ An (.fn 95 [.one (.ag [.int .i64 t0_0, .int .i64 t0_1, .str t0_2, .sl (t0_3.map rS_impl_Expr), .sl (t0_4.map rS_impl_Clause)])] [] (.one (.c (.sl (r.map rStr)))) none [] none)
def p_spec_FreeOf (n : Nat) (t0_0 : Int) (t0_1 : Int) (t0_2 : List UInt8) (t0_3 : List S_impl_Expr) (t0_4 : List S_impl_Clause) : Option ((List (List UInt8))) :=
  (p_spec_l4Free n ([] : List (List UInt8)) ([] : List (List UInt8)) t0_0 t0_1 t0_2 t0_3 t0_4).bind fun c6_1 => some c6_1
theorem big_spec_FreeOf {n : Nat} : B_spec_FreeOf (p_spec_FreeOf n) := by
 intro t0_0 t0_1 t0_2 t0_3 t0_4 r h
 unfold p_spec_FreeOf at h
 refine bF Try.func95 rfl rfl ?_
 refine cRs ?_
 refine xBx rfl ?_
 refine wAe (Li rStr []) rfl rfl rfl rfl ?_
 refine oRs ?_
 refine wLt' (L := ([] : List (List UInt8))) (f := rStr) rfl rfl rfl rfl rfl rfl rfl ?_
 refine wLt' (L := ([] : List (List UInt8))) (f := rStr) rfl rfl rfl rfl rfl rfl rfl ?_
 refine xLd rfl ?_
 refine xC0 h (big_spec_l4Free ·) rfl (fun c6_1 h => ?_)
 refine xAs rfl ?_
 refine oNl ?_
 refine cRt ?_
 cases h
 exact eR rfl rfl rfl rfl
abbrev B_spec_FunAt (p : (List S_impl_Fun) → (List UInt8) → Option (Int)) : Prop := ∀ {t0_0 : List S_impl_Fun} {t1_0 : List UInt8} {r : Int}, p t0_0 t1_0 = some r → Big Try.prog τ An (.fn 97 [.one (.ag [.sl (t0_0.map rS_impl_Fun)]), .one (.c (.str t1_0))] [] (.one (.c (.int .i64 r))) none [] none)
def p_spec_FunAt_b1 (n : Nat) (t0_0 : List S_impl_Fun) (t1_0 : List UInt8) : (Int) → Option ((Int) ⊕ ((Int) ⊕ (Int × Bool)))
  | v5_1 => bif decide (v5_1 < (t0_0.length : Int)) then (ix t0_0 v5_1).bind fun e16_6 => bif decide (e16_6.f0 = t1_0) then some (.inr (.inl v5_1)) else some (.inl (IntKind.wrap .i64 (v5_1 + (1 : Int)))) else some (.inr (.inr (v5_1, false)))
def p_spec_FunAt (n : Nat) (t0_0 : List S_impl_Fun) (t1_0 : List UInt8) : Option (Int) :=
  (loopN (p_spec_FunAt_b1 n t0_0 t1_0) n (0 : Int)).bind fun q => (match q with | .inl v4_2 => some v4_2 | .inr (v5_3, v10_4) => some ((-1) : Int))
theorem big_spec_FunAt {n : Nat} : B_spec_FunAt (p_spec_FunAt n) := by
 intro t0_0 t1_0 r h
 unfold p_spec_FunAt at h
 refine bF Try.func97 rfl rfl ?_
 refine cRs ?_
 refine xBx rfl ?_
 refine xAs rfl ?_
 refine oNl ?_
 refine cSq ?_
 refine cRs ?_
 refine xAs rfl ?_
 refine oNl ?_
 refine cLp h [(4, 21)] [] (fun v5_1 => ([(5, I64 v5_1)], [])) (fun q => match q with | .inl v4_2 => (.r, [(4, I64 v4_2)], []) | .inr (v5_3, v10_4) => (.e 0, [(5, I64 v5_3), (10, Bo v10_4)], [])) rfl (fun v5_1 _ h => ?_) (fun q h => ?_)
 unfold p_spec_FunAt_b1 at h
 refine cSq ?_
 refine cRs ?_
 refine xMv rfl ?_
 refine xFd rfl ?_
 refine xLd rfl ?_
 refine xLn rfl ?_
 refine xLt rfl ?_
 refine oNl ?_
 refine cIf h rfl (fun q5 h => ?_) (fun q5 h => ?_)
 refine cSk ?_
 refine cSq ?_
 refine cBk ?_
 refine cRs ?_
 refine xFd rfl ?_
 refine xLd rfl ?_
 refine xMv rfl ?_
 refine xIx h rS_impl_Fun_eq rfl (fun e16_6 h => ?_)
 refine xFd rfl ?_
 refine xLd rfl ?_
 refine xMv rfl ?_
 refine xEs rfl ?_
 refine oNl ?_
 refine cIf h rfl (fun q7 h => ?_) (fun q7 h => ?_)
 refine cRs ?_
 refine xMv rfl ?_
 refine xAs rfl ?_
 refine oNl ?_
 refine cRt ?_
 exact eXr h rfl
 refine cSk ?_
 refine cRg ?_
 refine xMv rfl ?_
 refine xAdd rfl ?_
 refine xAs rfl ?_
 refine oNl ?_
 exact eL h rfl
 refine cEx ?_
 exact eX h rfl
 rcases q with v4_2 | ⟨v5_3, v10_4⟩
 cases h
 exact eR rfl rfl rfl rfl
 refine cRs ?_
 refine xAs rfl ?_
 refine oNl ?_
 refine cRt ?_
 cases h
 exact eR rfl rfl rfl rfl
abbrev Y_spec_l6Calls : Type := (List S_impl_Fun) → Int → Int → (List UInt8) → (List S_impl_Expr) → (List S_impl_Clause) → Option (Bool)
abbrev B_spec_l6Calls (p : Y_spec_l6Calls) : Prop := ∀ {t0_0 : List S_impl_Fun} {t1_0 t1_1 : Int} {t1_2 : List UInt8} {t1_3 : List S_impl_Expr} {t1_4 : List S_impl_Clause} {r : Bool}, p t0_0 t1_0 t1_1 t1_2 t1_3 t1_4 = some r → Big Try.prog τ An (.fn 98 [.one (.ag [.sl (t0_0.map rS_impl_Fun)]), .one (.ag [.int .i64 t1_0, .int .i64 t1_1, .str t1_2, .sl (t1_3.map rS_impl_Expr), .sl (t1_4.map rS_impl_Clause)])] [] (.one (.c (.bool r))) none [] none)
def p_spec_l6Calls_b1 (n : Nat) (r_spec_l6Calls : Y_spec_l6Calls) (t0_0 : List S_impl_Fun) (t1_3 : List S_impl_Expr) : (Int) → Option ((Int) ⊕ ((Bool) ⊕ (Int × Bool)))
  | v6_7 => bif decide (v6_7 < (t1_3.length : Int)) then (ix t1_3 v6_7).bind fun e41_12 => (r_spec_l6Calls t0_0 e41_12.f0 e41_12.f1 e41_12.f2 e41_12.f3 e41_12.f4).bind fun c43_13 => bif !c43_13 then some (.inr (.inl false)) else some (.inl (IntKind.wrap .i64 (v6_7 + (1 : Int)))) else some (.inr (.inr (v6_7, false)))
def p_spec_l6Calls_b2 (n : Nat) (r_spec_l6Calls : Y_spec_l6Calls) (t0_0 : List S_impl_Fun) (t1_4 : List S_impl_Clause) : (Int) → Option ((Int) ⊕ ((Bool) ⊕ (Int × Bool)))
  | v7_15 => bif decide (v7_15 < (t1_4.length : Int)) then (ix t1_4 v7_15).bind fun e56_20 => (r_spec_l6Calls t0_0 e56_20.f5 e56_20.f6 e56_20.f7 e56_20.f8 e56_20.f9).bind fun c59_21 => bif !c59_21 then some (.inr (.inl false)) else some (.inl (IntKind.wrap .i64 (v7_15 + (1 : Int)))) else some (.inr (.inr (v7_15, false)))
def p_spec_l6Calls_b3 (n : Nat) (r_spec_l6Calls : Y_spec_l6Calls) (t0_0 : List S_impl_Fun) (t1_3 : List S_impl_Expr) : (Int) → Option ((Int) ⊕ ((Bool) ⊕ (Int × Bool)))
  | v6_23 => bif decide (v6_23 < (t1_3.length : Int)) then (ix t1_3 v6_23).bind fun e41_28 => (r_spec_l6Calls t0_0 e41_28.f0 e41_28.f1 e41_28.f2 e41_28.f3 e41_28.f4).bind fun c43_29 => bif !c43_29 then some (.inr (.inl false)) else some (.inl (IntKind.wrap .i64 (v6_23 + (1 : Int)))) else some (.inr (.inr (v6_23, false)))
def p_spec_l6Calls_b4 (n : Nat) (r_spec_l6Calls : Y_spec_l6Calls) (t0_0 : List S_impl_Fun) (t1_4 : List S_impl_Clause) : (Int) → Option ((Int) ⊕ ((Bool) ⊕ (Int × Bool)))
  | v7_31 => bif decide (v7_31 < (t1_4.length : Int)) then (ix t1_4 v7_31).bind fun e56_36 => (r_spec_l6Calls t0_0 e56_36.f5 e56_36.f6 e56_36.f7 e56_36.f8 e56_36.f9).bind fun c59_37 => bif !c59_37 then some (.inr (.inl false)) else some (.inl (IntKind.wrap .i64 (v7_31 + (1 : Int)))) else some (.inr (.inr (v7_31, false)))
def s_spec_l6Calls (n : Nat) (r_spec_l6Calls : Y_spec_l6Calls) (t0_0 : List S_impl_Fun) (t1_0 : Int) (t1_1 : Int) (t1_2 : List UInt8) (t1_3 : List S_impl_Expr) (t1_4 : List S_impl_Clause) : Option (Bool) :=
  bif decide (t1_0 = (8 : Int)) then (p_spec_FunAt n t0_0 t1_2).bind fun c14_2 => (bif decide (c14_2 < (0 : Int)) then some true else (ix t0_0 c14_2).bind fun e21_5 => some (!decide ((e21_5.f1.length : Int) = (t1_3.length : Int)))).bind fun v29_3 => bif v29_3 then some false else (loopN (p_spec_l6Calls_b1 n r_spec_l6Calls t0_0 t1_3) n (0 : Int)).bind fun q => (match q with | .inl v4_8 => some v4_8 | .inr (v6_9, v34_10) => (loopN (p_spec_l6Calls_b2 n r_spec_l6Calls t0_0 t1_4) n (0 : Int)).bind fun q => (match q with | .inl v4_16 => some v4_16 | .inr (v7_17, v49_18) => some true)) else (loopN (p_spec_l6Calls_b3 n r_spec_l6Calls t0_0 t1_3) n (0 : Int)).bind fun q => (match q with | .inl v4_24 => some v4_24 | .inr (v6_25, v34_26) => (loopN (p_spec_l6Calls_b4 n r_spec_l6Calls t0_0 t1_4) n (0 : Int)).bind fun q => (match q with | .inl v4_32 => some v4_32 | .inr (v7_33, v49_34) => some true))
theorem step_spec_l6Calls {n : Nat} {r_spec_l6Calls : Y_spec_l6Calls} (ih_spec_l6Calls : B_spec_l6Calls r_spec_l6Calls) : B_spec_l6Calls (s_spec_l6Calls n r_spec_l6Calls) := by
 intro t0_0 t1_0 t1_1 t1_2 t1_3 t1_4 r h
 unfold s_spec_l6Calls at h
 refine bF Try.func98 rfl rfl ?_
 refine cRs ?_
 refine xBx rfl ?_
 refine xBx rfl ?_
 refine xAs rfl ?_
 refine oNl ?_
 refine cSq ?_
 refine cRs ?_
 refine xFd rfl ?_
 refine xLd rfl ?_
 refine xEq rfl ?_
 refine oNl ?_
 refine cIf h rfl (fun q1 h => ?_) (fun q1 h => ?_)
 refine cRs ?_
 refine xLd rfl ?_
 refine xFd rfl ?_
 refine xLd rfl ?_
 refine xC0 h (big_spec_FunAt ·) rfl (fun c14_2 h => ?_)
 refine xAs rfl ?_
 refine oRs ?_
 refine oJn h [(15, 29)] [] (fun v29_3 => (.n, [(29, Bo v29_3)], [])) (fun _ h => ?_) (fun v29_3 h => ?_)
 refine xMv rfl ?_
 refine xLt rfl ?_
 refine xMv rfl ?_
 refine oIf 17 h rfl (fun q4 h => ?_) (fun q4 h => ?_)
 refine wSk rfl ?_
 refine wSk rfl ?_
 refine wSk rfl ?_
 refine wSk rfl ?_
 refine wSk rfl ?_
 refine wSk rfl ?_
 refine wSk rfl ?_
 refine wSk rfl ?_
 refine wSk rfl ?_
 refine wSk rfl ?_
 refine wSk rfl ?_
 refine xPk rfl ?_
 refine oNl ?_
 exact eJ h rfl
 refine xFd rfl ?_
 refine xLd rfl ?_
 refine xMv rfl ?_
 refine xIx h rS_impl_Fun_eq rfl (fun e21_5 h => ?_)
 refine xFd rfl ?_
 refine xLd rfl ?_
 refine xLn rfl ?_
 refine xFd rfl ?_
 refine xLd rfl ?_
 refine xLn rfl ?_
 refine xNe rfl ?_
 refine xPk rfl ?_
 refine oNl ?_
 exact eJ h rfl
 refine cIf h rfl (fun q6 h => ?_) (fun q6 h => ?_)
 refine cRs ?_
 refine xAs rfl ?_
 refine oNl ?_
 refine cRt ?_
 cases h
 exact eR rfl rfl rfl rfl
 refine cSk ?_
 refine cSq ?_
 refine cRs ?_
 refine xAs rfl ?_
 refine oNl ?_
 refine cLp h [(4, 4), (6, 6), (30, 44)] [] (fun v6_7 => ([(6, I64 v6_7)], [])) (fun q => match q with | .inl v4_8 => (.r, [(4, Bo v4_8)], []) | .inr (v6_9, v34_10) => (.e 0, [(6, I64 v6_9), (34, Bo v34_10)], [])) rfl (fun v6_7 _ h => ?_) (fun q h => ?_)
 unfold p_spec_l6Calls_b1 at h
 refine cSq ?_
 refine cRs ?_
 refine xMv rfl ?_
 refine xFd rfl ?_
 refine xLd rfl ?_
 refine xLn rfl ?_
 refine xLt rfl ?_
 refine oNl ?_
 refine cIf h rfl (fun q11 h => ?_) (fun q11 h => ?_)
 refine cSk ?_
 refine cSq ?_
 refine cBk ?_
 refine cRs ?_
 refine xLd rfl ?_
 refine xFd rfl ?_
 refine xLd rfl ?_
 refine xMv rfl ?_
 refine xIx h rS_impl_Expr_eq rfl (fun e41_12 h => ?_)
 refine xLd rfl ?_
 refine xC0 h (ih_spec_l6Calls ·) rfl (fun c43_13 h => ?_)
 refine xNot rfl ?_
 refine oNl ?_
 refine cIf h rfl (fun q14 h => ?_) (fun q14 h => ?_)
 refine cRs ?_
 refine xAs rfl ?_
 refine oNl ?_
 refine cRt ?_
 exact eXr h rfl
 refine cSk ?_
 refine cRg ?_
 refine xMv rfl ?_
 refine xAdd rfl ?_
 refine xAs rfl ?_
 refine oNl ?_
 exact eL h rfl
 refine cEx ?_
 exact eX h rfl
 rcases q with v4_8 | ⟨v6_9, v34_10⟩
 cases h
 exact eR rfl rfl rfl rfl
 refine cSq ?_
 refine cRs ?_
 refine xAs rfl ?_
 refine oNl ?_
 refine cLp h [(4, 4), (7, 7), (45, 60)] [] (fun v7_15 => ([(7, I64 v7_15)], [])) (fun q => match q with | .inl v4_16 => (.r, [(4, Bo v4_16)], []) | .inr (v7_17, v49_18) => (.e 2, [(7, I64 v7_17), (49, Bo v49_18)], [])) rfl (fun v7_15 _ h => ?_) (fun q h => ?_)
 unfold p_spec_l6Calls_b2 at h
 refine cSq ?_
 refine cRs ?_
 refine xMv rfl ?_
 refine xFd rfl ?_
 refine xLd rfl ?_
 refine xLn rfl ?_
 refine xLt rfl ?_
 refine oNl ?_
 refine cIf h rfl (fun q19 h => ?_) (fun q19 h => ?_)
 refine cSk ?_
 refine cSq ?_
 refine cBk ?_
 refine cRs ?_
 refine xLd rfl ?_
 refine xFd rfl ?_
 refine xLd rfl ?_
 refine xMv rfl ?_
 refine xIx h rS_impl_Clause_eq rfl (fun e56_20 h => ?_)
 refine xFd rfl ?_
 refine xLd rfl ?_
 refine xC0 h (ih_spec_l6Calls ·) rfl (fun c59_21 h => ?_)
 refine xNot rfl ?_
 refine oNl ?_
 refine cIf h rfl (fun q22 h => ?_) (fun q22 h => ?_)
 refine cRs ?_
 refine xAs rfl ?_
 refine oNl ?_
 refine cRt ?_
 exact eXr h rfl
 refine cSk ?_
 refine cRg ?_
 refine xMv rfl ?_
 refine xAdd rfl ?_
 refine xAs rfl ?_
 refine oNl ?_
 exact eL h rfl
 refine cEx ?_
 exact eX h rfl
 rcases q with v4_16 | ⟨v7_17, v49_18⟩
 cases h
 exact eR rfl rfl rfl rfl
 refine cRs ?_
 refine xAs rfl ?_
 refine oNl ?_
 refine cRt ?_
 cases h
 exact eR rfl rfl rfl rfl
 refine cSk ?_
 refine cSq ?_
 refine cRs ?_
 refine xAs rfl ?_
 refine oNl ?_
 refine cLp h [(4, 4), (6, 6), (30, 44)] [] (fun v6_23 => ([(6, I64 v6_23)], [])) (fun q => match q with | .inl v4_24 => (.r, [(4, Bo v4_24)], []) | .inr (v6_25, v34_26) => (.e 0, [(6, I64 v6_25), (34, Bo v34_26)], [])) rfl (fun v6_23 _ h => ?_) (fun q h => ?_)
 unfold p_spec_l6Calls_b3 at h
 refine cSq ?_
 refine cRs ?_
 refine xMv rfl ?_
 refine xFd rfl ?_
 refine xLd rfl ?_
 refine xLn rfl ?_
 refine xLt rfl ?_
 refine oNl ?_
 refine cIf h rfl (fun q27 h => ?_) (fun q27 h => ?_)
 refine cSk ?_
 refine cSq ?_
 refine cBk ?_
 refine cRs ?_
 refine xLd rfl ?_
 refine xFd rfl ?_
 refine xLd rfl ?_
 refine xMv rfl ?_
 refine xIx h rS_impl_Expr_eq rfl (fun e41_28 h => ?_)
 refine xLd rfl ?_
 refine xC0 h (ih_spec_l6Calls ·) rfl (fun c43_29 h => ?_)
 refine xNot rfl ?_
 refine oNl ?_
 refine cIf h rfl (fun q30 h => ?_) (fun q30 h => ?_)
 refine cRs ?_
 refine xAs rfl ?_
 refine oNl ?_
 refine cRt ?_
 exact eXr h rfl
 refine cSk ?_
 refine cRg ?_
 refine xMv rfl ?_
 refine xAdd rfl ?_
 refine xAs rfl ?_
 refine oNl ?_
 exact eL h rfl
 refine cEx ?_
 exact eX h rfl
 rcases q with v4_24 | ⟨v6_25, v34_26⟩
 cases h
 exact eR rfl rfl rfl rfl
 refine cSq ?_
 refine cRs ?_
 refine xAs rfl ?_
 refine oNl ?_
 refine cLp h [(4, 4), (7, 7), (45, 60)] [] (fun v7_31 => ([(7, I64 v7_31)], [])) (fun q => match q with | .inl v4_32 => (.r, [(4, Bo v4_32)], []) | .inr (v7_33, v49_34) => (.e 2, [(7, I64 v7_33), (49, Bo v49_34)], [])) rfl (fun v7_31 _ h => ?_) (fun q h => ?_)
 unfold p_spec_l6Calls_b4 at h
 refine cSq ?_
 refine cRs ?_
 refine xMv rfl ?_
 refine xFd rfl ?_
 refine xLd rfl ?_
 refine xLn rfl ?_
 refine xLt rfl ?_
 refine oNl ?_
 refine cIf h rfl (fun q35 h => ?_) (fun q35 h => ?_)
 refine cSk ?_
 refine cSq ?_
 refine cBk ?_
 refine cRs ?_
 refine xLd rfl ?_
 refine xFd rfl ?_
 refine xLd rfl ?_
 refine xMv rfl ?_
 refine xIx h rS_impl_Clause_eq rfl (fun e56_36 h => ?_)
 refine xFd rfl ?_
 refine xLd rfl ?_
 refine xC0 h (ih_spec_l6Calls ·) rfl (fun c59_37 h => ?_)
 refine xNot rfl ?_
 refine oNl ?_
 refine cIf h rfl (fun q38 h => ?_) (fun q38 h => ?_)
 refine cRs ?_
 refine xAs rfl ?_
 refine oNl ?_
 refine cRt ?_
 exact eXr h rfl
 refine cSk ?_
 refine cRg ?_
 refine xMv rfl ?_
 refine xAdd rfl ?_
 refine xAs rfl ?_
 refine oNl ?_
 exact eL h rfl
 refine cEx ?_
 exact eX h rfl
 rcases q with v4_32 | ⟨v7_33, v49_34⟩
 cases h
 exact eR rfl rfl rfl rfl
 refine cRs ?_
 refine xAs rfl ?_
 refine oNl ?_
 refine cRt ?_
 cases h
 exact eR rfl rfl rfl rfl
def q_spec_l6Calls : Nat → (Y_spec_l6Calls)
  | 0 => (fun _ _ _ _ _ _ => none)
  | n + 1 => s_spec_l6Calls n (q_spec_l6Calls n)
def p_spec_l6Calls (n : Nat) : Y_spec_l6Calls := q_spec_l6Calls n
theorem bigs_spec_l6Calls (n : Nat) : B_spec_l6Calls (p_spec_l6Calls n) := by
  induction n with
  | zero => exact (fun h => nomatch h)
  | succ n ih => exact step_spec_l6Calls (n := n) ih
theorem big_spec_l6Calls {n : Nat} : B_spec_l6Calls (p_spec_l6Calls n) := (bigs_spec_l6Calls n)
theorem p_spec_l6Calls_succ (n : Nat) : p_spec_l6Calls (n + 1) = s_spec_l6Calls n (p_spec_l6Calls n) := rfl
abbrev B_spec_ModuleOk (p : (List S_impl_Fun) → Option (Bool)) : Prop := ∀ {t0_0 : List S_impl_Fun} {r : Bool}, p t0_0 = some r → Big Try.prog τ An (.fn 27 [.one (.ag [.sl (t0_0.map rS_impl_Fun)])] [] (.one (.c (.bool r))) none [] none)
def p_spec_ModuleOk_b2 (n : Nat) (e20_8 : S_impl_Fun) (c24_9 : (List (List UInt8))) : (Int) → Option ((Int) ⊕ ((Bool) ⊕ (Int × Bool)))
  | v6_10 => bif decide (v6_10 < (c24_9.length : Int)) then (ix c24_9 v6_10).bind fun e35_15 => (p_spec_l4Has n e20_8.f1 e35_15).bind fun c37_16 => bif !c37_16 then some (.inr (.inl false)) else some (.inl (IntKind.wrap .i64 (v6_10 + (1 : Int)))) else some (.inr (.inr (v6_10, false)))
def p_spec_ModuleOk_b1 (n : Nat) (t0_0 : List S_impl_Fun) : (Int) → Option ((Int) ⊕ ((Bool) ⊕ (Int × Bool)))
  | v3_3 => bif decide (v3_3 < (t0_0.length : Int)) then (ix t0_0 v3_3).bind fun e20_8 => (p_spec_FreeOf n e20_8.f2 e20_8.f3 e20_8.f4 e20_8.f5 e20_8.f6).bind fun c24_9 => (loopN (p_spec_ModuleOk_b2 n e20_8 c24_9) n (0 : Int)).bind fun q => (match q with | .inl v2_11 => some (.inr (.inl v2_11)) | .inr (v6_12, v28_13) => ((p_spec_FunAt n t0_0 e20_8.f0).bind fun c42_19 => bif !decide (c42_19 = v3_3) then some true else (p_spec_l4Once n e20_8.f1).bind fun c48_21 => bif !c48_21 then some true else (p_spec_l6Calls n t0_0 e20_8.f2 e20_8.f3 e20_8.f4 e20_8.f5 e20_8.f6).bind fun c55_23 => some (!c55_23)).bind fun v57_18 => bif v57_18 then some (.inr (.inl false)) else some (.inl (IntKind.wrap .i64 (v3_3 + (1 : Int))))) else some (.inr (.inr (v3_3, false)))
def p_spec_ModuleOk (n : Nat) (t0_0 : List S_impl_Fun) : Option (Bool) :=
  (p_spec_l5ModuleOk n t0_0).bind fun c8_1 => bif !c8_1 then some false else (loopN (p_spec_ModuleOk_b1 n t0_0) n (0 : Int)).bind fun q => (match q with | .inl v2_4 => some v2_4 | .inr (v3_5, v14_6) => some true)
theorem big_spec_ModuleOk {n : Nat} : B_spec_ModuleOk (p_spec_ModuleOk n) := by
 intro t0_0 r h
 unfold p_spec_ModuleOk at h
 refine bF Try.func27 rfl rfl ?_
 refine cRs ?_
 refine xBx rfl ?_
 refine xAs rfl ?_
 refine oNl ?_
 refine cSq ?_
 refine cRs ?_
 refine xLd rfl ?_
 refine xC0 h (big_spec_l5ModuleOk ·) rfl (fun c8_1 h => ?_)
 refine xNot rfl ?_
 refine oNl ?_
 refine cIf h rfl (fun q2 h => ?_) (fun q2 h => ?_)
 refine cRs ?_
 refine xAs rfl ?_
 refine oNl ?_
 refine cRt ?_
 cases h
 exact eR rfl rfl rfl rfl
 refine cSk ?_
 refine cSq ?_
 refine cRs ?_
 refine xAs rfl ?_
 refine oNl ?_
 refine cLp h [(2, 6), (10, 57)] [(4, 4)] (fun v3_3 => ([(3, I64 v3_3)], [])) (fun q => match q with | .inl v2_4 => (.r, [(2, Bo v2_4)], []) | .inr (v3_5, v14_6) => (.e 0, [(3, I64 v3_5), (14, Bo v14_6)], [])) rfl (fun v3_3 _ h => ?_) (fun q h => ?_)
 unfold p_spec_ModuleOk_b1 at h
 refine cSq ?_
 refine cRs ?_
 refine xMv rfl ?_
 refine xFd rfl ?_
 refine xLd rfl ?_
 refine xLn rfl ?_
 refine xLt rfl ?_
 refine oNl ?_
 refine cIf h rfl (fun q7 h => ?_) (fun q7 h => ?_)
 refine cSk ?_
 refine cSq ?_
 refine cBk ?_
 refine cRs ?_
 refine xFd rfl ?_
 refine xLd rfl ?_
 refine xMv rfl ?_
 refine xIx h rS_impl_Fun_eq rfl (fun e20_8 h => ?_)
 refine xLd rfl ?_
 refine xAz [.str [], .sl ([].map rStr), .int .i64 0, .int .i64 0, .str [], .sl ([].map rS_impl_Expr), .sl ([].map rS_impl_Clause)] rfl ?_
 refine xSt rfl ?_
 refine oRs ?_
 refine xFd rfl ?_
 refine xLd rfl ?_
 refine xC0 h (big_spec_FreeOf ·) rfl (fun c24_9 h => ?_)
 refine xAs rfl ?_
 refine oNl ?_
 refine cSq ?_
 refine cRs ?_
 refine xAs rfl ?_
 refine oNl ?_
 refine cLp h [(2, 2), (6, 6), (25, 38)] [] (fun v6_10 => ([(6, I64 v6_10)], [])) (fun q => match q with | .inl v2_11 => (.r, [(2, Bo v2_11)], []) | .inr (v6_12, v28_13) => (.e 2, [(6, I64 v6_12), (28, Bo v28_13)], [])) rfl (fun v6_10 _ h => ?_) (fun q h => ?_)
 unfold p_spec_ModuleOk_b2 at h
 refine cSq ?_
 refine cRs ?_
 refine xMv rfl ?_
 refine xMv rfl ?_
 refine xLn rfl ?_
 refine xLt rfl ?_
 refine oNl ?_
 refine cIf h rfl (fun q14 h => ?_) (fun q14 h => ?_)
 refine cSk ?_
 refine cSq ?_
 refine cBk ?_
 refine cRs ?_
 refine xFd rfl ?_
 refine xLd rfl ?_
 refine xMv rfl ?_
 refine xMv rfl ?_
 refine xIx h rStr_eq rfl (fun e35_15 h => ?_)
 refine xLd rfl ?_
 refine xC0 h (big_spec_l4Has ·) rfl (fun c37_16 h => ?_)
 refine xNot rfl ?_
 refine oNl ?_
 refine cIf h rfl (fun q17 h => ?_) (fun q17 h => ?_)
 refine cRs ?_
 refine xAs rfl ?_
 refine oNl ?_
 refine cRt ?_
 exact eXr h rfl
 refine cSk ?_
 refine cRg ?_
 refine xMv rfl ?_
 refine xAdd rfl ?_
 refine xAs rfl ?_
 refine oNl ?_
 exact eL h rfl
 refine cEx ?_
 exact eX h rfl
 rcases q with v2_11 | ⟨v6_12, v28_13⟩
 exact eXr h rfl
 refine cRs ?_
 refine oJn h [(39, 57)] [] (fun v57_18 => (.n, [(57, Bo v57_18)], [])) (fun _ h => ?_) (fun v57_18 h => ?_)
 refine xLd rfl ?_
 refine xFd rfl ?_
 refine xLd rfl ?_
 refine xC0 h (big_spec_FunAt ·) rfl (fun c42_19 h => ?_)
 refine xMv rfl ?_
 refine xNe rfl ?_
 refine xMv rfl ?_
 refine oIf 45 h rfl (fun q20 h => ?_) (fun q20 h => ?_)
 refine wSk rfl ?_
 refine wSk rfl ?_
 refine wSk rfl ?_
 refine wSk rfl ?_
 refine xPk rfl ?_
 refine xMv rfl ?_
 refine wSk rfl ?_
 refine wSk rfl ?_
 refine wSk rfl ?_
 refine wSk rfl ?_
 refine wSk rfl ?_
 refine xPk rfl ?_
 refine oNl ?_
 exact eJ h rfl
 refine xFd rfl ?_
 refine xLd rfl ?_
 refine xC0 h (big_spec_l4Once ·) rfl (fun c48_21 h => ?_)
 refine xNot rfl ?_
 refine xPk rfl ?_
 refine xMv rfl ?_
 refine oIf 51 h rfl (fun q22 h => ?_) (fun q22 h => ?_)
 refine wSk rfl ?_
 refine wSk rfl ?_
 refine wSk rfl ?_
 refine wSk rfl ?_
 refine wSk rfl ?_
 refine xPk rfl ?_
 refine oNl ?_
 exact eJ h rfl
 refine xLd rfl ?_
 refine xFd rfl ?_
 refine xLd rfl ?_
 refine xC0 h (big_spec_l6Calls ·) rfl (fun c55_23 h => ?_)
 refine xNot rfl ?_
 refine xPk rfl ?_
 refine oNl ?_
 exact eJ h rfl
 refine cIf h rfl (fun q24 h => ?_) (fun q24 h => ?_)
 refine cRs ?_
 refine xAs rfl ?_
 refine oNl ?_
 refine cRt ?_
 exact eXr h rfl
 refine cSk ?_
 refine cRg ?_
 refine xMv rfl ?_
 refine xAdd rfl ?_
 refine xAs rfl ?_
 refine oNl ?_
 exact eL h rfl
 refine cEx ?_
 exact eX h rfl
 rcases q with v2_4 | ⟨v3_5, v14_6⟩
 cases h
 exact eR rfl rfl rfl rfl
 refine cRs ?_
 refine xAs rfl ?_
 refine oNl ?_
 refine cRt ?_
 cases h
 exact eR rfl rfl rfl rfl
abbrev Y_laws_toClause : Type := Int → Int → (List UInt8) → (List S_laws_Expr) → (List S_laws_Clause) → Int → Int → (List UInt8) → (List S_laws_Expr) → (List S_laws_Clause) → Option (Int × Int × (List UInt8) × (List S_impl_Expr) × (List S_impl_Clause) × Int × Int × (List UInt8) × (List S_impl_Expr) × (List S_impl_Clause))
abbrev B_laws_toClause (p : Y_laws_toClause) : Prop := ∀ {t0_0 t0_1 : Int} {t0_2 : List UInt8} {t0_3 : List S_laws_Expr} {t0_4 : List S_laws_Clause} {t0_5 t0_6 : Int} {t0_7 : List UInt8} {t0_8 : List S_laws_Expr} {t0_9 : List S_laws_Clause} {r : Int × Int × (List UInt8) × (List S_impl_Expr) × (List S_impl_Clause) × Int × Int × (List UInt8) × (List S_impl_Expr) × (List S_impl_Clause)}, p t0_0 t0_1 t0_2 t0_3 t0_4 t0_5 t0_6 t0_7 t0_8 t0_9 = some r → Big Try.prog τ An (.fn 187 [.one (.ag [.int .i64 t0_0, .int .i64 t0_1, .str t0_2, .sl (t0_3.map rS_laws_Expr), .sl (t0_4.map rS_laws_Clause), .int .i64 t0_5, .int .i64 t0_6, .str t0_7, .sl (t0_8.map rS_laws_Expr), .sl (t0_9.map rS_laws_Clause)])] [] (.one (.ag [.int .i64 r.1, .int .i64 r.2.1, .str r.2.2.1, .sl (r.2.2.2.1.map rS_impl_Expr), .sl (r.2.2.2.2.1.map rS_impl_Clause), .int .i64 r.2.2.2.2.2.1, .int .i64 r.2.2.2.2.2.2.1, .str r.2.2.2.2.2.2.2.1, .sl (r.2.2.2.2.2.2.2.2.1.map rS_impl_Expr), .sl (r.2.2.2.2.2.2.2.2.2.map rS_impl_Clause)])) none [] none)
abbrev Y_laws_toClauseS : Type := (List S_laws_Clause) → Option ((List S_impl_Clause))
abbrev B_laws_toClauseS (p : Y_laws_toClauseS) : Prop := ∀ {t0_0 : List S_laws_Clause} {r : (List S_impl_Clause)}, p t0_0 = some r → Big Try.prog τ An (.fn 111 [.one (.c (.sl (t0_0.map rS_laws_Clause)))] [] (.one (.c (.sl (r.map rS_impl_Clause)))) none [] none)
abbrev Y_laws_toExprS : Type := (List S_laws_Expr) → Option ((List S_impl_Expr))
abbrev B_laws_toExprS (p : Y_laws_toExprS) : Prop := ∀ {t0_0 : List S_laws_Expr} {r : (List S_impl_Expr)}, p t0_0 = some r → Big Try.prog τ An (.fn 110 [.one (.c (.sl (t0_0.map rS_laws_Expr)))] [] (.one (.c (.sl (r.map rS_impl_Expr)))) none [] none)
abbrev Y_laws_toExpr : Type := Int → Int → (List UInt8) → (List S_laws_Expr) → (List S_laws_Clause) → Option (Int × Int × (List UInt8) × (List S_impl_Expr) × (List S_impl_Clause))
abbrev B_laws_toExpr (p : Y_laws_toExpr) : Prop := ∀ {t0_0 t0_1 : Int} {t0_2 : List UInt8} {t0_3 : List S_laws_Expr} {t0_4 : List S_laws_Clause} {r : Int × Int × (List UInt8) × (List S_impl_Expr) × (List S_impl_Clause)}, p t0_0 t0_1 t0_2 t0_3 t0_4 = some r → Big Try.prog τ An (.fn 34 [.one (.ag [.int .i64 t0_0, .int .i64 t0_1, .str t0_2, .sl (t0_3.map rS_laws_Expr), .sl (t0_4.map rS_laws_Clause)])] [] (.one (.ag [.int .i64 r.1, .int .i64 r.2.1, .str r.2.2.1, .sl (r.2.2.2.1.map rS_impl_Expr), .sl (r.2.2.2.2.map rS_impl_Clause)])) none [] none)
def s_laws_toClause (n : Nat) (r_laws_toExpr : Y_laws_toExpr) (r_laws_toExprS : Y_laws_toExprS) (r_laws_toClauseS : Y_laws_toClauseS) (r_laws_toClause : Y_laws_toClause) (t0_0 : Int) (t0_1 : Int) (t0_2 : List UInt8) (t0_3 : List S_laws_Expr) (t0_4 : List S_laws_Clause) (t0_5 : Int) (t0_6 : Int) (t0_7 : List UInt8) (t0_8 : List S_laws_Expr) (t0_9 : List S_laws_Clause) : Option (Int × Int × (List UInt8) × (List S_impl_Expr) × (List S_impl_Clause) × Int × Int × (List UInt8) × (List S_impl_Expr) × (List S_impl_Clause)) :=
  (r_laws_toExpr t0_0 t0_1 t0_2 t0_3 t0_4).bind fun c6_1 => (r_laws_toExpr t0_5 t0_6 t0_7 t0_8 t0_9).bind fun c10_2 => some (c6_1.1, c6_1.2.1, c6_1.2.2.1, c6_1.2.2.2.1, c6_1.2.2.2.2, c10_2.1, c10_2.2.1, c10_2.2.2.1, c10_2.2.2.2.1, c10_2.2.2.2.2)
theorem step_laws_toClause {n : Nat} {r_laws_toExpr : Y_laws_toExpr} (ih_laws_toExpr : B_laws_toExpr r_laws_toExpr) {r_laws_toExprS : Y_laws_toExprS} (ih_laws_toExprS : B_laws_toExprS r_laws_toExprS) {r_laws_toClauseS : Y_laws_toClauseS} (ih_laws_toClauseS : B_laws_toClauseS r_laws_toClauseS) {r_laws_toClause : Y_laws_toClause} (ih_laws_toClause : B_laws_toClause r_laws_toClause) : B_laws_toClause (s_laws_toClause n r_laws_toExpr r_laws_toExprS r_laws_toClauseS r_laws_toClause) := by
 intro t0_0 t0_1 t0_2 t0_3 t0_4 t0_5 t0_6 t0_7 t0_8 t0_9 r h
 unfold s_laws_toClause at h
 refine bF Try.func187 rfl rfl ?_
 refine cRs ?_
 refine xBx rfl ?_
 refine xAz [.int .i64 0, .int .i64 0, .str [], .sl ([].map rS_impl_Expr), .sl ([].map rS_impl_Clause), .int .i64 0, .int .i64 0, .str [], .sl ([].map rS_impl_Expr), .sl ([].map rS_impl_Clause)] rfl ?_
 refine oRs ?_
 refine xAz [.int .i64 0, .int .i64 0, .str [], .sl ([].map rS_impl_Expr), .sl ([].map rS_impl_Clause), .int .i64 0, .int .i64 0, .str [], .sl ([].map rS_impl_Expr), .sl ([].map rS_impl_Clause)] rfl ?_
 refine oRs ?_
 refine xFd rfl ?_
 refine xLd rfl ?_
 refine xC0 h (ih_laws_toExpr ·) rfl (fun c6_1 h => ?_)
 refine xFd rfl ?_
 refine xSt rfl ?_
 refine oRs ?_
 refine xFd rfl ?_
 refine xLd rfl ?_
 refine xC0 h (ih_laws_toExpr ·) rfl (fun c10_2 h => ?_)
 refine xFd rfl ?_
 refine xSt rfl ?_
 refine oRs ?_
 refine xLd rfl ?_
 refine xSt rfl ?_
 refine oNl ?_
 refine cRt ?_
 cases h
 exact eR rfl rfl rfl rfl
def p_laws_toClauseS_b1 (n : Nat) (r_laws_toClause : Y_laws_toClause) (t0_0 : List S_laws_Clause) : ((List S_impl_Clause) × Int) → Option (((List S_impl_Clause) × Int) ⊕ (((List S_impl_Clause) × Int × Bool)))
  | (v3_2, v4_3) => bif decide (v4_3 < (t0_0.length : Int)) then (ix t0_0 v4_3).bind fun e18_8 => (r_laws_toClause e18_8.f0 e18_8.f1 e18_8.f2 e18_8.f3 e18_8.f4 e18_8.f5 e18_8.f6 e18_8.f7 e18_8.f8 e18_8.f9).bind fun c20_9 => (ix v3_2 v4_3).bind fun e21_10 => some (.inl ((v3_2.set (Int.toNat v4_3) (S_impl_Clause.mk c20_9.1 c20_9.2.1 c20_9.2.2.1 c20_9.2.2.2.1 c20_9.2.2.2.2.1 c20_9.2.2.2.2.2.1 c20_9.2.2.2.2.2.2.1 c20_9.2.2.2.2.2.2.2.1 c20_9.2.2.2.2.2.2.2.2.1 c20_9.2.2.2.2.2.2.2.2.2)), (IntKind.wrap .i64 (v4_3 + (1 : Int))))) else some (.inr (v3_2, v4_3, false))
def s_laws_toClauseS (n : Nat) (r_laws_toExpr : Y_laws_toExpr) (r_laws_toExprS : Y_laws_toExprS) (r_laws_toClauseS : Y_laws_toClauseS) (r_laws_toClause : Y_laws_toClause) (t0_0 : List S_laws_Clause) : Option ((List S_impl_Clause)) :=
  (ck (decide (0 ≤ (t0_0.length : Int) ∧ (t0_0.length : Int) ≤ maxLen ∧ 160 * (t0_0.length : Int) ≤ 281474976710656))).bind fun _ => (loopN (p_laws_toClauseS_b1 n r_laws_toClause t0_0) n ((List.replicate (Int.toNat (t0_0.length : Int)) (S_impl_Clause.mk (0 : Int) (0 : Int) ([] : List UInt8) ([] : List S_impl_Expr) ([] : List S_impl_Clause) (0 : Int) (0 : Int) ([] : List UInt8) ([] : List S_impl_Expr) ([] : List S_impl_Clause))), (0 : Int))).bind fun (v3_4, v4_5, v11_6) => some v3_4
theorem step_laws_toClauseS {n : Nat} {r_laws_toExpr : Y_laws_toExpr} (ih_laws_toExpr : B_laws_toExpr r_laws_toExpr) {r_laws_toExprS : Y_laws_toExprS} (ih_laws_toExprS : B_laws_toExprS r_laws_toExprS) {r_laws_toClauseS : Y_laws_toClauseS} (ih_laws_toClauseS : B_laws_toClauseS r_laws_toClauseS) {r_laws_toClause : Y_laws_toClause} (ih_laws_toClause : B_laws_toClause r_laws_toClause) : B_laws_toClauseS (s_laws_toClauseS n r_laws_toExpr r_laws_toExprS r_laws_toClauseS r_laws_toClause) := by
 intro t0_0 r h
 unfold s_laws_toClauseS at h
 refine bF Try.func111 rfl rfl ?_
 refine cRs ?_
 refine wAe (Li rS_impl_Clause []) rfl rfl rfl rfl ?_
 refine oRs ?_
 refine xMv rfl ?_
 refine xLn rfl ?_
 refine oCk h (fun k7_0 h => ?_)
 refine wMk (z := S_impl_Clause.mk (0 : Int) (0 : Int) ([] : List UInt8) ([] : List S_impl_Expr) ([] : List S_impl_Clause) (0 : Int) (0 : Int) ([] : List UInt8) ([] : List S_impl_Expr) ([] : List S_impl_Clause)) (f := rS_impl_Clause) k7_0 rfl rfl rfl rfl rfl rfl rfl ?_
 refine xAs rfl ?_
 refine oNl ?_
 refine cSq ?_
 refine cRs ?_
 refine xAs rfl ?_
 refine oNl ?_
 refine cLp h [(3, 4), (8, 21)] [] (fun (v3_2, v4_3) => ([(3, Li rS_impl_Clause v3_2), (4, I64 v4_3)], [])) (fun (v3_4, v4_5, v11_6) => (.e 0, [(3, Li rS_impl_Clause v3_4), (4, I64 v4_5), (11, Bo v11_6)], [])) rfl (fun st _ h => ?_) (fun q h => ?_)
 obtain ⟨v3_2, v4_3⟩ := st
 unfold p_laws_toClauseS_b1 at h
 refine cSq ?_
 refine cRs ?_
 refine xMv rfl ?_
 refine xMv rfl ?_
 refine xLn rfl ?_
 refine xLt rfl ?_
 refine oNl ?_
 refine cIf h rfl (fun q7 h => ?_) (fun q7 h => ?_)
 refine cSk ?_
 refine cSq ?_
 refine cBk ?_
 refine cRg ?_
 refine wAl rfl rfl rfl rfl ?_
 refine xMv rfl ?_
 refine xMv rfl ?_
 refine xMv rfl ?_
 refine xIx h rS_laws_Clause_eq rfl (fun e18_8 h => ?_)
 refine xLd rfl ?_
 refine xC0 h (ih_laws_toClause ·) rfl (fun c20_9 h => ?_)
 refine wIp (f := rS_impl_Clause) h rfl rfl rfl rfl rfl rfl (fun a => by rw [rS_impl_Clause_eq]; rfl) rfl (fun e21_10 ke21_10 h => ?_)
 refine wSp (f := rS_impl_Clause) (v' := S_impl_Clause.mk c20_9.1 c20_9.2.1 c20_9.2.2.1 c20_9.2.2.2.1 c20_9.2.2.2.2.1 c20_9.2.2.2.2.2.1 c20_9.2.2.2.2.2.2.1 c20_9.2.2.2.2.2.2.2.1 c20_9.2.2.2.2.2.2.2.2.1 c20_9.2.2.2.2.2.2.2.2.2) ke21_10 rfl rfl rfl rfl rfl rfl rfl (by rw [rS_impl_Clause_eq]; rfl) (by rw [rS_impl_Clause_eq, rS_impl_Clause_mk]; rfl) ?_
 refine oNl ?_
 refine cRg ?_
 refine xMv rfl ?_
 refine xAdd rfl ?_
 refine xAs rfl ?_
 refine oNl ?_
 exact eL h rfl
 refine cEx ?_
 exact eX h rfl
 obtain ⟨v3_4, v4_5, v11_6⟩ := q
 refine cRs ?_
 refine xMv rfl ?_
 refine xAs rfl ?_
 refine oNl ?_
 refine cRt ?_
 cases h
 exact eR rfl rfl rfl rfl
def p_laws_toExprS_b1 (n : Nat) (r_laws_toExpr : Y_laws_toExpr) (t0_0 : List S_laws_Expr) : ((List S_impl_Expr) × Int) → Option (((List S_impl_Expr) × Int) ⊕ (((List S_impl_Expr) × Int × Bool)))
  | (v3_2, v4_3) => bif decide (v4_3 < (t0_0.length : Int)) then (ix t0_0 v4_3).bind fun e18_8 => (r_laws_toExpr e18_8.f0 e18_8.f1 e18_8.f2 e18_8.f3 e18_8.f4).bind fun c20_9 => (ix v3_2 v4_3).bind fun e21_10 => some (.inl ((v3_2.set (Int.toNat v4_3) (S_impl_Expr.mk c20_9.1 c20_9.2.1 c20_9.2.2.1 c20_9.2.2.2.1 c20_9.2.2.2.2)), (IntKind.wrap .i64 (v4_3 + (1 : Int))))) else some (.inr (v3_2, v4_3, false))
def s_laws_toExprS (n : Nat) (r_laws_toExpr : Y_laws_toExpr) (r_laws_toExprS : Y_laws_toExprS) (r_laws_toClauseS : Y_laws_toClauseS) (r_laws_toClause : Y_laws_toClause) (t0_0 : List S_laws_Expr) : Option ((List S_impl_Expr)) :=
  (ck (decide (0 ≤ (t0_0.length : Int) ∧ (t0_0.length : Int) ≤ maxLen ∧ 80 * (t0_0.length : Int) ≤ 281474976710656))).bind fun _ => (loopN (p_laws_toExprS_b1 n r_laws_toExpr t0_0) n ((List.replicate (Int.toNat (t0_0.length : Int)) (S_impl_Expr.mk (0 : Int) (0 : Int) ([] : List UInt8) ([] : List S_impl_Expr) ([] : List S_impl_Clause))), (0 : Int))).bind fun (v3_4, v4_5, v11_6) => some v3_4
theorem step_laws_toExprS {n : Nat} {r_laws_toExpr : Y_laws_toExpr} (ih_laws_toExpr : B_laws_toExpr r_laws_toExpr) {r_laws_toExprS : Y_laws_toExprS} (ih_laws_toExprS : B_laws_toExprS r_laws_toExprS) {r_laws_toClauseS : Y_laws_toClauseS} (ih_laws_toClauseS : B_laws_toClauseS r_laws_toClauseS) {r_laws_toClause : Y_laws_toClause} (ih_laws_toClause : B_laws_toClause r_laws_toClause) : B_laws_toExprS (s_laws_toExprS n r_laws_toExpr r_laws_toExprS r_laws_toClauseS r_laws_toClause) := by
 intro t0_0 r h
 unfold s_laws_toExprS at h
 refine bF Try.func110 rfl rfl ?_
 refine cRs ?_
 refine wAe (Li rS_impl_Expr []) rfl rfl rfl rfl ?_
 refine oRs ?_
 refine xMv rfl ?_
 refine xLn rfl ?_
 refine oCk h (fun k7_0 h => ?_)
 refine wMk (z := S_impl_Expr.mk (0 : Int) (0 : Int) ([] : List UInt8) ([] : List S_impl_Expr) ([] : List S_impl_Clause)) (f := rS_impl_Expr) k7_0 rfl rfl rfl rfl rfl rfl rfl ?_
 refine xAs rfl ?_
 refine oNl ?_
 refine cSq ?_
 refine cRs ?_
 refine xAs rfl ?_
 refine oNl ?_
 refine cLp h [(3, 4), (8, 21)] [] (fun (v3_2, v4_3) => ([(3, Li rS_impl_Expr v3_2), (4, I64 v4_3)], [])) (fun (v3_4, v4_5, v11_6) => (.e 0, [(3, Li rS_impl_Expr v3_4), (4, I64 v4_5), (11, Bo v11_6)], [])) rfl (fun st _ h => ?_) (fun q h => ?_)
 obtain ⟨v3_2, v4_3⟩ := st
 unfold p_laws_toExprS_b1 at h
 refine cSq ?_
 refine cRs ?_
 refine xMv rfl ?_
 refine xMv rfl ?_
 refine xLn rfl ?_
 refine xLt rfl ?_
 refine oNl ?_
 refine cIf h rfl (fun q7 h => ?_) (fun q7 h => ?_)
 refine cSk ?_
 refine cSq ?_
 refine cBk ?_
 refine cRg ?_
 refine wAl rfl rfl rfl rfl ?_
 refine xMv rfl ?_
 refine xMv rfl ?_
 refine xMv rfl ?_
 refine xIx h rS_laws_Expr_eq rfl (fun e18_8 h => ?_)
 refine xLd rfl ?_
 refine xC0 h (ih_laws_toExpr ·) rfl (fun c20_9 h => ?_)
 refine wIp (f := rS_impl_Expr) h rfl rfl rfl rfl rfl rfl (fun a => by rw [rS_impl_Expr_eq]; rfl) rfl (fun e21_10 ke21_10 h => ?_)
 refine wSp (f := rS_impl_Expr) (v' := S_impl_Expr.mk c20_9.1 c20_9.2.1 c20_9.2.2.1 c20_9.2.2.2.1 c20_9.2.2.2.2) ke21_10 rfl rfl rfl rfl rfl rfl rfl (by rw [rS_impl_Expr_eq]; rfl) (by rw [rS_impl_Expr_eq, rS_impl_Expr_mk]; rfl) ?_
 refine oNl ?_
 refine cRg ?_
 refine xMv rfl ?_
 refine xAdd rfl ?_
 refine xAs rfl ?_
 refine oNl ?_
 exact eL h rfl
 refine cEx ?_
 exact eX h rfl
 obtain ⟨v3_4, v4_5, v11_6⟩ := q
 refine cRs ?_
 refine xMv rfl ?_
 refine xAs rfl ?_
 refine oNl ?_
 refine cRt ?_
 cases h
 exact eR rfl rfl rfl rfl
def s_laws_toExpr (n : Nat) (r_laws_toExpr : Y_laws_toExpr) (r_laws_toExprS : Y_laws_toExprS) (r_laws_toClauseS : Y_laws_toClauseS) (r_laws_toClause : Y_laws_toClause) (t0_0 : Int) (t0_1 : Int) (t0_2 : List UInt8) (t0_3 : List S_laws_Expr) (t0_4 : List S_laws_Clause) : Option (Int × Int × (List UInt8) × (List S_impl_Expr) × (List S_impl_Clause)) :=
  (r_laws_toExprS t0_3).bind fun c15_1 => (r_laws_toClauseS t0_4).bind fun c19_2 => some (t0_0, t0_1, t0_2, c15_1, c19_2)
theorem step_laws_toExpr {n : Nat} {r_laws_toExpr : Y_laws_toExpr} (ih_laws_toExpr : B_laws_toExpr r_laws_toExpr) {r_laws_toExprS : Y_laws_toExprS} (ih_laws_toExprS : B_laws_toExprS r_laws_toExprS) {r_laws_toClauseS : Y_laws_toClauseS} (ih_laws_toClauseS : B_laws_toClauseS r_laws_toClauseS) {r_laws_toClause : Y_laws_toClause} (ih_laws_toClause : B_laws_toClause r_laws_toClause) : B_laws_toExpr (s_laws_toExpr n r_laws_toExpr r_laws_toExprS r_laws_toClauseS r_laws_toClause) := by
 intro t0_0 t0_1 t0_2 t0_3 t0_4 r h
 unfold s_laws_toExpr at h
 refine bF Try.func34 rfl rfl ?_
 refine cRs ?_
 refine xBx rfl ?_
 refine xAz [.int .i64 0, .int .i64 0, .str [], .sl ([].map rS_impl_Expr), .sl ([].map rS_impl_Clause)] rfl ?_
 refine oRs ?_
 refine xAz [.int .i64 0, .int .i64 0, .str [], .sl ([].map rS_impl_Expr), .sl ([].map rS_impl_Clause)] rfl ?_
 refine oRs ?_
 refine xFd rfl ?_
 refine xLd rfl ?_
 refine xFd rfl ?_
 refine xSt rfl ?_
 refine oRs ?_
 refine xFd rfl ?_
 refine xLd rfl ?_
 refine xFd rfl ?_
 refine xSt rfl ?_
 refine oRs ?_
 refine xFd rfl ?_
 refine xLd rfl ?_
 refine xFd rfl ?_
 refine xSt rfl ?_
 refine oRs ?_
 refine xFd rfl ?_
 refine xLd rfl ?_
 refine xC0 h (ih_laws_toExprS ·) rfl (fun c15_1 h => ?_)
 refine xFd rfl ?_
 refine xSt rfl ?_
 refine oRs ?_
 refine xFd rfl ?_
 refine xLd rfl ?_
 refine xC0 h (ih_laws_toClauseS ·) rfl (fun c19_2 h => ?_)
 refine xFd rfl ?_
 refine xSt rfl ?_
 refine oRs ?_
 refine xLd rfl ?_
 refine xSt rfl ?_
 refine oNl ?_
 refine cRt ?_
 cases h
 exact eR rfl rfl rfl rfl
def q_laws_toExpr : Nat → (Y_laws_toExpr) × (Y_laws_toExprS) × (Y_laws_toClauseS) × (Y_laws_toClause)
  | 0 => ((fun _ _ _ _ _ => none), (fun _ => none), (fun _ => none), (fun _ _ _ _ _ _ _ _ _ _ => none))
  | n + 1 => (s_laws_toExpr n ((q_laws_toExpr n).1) ((q_laws_toExpr n).2.1) ((q_laws_toExpr n).2.2.1) ((q_laws_toExpr n).2.2.2), s_laws_toExprS n ((q_laws_toExpr n).1) ((q_laws_toExpr n).2.1) ((q_laws_toExpr n).2.2.1) ((q_laws_toExpr n).2.2.2), s_laws_toClauseS n ((q_laws_toExpr n).1) ((q_laws_toExpr n).2.1) ((q_laws_toExpr n).2.2.1) ((q_laws_toExpr n).2.2.2), s_laws_toClause n ((q_laws_toExpr n).1) ((q_laws_toExpr n).2.1) ((q_laws_toExpr n).2.2.1) ((q_laws_toExpr n).2.2.2))
def p_laws_toExpr (n : Nat) : Y_laws_toExpr := (q_laws_toExpr n).1
def p_laws_toExprS (n : Nat) : Y_laws_toExprS := (q_laws_toExpr n).2.1
def p_laws_toClauseS (n : Nat) : Y_laws_toClauseS := (q_laws_toExpr n).2.2.1
def p_laws_toClause (n : Nat) : Y_laws_toClause := (q_laws_toExpr n).2.2.2
theorem bigs_laws_toExpr (n : Nat) : B_laws_toExpr (p_laws_toExpr n) ∧ B_laws_toExprS (p_laws_toExprS n) ∧ B_laws_toClauseS (p_laws_toClauseS n) ∧ B_laws_toClause (p_laws_toClause n) := by
  induction n with
  | zero => exact ⟨(fun h => nomatch h), (fun h => nomatch h), (fun h => nomatch h), (fun h => nomatch h)⟩
  | succ n ih => exact ⟨step_laws_toExpr (n := n) (ih.1) (ih.2.1) (ih.2.2.1) (ih.2.2.2), step_laws_toExprS (n := n) (ih.1) (ih.2.1) (ih.2.2.1) (ih.2.2.2), step_laws_toClauseS (n := n) (ih.1) (ih.2.1) (ih.2.2.1) (ih.2.2.2), step_laws_toClause (n := n) (ih.1) (ih.2.1) (ih.2.2.1) (ih.2.2.2)⟩
theorem big_laws_toExpr {n : Nat} : B_laws_toExpr (p_laws_toExpr n) := (bigs_laws_toExpr n).1
theorem big_laws_toExprS {n : Nat} : B_laws_toExprS (p_laws_toExprS n) := (bigs_laws_toExpr n).2.1
theorem big_laws_toClauseS {n : Nat} : B_laws_toClauseS (p_laws_toClauseS n) := (bigs_laws_toExpr n).2.2.1
theorem big_laws_toClause {n : Nat} : B_laws_toClause (p_laws_toClause n) := (bigs_laws_toExpr n).2.2.2
theorem p_laws_toExpr_succ (n : Nat) : p_laws_toExpr (n + 1) = s_laws_toExpr n (p_laws_toExpr n) (p_laws_toExprS n) (p_laws_toClauseS n) (p_laws_toClause n) := rfl
theorem p_laws_toExprS_succ (n : Nat) : p_laws_toExprS (n + 1) = s_laws_toExprS n (p_laws_toExpr n) (p_laws_toExprS n) (p_laws_toClauseS n) (p_laws_toClause n) := rfl
theorem p_laws_toClauseS_succ (n : Nat) : p_laws_toClauseS (n + 1) = s_laws_toClauseS n (p_laws_toExpr n) (p_laws_toExprS n) (p_laws_toClauseS n) (p_laws_toClause n) := rfl
theorem p_laws_toClause_succ (n : Nat) : p_laws_toClause (n + 1) = s_laws_toClause n (p_laws_toExpr n) (p_laws_toExprS n) (p_laws_toClauseS n) (p_laws_toClause n) := rfl
abbrev B_laws_toStringS (p : (List (List UInt8)) → Option ((List (List UInt8)))) : Prop := ∀ {t0_0 : List (List UInt8)} {r : (List (List UInt8))}, p t0_0 = some r → Big Try.prog τ An (.fn 226 [.one (.c (.sl (t0_0.map rStr)))] [] (.one (.c (.sl (r.map rStr)))) none [] none)
def p_laws_toStringS_b1 (n : Nat) (t0_0 : List (List UInt8)) : ((List (List UInt8)) × Int) → Option (((List (List UInt8)) × Int) ⊕ (((List (List UInt8)) × Int × Bool)))
  | (v3_2, v4_3) => bif decide (v4_3 < (t0_0.length : Int)) then (ix t0_0 v4_3).bind fun e18_8 => (ix v3_2 v4_3).bind fun e20_9 => some (.inl ((v3_2.set (Int.toNat v4_3) e18_8), (IntKind.wrap .i64 (v4_3 + (1 : Int))))) else some (.inr (v3_2, v4_3, false))
def p_laws_toStringS (n : Nat) (t0_0 : List (List UInt8)) : Option ((List (List UInt8))) :=
  (ck (decide (0 ≤ (t0_0.length : Int) ∧ (t0_0.length : Int) ≤ maxLen ∧ 16 * (t0_0.length : Int) ≤ 281474976710656))).bind fun _ => (loopN (p_laws_toStringS_b1 n t0_0) n ((List.replicate (Int.toNat (t0_0.length : Int)) ([] : List UInt8)), (0 : Int))).bind fun (v3_4, v4_5, v11_6) => some v3_4
theorem big_laws_toStringS {n : Nat} : B_laws_toStringS (p_laws_toStringS n) := by
 intro t0_0 r h
 unfold p_laws_toStringS at h
 refine bF Try.func226 rfl rfl ?_
 refine cRs ?_
 refine wAe (Li rStr []) rfl rfl rfl rfl ?_
 refine oRs ?_
 refine xMv rfl ?_
 refine xLn rfl ?_
 refine oCk h (fun k7_0 h => ?_)
 refine wMk (z := ([] : List UInt8)) (f := rStr) k7_0 rfl rfl rfl rfl rfl rfl rfl ?_
 refine xAs rfl ?_
 refine oNl ?_
 refine cSq ?_
 refine cRs ?_
 refine xAs rfl ?_
 refine oNl ?_
 refine cLp h [(3, 4), (8, 20)] [] (fun (v3_2, v4_3) => ([(3, Li rStr v3_2), (4, I64 v4_3)], [])) (fun (v3_4, v4_5, v11_6) => (.e 0, [(3, Li rStr v3_4), (4, I64 v4_5), (11, Bo v11_6)], [])) rfl (fun st _ h => ?_) (fun q h => ?_)
 obtain ⟨v3_2, v4_3⟩ := st
 unfold p_laws_toStringS_b1 at h
 refine cSq ?_
 refine cRs ?_
 refine xMv rfl ?_
 refine xMv rfl ?_
 refine xLn rfl ?_
 refine xLt rfl ?_
 refine oNl ?_
 refine cIf h rfl (fun q7 h => ?_) (fun q7 h => ?_)
 refine cSk ?_
 refine cSq ?_
 refine cBk ?_
 refine cRg ?_
 refine wAl rfl rfl rfl rfl ?_
 refine xMv rfl ?_
 refine xMv rfl ?_
 refine xMv rfl ?_
 refine xIx h rStr_eq rfl (fun e18_8 h => ?_)
 refine xLd rfl ?_
 refine wIp (f := rStr) h rfl rfl rfl rfl rfl rfl (fun _ => rfl) rfl (fun e20_9 ke20_9 h => ?_)
 refine wSp (f := rStr) (v' := e18_8) ke20_9 rfl rfl rfl rfl rfl rfl rfl rfl rfl ?_
 refine oNl ?_
 refine cRg ?_
 refine xMv rfl ?_
 refine xAdd rfl ?_
 refine xAs rfl ?_
 refine oNl ?_
 exact eL h rfl
 refine cEx ?_
 exact eX h rfl
 obtain ⟨v3_4, v4_5, v11_6⟩ := q
 refine cRs ?_
 refine xMv rfl ?_
 refine xAs rfl ?_
 refine oNl ?_
 refine cRt ?_
 cases h
 exact eR rfl rfl rfl rfl
abbrev B_laws_toFun (p : (List UInt8) → (List (List UInt8)) → Int → Int → (List UInt8) → (List S_laws_Expr) → (List S_laws_Clause) → Option ((List UInt8) × (List (List UInt8)) × Int × Int × (List UInt8) × (List S_impl_Expr) × (List S_impl_Clause))) : Prop := ∀ {t0_0 : List UInt8} {t0_1 : List (List UInt8)} {t0_2 t0_3 : Int} {t0_4 : List UInt8} {t0_5 : List S_laws_Expr} {t0_6 : List S_laws_Clause} {r : (List UInt8) × (List (List UInt8)) × Int × Int × (List UInt8) × (List S_impl_Expr) × (List S_impl_Clause)}, p t0_0 t0_1 t0_2 t0_3 t0_4 t0_5 t0_6 = some r → Big Try.prog τ An (.fn 173 [.one (.ag [.str t0_0, .sl (t0_1.map rStr), .int .i64 t0_2, .int .i64 t0_3, .str t0_4, .sl (t0_5.map rS_laws_Expr), .sl (t0_6.map rS_laws_Clause)])] [] (.one (.ag [.str r.1, .sl (r.2.1.map rStr), .int .i64 r.2.2.1, .int .i64 r.2.2.2.1, .str r.2.2.2.2.1, .sl (r.2.2.2.2.2.1.map rS_impl_Expr), .sl (r.2.2.2.2.2.2.map rS_impl_Clause)])) none [] none)
def p_laws_toFun (n : Nat) (t0_0 : List UInt8) (t0_1 : List (List UInt8)) (t0_2 : Int) (t0_3 : Int) (t0_4 : List UInt8) (t0_5 : List S_laws_Expr) (t0_6 : List S_laws_Clause) : Option ((List UInt8) × (List (List UInt8)) × Int × Int × (List UInt8) × (List S_impl_Expr) × (List S_impl_Clause)) :=
  (p_laws_toStringS n t0_1).bind fun c9_1 => (p_laws_toExpr n t0_2 t0_3 t0_4 t0_5 t0_6).bind fun c13_2 => some (t0_0, c9_1, c13_2.1, c13_2.2.1, c13_2.2.2.1, c13_2.2.2.2.1, c13_2.2.2.2.2)
theorem big_laws_toFun {n : Nat} : B_laws_toFun (p_laws_toFun n) := by
 intro t0_0 t0_1 t0_2 t0_3 t0_4 t0_5 t0_6 r h
 unfold p_laws_toFun at h
 refine bF Try.func173 rfl rfl ?_
 refine cRs ?_
 refine xBx rfl ?_
 refine xAz [.str [], .sl ([].map rStr), .int .i64 0, .int .i64 0, .str [], .sl ([].map rS_impl_Expr), .sl ([].map rS_impl_Clause)] rfl ?_
 refine oRs ?_
 refine xAz [.str [], .sl ([].map rStr), .int .i64 0, .int .i64 0, .str [], .sl ([].map rS_impl_Expr), .sl ([].map rS_impl_Clause)] rfl ?_
 refine oRs ?_
 refine xFd rfl ?_
 refine xLd rfl ?_
 refine xFd rfl ?_
 refine xSt rfl ?_
 refine oRs ?_
 refine xFd rfl ?_
 refine xLd rfl ?_
 refine xC0 h (big_laws_toStringS ·) rfl (fun c9_1 h => ?_)
 refine xFd rfl ?_
 refine xSt rfl ?_
 refine oRs ?_
 refine xFd rfl ?_
 refine xLd rfl ?_
 refine xC0 h (big_laws_toExpr ·) rfl (fun c13_2 h => ?_)
 refine xFd rfl ?_
 refine xSt rfl ?_
 refine oRs ?_
 refine xLd rfl ?_
 refine xSt rfl ?_
 refine oNl ?_
 refine cRt ?_
 cases h
 exact eR rfl rfl rfl rfl
abbrev B_laws_toFunS (p : (List S_laws_Fun) → Option ((List S_impl_Fun))) : Prop := ∀ {t0_0 : List S_laws_Fun} {r : (List S_impl_Fun)}, p t0_0 = some r → Big Try.prog τ An (.fn 99 [.one (.c (.sl (t0_0.map rS_laws_Fun)))] [] (.one (.c (.sl (r.map rS_impl_Fun)))) none [] none)
def p_laws_toFunS_b1 (n : Nat) (t0_0 : List S_laws_Fun) : ((List S_impl_Fun) × Int) → Option (((List S_impl_Fun) × Int) ⊕ (((List S_impl_Fun) × Int × Bool)))
  | (v3_2, v4_3) => bif decide (v4_3 < (t0_0.length : Int)) then (ix t0_0 v4_3).bind fun e18_8 => (p_laws_toFun n e18_8.f0 e18_8.f1 e18_8.f2 e18_8.f3 e18_8.f4 e18_8.f5 e18_8.f6).bind fun c20_9 => (ix v3_2 v4_3).bind fun e21_10 => some (.inl ((v3_2.set (Int.toNat v4_3) (S_impl_Fun.mk c20_9.1 c20_9.2.1 c20_9.2.2.1 c20_9.2.2.2.1 c20_9.2.2.2.2.1 c20_9.2.2.2.2.2.1 c20_9.2.2.2.2.2.2)), (IntKind.wrap .i64 (v4_3 + (1 : Int))))) else some (.inr (v3_2, v4_3, false))
def p_laws_toFunS (n : Nat) (t0_0 : List S_laws_Fun) : Option ((List S_impl_Fun)) :=
  (ck (decide (0 ≤ (t0_0.length : Int) ∧ (t0_0.length : Int) ≤ maxLen ∧ 120 * (t0_0.length : Int) ≤ 281474976710656))).bind fun _ => (loopN (p_laws_toFunS_b1 n t0_0) n ((List.replicate (Int.toNat (t0_0.length : Int)) (S_impl_Fun.mk ([] : List UInt8) ([] : List (List UInt8)) (0 : Int) (0 : Int) ([] : List UInt8) ([] : List S_impl_Expr) ([] : List S_impl_Clause))), (0 : Int))).bind fun (v3_4, v4_5, v11_6) => some v3_4
theorem big_laws_toFunS {n : Nat} : B_laws_toFunS (p_laws_toFunS n) := by
 intro t0_0 r h
 unfold p_laws_toFunS at h
 refine bF Try.func99 rfl rfl ?_
 refine cRs ?_
 refine wAe (Li rS_impl_Fun []) rfl rfl rfl rfl ?_
 refine oRs ?_
 refine xMv rfl ?_
 refine xLn rfl ?_
 refine oCk h (fun k7_0 h => ?_)
 refine wMk (z := S_impl_Fun.mk ([] : List UInt8) ([] : List (List UInt8)) (0 : Int) (0 : Int) ([] : List UInt8) ([] : List S_impl_Expr) ([] : List S_impl_Clause)) (f := rS_impl_Fun) k7_0 rfl rfl rfl rfl rfl rfl rfl ?_
 refine xAs rfl ?_
 refine oNl ?_
 refine cSq ?_
 refine cRs ?_
 refine xAs rfl ?_
 refine oNl ?_
 refine cLp h [(3, 4), (8, 21)] [] (fun (v3_2, v4_3) => ([(3, Li rS_impl_Fun v3_2), (4, I64 v4_3)], [])) (fun (v3_4, v4_5, v11_6) => (.e 0, [(3, Li rS_impl_Fun v3_4), (4, I64 v4_5), (11, Bo v11_6)], [])) rfl (fun st _ h => ?_) (fun q h => ?_)
 obtain ⟨v3_2, v4_3⟩ := st
 unfold p_laws_toFunS_b1 at h
 refine cSq ?_
 refine cRs ?_
 refine xMv rfl ?_
 refine xMv rfl ?_
 refine xLn rfl ?_
 refine xLt rfl ?_
 refine oNl ?_
 refine cIf h rfl (fun q7 h => ?_) (fun q7 h => ?_)
 refine cSk ?_
 refine cSq ?_
 refine cBk ?_
 refine cRg ?_
 refine wAl rfl rfl rfl rfl ?_
 refine xMv rfl ?_
 refine xMv rfl ?_
 refine xMv rfl ?_
 refine xIx h rS_laws_Fun_eq rfl (fun e18_8 h => ?_)
 refine xLd rfl ?_
 refine xC0 h (big_laws_toFun ·) rfl (fun c20_9 h => ?_)
 refine wIp (f := rS_impl_Fun) h rfl rfl rfl rfl rfl rfl (fun _ => rfl) rfl (fun e21_10 ke21_10 h => ?_)
 refine wSp (f := rS_impl_Fun) (v' := S_impl_Fun.mk c20_9.1 c20_9.2.1 c20_9.2.2.1 c20_9.2.2.2.1 c20_9.2.2.2.2.1 c20_9.2.2.2.2.2.1 c20_9.2.2.2.2.2.2) ke21_10 rfl rfl rfl rfl rfl rfl rfl rfl rfl ?_
 refine oNl ?_
 refine cRg ?_
 refine xMv rfl ?_
 refine xAdd rfl ?_
 refine xAs rfl ?_
 refine oNl ?_
 exact eL h rfl
 refine cEx ?_
 exact eX h rfl
 obtain ⟨v3_4, v4_5, v11_6⟩ := q
 refine cRs ?_
 refine xMv rfl ?_
 refine xAs rfl ?_
 refine oNl ?_
 refine cRt ?_
 cases h
 exact eR rfl rfl rfl rfl
abbrev B_laws_toModule (p : (List S_laws_Fun) → Option ((List S_impl_Fun))) : Prop := ∀ {t0_0 : List S_laws_Fun} {r : (List S_impl_Fun)}, p t0_0 = some r → Big Try.prog τ An (.fn 28 [.one (.ag [.sl (t0_0.map rS_laws_Fun)])] [] (.one (.ag [.sl (r.map rS_impl_Fun)])) none [] none)
def p_laws_toModule (n : Nat) (t0_0 : List S_laws_Fun) : Option ((List S_impl_Fun)) :=
  (p_laws_toFunS n t0_0).bind fun c6_1 => some c6_1
theorem big_laws_toModule {n : Nat} : B_laws_toModule (p_laws_toModule n) := by
 intro t0_0 r h
 unfold p_laws_toModule at h
 refine bF Try.func28 rfl rfl ?_
 refine cRs ?_
 refine xBx rfl ?_
 refine xAz [.sl ([].map rS_impl_Fun)] rfl ?_
 refine oRs ?_
 refine xAz [.sl ([].map rS_impl_Fun)] rfl ?_
 refine oRs ?_
 refine xFd rfl ?_
 refine xLd rfl ?_
 refine xC0 h (big_laws_toFunS ·) rfl (fun c6_1 h => ?_)
 refine xFd rfl ?_
 refine xSt rfl ?_
 refine oRs ?_
 refine xLd rfl ?_
 refine xSt rfl ?_
 refine oNl ?_
 refine cRt ?_
 cases h
 exact eR rfl rfl rfl rfl
abbrev B_impl_inRange (p : Int → Int → Int → Option (Bool)) : Prop := ∀ {t0_0 t1_0 t2_0 : Int} {r : Bool}, p t0_0 t1_0 t2_0 = some r → Big Try.prog τ An (.fn 75 [.one (.c (.int .i64 t0_0)), .one (.c (.int .i64 t1_0)), .one (.c (.int .i64 t2_0))] [] (.one (.c (.bool r))) none [] none)
def p_impl_inRange (n : Nat) (t0_0 : Int) (t1_0 : Int) (t2_0 : Int) : Option (Bool) :=
  (bif decide (t1_0 ≤ t0_0) then some (decide (t0_0 ≤ t2_0)) else some false).bind fun v6_1 => some v6_1
theorem big_impl_inRange {n : Nat} : B_impl_inRange (p_impl_inRange n) := by
 intro t0_0 t1_0 t2_0 r h
 unfold p_impl_inRange at h
 refine bF Try.func75 rfl rfl ?_
 refine cRs ?_
 refine xAs rfl ?_
 refine oRs ?_
 refine oJn h [(6, 14)] [] (fun v6_1 => (.n, [(6, Bo v6_1)], [])) (fun _ h => ?_) (fun v6_1 h => ?_)
 refine xMv rfl ?_
 refine xMv rfl ?_
 refine xGe rfl ?_
 refine xMv rfl ?_
 refine oIf 10 h rfl (fun q2 h => ?_) (fun q2 h => ?_)
 refine xMv rfl ?_
 refine xMv rfl ?_
 refine xLe rfl ?_
 refine xPk rfl ?_
 refine xAs rfl ?_
 refine oNl ?_
 exact eJ h rfl
 refine wSk rfl ?_
 refine wSk rfl ?_
 refine wSk rfl ?_
 refine xPk rfl ?_
 refine xAs rfl ?_
 refine oNl ?_
 exact eJ h rfl
 refine cRt ?_
 cases h
 exact eR rfl rfl rfl rfl
abbrev B_impl_isSmall (p : Int → Option (Bool)) : Prop := ∀ {t0_0 : Int} {r : Bool}, p t0_0 = some r → Big Try.prog τ An (.fn 236 [.one (.c (.int .u8 t0_0))] [] (.one (.c (.bool r))) none [] none)
def p_impl_isSmall (n : Nat) (t0_0 : Int) : Option (Bool) :=
  (bif decide ((97 : Int) ≤ t0_0) then some (decide (t0_0 ≤ (122 : Int))) else some false).bind fun v2_1 => some v2_1
theorem big_impl_isSmall {n : Nat} : B_impl_isSmall (p_impl_isSmall n) := by
 intro t0_0 r h
 unfold p_impl_isSmall at h
 refine bF Try.func236 rfl rfl ?_
 refine cRs ?_
 refine xAs rfl ?_
 refine oRs ?_
 refine oJn h [(2, 8)] [] (fun v2_1 => (.n, [(2, Bo v2_1)], [])) (fun _ h => ?_) (fun v2_1 h => ?_)
 refine xMv rfl ?_
 refine xGe rfl ?_
 refine xMv rfl ?_
 refine oIf 5 h rfl (fun q2 h => ?_) (fun q2 h => ?_)
 refine xMv rfl ?_
 refine xLe rfl ?_
 refine xPk rfl ?_
 refine xAs rfl ?_
 refine oNl ?_
 exact eJ h rfl
 refine wSk rfl ?_
 refine wSk rfl ?_
 refine xPk rfl ?_
 refine xAs rfl ?_
 refine oNl ?_
 exact eJ h rfl
 refine cRt ?_
 cases h
 exact eR rfl rfl rfl rfl
abbrev B_impl_isFigure (p : Int → Option (Bool)) : Prop := ∀ {t0_0 : Int} {r : Bool}, p t0_0 = some r → Big Try.prog τ An (.fn 237 [.one (.c (.int .u8 t0_0))] [] (.one (.c (.bool r))) none [] none)
def p_impl_isFigure (n : Nat) (t0_0 : Int) : Option (Bool) :=
  (bif decide ((48 : Int) ≤ t0_0) then some (decide (t0_0 ≤ (57 : Int))) else some false).bind fun v2_1 => some v2_1
theorem big_impl_isFigure {n : Nat} : B_impl_isFigure (p_impl_isFigure n) := by
 intro t0_0 r h
 unfold p_impl_isFigure at h
 refine bF Try.func237 rfl rfl ?_
 refine cRs ?_
 refine xAs rfl ?_
 refine oRs ?_
 refine oJn h [(2, 8)] [] (fun v2_1 => (.n, [(2, Bo v2_1)], [])) (fun _ h => ?_) (fun v2_1 h => ?_)
 refine xMv rfl ?_
 refine xGe rfl ?_
 refine xMv rfl ?_
 refine oIf 5 h rfl (fun q2 h => ?_) (fun q2 h => ?_)
 refine xMv rfl ?_
 refine xLe rfl ?_
 refine xPk rfl ?_
 refine xAs rfl ?_
 refine oNl ?_
 exact eJ h rfl
 refine wSk rfl ?_
 refine wSk rfl ?_
 refine xPk rfl ?_
 refine xAs rfl ?_
 refine oNl ?_
 exact eJ h rfl
 refine cRt ?_
 cases h
 exact eR rfl rfl rfl rfl
abbrev B_impl_isLarge (p : Int → Option (Bool)) : Prop := ∀ {t0_0 : Int} {r : Bool}, p t0_0 = some r → Big Try.prog τ An (.fn 258 [.one (.c (.int .u8 t0_0))] [] (.one (.c (.bool r))) none [] none)
def p_impl_isLarge (n : Nat) (t0_0 : Int) : Option (Bool) :=
  (bif decide ((65 : Int) ≤ t0_0) then bif decide (t0_0 ≤ (90 : Int)) then some true else some (decide (t0_0 = (95 : Int))) else some (decide (t0_0 = (95 : Int)))).bind fun v2_1 => some v2_1
theorem big_impl_isLarge {n : Nat} : B_impl_isLarge (p_impl_isLarge n) := by
 intro t0_0 r h
 unfold p_impl_isLarge at h
 refine bF Try.func258 rfl rfl ?_
 refine cRs ?_
 refine xAs rfl ?_
 refine oRs ?_
 refine oJn h [(2, 12)] [] (fun v2_1 => (.n, [(2, Bo v2_1)], [])) (fun _ h => ?_) (fun v2_1 h => ?_)
 refine xMv rfl ?_
 refine xGe rfl ?_
 refine xMv rfl ?_
 refine oIf 5 h rfl (fun q2 h => ?_) (fun q2 h => ?_)
 refine xMv rfl ?_
 refine xLe rfl ?_
 refine xPk rfl ?_
 refine xMv rfl ?_
 refine oIf 9 h rfl (fun q3 h => ?_) (fun q3 h => ?_)
 refine wSk rfl ?_
 refine wSk rfl ?_
 refine xPk rfl ?_
 refine xAs rfl ?_
 refine oNl ?_
 exact eJ h rfl
 refine xMv rfl ?_
 refine xEq rfl ?_
 refine xPk rfl ?_
 refine xAs rfl ?_
 refine oNl ?_
 exact eJ h rfl
 refine wSk rfl ?_
 refine wSk rfl ?_
 refine xPk rfl ?_
 refine xMv rfl ?_
 refine xMv rfl ?_
 refine xEq rfl ?_
 refine xPk rfl ?_
 refine xAs rfl ?_
 refine oNl ?_
 exact eJ h rfl
 refine cRt ?_
 cases h
 exact eR rfl rfl rfl rfl
abbrev B_impl_isWordByte (p : Int → Option (Bool)) : Prop := ∀ {t0_0 : Int} {r : Bool}, p t0_0 = some r → Big Try.prog τ An (.fn 257 [.one (.c (.int .u8 t0_0))] [] (.one (.c (.bool r))) none [] none)
def p_impl_isWordByte (n : Nat) (t0_0 : Int) : Option (Bool) :=
  ((p_impl_isSmall n t0_0).bind fun c4_2 => bif c4_2 then some true else (p_impl_isLarge n t0_0).bind fun c7_4 => bif c7_4 then some true else (p_impl_isFigure n t0_0).bind fun c11_6 => some c11_6).bind fun v2_1 => some v2_1
theorem big_impl_isWordByte {n : Nat} : B_impl_isWordByte (p_impl_isWordByte n) := by
 intro t0_0 r h
 unfold p_impl_isWordByte at h
 refine bF Try.func257 rfl rfl ?_
 refine cRs ?_
 refine xAs rfl ?_
 refine oRs ?_
 refine oJn h [(2, 12)] [] (fun v2_1 => (.n, [(2, Bo v2_1)], [])) (fun _ h => ?_) (fun v2_1 h => ?_)
 refine xMv rfl ?_
 refine xC0 h (big_impl_isSmall ·) rfl (fun c4_2 h => ?_)
 refine xMv rfl ?_
 refine oIf 5 h rfl (fun q3 h => ?_) (fun q3 h => ?_)
 refine wSk rfl ?_
 refine wSk rfl ?_
 refine xPk rfl ?_
 refine xMv rfl ?_
 refine wSk rfl ?_
 refine wSk rfl ?_
 refine xPk rfl ?_
 refine xAs rfl ?_
 refine oNl ?_
 exact eJ h rfl
 refine xMv rfl ?_
 refine xC0 h (big_impl_isLarge ·) rfl (fun c7_4 h => ?_)
 refine xPk rfl ?_
 refine xMv rfl ?_
 refine oIf 9 h rfl (fun q5 h => ?_) (fun q5 h => ?_)
 refine wSk rfl ?_
 refine wSk rfl ?_
 refine xPk rfl ?_
 refine xAs rfl ?_
 refine oNl ?_
 exact eJ h rfl
 refine xMv rfl ?_
 refine xC0 h (big_impl_isFigure ·) rfl (fun c11_6 h => ?_)
 refine xPk rfl ?_
 refine xAs rfl ?_
 refine oNl ?_
 exact eJ h rfl
 refine cRt ?_
 cases h
 exact eR rfl rfl rfl rfl
abbrev B_impl_varOk (p : (List UInt8) → Option (Bool)) : Prop := ∀ {t0_0 : List UInt8} {r : Bool}, p t0_0 = some r → Big Try.prog τ An (.fn 227 [.one (.c (.str t0_0))] [] (.one (.c (.bool r))) none [] none)
def p_impl_varOk_b1 (n : Nat) (t0_0 : List UInt8) : (Int) → Option ((Int) ⊕ ((Bool) ⊕ (Int × Bool)))
  | v3_1 => bif decide (v3_1 < (t0_0.length : Int)) then (ixs t0_0 v3_1).bind fun e12_6 => (p_impl_isWordByte n e12_6).bind fun c13_7 => bif !c13_7 then some (.inr (.inl false)) else some (.inl (IntKind.wrap .i64 (v3_1 + (1 : Int)))) else some (.inr (.inr (v3_1, false)))
def p_impl_varOk (n : Nat) (t0_0 : List UInt8) : Option (Bool) :=
  (loopN (p_impl_varOk_b1 n t0_0) n (0 : Int)).bind fun q => (match q with | .inl v2_2 => some v2_2 | .inr (v3_3, v7_4) => ((p_impl_inRange n (t0_0.length : Int) (1 : Int) (20 : Int)).bind fun c17_10 => bif c17_10 then (ixs t0_0 (0 : Int)).bind fun e20_12 => (p_impl_isLarge n e20_12).bind fun c21_13 => some c21_13 else some false).bind fun v2_9 => some v2_9)
theorem big_impl_varOk {n : Nat} : B_impl_varOk (p_impl_varOk n) := by
 intro t0_0 r h
 unfold p_impl_varOk at h
 refine bF Try.func227 rfl rfl ?_
 refine cRs ?_
 refine xAs rfl ?_
 refine oNl ?_
 refine cSq ?_
 refine cRs ?_
 refine xAs rfl ?_
 refine oNl ?_
 refine cLp h [(2, 14)] [] (fun v3_1 => ([(3, I64 v3_1)], [])) (fun q => match q with | .inl v2_2 => (.r, [(2, Bo v2_2)], []) | .inr (v3_3, v7_4) => (.e 0, [(3, I64 v3_3), (7, Bo v7_4)], [])) rfl (fun v3_1 _ h => ?_) (fun q h => ?_)
 unfold p_impl_varOk_b1 at h
 refine cSq ?_
 refine cRs ?_
 refine xMv rfl ?_
 refine xMv rfl ?_
 refine xLs rfl ?_
 refine xLt rfl ?_
 refine oNl ?_
 refine cIf h rfl (fun q5 h => ?_) (fun q5 h => ?_)
 refine cSk ?_
 refine cSq ?_
 refine cBk ?_
 refine cRs ?_
 refine xMv rfl ?_
 refine xMv rfl ?_
 refine wIxs h rfl rfl rfl rfl rfl (fun e12_6 h => ?_)
 refine xC0 h (big_impl_isWordByte ·) rfl (fun c13_7 h => ?_)
 refine xNot rfl ?_
 refine oNl ?_
 refine cIf h rfl (fun q8 h => ?_) (fun q8 h => ?_)
 refine cRs ?_
 refine xAs rfl ?_
 refine oNl ?_
 refine cRt ?_
 exact eXr h rfl
 refine cSk ?_
 refine cRg ?_
 refine xMv rfl ?_
 refine xAdd rfl ?_
 refine xAs rfl ?_
 refine oNl ?_
 exact eL h rfl
 refine cEx ?_
 exact eX h rfl
 rcases q with v2_2 | ⟨v3_3, v7_4⟩
 cases h
 exact eR rfl rfl rfl rfl
 refine cRs ?_
 refine oJn h [(2, 2), (15, 22)] [] (fun v2_9 => (.n, [(2, Bo v2_9)], [])) (fun _ h => ?_) (fun v2_9 h => ?_)
 refine xMv rfl ?_
 refine xLs rfl ?_
 refine xC0 h (big_impl_inRange ·) rfl (fun c17_10 h => ?_)
 refine xMv rfl ?_
 refine oIf 18 h rfl (fun q11 h => ?_) (fun q11 h => ?_)
 refine xMv rfl ?_
 refine wIxs h rfl rfl rfl rfl rfl (fun e20_12 h => ?_)
 refine xC0 h (big_impl_isLarge ·) rfl (fun c21_13 h => ?_)
 refine xPk rfl ?_
 refine xAs rfl ?_
 refine oNl ?_
 exact eJ h rfl
 refine wSk rfl ?_
 refine wSk rfl ?_
 refine wSk rfl ?_
 refine xPk rfl ?_
 refine xAs rfl ?_
 refine oNl ?_
 exact eJ h rfl
 refine cRt ?_
 cases h
 exact eR rfl rfl rfl rfl
abbrev B_impl_AtomOk (p : (List UInt8) → Option (Bool)) : Prop := ∀ {t0_0 : List UInt8} {r : Bool}, p t0_0 = some r → Big Try.prog τ An (.fn 196 [.one (.c (.str t0_0))] [] (.one (.c (.bool r))) none [] none)
def p_impl_AtomOk_b1 (n : Nat) (t0_0 : List UInt8) : (Int) → Option ((Int) ⊕ ((Bool) ⊕ (Int × Bool)))
  | v3_1 => bif decide (v3_1 < (t0_0.length : Int)) then ((ixs t0_0 v3_1).bind fun e12_7 => (p_impl_isSmall n e12_7).bind fun c13_8 => bif !c13_8 then bif decide (v3_1 = (0 : Int)) then some true else (ixs t0_0 v3_1).bind fun e21_11 => (p_impl_isFigure n e21_11).bind fun c22_12 => bif !c22_12 then (ixs t0_0 v3_1).bind fun e27_14 => some (!decide (e27_14 = (95 : Int))) else some false else some false).bind fun v31_6 => bif v31_6 then some (.inr (.inl false)) else some (.inl (IntKind.wrap .i64 (v3_1 + (1 : Int)))) else some (.inr (.inr (v3_1, false)))
def p_impl_AtomOk (n : Nat) (t0_0 : List UInt8) : Option (Bool) :=
  (loopN (p_impl_AtomOk_b1 n t0_0) n (0 : Int)).bind fun q => (match q with | .inl v2_2 => some v2_2 | .inr (v3_3, v7_4) => (p_impl_inRange n (t0_0.length : Int) (1 : Int) (20 : Int)).bind fun c34_16 => some c34_16)
theorem big_impl_AtomOk {n : Nat} : B_impl_AtomOk (p_impl_AtomOk n) := by
 intro t0_0 r h
 unfold p_impl_AtomOk at h
 refine bF Try.func196 rfl rfl ?_
 refine cRs ?_
 refine xAs rfl ?_
 refine oNl ?_
 refine cSq ?_
 refine cRs ?_
 refine xAs rfl ?_
 refine oNl ?_
 refine cLp h [(2, 31)] [] (fun v3_1 => ([(3, I64 v3_1)], [])) (fun q => match q with | .inl v2_2 => (.r, [(2, Bo v2_2)], []) | .inr (v3_3, v7_4) => (.e 0, [(3, I64 v3_3), (7, Bo v7_4)], [])) rfl (fun v3_1 _ h => ?_) (fun q h => ?_)
 unfold p_impl_AtomOk_b1 at h
 refine cSq ?_
 refine cRs ?_
 refine xMv rfl ?_
 refine xMv rfl ?_
 refine xLs rfl ?_
 refine xLt rfl ?_
 refine oNl ?_
 refine cIf h rfl (fun q5 h => ?_) (fun q5 h => ?_)
 refine cSk ?_
 refine cSq ?_
 refine cBk ?_
 refine cRs ?_
 refine oJn h [(10, 31)] [] (fun v31_6 => (.n, [(31, Bo v31_6)], [])) (fun _ h => ?_) (fun v31_6 h => ?_)
 refine xMv rfl ?_
 refine xMv rfl ?_
 refine wIxs h rfl rfl rfl rfl rfl (fun e12_7 h => ?_)
 refine xC0 h (big_impl_isSmall ·) rfl (fun c13_8 h => ?_)
 refine xNot rfl ?_
 refine xMv rfl ?_
 refine oIf 15 h rfl (fun q9 h => ?_) (fun q9 h => ?_)
 refine xMv rfl ?_
 refine xEq rfl ?_
 refine xMv rfl ?_
 refine oIf 18 h rfl (fun q10 h => ?_) (fun q10 h => ?_)
 refine wSk rfl ?_
 refine wSk rfl ?_
 refine wSk rfl ?_
 refine wSk rfl ?_
 refine wSk rfl ?_
 refine wSk rfl ?_
 refine wSk rfl ?_
 refine wSk rfl ?_
 refine wSk rfl ?_
 refine wSk rfl ?_
 refine wSk rfl ?_
 refine xPk rfl ?_
 refine xPk rfl ?_
 refine oNl ?_
 exact eJ h rfl
 refine xMv rfl ?_
 refine xMv rfl ?_
 refine wIxs h rfl rfl rfl rfl rfl (fun e21_11 h => ?_)
 refine xC0 h (big_impl_isFigure ·) rfl (fun c22_12 h => ?_)
 refine xNot rfl ?_
 refine xMv rfl ?_
 refine oIf 24 h rfl (fun q13 h => ?_) (fun q13 h => ?_)
 refine xMv rfl ?_
 refine xMv rfl ?_
 refine wIxs h rfl rfl rfl rfl rfl (fun e27_14 h => ?_)
 refine xNe rfl ?_
 refine xPk rfl ?_
 refine xPk rfl ?_
 refine xPk rfl ?_
 refine oNl ?_
 exact eJ h rfl
 refine wSk rfl ?_
 refine wSk rfl ?_
 refine wSk rfl ?_
 refine wSk rfl ?_
 refine xPk rfl ?_
 refine xPk rfl ?_
 refine xPk rfl ?_
 refine oNl ?_
 exact eJ h rfl
 refine wSk rfl ?_
 refine wSk rfl ?_
 refine wSk rfl ?_
 refine wSk rfl ?_
 refine wSk rfl ?_
 refine wSk rfl ?_
 refine wSk rfl ?_
 refine wSk rfl ?_
 refine wSk rfl ?_
 refine wSk rfl ?_
 refine wSk rfl ?_
 refine wSk rfl ?_
 refine wSk rfl ?_
 refine wSk rfl ?_
 refine wSk rfl ?_
 refine xPk rfl ?_
 refine oNl ?_
 exact eJ h rfl
 refine cIf h rfl (fun q15 h => ?_) (fun q15 h => ?_)
 refine cRs ?_
 refine xAs rfl ?_
 refine oNl ?_
 refine cRt ?_
 exact eXr h rfl
 refine cSk ?_
 refine cRg ?_
 refine xMv rfl ?_
 refine xAdd rfl ?_
 refine xAs rfl ?_
 refine oNl ?_
 exact eL h rfl
 refine cEx ?_
 exact eX h rfl
 rcases q with v2_2 | ⟨v3_3, v7_4⟩
 cases h
 exact eR rfl rfl rfl rfl
 refine cRs ?_
 refine xMv rfl ?_
 refine xLs rfl ?_
 refine xC0 h (big_impl_inRange ·) rfl (fun c34_16 h => ?_)
 refine xAs rfl ?_
 refine oNl ?_
 refine cRt ?_
 cases h
 exact eR rfl rfl rfl rfl
abbrev B_impl_xAtomOk (p : (List UInt8) → Option (Bool)) : Prop := ∀ {t0_0 : List UInt8} {r : Bool}, p t0_0 = some r → Big Try.prog τ An (.fn 228 [.one (.c (.str t0_0))] [] (.one (.c (.bool r))) none [] none)
def p_impl_xAtomOk (n : Nat) (t0_0 : List UInt8) : Option (Bool) :=
  ((p_impl_AtomOk n t0_0).bind fun c4_2 => bif c4_2 then bif !decide (t0_0 = ([99, 97, 115, 101] : List UInt8)) then bif !decide (t0_0 = ([111, 102] : List UInt8)) then some (!decide (t0_0 = ([101, 110, 100] : List UInt8))) else some false else some false else some false).bind fun v2_1 => some v2_1
theorem big_impl_xAtomOk {n : Nat} : B_impl_xAtomOk (p_impl_xAtomOk n) := by
 intro t0_0 r h
 unfold p_impl_xAtomOk at h
 refine bF Try.func228 rfl rfl ?_
 refine cRs ?_
 refine xAs rfl ?_
 refine oRs ?_
 refine oJn h [(2, 16)] [] (fun v2_1 => (.n, [(2, Bo v2_1)], [])) (fun _ h => ?_) (fun v2_1 h => ?_)
 refine xMv rfl ?_
 refine xC0 h (big_impl_AtomOk ·) rfl (fun c4_2 h => ?_)
 refine xMv rfl ?_
 refine oIf 5 h rfl (fun q3 h => ?_) (fun q3 h => ?_)
 refine xMv rfl ?_
 refine xNs rfl ?_
 refine xPk rfl ?_
 refine xMv rfl ?_
 refine oIf 9 h rfl (fun q4 h => ?_) (fun q4 h => ?_)
 refine xMv rfl ?_
 refine xNs rfl ?_
 refine xPk rfl ?_
 refine xMv rfl ?_
 refine oIf 13 h rfl (fun q5 h => ?_) (fun q5 h => ?_)
 refine xMv rfl ?_
 refine xNs rfl ?_
 refine xPk rfl ?_
 refine xAs rfl ?_
 refine oNl ?_
 exact eJ h rfl
 refine wSk rfl ?_
 refine wSk rfl ?_
 refine xPk rfl ?_
 refine xAs rfl ?_
 refine oNl ?_
 exact eJ h rfl
 refine wSk rfl ?_
 refine wSk rfl ?_
 refine xPk rfl ?_
 refine xMv rfl ?_
 refine wSk rfl ?_
 refine wSk rfl ?_
 refine xPk rfl ?_
 refine xAs rfl ?_
 refine oNl ?_
 exact eJ h rfl
 refine wSk rfl ?_
 refine wSk rfl ?_
 refine xPk rfl ?_
 refine xMv rfl ?_
 refine wSk rfl ?_
 refine wSk rfl ?_
 refine xPk rfl ?_
 refine xMv rfl ?_
 refine wSk rfl ?_
 refine wSk rfl ?_
 refine xPk rfl ?_
 refine xAs rfl ?_
 refine oNl ?_
 exact eJ h rfl
 refine cRt ?_
 cases h
 exact eR rfl rfl rfl rfl
abbrev B_slices_Index_cf0e (p : (List (List UInt8)) → (List UInt8) → Option (Int)) : Prop := ∀ {t0_0 : List (List UInt8)} {t1_0 : List UInt8} {r : Int}, p t0_0 t1_0 = some r → Big Try.prog τ An (.fn 156 [.one (.c (.sl (t0_0.map rStr))), .one (.c (.str t1_0))] [] (.one (.c (.int .i64 r))) none [] none)
def p_slices_Index_cf0e_b1 (n : Nat) (t0_0 : List (List UInt8)) (t1_0 : List UInt8) : (Int) → Option ((Int) ⊕ ((Int) ⊕ (Int × Bool)))
  | v8_1 => bif decide (v8_1 < (t0_0.length : Int)) then (ix t0_0 v8_1).bind fun e14_6 => bif decide (t1_0 = e14_6) then some (.inr (.inl v8_1)) else some (.inl (IntKind.wrap .i64 (v8_1 + (1 : Int)))) else some (.inr (.inr (v8_1, false)))
def p_slices_Index_cf0e (n : Nat) (t0_0 : List (List UInt8)) (t1_0 : List UInt8) : Option (Int) :=
  (loopN (p_slices_Index_cf0e_b1 n t0_0 t1_0) n (0 : Int)).bind fun q => (match q with | .inl v4_2 => some v4_2 | .inr (v8_3, v9_4) => some ((-1) : Int))
theorem big_slices_Index_cf0e {n : Nat} : B_slices_Index_cf0e (p_slices_Index_cf0e n) := by
 intro t0_0 t1_0 r h
 unfold p_slices_Index_cf0e at h
 refine bF Try.func156 rfl rfl ?_
 refine cRs ?_
 refine xAs rfl ?_
 refine oNl ?_
 refine cSq ?_
 refine cRs ?_
 refine xMv rfl ?_
 refine xLn rfl ?_
 refine xMv rfl ?_
 refine oNl ?_
 refine cLp h [(4, 5), (8, 18)] [] (fun v8_1 => ([(8, I64 v8_1)], [])) (fun q => match q with | .inl v4_2 => (.r, [(4, I64 v4_2)], []) | .inr (v8_3, v9_4) => (.e 0, [(8, I64 v8_3), (9, Bo v9_4)], [])) rfl (fun v8_1 _ h => ?_) (fun q h => ?_)
 unfold p_slices_Index_cf0e_b1 at h
 refine cRs ?_
 refine xLt rfl ?_
 refine oNl ?_
 refine cSq ?_
 refine cIf h rfl (fun q5 h => ?_) (fun q5 h => ?_)
 refine cSk ?_
 refine cSq ?_
 refine cBk ?_
 refine cRs ?_
 refine xMv rfl ?_
 refine xAs rfl ?_
 refine oRs ?_
 refine xMv rfl ?_
 refine xMv rfl ?_
 refine xMv rfl ?_
 refine xIx h rStr_eq rfl (fun e14_6 h => ?_)
 refine xLd rfl ?_
 refine xEs rfl ?_
 refine oNl ?_
 refine cIf h rfl (fun q7 h => ?_) (fun q7 h => ?_)
 refine cRs ?_
 refine xMv rfl ?_
 refine xAs rfl ?_
 refine oNl ?_
 refine cRt ?_
 exact eXr h rfl
 refine cSk ?_
 refine cRg ?_
 refine xAdd rfl ?_
 refine xMv rfl ?_
 refine oNl ?_
 exact eL h rfl
 refine cEx ?_
 exact eX h rfl
 rcases q with v4_2 | ⟨v8_3, v9_4⟩
 cases h
 exact eR rfl rfl rfl rfl
 refine cRs ?_
 refine xAs rfl ?_
 refine oNl ?_
 refine cRt ?_
 cases h
 exact eR rfl rfl rfl rfl
abbrev B_slices_Contains_35c2 (p : (List (List UInt8)) → (List UInt8) → Option (Bool)) : Prop := ∀ {t0_0 : List (List UInt8)} {t1_0 : List UInt8} {r : Bool}, p t0_0 t1_0 = some r → Big Try.prog τ An (.fn 77 [.one (.c (.sl (t0_0.map rStr))), .one (.c (.str t1_0))] [] (.one (.c (.bool r))) none [] none)
def p_slices_Contains_35c2 (n : Nat) (t0_0 : List (List UInt8)) (t1_0 : List UInt8) : Option (Bool) :=
  (p_slices_Index_cf0e n t0_0 t1_0).bind fun c7_1 => some (decide ((0 : Int) ≤ c7_1))
theorem big_slices_Contains_35c2 {n : Nat} : B_slices_Contains_35c2 (p_slices_Contains_35c2 n) := by
 intro t0_0 t1_0 r h
 unfold p_slices_Contains_35c2 at h
 refine bF Try.func77 rfl rfl ?_
 refine cRs ?_
 refine xAs rfl ?_
 refine oRs ?_
 refine xMv rfl ?_
 refine xMv rfl ?_
 refine xC0 h (big_slices_Index_cf0e ·) rfl (fun c7_1 h => ?_)
 refine xGe rfl ?_
 refine xAs rfl ?_
 refine oNl ?_
 refine cRt ?_
 cases h
 exact eR rfl rfl rfl rfl
abbrev B_impl_isOp (p : (List UInt8) → Option (Bool)) : Prop := ∀ {t0_0 : List UInt8} {r : Bool}, p t0_0 = some r → Big Try.prog τ An (.fn 261 [.one (.c (.str t0_0))] [] (.one (.c (.bool r))) none [] none)
def p_impl_isOp (n : Nat) (t0_0 : List UInt8) : Option (Bool) :=
  bif decide (t0_0 = ([43] : List UInt8)) then some true else bif decide (t0_0 = ([45] : List UInt8)) then some true else bif decide (t0_0 = ([42] : List UInt8)) then some true else bif decide (t0_0 = ([61, 61] : List UInt8)) then some true else bif decide (t0_0 = ([60] : List UInt8)) then some true else some false
theorem big_impl_isOp {n : Nat} : B_impl_isOp (p_impl_isOp n) := by
 intro t0_0 r h
 unfold p_impl_isOp at h
 refine bF Try.func261 rfl rfl ?_
 refine cRs ?_
 refine xAs rfl ?_
 refine oNl ?_
 refine cSq ?_
 refine cRs ?_
 refine xMv rfl ?_
 refine oNl ?_
 refine cBk ?_
 refine cSq ?_
 refine cRs ?_
 refine xEs rfl ?_
 refine xAs rfl ?_
 refine oNl ?_
 refine cIf h rfl (fun q1 h => ?_) (fun q1 h => ?_)
 refine cSk ?_
 refine cT rfl ?_
 refine cRs ?_
 refine xAs rfl ?_
 refine oNl ?_
 refine cRt ?_
 cases h
 exact eR rfl rfl rfl rfl
 refine cRs ?_
 refine xEs rfl ?_
 refine xAs rfl ?_
 refine oNl ?_
 refine cIf h rfl (fun q2 h => ?_) (fun q2 h => ?_)
 refine cSk ?_
 refine cT rfl ?_
 refine cRs ?_
 refine xAs rfl ?_
 refine oNl ?_
 refine cRt ?_
 cases h
 exact eR rfl rfl rfl rfl
 refine cRs ?_
 refine xEs rfl ?_
 refine xAs rfl ?_
 refine oNl ?_
 refine cIf h rfl (fun q3 h => ?_) (fun q3 h => ?_)
 refine cSk ?_
 refine cT rfl ?_
 refine cRs ?_
 refine xAs rfl ?_
 refine oNl ?_
 refine cRt ?_
 cases h
 exact eR rfl rfl rfl rfl
 refine cRs ?_
 refine xEs rfl ?_
 refine xAs rfl ?_
 refine oNl ?_
 refine cIf h rfl (fun q4 h => ?_) (fun q4 h => ?_)
 refine cSk ?_
 refine cT rfl ?_
 refine cRs ?_
 refine xAs rfl ?_
 refine oNl ?_
 refine cRt ?_
 cases h
 exact eR rfl rfl rfl rfl
 refine cRg ?_
 refine xEs rfl ?_
 refine xAs rfl ?_
 refine oNl ?_
 refine cIf h rfl (fun q5 h => ?_) (fun q5 h => ?_)
 refine cRs ?_
 refine xAs rfl ?_
 refine oNl ?_
 refine cRt ?_
 cases h
 exact eR rfl rfl rfl rfl
 refine cSk ?_
 refine cRs ?_
 refine xAs rfl ?_
 refine oNl ?_
 refine cRt ?_
 cases h
 exact eR rfl rfl rfl rfl
abbrev B_impl_shapeOk (p : Int → Int → (List UInt8) → Int → Option (Bool)) : Prop := ∀ {t0_0 t1_0 : Int} {t2_0 : List UInt8} {t3_0 : Int} {r : Bool}, p t0_0 t1_0 t2_0 t3_0 = some r → Big Try.prog τ An (.fn 234 [.one (.c (.int .i64 t0_0)), .one (.c (.int .i64 t1_0)), .one (.c (.str t2_0)), .one (.c (.int .i64 t3_0))] [] (.one (.c (.bool r))) none [] none)
def p_impl_shapeOk (n : Nat) (t0_0 : Int) (t1_0 : Int) (t2_0 : List UInt8) (t3_0 : Int) : Option (Bool) :=
  bif decide (t0_0 = (1 : Int)) then ((p_impl_inRange n t1_0 (0 : Int) (1000000000000 : Int)).bind fun c13_3 => bif c13_3 then bif decide (t2_0 = ([] : List UInt8)) then some (decide (t3_0 = (0 : Int))) else some false else some false).bind fun v8_2 => some v8_2 else bif decide (t0_0 = (2 : Int)) then (bif decide (t1_0 = (0 : Int)) then (p_impl_xAtomOk n t2_0).bind fun c28_9 => bif c28_9 then some (decide (t3_0 = (0 : Int))) else some false else some false).bind fun v8_7 => some v8_7 else bif decide (t0_0 = (3 : Int)) then (bif decide (t1_0 = (0 : Int)) then (p_impl_varOk n t2_0).bind fun c40_14 => bif c40_14 then some (decide (t3_0 = (0 : Int))) else some false else some false).bind fun v8_12 => some v8_12 else bif decide (t0_0 = (4 : Int)) then (bif decide (t1_0 = (0 : Int)) then bif decide (t2_0 = ([] : List UInt8)) then some (decide (t3_0 ≤ (20 : Int))) else some false else some false).bind fun v8_17 => some v8_17 else bif decide (t0_0 = (5 : Int)) then (bif decide (t1_0 = (0 : Int)) then bif decide (t2_0 = ([] : List UInt8)) then some (decide (t3_0 ≤ (20 : Int))) else some false else some false).bind fun v8_21 => some v8_21 else bif decide (t0_0 = (6 : Int)) then (bif decide (t1_0 = (0 : Int)) then bif decide (t2_0 = ([] : List UInt8)) then (p_impl_inRange n t3_0 (2 : Int) (6 : Int)).bind fun c69_28 => some c69_28 else some false else some false).bind fun v8_25 => some v8_25 else bif decide (t0_0 = (7 : Int)) then (bif decide (t1_0 = (0 : Int)) then (p_impl_isOp n t2_0).bind fun c77_32 => bif c77_32 then some (decide (t3_0 = (2 : Int))) else some false else some false).bind fun v8_30 => some v8_30 else bif decide (t0_0 = (8 : Int)) then (bif decide (t1_0 = (0 : Int)) then (p_impl_xAtomOk n t2_0).bind fun c89_37 => bif c89_37 then some (decide (t3_0 ≤ (4 : Int))) else some false else some false).bind fun v8_35 => some v8_35 else bif decide (t0_0 = (9 : Int)) then (bif decide (t1_0 = (0 : Int)) then bif decide (t2_0 = ([] : List UInt8)) then some (decide (t3_0 = (1 : Int))) else some false else some false).bind fun v8_40 => some v8_40 else some false
theorem big_impl_shapeOk {n : Nat} : B_impl_shapeOk (p_impl_shapeOk n) := by
 intro t0_0 t1_0 t2_0 t3_0 r h
 unfold p_impl_shapeOk at h
 refine bF Try.func234 rfl rfl ?_
 refine cRs ?_
 refine xAs rfl ?_
 refine oNl ?_
 refine cSq ?_
 refine cRs ?_
 refine xMv rfl ?_
 refine oNl ?_
 refine cBk ?_
 refine cRs ?_
 refine xEq rfl ?_
 refine xAs rfl ?_
 refine oNl ?_
 refine cIf h rfl (fun q1 h => ?_) (fun q1 h => ?_)
 refine cRs ?_
 refine oJn h [(8, 8), (12, 21)] [] (fun v8_2 => (.n, [(8, Bo v8_2)], [])) (fun _ h => ?_) (fun v8_2 h => ?_)
 refine xMv rfl ?_
 refine xC0 h (big_impl_inRange ·) rfl (fun c13_3 h => ?_)
 refine xMv rfl ?_
 refine oIf 14 h rfl (fun q4 h => ?_) (fun q4 h => ?_)
 refine xMv rfl ?_
 refine xEs rfl ?_
 refine xPk rfl ?_
 refine xMv rfl ?_
 refine oIf 18 h rfl (fun q5 h => ?_) (fun q5 h => ?_)
 refine xMv rfl ?_
 refine xEq rfl ?_
 refine xPk rfl ?_
 refine xAs rfl ?_
 refine oNl ?_
 exact eJ h rfl
 refine wSk rfl ?_
 refine wSk rfl ?_
 refine xPk rfl ?_
 refine xAs rfl ?_
 refine oNl ?_
 exact eJ h rfl
 refine wSk rfl ?_
 refine wSk rfl ?_
 refine xPk rfl ?_
 refine xMv rfl ?_
 refine wSk rfl ?_
 refine wSk rfl ?_
 refine xPk rfl ?_
 refine xAs rfl ?_
 refine oNl ?_
 exact eJ h rfl
 refine cRt ?_
 cases h
 exact eR rfl rfl rfl rfl
 refine cRs ?_
 refine xEq rfl ?_
 refine xAs rfl ?_
 refine oNl ?_
 refine cIf h rfl (fun q6 h => ?_) (fun q6 h => ?_)
 refine cRs ?_
 refine oJn h [(8, 8), (24, 33)] [] (fun v8_7 => (.n, [(8, Bo v8_7)], [])) (fun _ h => ?_) (fun v8_7 h => ?_)
 refine xMv rfl ?_
 refine xEq rfl ?_
 refine xMv rfl ?_
 refine oIf 26 h rfl (fun q8 h => ?_) (fun q8 h => ?_)
 refine xMv rfl ?_
 refine xC0 h (big_impl_xAtomOk ·) rfl (fun c28_9 h => ?_)
 refine xPk rfl ?_
 refine xMv rfl ?_
 refine oIf 30 h rfl (fun q10 h => ?_) (fun q10 h => ?_)
 refine xMv rfl ?_
 refine xEq rfl ?_
 refine xPk rfl ?_
 refine xAs rfl ?_
 refine oNl ?_
 exact eJ h rfl
 refine wSk rfl ?_
 refine wSk rfl ?_
 refine xPk rfl ?_
 refine xAs rfl ?_
 refine oNl ?_
 exact eJ h rfl
 refine wSk rfl ?_
 refine wSk rfl ?_
 refine xPk rfl ?_
 refine xMv rfl ?_
 refine wSk rfl ?_
 refine wSk rfl ?_
 refine xPk rfl ?_
 refine xAs rfl ?_
 refine oNl ?_
 exact eJ h rfl
 refine cRt ?_
 cases h
 exact eR rfl rfl rfl rfl
 refine cRs ?_
 refine xEq rfl ?_
 refine xAs rfl ?_
 refine oNl ?_
 refine cIf h rfl (fun q11 h => ?_) (fun q11 h => ?_)
 refine cRs ?_
 refine oJn h [(8, 8), (36, 45)] [] (fun v8_12 => (.n, [(8, Bo v8_12)], [])) (fun _ h => ?_) (fun v8_12 h => ?_)
 refine xMv rfl ?_
 refine xEq rfl ?_
 refine xMv rfl ?_
 refine oIf 38 h rfl (fun q13 h => ?_) (fun q13 h => ?_)
 refine xMv rfl ?_
 refine xC0 h (big_impl_varOk ·) rfl (fun c40_14 h => ?_)
 refine xPk rfl ?_
 refine xMv rfl ?_
 refine oIf 42 h rfl (fun q15 h => ?_) (fun q15 h => ?_)
 refine xMv rfl ?_
 refine xEq rfl ?_
 refine xPk rfl ?_
 refine xAs rfl ?_
 refine oNl ?_
 exact eJ h rfl
 refine wSk rfl ?_
 refine wSk rfl ?_
 refine xPk rfl ?_
 refine xAs rfl ?_
 refine oNl ?_
 exact eJ h rfl
 refine wSk rfl ?_
 refine wSk rfl ?_
 refine xPk rfl ?_
 refine xMv rfl ?_
 refine wSk rfl ?_
 refine wSk rfl ?_
 refine xPk rfl ?_
 refine xAs rfl ?_
 refine oNl ?_
 exact eJ h rfl
 refine cRt ?_
 cases h
 exact eR rfl rfl rfl rfl
 refine cSq ?_
 refine cRs ?_
 refine xEq rfl ?_
 refine xAs rfl ?_
 refine oNl ?_
 refine cIf h rfl (fun q16 h => ?_) (fun q16 h => ?_)
 refine cSk ?_
 refine cT rfl ?_
 refine cRs ?_
 refine oJn h [(8, 8), (49, 58)] [] (fun v8_17 => (.n, [(8, Bo v8_17)], [])) (fun _ h => ?_) (fun v8_17 h => ?_)
 refine xMv rfl ?_
 refine xEq rfl ?_
 refine xMv rfl ?_
 refine oIf 51 h rfl (fun q18 h => ?_) (fun q18 h => ?_)
 refine xMv rfl ?_
 refine xEs rfl ?_
 refine xPk rfl ?_
 refine xMv rfl ?_
 refine oIf 55 h rfl (fun q19 h => ?_) (fun q19 h => ?_)
 refine xMv rfl ?_
 refine xLe rfl ?_
 refine xPk rfl ?_
 refine xAs rfl ?_
 refine oNl ?_
 exact eJ h rfl
 refine wSk rfl ?_
 refine wSk rfl ?_
 refine xPk rfl ?_
 refine xAs rfl ?_
 refine oNl ?_
 exact eJ h rfl
 refine wSk rfl ?_
 refine wSk rfl ?_
 refine xPk rfl ?_
 refine xMv rfl ?_
 refine wSk rfl ?_
 refine wSk rfl ?_
 refine xPk rfl ?_
 refine xAs rfl ?_
 refine oNl ?_
 exact eJ h rfl
 refine cRt ?_
 cases h
 exact eR rfl rfl rfl rfl
 refine cRg ?_
 refine xEq rfl ?_
 refine xAs rfl ?_
 refine oNl ?_
 refine cIf h rfl (fun q20 h => ?_) (fun q20 h => ?_)
 refine cRs ?_
 refine oJn h [(8, 8), (49, 58)] [] (fun v8_21 => (.n, [(8, Bo v8_21)], [])) (fun _ h => ?_) (fun v8_21 h => ?_)
 refine xMv rfl ?_
 refine xEq rfl ?_
 refine xMv rfl ?_
 refine oIf 51 h rfl (fun q22 h => ?_) (fun q22 h => ?_)
 refine xMv rfl ?_
 refine xEs rfl ?_
 refine xPk rfl ?_
 refine xMv rfl ?_
 refine oIf 55 h rfl (fun q23 h => ?_) (fun q23 h => ?_)
 refine xMv rfl ?_
 refine xLe rfl ?_
 refine xPk rfl ?_
 refine xAs rfl ?_
 refine oNl ?_
 exact eJ h rfl
 refine wSk rfl ?_
 refine wSk rfl ?_
 refine xPk rfl ?_
 refine xAs rfl ?_
 refine oNl ?_
 exact eJ h rfl
 refine wSk rfl ?_
 refine wSk rfl ?_
 refine xPk rfl ?_
 refine xMv rfl ?_
 refine wSk rfl ?_
 refine wSk rfl ?_
 refine xPk rfl ?_
 refine xAs rfl ?_
 refine oNl ?_
 exact eJ h rfl
 refine cRt ?_
 cases h
 exact eR rfl rfl rfl rfl
 refine cRs ?_
 refine xEq rfl ?_
 refine xAs rfl ?_
 refine oNl ?_
 refine cIf h rfl (fun q24 h => ?_) (fun q24 h => ?_)
 refine cRs ?_
 refine oJn h [(8, 8), (61, 70)] [] (fun v8_25 => (.n, [(8, Bo v8_25)], [])) (fun _ h => ?_) (fun v8_25 h => ?_)
 refine xMv rfl ?_
 refine xEq rfl ?_
 refine xMv rfl ?_
 refine oIf 63 h rfl (fun q26 h => ?_) (fun q26 h => ?_)
 refine xMv rfl ?_
 refine xEs rfl ?_
 refine xPk rfl ?_
 refine xMv rfl ?_
 refine oIf 67 h rfl (fun q27 h => ?_) (fun q27 h => ?_)
 refine xMv rfl ?_
 refine xC0 h (big_impl_inRange ·) rfl (fun c69_28 h => ?_)
 refine xPk rfl ?_
 refine xAs rfl ?_
 refine oNl ?_
 exact eJ h rfl
 refine wSk rfl ?_
 refine wSk rfl ?_
 refine xPk rfl ?_
 refine xAs rfl ?_
 refine oNl ?_
 exact eJ h rfl
 refine wSk rfl ?_
 refine wSk rfl ?_
 refine xPk rfl ?_
 refine xMv rfl ?_
 refine wSk rfl ?_
 refine wSk rfl ?_
 refine xPk rfl ?_
 refine xAs rfl ?_
 refine oNl ?_
 exact eJ h rfl
 refine cRt ?_
 cases h
 exact eR rfl rfl rfl rfl
 refine cRs ?_
 refine xEq rfl ?_
 refine xAs rfl ?_
 refine oNl ?_
 refine cIf h rfl (fun q29 h => ?_) (fun q29 h => ?_)
 refine cRs ?_
 refine oJn h [(8, 8), (73, 82)] [] (fun v8_30 => (.n, [(8, Bo v8_30)], [])) (fun _ h => ?_) (fun v8_30 h => ?_)
 refine xMv rfl ?_
 refine xEq rfl ?_
 refine xMv rfl ?_
 refine oIf 75 h rfl (fun q31 h => ?_) (fun q31 h => ?_)
 refine xMv rfl ?_
 refine xC0 h (big_impl_isOp ·) rfl (fun c77_32 h => ?_)
 refine xPk rfl ?_
 refine xMv rfl ?_
 refine oIf 79 h rfl (fun q33 h => ?_) (fun q33 h => ?_)
 refine xMv rfl ?_
 refine xEq rfl ?_
 refine xPk rfl ?_
 refine xAs rfl ?_
 refine oNl ?_
 exact eJ h rfl
 refine wSk rfl ?_
 refine wSk rfl ?_
 refine xPk rfl ?_
 refine xAs rfl ?_
 refine oNl ?_
 exact eJ h rfl
 refine wSk rfl ?_
 refine wSk rfl ?_
 refine xPk rfl ?_
 refine xMv rfl ?_
 refine wSk rfl ?_
 refine wSk rfl ?_
 refine xPk rfl ?_
 refine xAs rfl ?_
 refine oNl ?_
 exact eJ h rfl
 refine cRt ?_
 cases h
 exact eR rfl rfl rfl rfl
 refine cRs ?_
 refine xEq rfl ?_
 refine xAs rfl ?_
 refine oNl ?_
 refine cIf h rfl (fun q34 h => ?_) (fun q34 h => ?_)
 refine cRs ?_
 refine oJn h [(8, 8), (85, 94)] [] (fun v8_35 => (.n, [(8, Bo v8_35)], [])) (fun _ h => ?_) (fun v8_35 h => ?_)
 refine xMv rfl ?_
 refine xEq rfl ?_
 refine xMv rfl ?_
 refine oIf 87 h rfl (fun q36 h => ?_) (fun q36 h => ?_)
 refine xMv rfl ?_
 refine xC0 h (big_impl_xAtomOk ·) rfl (fun c89_37 h => ?_)
 refine xPk rfl ?_
 refine xMv rfl ?_
 refine oIf 91 h rfl (fun q38 h => ?_) (fun q38 h => ?_)
 refine xMv rfl ?_
 refine xLe rfl ?_
 refine xPk rfl ?_
 refine xAs rfl ?_
 refine oNl ?_
 exact eJ h rfl
 refine wSk rfl ?_
 refine wSk rfl ?_
 refine xPk rfl ?_
 refine xAs rfl ?_
 refine oNl ?_
 exact eJ h rfl
 refine wSk rfl ?_
 refine wSk rfl ?_
 refine xPk rfl ?_
 refine xMv rfl ?_
 refine wSk rfl ?_
 refine wSk rfl ?_
 refine xPk rfl ?_
 refine xAs rfl ?_
 refine oNl ?_
 exact eJ h rfl
 refine cRt ?_
 cases h
 exact eR rfl rfl rfl rfl
 refine cRs ?_
 refine xEq rfl ?_
 refine xAs rfl ?_
 refine oNl ?_
 refine cIf h rfl (fun q39 h => ?_) (fun q39 h => ?_)
 refine cRs ?_
 refine oJn h [(8, 8), (97, 106)] [] (fun v8_40 => (.n, [(8, Bo v8_40)], [])) (fun _ h => ?_) (fun v8_40 h => ?_)
 refine xMv rfl ?_
 refine xEq rfl ?_
 refine xMv rfl ?_
 refine oIf 99 h rfl (fun q41 h => ?_) (fun q41 h => ?_)
 refine xMv rfl ?_
 refine xEs rfl ?_
 refine xPk rfl ?_
 refine xMv rfl ?_
 refine oIf 103 h rfl (fun q42 h => ?_) (fun q42 h => ?_)
 refine xMv rfl ?_
 refine xEq rfl ?_
 refine xPk rfl ?_
 refine xAs rfl ?_
 refine oNl ?_
 exact eJ h rfl
 refine wSk rfl ?_
 refine wSk rfl ?_
 refine xPk rfl ?_
 refine xAs rfl ?_
 refine oNl ?_
 exact eJ h rfl
 refine wSk rfl ?_
 refine wSk rfl ?_
 refine xPk rfl ?_
 refine xMv rfl ?_
 refine wSk rfl ?_
 refine wSk rfl ?_
 refine xPk rfl ?_
 refine xAs rfl ?_
 refine oNl ?_
 exact eJ h rfl
 refine cRt ?_
 cases h
 exact eR rfl rfl rfl rfl
 refine cSk ?_
 refine cRs ?_
 refine xAs rfl ?_
 refine oNl ?_
 refine cRt ?_
 cases h
 exact eR rfl rfl rfl rfl
abbrev Y_impl_judge_pat : Type := Int → Int → (List UInt8) → (List S_impl_Expr) → (List S_impl_Clause) → Int → Int → (List (List UInt8)) → Option (Bool × Int × (List (List UInt8)))
abbrev B_impl_judge_pat (p : Y_impl_judge_pat) : Prop := ∀ {t1_0 t1_1 : Int} {t1_2 : List UInt8} {t1_3 : List S_impl_Expr} {t1_4 : List S_impl_Clause} {t2_0 o0_0 : Int} {o0_1 : List (List UInt8)} {r : Bool × Int × (List (List UInt8))}, p t1_0 t1_1 t1_2 t1_3 t1_4 t2_0 o0_0 o0_1 = some r → Big Try.prog τ An (.fn 192 [.one (.ptr 1000000 0), .one (.ag [.int .i64 t1_0, .int .i64 t1_1, .str t1_2, .sl (t1_3.map rS_impl_Expr), .sl (t1_4.map rS_impl_Clause)]), .one (.c (.int .i64 t2_0))] [[.int .i64 o0_0, .sl (o0_1.map rStr)]] (.one (.c (.bool r.1))) none [[.int .i64 r.2.1, .sl (r.2.2.map rStr)]] none)
def p_impl_judge_pat_b1 (n : Nat) (r_impl_judge_pat : Y_impl_judge_pat) (t2_0 : Int) (t1_3 : List S_impl_Expr) : (Int × Int × (List (List UInt8))) → Option ((Int × Int × (List (List UInt8))) ⊕ ((Bool × Int × (List (List UInt8))) ⊕ (Int × Bool × Int × (List (List UInt8)))))
  | (v78_14, w1000000_15, w1000000_16) => bif decide (v78_14 < (t1_3.length : Int)) then (ix t1_3 v78_14).bind fun e80_25 => (r_impl_judge_pat e80_25.f0 e80_25.f1 e80_25.f2 e80_25.f3 e80_25.f4 (IntKind.wrap .i64 (t2_0 + (1 : Int))) w1000000_15 w1000000_16).bind fun c86_26 => bif !c86_26.1 then some (.inr (.inl (false, c86_26.2.1, c86_26.2.2))) else some (.inl ((IntKind.wrap .i64 (v78_14 + (1 : Int))), c86_26.2.1, c86_26.2.2)) else some (.inr (.inr (v78_14, false, w1000000_15, w1000000_16)))
def p_impl_judge_pat_b2 (n : Nat) (r_impl_judge_pat : Y_impl_judge_pat) (t2_0 : Int) (t1_3 : List S_impl_Expr) : (Int × Int × (List (List UInt8))) → Option ((Int × Int × (List (List UInt8))) ⊕ ((Bool × Int × (List (List UInt8))) ⊕ (Int × Bool × Int × (List (List UInt8)))))
  | (v78_28, w1000000_29, w1000000_30) => bif decide (v78_28 < (t1_3.length : Int)) then (ix t1_3 v78_28).bind fun e80_39 => (r_impl_judge_pat e80_39.f0 e80_39.f1 e80_39.f2 e80_39.f3 e80_39.f4 (IntKind.wrap .i64 (t2_0 + (1 : Int))) w1000000_29 w1000000_30).bind fun c86_40 => bif !c86_40.1 then some (.inr (.inl (false, c86_40.2.1, c86_40.2.2))) else some (.inl ((IntKind.wrap .i64 (v78_28 + (1 : Int))), c86_40.2.1, c86_40.2.2)) else some (.inr (.inr (v78_28, false, w1000000_29, w1000000_30)))
def s_impl_judge_pat (n : Nat) (r_impl_judge_pat : Y_impl_judge_pat) (t1_0 : Int) (t1_1 : Int) (t1_2 : List UInt8) (t1_3 : List S_impl_Expr) (t1_4 : List S_impl_Clause) (t2_0 : Int) (o0_0 : Int) (o0_1 : List (List UInt8)) : Option (Bool × Int × (List (List UInt8))) :=
  (bif decide ((10 : Int) < t2_0) then some true else bif decide ((300 : Int) < (IntKind.wrap .i64 (o0_0 + (1 : Int)))) then some true else bif decide ((6 : Int) < t1_0) then some true else bif decide ((0 : Int) < (t1_4.length : Int)) then some true else (p_impl_shapeOk n t1_0 t1_1 t1_2 (t1_3.length : Int)).bind fun c46_6 => some (!c46_6)).bind fun v48_1 => bif v48_1 then some (false, (IntKind.wrap .i64 (o0_0 + (1 : Int))), o0_1) else (bif decide (t1_0 = (3 : Int)) then some (!decide (t1_2 = ([95] : List UInt8))) else some false).bind fun v56_8 => bif v56_8 then (p_slices_Contains_35c2 n o0_1 t1_2).bind fun c63_11 => bif c63_11 then some (false, (IntKind.wrap .i64 (o0_0 + (1 : Int))), o0_1) else (app2 16 o0_1 ([t1_2] : List (List UInt8))).bind fun v72_13 => (loopN (p_impl_judge_pat_b1 n r_impl_judge_pat t2_0 t1_3) n ((0 : Int), (IntKind.wrap .i64 (o0_0 + (1 : Int))), v72_13)).bind fun q => (match q with | .inl (v6_17, w1000000_18, w1000000_19) => some (v6_17, w1000000_18, w1000000_19) | .inr (v78_20, v79_21, w1000000_22, w1000000_23) => some (true, w1000000_22, w1000000_23)) else (loopN (p_impl_judge_pat_b2 n r_impl_judge_pat t2_0 t1_3) n ((0 : Int), (IntKind.wrap .i64 (o0_0 + (1 : Int))), o0_1)).bind fun q => (match q with | .inl (v6_31, w1000000_32, w1000000_33) => some (v6_31, w1000000_32, w1000000_33) | .inr (v78_34, v79_35, w1000000_36, w1000000_37) => some (true, w1000000_36, w1000000_37))
theorem step_impl_judge_pat {n : Nat} {r_impl_judge_pat : Y_impl_judge_pat} (ih_impl_judge_pat : B_impl_judge_pat r_impl_judge_pat) : B_impl_judge_pat (s_impl_judge_pat n r_impl_judge_pat) := by
 intro t1_0 t1_1 t1_2 t1_3 t1_4 t2_0 o0_0 o0_1 r h
 unfold s_impl_judge_pat at h
 refine bF Try.func192 rfl rfl ?_
 refine cRs ?_
 refine xBx rfl ?_
 refine xAs rfl ?_
 refine oRs ?_
 refine xMv rfl ?_
 refine xNc rfl ?_
 refine xFd rfl ?_
 refine xLd rfl ?_
 refine xAdd rfl ?_
 refine xNc rfl ?_
 refine xFd rfl ?_
 refine xSt rfl ?_
 refine oNl ?_
 refine cSq ?_
 refine cRs ?_
 refine oJn h [(16, 48)] [] (fun v48_1 => (.n, [(48, Bo v48_1)], [])) (fun _ h => ?_) (fun v48_1 h => ?_)
 refine xMv rfl ?_
 refine xGt rfl ?_
 refine xMv rfl ?_
 refine oIf 18 h rfl (fun q2 h => ?_) (fun q2 h => ?_)
 refine wSk rfl ?_
 refine wSk rfl ?_
 refine wSk rfl ?_
 refine wSk rfl ?_
 refine wSk rfl ?_
 refine xPk rfl ?_
 refine xMv rfl ?_
 refine wSk rfl ?_
 refine wSk rfl ?_
 refine wSk rfl ?_
 refine xPk rfl ?_
 refine xMv rfl ?_
 refine wSk rfl ?_
 refine wSk rfl ?_
 refine wSk rfl ?_
 refine wSk rfl ?_
 refine xPk rfl ?_
 refine xMv rfl ?_
 refine wSk rfl ?_
 refine wSk rfl ?_
 refine wSk rfl ?_
 refine wSk rfl ?_
 refine wSk rfl ?_
 refine wSk rfl ?_
 refine wSk rfl ?_
 refine wSk rfl ?_
 refine wSk rfl ?_
 refine wSk rfl ?_
 refine wSk rfl ?_
 refine xPk rfl ?_
 refine oNl ?_
 exact eJ h rfl
 refine xMv rfl ?_
 refine xNc rfl ?_
 refine xFd rfl ?_
 refine xLd rfl ?_
 refine xGt rfl ?_
 refine xPk rfl ?_
 refine xMv rfl ?_
 refine oIf 25 h rfl (fun q3 h => ?_) (fun q3 h => ?_)
 refine wSk rfl ?_
 refine wSk rfl ?_
 refine wSk rfl ?_
 refine xPk rfl ?_
 refine xMv rfl ?_
 refine wSk rfl ?_
 refine wSk rfl ?_
 refine wSk rfl ?_
 refine wSk rfl ?_
 refine xPk rfl ?_
 refine xMv rfl ?_
 refine wSk rfl ?_
 refine wSk rfl ?_
 refine wSk rfl ?_
 refine wSk rfl ?_
 refine wSk rfl ?_
 refine wSk rfl ?_
 refine wSk rfl ?_
 refine wSk rfl ?_
 refine wSk rfl ?_
 refine wSk rfl ?_
 refine wSk rfl ?_
 refine xPk rfl ?_
 refine oNl ?_
 exact eJ h rfl
 refine xFd rfl ?_
 refine xLd rfl ?_
 refine xGt rfl ?_
 refine xPk rfl ?_
 refine xMv rfl ?_
 refine oIf 30 h rfl (fun q4 h => ?_) (fun q4 h => ?_)
 refine wSk rfl ?_
 refine wSk rfl ?_
 refine wSk rfl ?_
 refine wSk rfl ?_
 refine xPk rfl ?_
 refine xMv rfl ?_
 refine wSk rfl ?_
 refine wSk rfl ?_
 refine wSk rfl ?_
 refine wSk rfl ?_
 refine wSk rfl ?_
 refine wSk rfl ?_
 refine wSk rfl ?_
 refine wSk rfl ?_
 refine wSk rfl ?_
 refine wSk rfl ?_
 refine wSk rfl ?_
 refine xPk rfl ?_
 refine oNl ?_
 exact eJ h rfl
 refine xFd rfl ?_
 refine xLd rfl ?_
 refine xLn rfl ?_
 refine xGt rfl ?_
 refine xPk rfl ?_
 refine xMv rfl ?_
 refine oIf 36 h rfl (fun q5 h => ?_) (fun q5 h => ?_)
 refine wSk rfl ?_
 refine wSk rfl ?_
 refine wSk rfl ?_
 refine wSk rfl ?_
 refine wSk rfl ?_
 refine wSk rfl ?_
 refine wSk rfl ?_
 refine wSk rfl ?_
 refine wSk rfl ?_
 refine wSk rfl ?_
 refine wSk rfl ?_
 refine xPk rfl ?_
 refine oNl ?_
 exact eJ h rfl
 refine xFd rfl ?_
 refine xLd rfl ?_
 refine xFd rfl ?_
 refine xLd rfl ?_
 refine xFd rfl ?_
 refine xLd rfl ?_
 refine xFd rfl ?_
 refine xLd rfl ?_
 refine xLn rfl ?_
 refine xC0 h (big_impl_shapeOk ·) rfl (fun c46_6 h => ?_)
 refine xNot rfl ?_
 refine xPk rfl ?_
 refine oNl ?_
 exact eJ h rfl
 refine cIf h rfl (fun q7 h => ?_) (fun q7 h => ?_)
 refine cRs ?_
 refine xAs rfl ?_
 refine oNl ?_
 refine cRt ?_
 cases h
 exact eR rfl rfl rfl rfl
 refine cSk ?_
 refine cSq ?_
 refine cRs ?_
 refine oJn h [(49, 56)] [] (fun v56_8 => (.n, [(56, Bo v56_8)], [])) (fun _ h => ?_) (fun v56_8 h => ?_)
 refine xFd rfl ?_
 refine xLd rfl ?_
 refine xEq rfl ?_
 refine xMv rfl ?_
 refine oIf 52 h rfl (fun q9 h => ?_) (fun q9 h => ?_)
 refine xFd rfl ?_
 refine xLd rfl ?_
 refine xNs rfl ?_
 refine xPk rfl ?_
 refine oNl ?_
 exact eJ h rfl
 refine wSk rfl ?_
 refine wSk rfl ?_
 refine wSk rfl ?_
 refine xPk rfl ?_
 refine oNl ?_
 exact eJ h rfl
 refine cIf h rfl (fun q10 h => ?_) (fun q10 h => ?_)
 refine cSq ?_
 refine cRs ?_
 refine xMv rfl ?_
 refine xNc rfl ?_
 refine xFd rfl ?_
 refine xLd rfl ?_
 refine xFd rfl ?_
 refine xLd rfl ?_
 refine xC0 h (big_slices_Contains_35c2 ·) rfl (fun c63_11 h => ?_)
 refine oNl ?_
 refine cIf h rfl (fun q12 h => ?_) (fun q12 h => ?_)
 refine cRs ?_
 refine xAs rfl ?_
 refine oNl ?_
 refine cRt ?_
 cases h
 exact eR rfl rfl rfl rfl
 refine cSk ?_
 refine cRg ?_
 refine xMv rfl ?_
 refine xMv rfl ?_
 refine xNc rfl ?_
 refine xFd rfl ?_
 refine xLd rfl ?_
 refine xFd rfl ?_
 refine xLd rfl ?_
 refine wLt' (L := ([t1_2] : List (List UInt8))) (f := rStr) rfl rfl rfl rfl rfl rfl rfl ?_
 refine wAp (f := rStr) h rfl rfl rfl rfl rfl rfl rfl rfl rfl (fun _ => rfl) rfl (fun v72_13 h => ?_)
 refine xNc rfl ?_
 refine xFd rfl ?_
 refine xSt rfl ?_
 refine oNl ?_
 refine cSq ?_
 refine cRs ?_
 refine xFd rfl ?_
 refine xLd rfl ?_
 refine xLn rfl ?_
 refine xMv rfl ?_
 refine oNl ?_
 refine cLp h [(6, 6), (8, 8), (78, 88)] [(8, 8), (1000000, 1000000)] (fun (v78_14, w1000000_15, w1000000_16) => ([(78, I64 v78_14)], [(1000000, [.int .i64 w1000000_15, .sl (w1000000_16.map rStr)])])) (fun q => match q with | .inl (v6_17, w1000000_18, w1000000_19) => (.r, [(6, Bo v6_17)], [(1000000, [.int .i64 w1000000_18, .sl (w1000000_19.map rStr)])]) | .inr (v78_20, v79_21, w1000000_22, w1000000_23) => (.e 0, [(78, I64 v78_20), (79, Bo v79_21)], [(1000000, [.int .i64 w1000000_22, .sl (w1000000_23.map rStr)])])) rfl (fun st _ h => ?_) (fun q h => ?_)
 obtain ⟨v78_14, w1000000_15, w1000000_16⟩ := st
 unfold p_impl_judge_pat_b1 at h
 refine cRs ?_
 refine xLt rfl ?_
 refine oNl ?_
 refine cSq ?_
 refine cIf h rfl (fun q24 h => ?_) (fun q24 h => ?_)
 refine cSk ?_
 refine cSq ?_
 refine cBk ?_
 refine cRs ?_
 refine xIx h rS_impl_Expr_eq rfl (fun e80_25 h => ?_)
 refine xLd rfl ?_
 refine xAz [.int .i64 0, .int .i64 0, .str [], .sl ([].map rS_impl_Expr), .sl ([].map rS_impl_Clause)] rfl ?_
 refine xSt rfl ?_
 refine oRs ?_
 refine xMv rfl ?_
 refine xLd rfl ?_
 refine xMv rfl ?_
 refine xAdd rfl ?_
 refine xC1 h (ih_impl_judge_pat ·) rfl (fun c86_26 h => ?_)
 refine xNot rfl ?_
 refine oNl ?_
 refine cIf h rfl (fun q27 h => ?_) (fun q27 h => ?_)
 refine cRs ?_
 refine xAs rfl ?_
 refine oNl ?_
 refine cRt ?_
 exact eXr h rfl
 refine cSk ?_
 refine cRg ?_
 refine xAdd rfl ?_
 refine xMv rfl ?_
 refine oNl ?_
 exact eL h rfl
 refine cEx ?_
 exact eX h rfl
 rcases q with ⟨v6_17, w1000000_18, w1000000_19⟩ | ⟨v78_20, v79_21, w1000000_22, w1000000_23⟩
 cases h
 exact eR rfl rfl rfl rfl
 refine cRs ?_
 refine xAs rfl ?_
 refine oNl ?_
 refine cRt ?_
 cases h
 exact eR rfl rfl rfl rfl
 refine cSk ?_
 refine cSq ?_
 refine cRs ?_
 refine xFd rfl ?_
 refine xLd rfl ?_
 refine xLn rfl ?_
 refine xMv rfl ?_
 refine oNl ?_
 refine cLp h [(6, 6), (8, 8), (78, 88)] [(8, 8), (1000000, 1000000)] (fun (v78_28, w1000000_29, w1000000_30) => ([(78, I64 v78_28)], [(1000000, [.int .i64 w1000000_29, .sl (w1000000_30.map rStr)])])) (fun q => match q with | .inl (v6_31, w1000000_32, w1000000_33) => (.r, [(6, Bo v6_31)], [(1000000, [.int .i64 w1000000_32, .sl (w1000000_33.map rStr)])]) | .inr (v78_34, v79_35, w1000000_36, w1000000_37) => (.e 0, [(78, I64 v78_34), (79, Bo v79_35)], [(1000000, [.int .i64 w1000000_36, .sl (w1000000_37.map rStr)])])) rfl (fun st _ h => ?_) (fun q h => ?_)
 obtain ⟨v78_28, w1000000_29, w1000000_30⟩ := st
 unfold p_impl_judge_pat_b2 at h
 refine cRs ?_
 refine xLt rfl ?_
 refine oNl ?_
 refine cSq ?_
 refine cIf h rfl (fun q38 h => ?_) (fun q38 h => ?_)
 refine cSk ?_
 refine cSq ?_
 refine cBk ?_
 refine cRs ?_
 refine xIx h rS_impl_Expr_eq rfl (fun e80_39 h => ?_)
 refine xLd rfl ?_
 refine xAz [.int .i64 0, .int .i64 0, .str [], .sl ([].map rS_impl_Expr), .sl ([].map rS_impl_Clause)] rfl ?_
 refine xSt rfl ?_
 refine oRs ?_
 refine xMv rfl ?_
 refine xLd rfl ?_
 refine xMv rfl ?_
 refine xAdd rfl ?_
 refine xC1 h (ih_impl_judge_pat ·) rfl (fun c86_40 h => ?_)
 refine xNot rfl ?_
 refine oNl ?_
 refine cIf h rfl (fun q41 h => ?_) (fun q41 h => ?_)
 refine cRs ?_
 refine xAs rfl ?_
 refine oNl ?_
 refine cRt ?_
 exact eXr h rfl
 refine cSk ?_
 refine cRg ?_
 refine xAdd rfl ?_
 refine xMv rfl ?_
 refine oNl ?_
 exact eL h rfl
 refine cEx ?_
 exact eX h rfl
 rcases q with ⟨v6_31, w1000000_32, w1000000_33⟩ | ⟨v78_34, v79_35, w1000000_36, w1000000_37⟩
 cases h
 exact eR rfl rfl rfl rfl
 refine cRs ?_
 refine xAs rfl ?_
 refine oNl ?_
 refine cRt ?_
 cases h
 exact eR rfl rfl rfl rfl
def q_impl_judge_pat : Nat → (Y_impl_judge_pat)
  | 0 => (fun _ _ _ _ _ _ _ _ => none)
  | n + 1 => s_impl_judge_pat n (q_impl_judge_pat n)
def p_impl_judge_pat (n : Nat) : Y_impl_judge_pat := q_impl_judge_pat n
theorem bigs_impl_judge_pat (n : Nat) : B_impl_judge_pat (p_impl_judge_pat n) := by
  induction n with
  | zero => exact (fun h => nomatch h)
  | succ n ih => exact step_impl_judge_pat (n := n) ih
theorem big_impl_judge_pat {n : Nat} : B_impl_judge_pat (p_impl_judge_pat n) := (bigs_impl_judge_pat n)
theorem p_impl_judge_pat_succ (n : Nat) : p_impl_judge_pat (n + 1) = s_impl_judge_pat n (p_impl_judge_pat n) := rfl
abbrev Y_impl_judge_expr : Type := Int → Int → (List UInt8) → (List S_impl_Expr) → (List S_impl_Clause) → Int → Int → (List (List UInt8)) → Option (Bool × Int × (List (List UInt8)))
abbrev B_impl_judge_expr (p : Y_impl_judge_expr) : Prop := ∀ {t1_0 t1_1 : Int} {t1_2 : List UInt8} {t1_3 : List S_impl_Expr} {t1_4 : List S_impl_Clause} {t2_0 o0_0 : Int} {o0_1 : List (List UInt8)} {r : Bool × Int × (List (List UInt8))}, p t1_0 t1_1 t1_2 t1_3 t1_4 t2_0 o0_0 o0_1 = some r → Big Try.prog τ An (.fn 259 [.one (.ptr 1000000 0), .one (.ag [.int .i64 t1_0, .int .i64 t1_1, .str t1_2, .sl (t1_3.map rS_impl_Expr), .sl (t1_4.map rS_impl_Clause)]), .one (.c (.int .i64 t2_0))] [[.int .i64 o0_0, .sl (o0_1.map rStr)]] (.one (.c (.bool r.1))) none [[.int .i64 r.2.1, .sl (r.2.2.map rStr)]] none)
def p_impl_judge_expr_b1 (n : Nat) (r_impl_judge_expr : Y_impl_judge_expr) (t2_0 : Int) (t1_3 : List S_impl_Expr) : (Int × Int × (List (List UInt8))) → Option ((Int × Int × (List (List UInt8))) ⊕ ((Bool × Int × (List (List UInt8))) ⊕ (Int × Bool × Int × (List (List UInt8)))))
  | (v67_11, w1000000_12, w1000000_13) => bif decide (v67_11 < (t1_3.length : Int)) then (ix t1_3 v67_11).bind fun e69_22 => (r_impl_judge_expr e69_22.f0 e69_22.f1 e69_22.f2 e69_22.f3 e69_22.f4 (IntKind.wrap .i64 (t2_0 + (1 : Int))) w1000000_12 w1000000_13).bind fun c75_23 => bif !c75_23.1 then some (.inr (.inl (false, c75_23.2.1, c75_23.2.2))) else some (.inl ((IntKind.wrap .i64 (v67_11 + (1 : Int))), c75_23.2.1, c75_23.2.2)) else some (.inr (.inr (v67_11, false, w1000000_12, w1000000_13)))
def p_impl_judge_expr_b2 (n : Nat) (r_impl_judge_expr : Y_impl_judge_expr) (t2_0 : Int) (t1_4 : List S_impl_Clause) : (Int × Int × (List (List UInt8))) → Option ((Int × Int × (List (List UInt8))) ⊕ ((Bool × Int × (List (List UInt8))) ⊕ (Int × Bool × Int × (List (List UInt8)))))
  | (v81_25, w1000000_26, w1000000_27) => bif decide (v81_25 < (t1_4.length : Int)) then (ix t1_4 v81_25).bind fun e83_36 => ((p_impl_judge_pat n e83_36.f0 e83_36.f1 e83_36.f2 e83_36.f3 e83_36.f4 (IntKind.wrap .i64 (t2_0 + (1 : Int))) w1000000_26 ([] : List (List UInt8))).bind fun c93_40 => bif !c93_40.1 then some (true, c93_40.2.1, c93_40.2.2) else (r_impl_judge_expr e83_36.f5 e83_36.f6 e83_36.f7 e83_36.f8 e83_36.f9 (IntKind.wrap .i64 (t2_0 + (1 : Int))) c93_40.2.1 c93_40.2.2).bind fun c101_42 => some ((!c101_42.1), c101_42.2.1, c101_42.2.2)).bind fun (v103_37, w1000000_38, w1000000_39) => bif v103_37 then some (.inr (.inl (false, w1000000_38, w1000000_39))) else some (.inl ((IntKind.wrap .i64 (v81_25 + (1 : Int))), w1000000_38, w1000000_39)) else some (.inr (.inr (v81_25, false, w1000000_26, w1000000_27)))
def s_impl_judge_expr (n : Nat) (r_impl_judge_expr : Y_impl_judge_expr) (t1_0 : Int) (t1_1 : Int) (t1_2 : List UInt8) (t1_3 : List S_impl_Expr) (t1_4 : List S_impl_Clause) (t2_0 : Int) (o0_0 : Int) (o0_1 : List (List UInt8)) : Option (Bool × Int × (List (List UInt8))) :=
  (bif decide ((10 : Int) < t2_0) then some true else bif decide ((300 : Int) < (IntKind.wrap .i64 (o0_0 + (1 : Int)))) then some true else (p_impl_shapeOk n t1_0 t1_1 t1_2 (t1_3.length : Int)).bind fun c37_4 => bif !c37_4 then some true else bif decide (t1_0 = (3 : Int)) then some (decide (t1_2 = ([95] : List UInt8))) else some false).bind fun v49_1 => bif v49_1 then some (false, (IntKind.wrap .i64 (o0_0 + (1 : Int))), o0_1) else (bif !((decide (t1_0 = (9 : Int))) == (decide ((0 : Int) < (t1_4.length : Int)))) then some true else some (decide ((6 : Int) < (t1_4.length : Int)))).bind fun v63_8 => bif v63_8 then some (false, (IntKind.wrap .i64 (o0_0 + (1 : Int))), o0_1) else (loopN (p_impl_judge_expr_b1 n r_impl_judge_expr t2_0 t1_3) n ((0 : Int), (IntKind.wrap .i64 (o0_0 + (1 : Int))), o0_1)).bind fun q => (match q with | .inl (v6_14, w1000000_15, w1000000_16) => some (v6_14, w1000000_15, w1000000_16) | .inr (v67_17, v68_18, w1000000_19, w1000000_20) => (loopN (p_impl_judge_expr_b2 n r_impl_judge_expr t2_0 t1_4) n ((0 : Int), w1000000_19, w1000000_20)).bind fun q => (match q with | .inl (v6_28, w1000000_29, w1000000_30) => some (v6_28, w1000000_29, w1000000_30) | .inr (v81_31, v82_32, w1000000_33, w1000000_34) => some (true, w1000000_33, w1000000_34)))
theorem step_impl_judge_expr {n : Nat} {r_impl_judge_expr : Y_impl_judge_expr} (ih_impl_judge_expr : B_impl_judge_expr r_impl_judge_expr) : B_impl_judge_expr (s_impl_judge_expr n r_impl_judge_expr) := by
 intro t1_0 t1_1 t1_2 t1_3 t1_4 t2_0 o0_0 o0_1 r h
 unfold s_impl_judge_expr at h
 refine bF Try.func259 rfl rfl ?_
 refine cRs ?_
 refine xBx rfl ?_
 refine xAs rfl ?_
 refine oRs ?_
 refine xMv rfl ?_
 refine xNc rfl ?_
 refine xFd rfl ?_
 refine xLd rfl ?_
 refine xAdd rfl ?_
 refine xNc rfl ?_
 refine xFd rfl ?_
 refine xSt rfl ?_
 refine oNl ?_
 refine cSq ?_
 refine cRs ?_
 refine oJn h [(18, 49)] [] (fun v49_1 => (.n, [(49, Bo v49_1)], [])) (fun _ h => ?_) (fun v49_1 h => ?_)
 refine xMv rfl ?_
 refine xGt rfl ?_
 refine xMv rfl ?_
 refine oIf 20 h rfl (fun q2 h => ?_) (fun q2 h => ?_)
 refine wSk rfl ?_
 refine wSk rfl ?_
 refine wSk rfl ?_
 refine wSk rfl ?_
 refine wSk rfl ?_
 refine xPk rfl ?_
 refine xMv rfl ?_
 refine wSk rfl ?_
 refine wSk rfl ?_
 refine wSk rfl ?_
 refine wSk rfl ?_
 refine wSk rfl ?_
 refine wSk rfl ?_
 refine wSk rfl ?_
 refine wSk rfl ?_
 refine wSk rfl ?_
 refine wSk rfl ?_
 refine wSk rfl ?_
 refine xPk rfl ?_
 refine xMv rfl ?_
 refine wSk rfl ?_
 refine wSk rfl ?_
 refine wSk rfl ?_
 refine wSk rfl ?_
 refine wSk rfl ?_
 refine wSk rfl ?_
 refine wSk rfl ?_
 refine wSk rfl ?_
 refine xPk rfl ?_
 refine oNl ?_
 exact eJ h rfl
 refine xMv rfl ?_
 refine xNc rfl ?_
 refine xFd rfl ?_
 refine xLd rfl ?_
 refine xGt rfl ?_
 refine xPk rfl ?_
 refine xMv rfl ?_
 refine oIf 27 h rfl (fun q3 h => ?_) (fun q3 h => ?_)
 refine wSk rfl ?_
 refine wSk rfl ?_
 refine wSk rfl ?_
 refine wSk rfl ?_
 refine wSk rfl ?_
 refine wSk rfl ?_
 refine wSk rfl ?_
 refine wSk rfl ?_
 refine wSk rfl ?_
 refine wSk rfl ?_
 refine wSk rfl ?_
 refine xPk rfl ?_
 refine xMv rfl ?_
 refine wSk rfl ?_
 refine wSk rfl ?_
 refine wSk rfl ?_
 refine wSk rfl ?_
 refine wSk rfl ?_
 refine wSk rfl ?_
 refine wSk rfl ?_
 refine wSk rfl ?_
 refine xPk rfl ?_
 refine oNl ?_
 exact eJ h rfl
 refine xFd rfl ?_
 refine xLd rfl ?_
 refine xFd rfl ?_
 refine xLd rfl ?_
 refine xFd rfl ?_
 refine xLd rfl ?_
 refine xFd rfl ?_
 refine xLd rfl ?_
 refine xLn rfl ?_
 refine xC0 h (big_impl_shapeOk ·) rfl (fun c37_4 h => ?_)
 refine xNot rfl ?_
 refine xPk rfl ?_
 refine xMv rfl ?_
 refine oIf 40 h rfl (fun q5 h => ?_) (fun q5 h => ?_)
 refine wSk rfl ?_
 refine wSk rfl ?_
 refine wSk rfl ?_
 refine wSk rfl ?_
 refine wSk rfl ?_
 refine wSk rfl ?_
 refine wSk rfl ?_
 refine wSk rfl ?_
 refine xPk rfl ?_
 refine oNl ?_
 exact eJ h rfl
 refine xFd rfl ?_
 refine xLd rfl ?_
 refine xEq rfl ?_
 refine xMv rfl ?_
 refine oIf 44 h rfl (fun q6 h => ?_) (fun q6 h => ?_)
 refine xFd rfl ?_
 refine xLd rfl ?_
 refine xEs rfl ?_
 refine xPk rfl ?_
 refine xPk rfl ?_
 refine oNl ?_
 exact eJ h rfl
 refine wSk rfl ?_
 refine wSk rfl ?_
 refine wSk rfl ?_
 refine xPk rfl ?_
 refine xPk rfl ?_
 refine oNl ?_
 exact eJ h rfl
 refine cIf h rfl (fun q7 h => ?_) (fun q7 h => ?_)
 refine cRs ?_
 refine xAs rfl ?_
 refine oNl ?_
 refine cRt ?_
 cases h
 exact eR rfl rfl rfl rfl
 refine cSk ?_
 refine cSq ?_
 refine cRs ?_
 refine oJn h [(50, 63)] [] (fun v63_8 => (.n, [(63, Bo v63_8)], [])) (fun _ h => ?_) (fun v63_8 h => ?_)
 refine xFd rfl ?_
 refine xLd rfl ?_
 refine xEq rfl ?_
 refine xFd rfl ?_
 refine xLd rfl ?_
 refine xLn rfl ?_
 refine xGt rfl ?_
 refine wBi (.bool (!((decide (t1_0 = (9 : Int))) == (decide ((0 : Int) < (t1_4.length : Int)))))) rfl rfl rfl rfl rfl ?_
 refine xMv rfl ?_
 refine oIf 58 h rfl (fun q9 h => ?_) (fun q9 h => ?_)
 refine wSk rfl ?_
 refine wSk rfl ?_
 refine wSk rfl ?_
 refine wSk rfl ?_
 refine xPk rfl ?_
 refine oNl ?_
 exact eJ h rfl
 refine xFd rfl ?_
 refine xLd rfl ?_
 refine xLn rfl ?_
 refine xGt rfl ?_
 refine xPk rfl ?_
 refine oNl ?_
 exact eJ h rfl
 refine cIf h rfl (fun q10 h => ?_) (fun q10 h => ?_)
 refine cRs ?_
 refine xAs rfl ?_
 refine oNl ?_
 refine cRt ?_
 cases h
 exact eR rfl rfl rfl rfl
 refine cSk ?_
 refine cSq ?_
 refine cRs ?_
 refine xFd rfl ?_
 refine xLd rfl ?_
 refine xLn rfl ?_
 refine xMv rfl ?_
 refine oNl ?_
 refine cLp h [(6, 6), (8, 8), (67, 77)] [(8, 8), (1000000, 1000000)] (fun (v67_11, w1000000_12, w1000000_13) => ([(67, I64 v67_11)], [(1000000, [.int .i64 w1000000_12, .sl (w1000000_13.map rStr)])])) (fun q => match q with | .inl (v6_14, w1000000_15, w1000000_16) => (.r, [(6, Bo v6_14)], [(1000000, [.int .i64 w1000000_15, .sl (w1000000_16.map rStr)])]) | .inr (v67_17, v68_18, w1000000_19, w1000000_20) => (.e 0, [(67, I64 v67_17), (68, Bo v68_18)], [(1000000, [.int .i64 w1000000_19, .sl (w1000000_20.map rStr)])])) rfl (fun st _ h => ?_) (fun q h => ?_)
 obtain ⟨v67_11, w1000000_12, w1000000_13⟩ := st
 unfold p_impl_judge_expr_b1 at h
 refine cRs ?_
 refine xLt rfl ?_
 refine oNl ?_
 refine cSq ?_
 refine cIf h rfl (fun q21 h => ?_) (fun q21 h => ?_)
 refine cSk ?_
 refine cSq ?_
 refine cBk ?_
 refine cRs ?_
 refine xIx h rS_impl_Expr_eq rfl (fun e69_22 h => ?_)
 refine xLd rfl ?_
 refine xAz [.int .i64 0, .int .i64 0, .str [], .sl ([].map rS_impl_Expr), .sl ([].map rS_impl_Clause)] rfl ?_
 refine xSt rfl ?_
 refine oRs ?_
 refine xMv rfl ?_
 refine xLd rfl ?_
 refine xMv rfl ?_
 refine xAdd rfl ?_
 refine xC1 h (ih_impl_judge_expr ·) rfl (fun c75_23 h => ?_)
 refine xNot rfl ?_
 refine oNl ?_
 refine cIf h rfl (fun q24 h => ?_) (fun q24 h => ?_)
 refine cRs ?_
 refine xAs rfl ?_
 refine oNl ?_
 refine cRt ?_
 exact eXr h rfl
 refine cSk ?_
 refine cRg ?_
 refine xAdd rfl ?_
 refine xMv rfl ?_
 refine oNl ?_
 exact eL h rfl
 refine cEx ?_
 exact eX h rfl
 rcases q with ⟨v6_14, w1000000_15, w1000000_16⟩ | ⟨v67_17, v68_18, w1000000_19, w1000000_20⟩
 cases h
 exact eR rfl rfl rfl rfl
 refine cSq ?_
 refine cRs ?_
 refine xFd rfl ?_
 refine xLd rfl ?_
 refine xLn rfl ?_
 refine xMv rfl ?_
 refine oNl ?_
 refine cLp h [(6, 6), (10, 10), (81, 104)] [(10, 10), (1000000, 1000000)] (fun (v81_25, w1000000_26, w1000000_27) => ([(81, I64 v81_25)], [(1000000, [.int .i64 w1000000_26, .sl (w1000000_27.map rStr)])])) (fun q => match q with | .inl (v6_28, w1000000_29, w1000000_30) => (.r, [(6, Bo v6_28)], [(1000000, [.int .i64 w1000000_29, .sl (w1000000_30.map rStr)])]) | .inr (v81_31, v82_32, w1000000_33, w1000000_34) => (.e 2, [(81, I64 v81_31), (82, Bo v82_32)], [(1000000, [.int .i64 w1000000_33, .sl (w1000000_34.map rStr)])])) rfl (fun st _ h => ?_) (fun q h => ?_)
 obtain ⟨v81_25, w1000000_26, w1000000_27⟩ := st
 unfold p_impl_judge_expr_b2 at h
 refine cRs ?_
 refine xLt rfl ?_
 refine oNl ?_
 refine cSq ?_
 refine cIf h rfl (fun q35 h => ?_) (fun q35 h => ?_)
 refine cSk ?_
 refine cSq ?_
 refine cBk ?_
 refine cRs ?_
 refine xIx h rS_impl_Clause_eq rfl (fun e83_36 h => ?_)
 refine xLd rfl ?_
 refine xAz [.int .i64 0, .int .i64 0, .str [], .sl ([].map rS_impl_Expr), .sl ([].map rS_impl_Clause), .int .i64 0, .int .i64 0, .str [], .sl ([].map rS_impl_Expr), .sl ([].map rS_impl_Clause)] rfl ?_
 refine xSt rfl ?_
 refine oRs ?_
 refine xMv rfl ?_
 refine xNc rfl ?_
 refine xFd rfl ?_
 refine xSt rfl ?_
 refine oRs ?_
 refine oJn h [(88, 103)] [(1000000, 1000000)] (fun (v103_37, w1000000_38, w1000000_39) => (.n, [(103, Bo v103_37)], [(1000000, [.int .i64 w1000000_38, .sl (w1000000_39.map rStr)])])) (fun _ h => ?_) (fun q h => ?_)
 refine xMv rfl ?_
 refine xFd rfl ?_
 refine xLd rfl ?_
 refine xMv rfl ?_
 refine xAdd rfl ?_
 refine xC1 h (big_impl_judge_pat ·) rfl (fun c93_40 h => ?_)
 refine xNot rfl ?_
 refine xMv rfl ?_
 refine oIf 95 h rfl (fun q41 h => ?_) (fun q41 h => ?_)
 refine wSk rfl ?_
 refine wSk rfl ?_
 refine wSk rfl ?_
 refine wSk rfl ?_
 refine wSk rfl ?_
 refine wSk rfl ?_
 refine wSk rfl ?_
 refine xPk rfl ?_
 refine oNl ?_
 exact eJ h rfl
 refine xMv rfl ?_
 refine xFd rfl ?_
 refine xLd rfl ?_
 refine xMv rfl ?_
 refine xAdd rfl ?_
 refine xC1 h (ih_impl_judge_expr ·) rfl (fun c101_42 h => ?_)
 refine xNot rfl ?_
 refine xPk rfl ?_
 refine oNl ?_
 exact eJ h rfl
 obtain ⟨v103_37, w1000000_38, w1000000_39⟩ := q
 refine cIf h rfl (fun q43 h => ?_) (fun q43 h => ?_)
 refine cRs ?_
 refine xAs rfl ?_
 refine oNl ?_
 refine cRt ?_
 exact eXr h rfl
 refine cSk ?_
 refine cRg ?_
 refine xAdd rfl ?_
 refine xMv rfl ?_
 refine oNl ?_
 exact eL h rfl
 refine cEx ?_
 exact eX h rfl
 rcases q with ⟨v6_28, w1000000_29, w1000000_30⟩ | ⟨v81_31, v82_32, w1000000_33, w1000000_34⟩
 cases h
 exact eR rfl rfl rfl rfl
 refine cRs ?_
 refine xAs rfl ?_
 refine oNl ?_
 refine cRt ?_
 cases h
 exact eR rfl rfl rfl rfl
def q_impl_judge_expr : Nat → (Y_impl_judge_expr)
  | 0 => (fun _ _ _ _ _ _ _ _ => none)
  | n + 1 => s_impl_judge_expr n (q_impl_judge_expr n)
def p_impl_judge_expr (n : Nat) : Y_impl_judge_expr := q_impl_judge_expr n
theorem bigs_impl_judge_expr (n : Nat) : B_impl_judge_expr (p_impl_judge_expr n) := by
  induction n with
  | zero => exact (fun h => nomatch h)
  | succ n ih => exact step_impl_judge_expr (n := n) ih
theorem big_impl_judge_expr {n : Nat} : B_impl_judge_expr (p_impl_judge_expr n) := (bigs_impl_judge_expr n)
theorem p_impl_judge_expr_succ (n : Nat) : p_impl_judge_expr (n + 1) = s_impl_judge_expr n (p_impl_judge_expr n) := rfl
abbrev B_impl_ExprOk (p : Int → Int → (List UInt8) → (List S_impl_Expr) → (List S_impl_Clause) → Option (Bool)) : Prop := ∀ {t0_0 t0_1 : Int} {t0_2 : List UInt8} {t0_3 : List S_impl_Expr} {t0_4 : List S_impl_Clause} {r : Bool}, p t0_0 t0_1 t0_2 t0_3 t0_4 = some r → Big Try.prog τ An (.fn 229 [.one (.ag [.int .i64 t0_0, .int .i64 t0_1, .str t0_2, .sl (t0_3.map rS_impl_Expr), .sl (t0_4.map rS_impl_Clause)])] [] (.one (.c (.bool r))) none [] none)
def p_impl_ExprOk (n : Nat) (t0_0 : Int) (t0_1 : Int) (t0_2 : List UInt8) (t0_3 : List S_impl_Expr) (t0_4 : List S_impl_Clause) : Option (Bool) :=
  (p_impl_judge_expr n t0_0 t0_1 t0_2 t0_3 t0_4 (1 : Int) (0 : Int) ([] : List (List UInt8))).bind fun c5_1 => some c5_1.1
theorem big_impl_ExprOk {n : Nat} : B_impl_ExprOk (p_impl_ExprOk n) := by
 intro t0_0 t0_1 t0_2 t0_3 t0_4 r h
 unfold p_impl_ExprOk at h
 refine bF Try.func229 rfl rfl ?_
 refine cRs ?_
 refine xBx rfl ?_
 refine xAs rfl ?_
 refine oRs ?_
 refine xAz [.int .i64 0, .sl ([].map rStr)] rfl ?_
 refine oRs ?_
 refine xLd rfl ?_
 refine xC1 h (big_impl_judge_expr ·) rfl (fun c5_1 h => ?_)
 refine xAs rfl ?_
 refine oNl ?_
 refine cRt ?_
 cases h
 exact eR rfl rfl rfl rfl
abbrev B_impl_funOk (p : (List UInt8) → (List (List UInt8)) → Int → Int → (List UInt8) → (List S_impl_Expr) → (List S_impl_Clause) → Option (Bool)) : Prop := ∀ {t0_0 : List UInt8} {t0_1 : List (List UInt8)} {t0_2 t0_3 : Int} {t0_4 : List UInt8} {t0_5 : List S_impl_Expr} {t0_6 : List S_impl_Clause} {r : Bool}, p t0_0 t0_1 t0_2 t0_3 t0_4 t0_5 t0_6 = some r → Big Try.prog τ An (.fn 174 [.one (.ag [.str t0_0, .sl (t0_1.map rStr), .int .i64 t0_2, .int .i64 t0_3, .str t0_4, .sl (t0_5.map rS_impl_Expr), .sl (t0_6.map rS_impl_Clause)])] [] (.one (.c (.bool r))) none [] none)
def p_impl_funOk_b1 (n : Nat) (t0_1 : List (List UInt8)) : (Int) → Option ((Int) ⊕ ((Bool) ⊕ (Int × Bool)))
  | v8_1 => bif decide (v8_1 < (t0_1.length : Int)) then (ix t0_1 v8_1).bind fun e10_6 => ((p_impl_varOk n e10_6).bind fun c13_8 => bif !c13_8 then some true else some (decide (e10_6 = ([95] : List UInt8)))).bind fun v18_7 => bif v18_7 then some (.inr (.inl false)) else some (.inl (IntKind.wrap .i64 (v8_1 + (1 : Int)))) else some (.inr (.inr (v8_1, false)))
def p_impl_funOk (n : Nat) (t0_0 : List UInt8) (t0_1 : List (List UInt8)) (t0_2 : Int) (t0_3 : Int) (t0_4 : List UInt8) (t0_5 : List S_impl_Expr) (t0_6 : List S_impl_Clause) : Option (Bool) :=
  (loopN (p_impl_funOk_b1 n t0_1) n (0 : Int)).bind fun q => (match q with | .inl v2_2 => some v2_2 | .inr (v8_3, v9_4) => ((p_impl_xAtomOk n t0_0).bind fun c22_12 => bif c22_12 then bif decide ((t0_1.length : Int) ≤ (4 : Int)) then (p_impl_ExprOk n t0_2 t0_3 t0_4 t0_5 t0_6).bind fun c32_15 => some c32_15 else some false else some false).bind fun v2_11 => some v2_11)
theorem big_impl_funOk {n : Nat} : B_impl_funOk (p_impl_funOk n) := by
 intro t0_0 t0_1 t0_2 t0_3 t0_4 t0_5 t0_6 r h
 unfold p_impl_funOk at h
 refine bF Try.func174 rfl rfl ?_
 refine cRs ?_
 refine xBx rfl ?_
 refine xAs rfl ?_
 refine oNl ?_
 refine cSq ?_
 refine cRs ?_
 refine xFd rfl ?_
 refine xLd rfl ?_
 refine xLn rfl ?_
 refine xMv rfl ?_
 refine oNl ?_
 refine cLp h [(2, 2), (4, 4), (8, 19)] [] (fun v8_1 => ([(8, I64 v8_1)], [])) (fun q => match q with | .inl v2_2 => (.r, [(2, Bo v2_2)], []) | .inr (v8_3, v9_4) => (.e 0, [(8, I64 v8_3), (9, Bo v9_4)], [])) rfl (fun v8_1 _ h => ?_) (fun q h => ?_)
 unfold p_impl_funOk_b1 at h
 refine cRs ?_
 refine xLt rfl ?_
 refine oNl ?_
 refine cSq ?_
 refine cIf h rfl (fun q5 h => ?_) (fun q5 h => ?_)
 refine cSk ?_
 refine cSq ?_
 refine cBk ?_
 refine cRs ?_
 refine xIx h rStr_eq rfl (fun e10_6 h => ?_)
 refine xLd rfl ?_
 refine xAs rfl ?_
 refine oRs ?_
 refine oJn h [(12, 18)] [] (fun v18_7 => (.n, [(18, Bo v18_7)], [])) (fun _ h => ?_) (fun v18_7 h => ?_)
 refine xMv rfl ?_
 refine xC0 h (big_impl_varOk ·) rfl (fun c13_8 h => ?_)
 refine xNot rfl ?_
 refine xMv rfl ?_
 refine oIf 15 h rfl (fun q9 h => ?_) (fun q9 h => ?_)
 refine wSk rfl ?_
 refine wSk rfl ?_
 refine xPk rfl ?_
 refine oNl ?_
 exact eJ h rfl
 refine xMv rfl ?_
 refine xEs rfl ?_
 refine xPk rfl ?_
 refine oNl ?_
 exact eJ h rfl
 refine cIf h rfl (fun q10 h => ?_) (fun q10 h => ?_)
 refine cRs ?_
 refine xAs rfl ?_
 refine oNl ?_
 refine cRt ?_
 exact eXr h rfl
 refine cSk ?_
 refine cRg ?_
 refine xAdd rfl ?_
 refine xMv rfl ?_
 refine oNl ?_
 exact eL h rfl
 refine cEx ?_
 exact eX h rfl
 rcases q with v2_2 | ⟨v8_3, v9_4⟩
 cases h
 exact eR rfl rfl rfl rfl
 refine cRs ?_
 refine oJn h [(2, 2), (20, 33)] [] (fun v2_11 => (.n, [(2, Bo v2_11)], [])) (fun _ h => ?_) (fun v2_11 h => ?_)
 refine xFd rfl ?_
 refine xLd rfl ?_
 refine xC0 h (big_impl_xAtomOk ·) rfl (fun c22_12 h => ?_)
 refine xMv rfl ?_
 refine oIf 23 h rfl (fun q13 h => ?_) (fun q13 h => ?_)
 refine xFd rfl ?_
 refine xLd rfl ?_
 refine xLn rfl ?_
 refine xLe rfl ?_
 refine xPk rfl ?_
 refine xMv rfl ?_
 refine oIf 29 h rfl (fun q14 h => ?_) (fun q14 h => ?_)
 refine xFd rfl ?_
 refine xLd rfl ?_
 refine xC0 h (big_impl_ExprOk ·) rfl (fun c32_15 h => ?_)
 refine xPk rfl ?_
 refine xAs rfl ?_
 refine oNl ?_
 exact eJ h rfl
 refine wSk rfl ?_
 refine wSk rfl ?_
 refine wSk rfl ?_
 refine xPk rfl ?_
 refine xAs rfl ?_
 refine oNl ?_
 exact eJ h rfl
 refine wSk rfl ?_
 refine wSk rfl ?_
 refine wSk rfl ?_
 refine wSk rfl ?_
 refine xPk rfl ?_
 refine xMv rfl ?_
 refine wSk rfl ?_
 refine wSk rfl ?_
 refine wSk rfl ?_
 refine xPk rfl ?_
 refine xAs rfl ?_
 refine oNl ?_
 exact eJ h rfl
 refine cRt ?_
 cases h
 exact eR rfl rfl rfl rfl
abbrev B_impl_canWrite (p : (List S_impl_Fun) → Option (Bool)) : Prop := ∀ {t0_0 : List S_impl_Fun} {r : Bool}, p t0_0 = some r → Big Try.prog τ An (.fn 100 [.one (.ag [.sl (t0_0.map rS_impl_Fun)])] [] (.one (.c (.bool r))) none [] none)
def p_impl_canWrite_b1 (n : Nat) (t0_0 : List S_impl_Fun) : (Int) → Option ((Int) ⊕ ((Bool) ⊕ (Int × Bool)))
  | v8_1 => bif decide (v8_1 < (t0_0.length : Int)) then (ix t0_0 v8_1).bind fun e10_6 => (p_impl_funOk n e10_6.f0 e10_6.f1 e10_6.f2 e10_6.f3 e10_6.f4 e10_6.f5 e10_6.f6).bind fun c13_7 => bif !c13_7 then some (.inr (.inl false)) else some (.inl (IntKind.wrap .i64 (v8_1 + (1 : Int)))) else some (.inr (.inr (v8_1, false)))
def p_impl_canWrite (n : Nat) (t0_0 : List S_impl_Fun) : Option (Bool) :=
  (loopN (p_impl_canWrite_b1 n t0_0) n (0 : Int)).bind fun q => (match q with | .inl v2_2 => some v2_2 | .inr (v8_3, v9_4) => some (decide ((t0_0.length : Int) ≤ (12 : Int))))
theorem big_impl_canWrite {n : Nat} : B_impl_canWrite (p_impl_canWrite n) := by
 intro t0_0 r h
 unfold p_impl_canWrite at h
 refine bF Try.func100 rfl rfl ?_
 refine cRs ?_
 refine xBx rfl ?_
 refine xAs rfl ?_
 refine oNl ?_
 refine cSq ?_
 refine cRs ?_
 refine xFd rfl ?_
 refine xLd rfl ?_
 refine xLn rfl ?_
 refine xMv rfl ?_
 refine oNl ?_
 refine cLp h [(2, 2), (4, 4), (8, 15)] [(4, 4)] (fun v8_1 => ([(8, I64 v8_1)], [])) (fun q => match q with | .inl v2_2 => (.r, [(2, Bo v2_2)], []) | .inr (v8_3, v9_4) => (.e 0, [(8, I64 v8_3), (9, Bo v9_4)], [])) rfl (fun v8_1 _ h => ?_) (fun q h => ?_)
 unfold p_impl_canWrite_b1 at h
 refine cRs ?_
 refine xLt rfl ?_
 refine oNl ?_
 refine cSq ?_
 refine cIf h rfl (fun q5 h => ?_) (fun q5 h => ?_)
 refine cSk ?_
 refine cSq ?_
 refine cBk ?_
 refine cRs ?_
 refine xIx h rS_impl_Fun_eq rfl (fun e10_6 h => ?_)
 refine xLd rfl ?_
 refine xAz [.str [], .sl ([].map rStr), .int .i64 0, .int .i64 0, .str [], .sl ([].map rS_impl_Expr), .sl ([].map rS_impl_Clause)] rfl ?_
 refine xSt rfl ?_
 refine oRs ?_
 refine xLd rfl ?_
 refine xC0 h (big_impl_funOk ·) rfl (fun c13_7 h => ?_)
 refine xNot rfl ?_
 refine oNl ?_
 refine cIf h rfl (fun q8 h => ?_) (fun q8 h => ?_)
 refine cRs ?_
 refine xAs rfl ?_
 refine oNl ?_
 refine cRt ?_
 exact eXr h rfl
 refine cSk ?_
 refine cRg ?_
 refine xAdd rfl ?_
 refine xMv rfl ?_
 refine oNl ?_
 exact eL h rfl
 refine cEx ?_
 exact eX h rfl
 rcases q with v2_2 | ⟨v8_3, v9_4⟩
 cases h
 exact eR rfl rfl rfl rfl
 refine cRs ?_
 refine xFd rfl ?_
 refine xLd rfl ?_
 refine xLn rfl ?_
 refine xLe rfl ?_
 refine xAs rfl ?_
 refine oNl ?_
 refine cRt ?_
 cases h
 exact eR rfl rfl rfl rfl
abbrev B_impl_FunAt_1 (p : (List UInt8) → (List (List UInt8)) → Int → Int → (List UInt8) → (List S_impl_Expr) → (List S_impl_Clause) → (List UInt8) → Option (Bool × (List UInt8))) : Prop := ∀ {t0_0 : List UInt8} {t0_1 : List (List UInt8)} {t0_2 t0_3 : Int} {t0_4 : List UInt8} {t0_5 : List S_impl_Expr} {t0_6 : List S_impl_Clause} {o0_0 : List UInt8} {r : Bool × (List UInt8)}, p t0_0 t0_1 t0_2 t0_3 t0_4 t0_5 t0_6 o0_0 = some r → Big Try.prog τ An (.fn 176 [.one (.ag [.str t0_0, .sl (t0_1.map rStr), .int .i64 t0_2, .int .i64 t0_3, .str t0_4, .sl (t0_5.map rS_impl_Expr), .sl (t0_6.map rS_impl_Clause)]), .one (.ptr 1000000 0)] [[.str o0_0]] (.one (.c (.bool r.1))) none [[.str r.2]] none)
def p_impl_FunAt_1 (n : Nat) (t0_0 : List UInt8) (t0_1 : List (List UInt8)) (t0_2 : Int) (t0_3 : Int) (t0_4 : List UInt8) (t0_5 : List S_impl_Expr) (t0_6 : List S_impl_Clause) (o0_0 : List UInt8) : Option (Bool × (List UInt8)) :=
  some ((decide (t0_0 = o0_0)), o0_0)
theorem big_impl_FunAt_1 {n : Nat} : B_impl_FunAt_1 (p_impl_FunAt_1 n) := by
 intro t0_0 t0_1 t0_2 t0_3 t0_4 t0_5 t0_6 o0_0 r h
 unfold p_impl_FunAt_1 at h
 refine bF Try.func176 rfl rfl ?_
 refine cRs ?_
 refine xBx rfl ?_
 refine xAs rfl ?_
 refine oRs ?_
 refine xFd rfl ?_
 refine xLd rfl ?_
 refine xLd rfl ?_
 refine xEs rfl ?_
 refine xAs rfl ?_
 refine oNl ?_
 refine cRt ?_
 cases h
 exact eR rfl rfl rfl rfl
abbrev B_slices_IndexFunc_4a3f (p : (List S_impl_Fun) → (List UInt8) → Option (Int × (List UInt8))) : Prop := ∀ {t0_0 : List S_impl_Fun} {o0_0 : List UInt8} {r : Int × (List UInt8)}, p t0_0 o0_0 = some r → Big Try.prog τ An (.fn 175 [.one (.c (.sl (t0_0.map rS_impl_Fun))), .one (.fn 176 [(1000000, 0)])] [[.str o0_0]] (.one (.c (.int .i64 r.1))) none [[.str r.2]] none)
def p_slices_IndexFunc_4a3f_b1 (n : Nat) (t0_0 : List S_impl_Fun) : (Int × (List UInt8)) → Option ((Int × (List UInt8)) ⊕ ((Int × (List UInt8)) ⊕ (Int × Bool × (List UInt8))))
  | (v8_1, w1000000_2) => bif decide (v8_1 < (t0_0.length : Int)) then (ix t0_0 v8_1).bind fun e14_9 => (p_impl_FunAt_1 n e14_9.f0 e14_9.f1 e14_9.f2 e14_9.f3 e14_9.f4 e14_9.f5 e14_9.f6 w1000000_2).bind fun c16_10 => bif c16_10.1 then some (.inr (.inl (v8_1, c16_10.2))) else some (.inl ((IntKind.wrap .i64 (v8_1 + (1 : Int))), c16_10.2)) else some (.inr (.inr (v8_1, false, w1000000_2)))
def p_slices_IndexFunc_4a3f (n : Nat) (t0_0 : List S_impl_Fun) (o0_0 : List UInt8) : Option (Int × (List UInt8)) :=
  (loopN (p_slices_IndexFunc_4a3f_b1 n t0_0) n ((0 : Int), o0_0)).bind fun q => (match q with | .inl (v4_3, w1000000_4) => some (v4_3, w1000000_4) | .inr (v8_5, v9_6, w1000000_7) => some (((-1) : Int), w1000000_7))
theorem big_slices_IndexFunc_4a3f {n : Nat} : B_slices_IndexFunc_4a3f (p_slices_IndexFunc_4a3f n) := by
 intro t0_0 o0_0 r h
 unfold p_slices_IndexFunc_4a3f at h
 refine bF Try.func175 rfl rfl ?_
 refine cRs ?_
 refine xAs rfl ?_
 refine oNl ?_
 refine cSq ?_
 refine cRs ?_
 refine xMv rfl ?_
 refine xLn rfl ?_
 refine xMv rfl ?_
 refine oNl ?_
 refine cLp h [(4, 5), (8, 18)] [(1000000, 1000000)] (fun (v8_1, w1000000_2) => ([(8, I64 v8_1)], [(1000000, [.str w1000000_2])])) (fun q => match q with | .inl (v4_3, w1000000_4) => (.r, [(4, I64 v4_3)], [(1000000, [.str w1000000_4])]) | .inr (v8_5, v9_6, w1000000_7) => (.e 0, [(8, I64 v8_5), (9, Bo v9_6)], [(1000000, [.str w1000000_7])])) rfl (fun st _ h => ?_) (fun q h => ?_)
 obtain ⟨v8_1, w1000000_2⟩ := st
 unfold p_slices_IndexFunc_4a3f_b1 at h
 refine cRs ?_
 refine xLt rfl ?_
 refine oNl ?_
 refine cSq ?_
 refine cIf h rfl (fun q8 h => ?_) (fun q8 h => ?_)
 refine cSk ?_
 refine cSq ?_
 refine cBk ?_
 refine cRs ?_
 refine xMv rfl ?_
 refine xAs rfl ?_
 refine oRs ?_
 refine xMv rfl ?_
 refine xMv rfl ?_
 refine xMv rfl ?_
 refine xIx h rS_impl_Fun_eq rfl (fun e14_9 h => ?_)
 refine xLd rfl ?_
 refine xC1 h (big_impl_FunAt_1 ·) rfl (fun c16_10 h => ?_)
 refine oNl ?_
 refine cIf h rfl (fun q11 h => ?_) (fun q11 h => ?_)
 refine cRs ?_
 refine xMv rfl ?_
 refine xAs rfl ?_
 refine oNl ?_
 refine cRt ?_
 exact eXr h rfl
 refine cSk ?_
 refine cRg ?_
 refine xAdd rfl ?_
 refine xMv rfl ?_
 refine oNl ?_
 exact eL h rfl
 refine cEx ?_
 exact eX h rfl
 rcases q with ⟨v4_3, w1000000_4⟩ | ⟨v8_5, v9_6, w1000000_7⟩
 cases h
 exact eR rfl rfl rfl rfl
 refine cRs ?_
 refine xAs rfl ?_
 refine oNl ?_
 refine cRt ?_
 cases h
 exact eR rfl rfl rfl rfl
abbrev B_impl_FunAt (p : (List S_impl_Fun) → (List UInt8) → Option (Int)) : Prop := ∀ {t0_0 : List S_impl_Fun} {t1_0 : List UInt8} {r : Int}, p t0_0 t1_0 = some r → Big Try.prog τ An (.fn 101 [.one (.ag [.sl (t0_0.map rS_impl_Fun)]), .one (.c (.str t1_0))] [] (.one (.c (.int .i64 r))) none [] none)
def p_impl_FunAt (n : Nat) (t0_0 : List S_impl_Fun) (t1_0 : List UInt8) : Option (Int) :=
  (p_slices_IndexFunc_4a3f n t0_0 t1_0).bind fun c8_1 => some c8_1.1
theorem big_impl_FunAt {n : Nat} : B_impl_FunAt (p_impl_FunAt n) := by
 intro t0_0 t1_0 r h
 unfold p_impl_FunAt at h
 refine bF Try.func101 rfl rfl ?_
 refine cRs ?_
 refine xBx rfl ?_
 refine xBx rfl ?_
 refine xAs rfl ?_
 refine oRs ?_
 refine xFd rfl ?_
 refine xLd rfl ?_
 refine wFn rfl rfl rfl ?_
 refine xC1 h (big_slices_IndexFunc_4a3f ·) rfl (fun c8_1 h => ?_)
 refine xAs rfl ?_
 refine oNl ?_
 refine cRt ?_
 cases h
 exact eR rfl rfl rfl rfl
abbrev Y_impl_VarsOf : Type := Int → Int → (List UInt8) → (List S_impl_Expr) → (List S_impl_Clause) → Option ((List (List UInt8)))
abbrev B_impl_VarsOf (p : Y_impl_VarsOf) : Prop := ∀ {t0_0 t0_1 : Int} {t0_2 : List UInt8} {t0_3 : List S_impl_Expr} {t0_4 : List S_impl_Clause} {r : (List (List UInt8))}, p t0_0 t0_1 t0_2 t0_3 t0_4 = some r → Big Try.prog τ An (.fn 59 [.one (.ag [.int .i64 t0_0, .int .i64 t0_1, .str t0_2, .sl (t0_3.map rS_impl_Expr), .sl (t0_4.map rS_impl_Clause)])] [] (.one (.c (.sl (r.map rStr)))) none [] none)
def p_impl_VarsOf_b1 (n : Nat) (r_impl_VarsOf : Y_impl_VarsOf) (t0_3 : List S_impl_Expr) : ((List (List UInt8)) × Int) → Option (((List (List UInt8)) × Int) ⊕ (((List (List UInt8)) × Int × Bool)))
  | (v3_5, v23_6) => bif decide (v23_6 < (t0_3.length : Int)) then (ix t0_3 v23_6).bind fun e25_11 => (r_impl_VarsOf e25_11.f0 e25_11.f1 e25_11.f2 e25_11.f3 e25_11.f4).bind fun c29_12 => (app2 16 v3_5 c29_12).bind fun v30_13 => some (.inl (v30_13, (IntKind.wrap .i64 (v23_6 + (1 : Int))))) else some (.inr (v3_5, v23_6, false))
def s_impl_VarsOf (n : Nat) (r_impl_VarsOf : Y_impl_VarsOf) (t0_0 : Int) (t0_1 : Int) (t0_2 : List UInt8) (t0_3 : List S_impl_Expr) (t0_4 : List S_impl_Clause) : Option ((List (List UInt8))) :=
  (bif decide (t0_0 = (3 : Int)) then some (!decide (t0_2 = ([95] : List UInt8))) else some false).bind fun v13_1 => bif v13_1 then some ([t0_2] : List (List UInt8)) else bif decide (t0_0 = (3 : Int)) then some ([] : List (List UInt8)) else (loopN (p_impl_VarsOf_b1 n r_impl_VarsOf t0_3) n (([] : List (List UInt8)), (0 : Int))).bind fun (v3_7, v23_8, v24_9) => some v3_7
theorem step_impl_VarsOf {n : Nat} {r_impl_VarsOf : Y_impl_VarsOf} (ih_impl_VarsOf : B_impl_VarsOf r_impl_VarsOf) : B_impl_VarsOf (s_impl_VarsOf n r_impl_VarsOf) := by
 intro t0_0 t0_1 t0_2 t0_3 t0_4 r h
 unfold s_impl_VarsOf at h
 refine bF Try.func59 rfl rfl ?_
 refine cRs ?_
 refine xBx rfl ?_
 refine wAe (Li rStr []) rfl rfl rfl rfl ?_
 refine oNl ?_
 refine cSq ?_
 refine cRs ?_
 refine oJn h [(6, 13)] [] (fun v13_1 => (.n, [(13, Bo v13_1)], [])) (fun _ h => ?_) (fun v13_1 h => ?_)
 refine xFd rfl ?_
 refine xLd rfl ?_
 refine xEq rfl ?_
 refine xMv rfl ?_
 refine oIf 9 h rfl (fun q2 h => ?_) (fun q2 h => ?_)
 refine xFd rfl ?_
 refine xLd rfl ?_
 refine xNs rfl ?_
 refine xPk rfl ?_
 refine oNl ?_
 exact eJ h rfl
 refine wSk rfl ?_
 refine wSk rfl ?_
 refine wSk rfl ?_
 refine xPk rfl ?_
 refine oNl ?_
 exact eJ h rfl
 refine cIf h rfl (fun q3 h => ?_) (fun q3 h => ?_)
 refine cRs ?_
 refine xFd rfl ?_
 refine xLd rfl ?_
 refine wLt' (L := ([t0_2] : List (List UInt8))) (f := rStr) rfl rfl rfl rfl rfl rfl rfl ?_
 refine xAs rfl ?_
 refine oNl ?_
 refine cRt ?_
 cases h
 exact eR rfl rfl rfl rfl
 refine cSk ?_
 refine cSq ?_
 refine cRs ?_
 refine xFd rfl ?_
 refine xLd rfl ?_
 refine xEq rfl ?_
 refine oNl ?_
 refine cIf h rfl (fun q4 h => ?_) (fun q4 h => ?_)
 refine cRs ?_
 refine wAe (Li rStr []) rfl rfl rfl rfl ?_
 refine oNl ?_
 refine cRt ?_
 cases h
 exact eR rfl rfl rfl rfl
 refine cSk ?_
 refine cRs ?_
 refine wAe (Li rStr []) rfl rfl rfl rfl ?_
 refine oNl ?_
 refine cSq ?_
 refine cRs ?_
 refine xFd rfl ?_
 refine xLd rfl ?_
 refine xLn rfl ?_
 refine xMv rfl ?_
 refine oNl ?_
 refine cLp h [(3, 3), (5, 5), (23, 31)] [(5, 5)] (fun (v3_5, v23_6) => ([(3, Li rStr v3_5), (23, I64 v23_6)], [])) (fun (v3_7, v23_8, v24_9) => (.e 0, [(3, Li rStr v3_7), (23, I64 v23_8), (24, Bo v24_9)], [])) rfl (fun st _ h => ?_) (fun q h => ?_)
 obtain ⟨v3_5, v23_6⟩ := st
 unfold p_impl_VarsOf_b1 at h
 refine cRs ?_
 refine xLt rfl ?_
 refine oNl ?_
 refine cSq ?_
 refine cIf h rfl (fun q10 h => ?_) (fun q10 h => ?_)
 refine cSk ?_
 refine cSq ?_
 refine cBk ?_
 refine cRs ?_
 refine xIx h rS_impl_Expr_eq rfl (fun e25_11 h => ?_)
 refine xLd rfl ?_
 refine xAz [.int .i64 0, .int .i64 0, .str [], .sl ([].map rS_impl_Expr), .sl ([].map rS_impl_Clause)] rfl ?_
 refine xSt rfl ?_
 refine oNl ?_
 refine cRg ?_
 refine xMv rfl ?_
 refine xLd rfl ?_
 refine xC0 h (ih_impl_VarsOf ·) rfl (fun c29_12 h => ?_)
 refine wAp (f := rStr) h rfl rfl rfl rfl rfl rfl rfl rfl rfl (fun _ => rfl) rfl (fun v30_13 h => ?_)
 refine xAs rfl ?_
 refine oNl ?_
 refine cRg ?_
 refine xAdd rfl ?_
 refine xMv rfl ?_
 refine oNl ?_
 exact eL h rfl
 refine cEx ?_
 exact eX h rfl
 obtain ⟨v3_7, v23_8, v24_9⟩ := q
 refine cRs ?_
 refine xMv rfl ?_
 refine xAs rfl ?_
 refine oNl ?_
 refine cRt ?_
 cases h
 exact eR rfl rfl rfl rfl
def q_impl_VarsOf : Nat → (Y_impl_VarsOf)
  | 0 => (fun _ _ _ _ _ => none)
  | n + 1 => s_impl_VarsOf n (q_impl_VarsOf n)
def p_impl_VarsOf (n : Nat) : Y_impl_VarsOf := q_impl_VarsOf n
theorem bigs_impl_VarsOf (n : Nat) : B_impl_VarsOf (p_impl_VarsOf n) := by
  induction n with
  | zero => exact (fun h => nomatch h)
  | succ n ih => exact step_impl_VarsOf (n := n) ih
theorem big_impl_VarsOf {n : Nat} : B_impl_VarsOf (p_impl_VarsOf n) := (bigs_impl_VarsOf n)
theorem p_impl_VarsOf_succ (n : Nat) : p_impl_VarsOf (n + 1) = s_impl_VarsOf n (p_impl_VarsOf n) := rfl
abbrev B_impl_addOnce (p : (List (List UInt8)) → (List (List UInt8)) → Option ((List (List UInt8)))) : Prop := ∀ {t0_0 t1_0 : List (List UInt8)} {r : (List (List UInt8))}, p t0_0 t1_0 = some r → Big Try.prog τ An (.fn 230 [.one (.c (.sl (t0_0.map rStr))), .one (.c (.sl (t1_0.map rStr)))] [] (.one (.c (.sl (r.map rStr)))) none [] none)
def p_impl_addOnce_b1 (n : Nat) (t1_0 : List (List UInt8)) : ((List (List UInt8)) × Int) → Option (((List (List UInt8)) × Int) ⊕ (((List (List UInt8)) × Int × Bool)))
  | (v0_1, v9_2) => bif decide (v9_2 < (t1_0.length : Int)) then (((ix t1_0 v9_2).bind fun e11_8 => (p_slices_Contains_35c2 n v0_1 e11_8).bind fun c15_9 => bif !c15_9 then (app2 16 v0_1 ([e11_8] : List (List UInt8))).bind fun v20_11 => some v20_11 else some v0_1 : Option (((List (List UInt8)))))).bind fun v0_7 => some (.inl (v0_7, (IntKind.wrap .i64 (v9_2 + (1 : Int))))) else some (.inr (v0_1, v9_2, false))
def p_impl_addOnce (n : Nat) (t0_0 : List (List UInt8)) (t1_0 : List (List UInt8)) : Option ((List (List UInt8))) :=
  (loopN (p_impl_addOnce_b1 n t1_0) n (t0_0, (0 : Int))).bind fun (v0_3, v9_4, v10_5) => some v0_3
theorem big_impl_addOnce {n : Nat} : B_impl_addOnce (p_impl_addOnce n) := by
 intro t0_0 t1_0 r h
 unfold p_impl_addOnce at h
 refine bF Try.func230 rfl rfl ?_
 refine cRs ?_
 refine wAe (Li rStr []) rfl rfl rfl rfl ?_
 refine oNl ?_
 refine cSq ?_
 refine cRs ?_
 refine xMv rfl ?_
 refine xLn rfl ?_
 refine xMv rfl ?_
 refine oNl ?_
 refine cLp h [(0, 0), (6, 6), (9, 21)] [] (fun (v0_1, v9_2) => ([(0, Li rStr v0_1), (9, I64 v9_2)], [])) (fun (v0_3, v9_4, v10_5) => (.e 0, [(0, Li rStr v0_3), (9, I64 v9_4), (10, Bo v10_5)], [])) rfl (fun st _ h => ?_) (fun q h => ?_)
 obtain ⟨v0_1, v9_2⟩ := st
 unfold p_impl_addOnce_b1 at h
 refine cRs ?_
 refine xLt rfl ?_
 refine oNl ?_
 refine cSq ?_
 refine cIf h rfl (fun q6 h => ?_) (fun q6 h => ?_)
 refine cSk ?_
 refine cSq ?_
 refine cJn h [(0, 0), (6, 6), (11, 20)] [] (fun v0_7 => (.n, [(0, Li rStr v0_7)], [])) (fun _ h => ?_) (fun v0_7 h => ?_)
 refine cBk ?_
 refine cRs ?_
 refine xIx h rStr_eq rfl (fun e11_8 h => ?_)
 refine xLd rfl ?_
 refine xAs rfl ?_
 refine oRs ?_
 refine xMv rfl ?_
 refine xMv rfl ?_
 refine xC0 h (big_slices_Contains_35c2 ·) rfl (fun c15_9 h => ?_)
 refine xNot rfl ?_
 refine oNl ?_
 refine cIf h rfl (fun q10 h => ?_) (fun q10 h => ?_)
 refine cRg ?_
 refine xMv rfl ?_
 refine xMv rfl ?_
 refine wLt' (L := ([e11_8] : List (List UInt8))) (f := rStr) rfl rfl rfl rfl rfl rfl rfl ?_
 refine wAp (f := rStr) h rfl rfl rfl rfl rfl rfl rfl rfl rfl (fun _ => rfl) rfl (fun v20_11 h => ?_)
 refine xAs rfl ?_
 refine oNl ?_
 exact eJ h rfl
 refine cSk ?_
 exact eJ h rfl
 refine cRg ?_
 refine xAdd rfl ?_
 refine xMv rfl ?_
 refine oNl ?_
 exact eL h rfl
 refine cEx ?_
 exact eX h rfl
 obtain ⟨v0_3, v9_4, v10_5⟩ := q
 refine cRs ?_
 refine xMv rfl ?_
 refine xAs rfl ?_
 refine oNl ?_
 refine cRt ?_
 cases h
 exact eR rfl rfl rfl rfl
abbrev Y_impl_FreeOf : Type := Int → Int → (List UInt8) → (List S_impl_Expr) → (List S_impl_Clause) → Option ((List (List UInt8)))
abbrev B_impl_FreeOf (p : Y_impl_FreeOf) : Prop := ∀ {t0_0 t0_1 : Int} {t0_2 : List UInt8} {t0_3 : List S_impl_Expr} {t0_4 : List S_impl_Clause} {r : (List (List UInt8))}, p t0_0 t0_1 t0_2 t0_3 t0_4 = some r → Big Try.prog τ An (.fn 177 [.one (.ag [.int .i64 t0_0, .int .i64 t0_1, .str t0_2, .sl (t0_3.map rS_impl_Expr), .sl (t0_4.map rS_impl_Clause)])] [] (.one (.c (.sl (r.map rStr)))) none [] none)
def p_impl_FreeOf_b1 (n : Nat) (r_impl_FreeOf : Y_impl_FreeOf) (t0_3 : List S_impl_Expr) : ((List (List UInt8)) × Int) → Option (((List (List UInt8)) × Int) ⊕ (((List (List UInt8)) × Int × Bool)))
  | (v3_2, v20_3) => bif decide (v20_3 < (t0_3.length : Int)) then (ix t0_3 v20_3).bind fun e22_8 => (r_impl_FreeOf e22_8.f0 e22_8.f1 e22_8.f2 e22_8.f3 e22_8.f4).bind fun c26_9 => (p_impl_addOnce n v3_2 c26_9).bind fun c27_10 => some (.inl (c27_10, (IntKind.wrap .i64 (v20_3 + (1 : Int))))) else some (.inr (v3_2, v20_3, false))
def p_impl_FreeOf_b3 (n : Nat) (c38_18 : (List (List UInt8))) (c41_19 : (List (List UInt8))) : ((List (List UInt8)) × Int) → Option (((List (List UInt8)) × Int) ⊕ (((List (List UInt8)) × Int × Bool)))
  | (v3_20, v43_21) => bif decide (v43_21 < (c41_19.length : Int)) then (((ix c41_19 v43_21).bind fun e45_27 => (p_slices_Contains_35c2 n c38_18 e45_27).bind fun c49_28 => bif !c49_28 then (p_impl_addOnce n v3_20 ([e45_27] : List (List UInt8))).bind fun c54_30 => some c54_30 else some v3_20 : Option (((List (List UInt8)))))).bind fun v3_26 => some (.inl (v3_26, (IntKind.wrap .i64 (v43_21 + (1 : Int))))) else some (.inr (v3_20, v43_21, false))
def p_impl_FreeOf_b2 (n : Nat) (r_impl_FreeOf : Y_impl_FreeOf) (t0_4 : List S_impl_Clause) : ((List (List UInt8)) × Int) → Option (((List (List UInt8)) × Int) ⊕ (((List (List UInt8)) × Int × Bool)))
  | (v3_11, v32_12) => bif decide (v32_12 < (t0_4.length : Int)) then (ix t0_4 v32_12).bind fun e34_17 => (p_impl_VarsOf n e34_17.f0 e34_17.f1 e34_17.f2 e34_17.f3 e34_17.f4).bind fun c38_18 => (r_impl_FreeOf e34_17.f5 e34_17.f6 e34_17.f7 e34_17.f8 e34_17.f9).bind fun c41_19 => (loopN (p_impl_FreeOf_b3 n c38_18 c41_19) n (v3_11, (0 : Int))).bind fun (v3_22, v43_23, v44_24) => some (.inl (v3_22, (IntKind.wrap .i64 (v32_12 + (1 : Int))))) else some (.inr (v3_11, v32_12, false))
def s_impl_FreeOf (n : Nat) (r_impl_FreeOf : Y_impl_FreeOf) (t0_0 : Int) (t0_1 : Int) (t0_2 : List UInt8) (t0_3 : List S_impl_Expr) (t0_4 : List S_impl_Clause) : Option ((List (List UInt8))) :=
  bif decide (t0_0 = (3 : Int)) then some ([t0_2] : List (List UInt8)) else (loopN (p_impl_FreeOf_b1 n r_impl_FreeOf t0_3) n (([] : List (List UInt8)), (0 : Int))).bind fun (v3_4, v20_5, v21_6) => (loopN (p_impl_FreeOf_b2 n r_impl_FreeOf t0_4) n (v3_4, (0 : Int))).bind fun (v3_13, v32_14, v33_15) => some v3_13
theorem step_impl_FreeOf {n : Nat} {r_impl_FreeOf : Y_impl_FreeOf} (ih_impl_FreeOf : B_impl_FreeOf r_impl_FreeOf) : B_impl_FreeOf (s_impl_FreeOf n r_impl_FreeOf) := by
 intro t0_0 t0_1 t0_2 t0_3 t0_4 r h
 unfold s_impl_FreeOf at h
 refine bF Try.func177 rfl rfl ?_
 refine cRs ?_
 refine xBx rfl ?_
 refine wAe (Li rStr []) rfl rfl rfl rfl ?_
 refine oNl ?_
 refine cSq ?_
 refine cRs ?_
 refine xFd rfl ?_
 refine xLd rfl ?_
 refine xEq rfl ?_
 refine oNl ?_
 refine cIf h rfl (fun q1 h => ?_) (fun q1 h => ?_)
 refine cRs ?_
 refine xFd rfl ?_
 refine xLd rfl ?_
 refine wLt' (L := ([t0_2] : List (List UInt8))) (f := rStr) rfl rfl rfl rfl rfl rfl rfl ?_
 refine xAs rfl ?_
 refine oNl ?_
 refine cRt ?_
 cases h
 exact eR rfl rfl rfl rfl
 refine cSk ?_
 refine cRs ?_
 refine wAe (Li rStr []) rfl rfl rfl rfl ?_
 refine oNl ?_
 refine cSq ?_
 refine cRs ?_
 refine xFd rfl ?_
 refine xLd rfl ?_
 refine xLn rfl ?_
 refine xMv rfl ?_
 refine oNl ?_
 refine cLp h [(3, 3), (5, 5), (20, 28)] [(5, 5)] (fun (v3_2, v20_3) => ([(3, Li rStr v3_2), (20, I64 v20_3)], [])) (fun (v3_4, v20_5, v21_6) => (.e 0, [(3, Li rStr v3_4), (20, I64 v20_5), (21, Bo v21_6)], [])) rfl (fun st _ h => ?_) (fun q h => ?_)
 obtain ⟨v3_2, v20_3⟩ := st
 unfold p_impl_FreeOf_b1 at h
 refine cRs ?_
 refine xLt rfl ?_
 refine oNl ?_
 refine cSq ?_
 refine cIf h rfl (fun q7 h => ?_) (fun q7 h => ?_)
 refine cSk ?_
 refine cSq ?_
 refine cBk ?_
 refine cRs ?_
 refine xIx h rS_impl_Expr_eq rfl (fun e22_8 h => ?_)
 refine xLd rfl ?_
 refine xAz [.int .i64 0, .int .i64 0, .str [], .sl ([].map rS_impl_Expr), .sl ([].map rS_impl_Clause)] rfl ?_
 refine xSt rfl ?_
 refine oNl ?_
 refine cRg ?_
 refine xMv rfl ?_
 refine xLd rfl ?_
 refine xC0 h (ih_impl_FreeOf ·) rfl (fun c26_9 h => ?_)
 refine xC0 h (big_impl_addOnce ·) rfl (fun c27_10 h => ?_)
 refine xAs rfl ?_
 refine oNl ?_
 refine cRg ?_
 refine xAdd rfl ?_
 refine xMv rfl ?_
 refine oNl ?_
 exact eL h rfl
 refine cEx ?_
 exact eX h rfl
 obtain ⟨v3_4, v20_5, v21_6⟩ := q
 refine cSq ?_
 refine cRs ?_
 refine xFd rfl ?_
 refine xLd rfl ?_
 refine xLn rfl ?_
 refine xMv rfl ?_
 refine oNl ?_
 refine cLp h [(3, 3), (7, 8), (10, 10), (32, 56)] [(7, 7)] (fun (v3_11, v32_12) => ([(3, Li rStr v3_11), (32, I64 v32_12)], [])) (fun (v3_13, v32_14, v33_15) => (.e 2, [(3, Li rStr v3_13), (32, I64 v32_14), (33, Bo v33_15)], [])) rfl (fun st _ h => ?_) (fun q h => ?_)
 obtain ⟨v3_11, v32_12⟩ := st
 unfold p_impl_FreeOf_b2 at h
 refine cRs ?_
 refine xLt rfl ?_
 refine oNl ?_
 refine cSq ?_
 refine cIf h rfl (fun q16 h => ?_) (fun q16 h => ?_)
 refine cSk ?_
 refine cSq ?_
 refine cBk ?_
 refine cRs ?_
 refine xIx h rS_impl_Clause_eq rfl (fun e34_17 h => ?_)
 refine xLd rfl ?_
 refine xAz [.int .i64 0, .int .i64 0, .str [], .sl ([].map rS_impl_Expr), .sl ([].map rS_impl_Clause), .int .i64 0, .int .i64 0, .str [], .sl ([].map rS_impl_Expr), .sl ([].map rS_impl_Clause)] rfl ?_
 refine xSt rfl ?_
 refine oRs ?_
 refine xFd rfl ?_
 refine xLd rfl ?_
 refine xC0 h (big_impl_VarsOf ·) rfl (fun c38_18 h => ?_)
 refine xAs rfl ?_
 refine oRs ?_
 refine xFd rfl ?_
 refine xLd rfl ?_
 refine xC0 h (ih_impl_FreeOf ·) rfl (fun c41_19 h => ?_)
 refine xLn rfl ?_
 refine xMv rfl ?_
 refine oNl ?_
 refine cLp h [(3, 3), (10, 10), (43, 55)] [] (fun (v3_20, v43_21) => ([(3, Li rStr v3_20), (43, I64 v43_21)], [])) (fun (v3_22, v43_23, v44_24) => (.e 4, [(3, Li rStr v3_22), (43, I64 v43_23), (44, Bo v44_24)], [])) rfl (fun st _ h => ?_) (fun q h => ?_)
 obtain ⟨v3_20, v43_21⟩ := st
 unfold p_impl_FreeOf_b3 at h
 refine cRs ?_
 refine xLt rfl ?_
 refine oNl ?_
 refine cSq ?_
 refine cIf h rfl (fun q25 h => ?_) (fun q25 h => ?_)
 refine cSk ?_
 refine cSq ?_
 refine cJn h [(3, 3), (10, 10), (45, 54)] [] (fun v3_26 => (.n, [(3, Li rStr v3_26)], [])) (fun _ h => ?_) (fun v3_26 h => ?_)
 refine cBk ?_
 refine cRs ?_
 refine xIx h rStr_eq rfl (fun e45_27 h => ?_)
 refine xLd rfl ?_
 refine xAs rfl ?_
 refine oRs ?_
 refine xMv rfl ?_
 refine xMv rfl ?_
 refine xC0 h (big_slices_Contains_35c2 ·) rfl (fun c49_28 h => ?_)
 refine xNot rfl ?_
 refine oNl ?_
 refine cIf h rfl (fun q29 h => ?_) (fun q29 h => ?_)
 refine cRg ?_
 refine xMv rfl ?_
 refine xMv rfl ?_
 refine wLt' (L := ([e45_27] : List (List UInt8))) (f := rStr) rfl rfl rfl rfl rfl rfl rfl ?_
 refine xC0 h (big_impl_addOnce ·) rfl (fun c54_30 h => ?_)
 refine xAs rfl ?_
 refine oNl ?_
 exact eJ h rfl
 refine cSk ?_
 exact eJ h rfl
 refine cRg ?_
 refine xAdd rfl ?_
 refine xMv rfl ?_
 refine oNl ?_
 exact eL h rfl
 refine cEx ?_
 exact eX h rfl
 obtain ⟨v3_22, v43_23, v44_24⟩ := q
 refine cRg ?_
 refine xAdd rfl ?_
 refine xMv rfl ?_
 refine oNl ?_
 exact eL h rfl
 refine cEx ?_
 exact eX h rfl
 obtain ⟨v3_13, v32_14, v33_15⟩ := q
 refine cRs ?_
 refine xMv rfl ?_
 refine xAs rfl ?_
 refine oNl ?_
 refine cRt ?_
 cases h
 exact eR rfl rfl rfl rfl
def q_impl_FreeOf : Nat → (Y_impl_FreeOf)
  | 0 => (fun _ _ _ _ _ => none)
  | n + 1 => s_impl_FreeOf n (q_impl_FreeOf n)
def p_impl_FreeOf (n : Nat) : Y_impl_FreeOf := q_impl_FreeOf n
theorem bigs_impl_FreeOf (n : Nat) : B_impl_FreeOf (p_impl_FreeOf n) := by
  induction n with
  | zero => exact (fun h => nomatch h)
  | succ n ih => exact step_impl_FreeOf (n := n) ih
theorem big_impl_FreeOf {n : Nat} : B_impl_FreeOf (p_impl_FreeOf n) := (bigs_impl_FreeOf n)
theorem p_impl_FreeOf_succ (n : Nat) : p_impl_FreeOf (n + 1) = s_impl_FreeOf n (p_impl_FreeOf n) := rfl
abbrev B_impl_funIn_1 (p : Int → Int → (List UInt8) → (List S_impl_Expr) → (List S_impl_Clause) → (List S_impl_Fun) → Bool → Option ((List S_impl_Fun) × Bool)) : Prop := ∀ {t0_0 t0_1 : Int} {t0_2 : List UInt8} {t0_3 : List S_impl_Expr} {t0_4 : List S_impl_Clause} {o0_0 : List S_impl_Fun} {o1_0 : Bool} {r : (List S_impl_Fun) × Bool}, p t0_0 t0_1 t0_2 t0_3 t0_4 o0_0 o1_0 = some r → Big Try.prog τ An (.fn 179 [.one (.ag [.int .i64 t0_0, .int .i64 t0_1, .str t0_2, .sl (t0_3.map rS_impl_Expr), .sl (t0_4.map rS_impl_Clause)]), .one (.ptr 1000000 0), .one (.ptr 1000001 0)] [[.sl (o0_0.map rS_impl_Fun)], [.bool o1_0]] (.tup []) none [[.sl (r.1.map rS_impl_Fun)], [.bool r.2]] none)
def p_impl_funIn_1 (n : Nat) (t0_0 : Int) (t0_1 : Int) (t0_2 : List UInt8) (t0_3 : List S_impl_Expr) (t0_4 : List S_impl_Clause) (o0_0 : List S_impl_Fun) (o1_0 : Bool) : Option ((List S_impl_Fun) × Bool) :=
  (p_impl_FunAt n o0_0 t0_2).bind fun c8_1 => (bif o1_0 then bif decide ((0 : Int) ≤ c8_1) then (ix o0_0 c8_1).bind fun e18_5 => some (decide ((e18_5.f1.length : Int) = (t0_3.length : Int))) else some false else some false).bind fun w1000001_2 => some (o0_0, w1000001_2)
theorem big_impl_funIn_1 {n : Nat} : B_impl_funIn_1 (p_impl_funIn_1 n) := by
 intro t0_0 t0_1 t0_2 t0_3 t0_4 o0_0 o1_0 r h
 unfold p_impl_funIn_1 at h
 refine bF Try.func179 rfl rfl ?_
 refine cRs ?_
 refine xBx rfl ?_
 refine oRs ?_
 refine xLd rfl ?_
 refine xFd rfl ?_
 refine xLd rfl ?_
 refine xC0 h (big_impl_FunAt ·) rfl (fun c8_1 h => ?_)
 refine xAs rfl ?_
 refine oNl ?_
 refine cRg ?_
 refine oJn h [(9, 26)] [(1000001, 1000001)] (fun w1000001_2 => (.n, [], [(1000001, [.bool w1000001_2])])) (fun _ h => ?_) (fun w1000001_2 h => ?_)
 refine xLd rfl ?_
 refine xMv rfl ?_
 refine oIf 10 h rfl (fun q3 h => ?_) (fun q3 h => ?_)
 refine xMv rfl ?_
 refine xGe rfl ?_
 refine xPk rfl ?_
 refine xMv rfl ?_
 refine oIf 14 h rfl (fun q4 h => ?_) (fun q4 h => ?_)
 refine xFd rfl ?_
 refine xLd rfl ?_
 refine xMv rfl ?_
 refine xIx h rS_impl_Fun_eq rfl (fun e18_5 h => ?_)
 refine xFd rfl ?_
 refine xLd rfl ?_
 refine xLn rfl ?_
 refine xFd rfl ?_
 refine xLd rfl ?_
 refine xLn rfl ?_
 refine xEq rfl ?_
 refine xPk rfl ?_
 refine xSt rfl ?_
 refine oNl ?_
 exact eJ h rfl
 refine wSk rfl ?_
 refine wSk rfl ?_
 refine wSk rfl ?_
 refine wSk rfl ?_
 refine wSk rfl ?_
 refine wSk rfl ?_
 refine wSk rfl ?_
 refine wSk rfl ?_
 refine wSk rfl ?_
 refine wSk rfl ?_
 refine wSk rfl ?_
 refine xPk rfl ?_
 refine xSt rfl ?_
 refine oNl ?_
 exact eJ h rfl
 refine wSk rfl ?_
 refine wSk rfl ?_
 refine xPk rfl ?_
 refine xMv rfl ?_
 refine wSk rfl ?_
 refine wSk rfl ?_
 refine wSk rfl ?_
 refine wSk rfl ?_
 refine wSk rfl ?_
 refine wSk rfl ?_
 refine wSk rfl ?_
 refine wSk rfl ?_
 refine wSk rfl ?_
 refine wSk rfl ?_
 refine wSk rfl ?_
 refine xPk rfl ?_
 refine xSt rfl ?_
 refine oNl ?_
 exact eJ h rfl
 cases h
 exact eN rfl rfl rfl rfl
abbrev Y_impl_eachCall : Type := Int → Int → (List UInt8) → (List S_impl_Expr) → (List S_impl_Clause) → (List S_impl_Fun) → Bool → Option ((List S_impl_Fun) × Bool)
abbrev B_impl_eachCall (p : Y_impl_eachCall) : Prop := ∀ {t0_0 t0_1 : Int} {t0_2 : List UInt8} {t0_3 : List S_impl_Expr} {t0_4 : List S_impl_Clause} {o0_0 : List S_impl_Fun} {o1_0 : Bool} {r : (List S_impl_Fun) × Bool}, p t0_0 t0_1 t0_2 t0_3 t0_4 o0_0 o1_0 = some r → Big Try.prog τ An (.fn 178 [.one (.ag [.int .i64 t0_0, .int .i64 t0_1, .str t0_2, .sl (t0_3.map rS_impl_Expr), .sl (t0_4.map rS_impl_Clause)]), .one (.fn 179 [(1000000, 0), (1000001, 0)])] [[.sl (o0_0.map rS_impl_Fun)], [.bool o1_0]] (.tup []) none [[.sl (r.1.map rS_impl_Fun)], [.bool r.2]] none)
def p_impl_eachCall_b1 (n : Nat) (r_impl_eachCall : Y_impl_eachCall) (t0_3 : List S_impl_Expr) : (Int × (List S_impl_Fun) × Bool) → Option ((Int × (List S_impl_Fun) × Bool) ⊕ ((Int × Bool × (List S_impl_Fun) × Bool)))
  | (v17_3, w1000000_4, w1000001_5) => bif decide (v17_3 < (t0_3.length : Int)) then (ix t0_3 v17_3).bind fun e19_11 => (r_impl_eachCall e19_11.f0 e19_11.f1 e19_11.f2 e19_11.f3 e19_11.f4 w1000000_4 w1000001_5).bind fun c23_12 => some (.inl ((IntKind.wrap .i64 (v17_3 + (1 : Int))), c23_12.1, c23_12.2)) else some (.inr (v17_3, false, w1000000_4, w1000001_5))
def p_impl_eachCall_b2 (n : Nat) (r_impl_eachCall : Y_impl_eachCall) (t0_4 : List S_impl_Clause) : (Int × (List S_impl_Fun) × Bool) → Option ((Int × (List S_impl_Fun) × Bool) ⊕ ((Int × Bool × (List S_impl_Fun) × Bool)))
  | (v28_13, w1000000_14, w1000001_15) => bif decide (v28_13 < (t0_4.length : Int)) then (ix t0_4 v28_13).bind fun e30_21 => (r_impl_eachCall e30_21.f5 e30_21.f6 e30_21.f7 e30_21.f8 e30_21.f9 w1000000_14 w1000001_15).bind fun c35_22 => some (.inl ((IntKind.wrap .i64 (v28_13 + (1 : Int))), c35_22.1, c35_22.2)) else some (.inr (v28_13, false, w1000000_14, w1000001_15))
def p_impl_eachCall_b3 (n : Nat) (r_impl_eachCall : Y_impl_eachCall) (t0_3 : List S_impl_Expr) : (Int × (List S_impl_Fun) × Bool) → Option ((Int × (List S_impl_Fun) × Bool) ⊕ ((Int × Bool × (List S_impl_Fun) × Bool)))
  | (v17_23, w1000000_24, w1000001_25) => bif decide (v17_23 < (t0_3.length : Int)) then (ix t0_3 v17_23).bind fun e19_31 => (r_impl_eachCall e19_31.f0 e19_31.f1 e19_31.f2 e19_31.f3 e19_31.f4 w1000000_24 w1000001_25).bind fun c23_32 => some (.inl ((IntKind.wrap .i64 (v17_23 + (1 : Int))), c23_32.1, c23_32.2)) else some (.inr (v17_23, false, w1000000_24, w1000001_25))
def p_impl_eachCall_b4 (n : Nat) (r_impl_eachCall : Y_impl_eachCall) (t0_4 : List S_impl_Clause) : (Int × (List S_impl_Fun) × Bool) → Option ((Int × (List S_impl_Fun) × Bool) ⊕ ((Int × Bool × (List S_impl_Fun) × Bool)))
  | (v28_33, w1000000_34, w1000001_35) => bif decide (v28_33 < (t0_4.length : Int)) then (ix t0_4 v28_33).bind fun e30_41 => (r_impl_eachCall e30_41.f5 e30_41.f6 e30_41.f7 e30_41.f8 e30_41.f9 w1000000_34 w1000001_35).bind fun c35_42 => some (.inl ((IntKind.wrap .i64 (v28_33 + (1 : Int))), c35_42.1, c35_42.2)) else some (.inr (v28_33, false, w1000000_34, w1000001_35))
def s_impl_eachCall (n : Nat) (r_impl_eachCall : Y_impl_eachCall) (t0_0 : Int) (t0_1 : Int) (t0_2 : List UInt8) (t0_3 : List S_impl_Expr) (t0_4 : List S_impl_Clause) (o0_0 : List S_impl_Fun) (o1_0 : Bool) : Option ((List S_impl_Fun) × Bool) :=
  bif decide (t0_0 = (8 : Int)) then (p_impl_funIn_1 n t0_0 t0_1 t0_2 t0_3 t0_4 o0_0 o1_0).bind fun c13_2 => (loopN (p_impl_eachCall_b1 n r_impl_eachCall t0_3) n ((0 : Int), c13_2.1, c13_2.2)).bind fun (v17_6, v18_7, w1000000_8, w1000001_9) => (loopN (p_impl_eachCall_b2 n r_impl_eachCall t0_4) n ((0 : Int), w1000000_8, w1000001_9)).bind fun (v28_16, v29_17, w1000000_18, w1000001_19) => some (w1000000_18, w1000001_19) else (loopN (p_impl_eachCall_b3 n r_impl_eachCall t0_3) n ((0 : Int), o0_0, o1_0)).bind fun (v17_26, v18_27, w1000000_28, w1000001_29) => (loopN (p_impl_eachCall_b4 n r_impl_eachCall t0_4) n ((0 : Int), w1000000_28, w1000001_29)).bind fun (v28_36, v29_37, w1000000_38, w1000001_39) => some (w1000000_38, w1000001_39)
theorem step_impl_eachCall {n : Nat} {r_impl_eachCall : Y_impl_eachCall} (ih_impl_eachCall : B_impl_eachCall r_impl_eachCall) : B_impl_eachCall (s_impl_eachCall n r_impl_eachCall) := by
 intro t0_0 t0_1 t0_2 t0_3 t0_4 o0_0 o1_0 r h
 unfold s_impl_eachCall at h
 refine bF Try.func178 rfl rfl ?_
 refine cRs ?_
 refine xBx rfl ?_
 refine oNl ?_
 refine cSq ?_
 refine cRs ?_
 refine xFd rfl ?_
 refine xLd rfl ?_
 refine xEq rfl ?_
 refine oNl ?_
 refine cIf h rfl (fun q1 h => ?_) (fun q1 h => ?_)
 refine cRg ?_
 refine xMv rfl ?_
 refine xLd rfl ?_
 refine xCk h (big_impl_funIn_1 ·) rfl (fun c13_2 h => ?_)
 refine oNl ?_
 refine cSq ?_
 refine cRs ?_
 refine xFd rfl ?_
 refine xLd rfl ?_
 refine xLn rfl ?_
 refine xMv rfl ?_
 refine oNl ?_
 refine cLp h [(5, 5), (17, 24)] [(5, 5), (1000000, 1000001)] (fun (v17_3, w1000000_4, w1000001_5) => ([(17, I64 v17_3)], [(1000000, [.sl (w1000000_4.map rS_impl_Fun)]), (1000001, [.bool w1000001_5])])) (fun (v17_6, v18_7, w1000000_8, w1000001_9) => (.e 0, [(17, I64 v17_6), (18, Bo v18_7)], [(1000000, [.sl (w1000000_8.map rS_impl_Fun)]), (1000001, [.bool w1000001_9])])) rfl (fun st _ h => ?_) (fun q h => ?_)
 obtain ⟨v17_3, w1000000_4, w1000001_5⟩ := st
 unfold p_impl_eachCall_b1 at h
 refine cRs ?_
 refine xLt rfl ?_
 refine oNl ?_
 refine cSq ?_
 refine cIf h rfl (fun q10 h => ?_) (fun q10 h => ?_)
 refine cSk ?_
 refine cSq ?_
 refine cBk ?_
 refine cRs ?_
 refine xIx h rS_impl_Expr_eq rfl (fun e19_11 h => ?_)
 refine xLd rfl ?_
 refine xAz [.int .i64 0, .int .i64 0, .str [], .sl ([].map rS_impl_Expr), .sl ([].map rS_impl_Clause)] rfl ?_
 refine xSt rfl ?_
 refine oNl ?_
 refine cRg ?_
 refine xLd rfl ?_
 refine xMv rfl ?_
 refine xCk h (ih_impl_eachCall ·) rfl (fun c23_12 h => ?_)
 refine oNl ?_
 refine cRg ?_
 refine xAdd rfl ?_
 refine xMv rfl ?_
 refine oNl ?_
 exact eL h rfl
 refine cEx ?_
 exact eX h rfl
 obtain ⟨v17_6, v18_7, w1000000_8, w1000001_9⟩ := q
 refine cRs ?_
 refine xFd rfl ?_
 refine xLd rfl ?_
 refine xLn rfl ?_
 refine xMv rfl ?_
 refine oNl ?_
 refine cLp h [(7, 7), (28, 36)] [(7, 7), (1000000, 1000001)] (fun (v28_13, w1000000_14, w1000001_15) => ([(28, I64 v28_13)], [(1000000, [.sl (w1000000_14.map rS_impl_Fun)]), (1000001, [.bool w1000001_15])])) (fun (v28_16, v29_17, w1000000_18, w1000001_19) => (.e 2, [(28, I64 v28_16), (29, Bo v29_17)], [(1000000, [.sl (w1000000_18.map rS_impl_Fun)]), (1000001, [.bool w1000001_19])])) rfl (fun st _ h => ?_) (fun q h => ?_)
 obtain ⟨v28_13, w1000000_14, w1000001_15⟩ := st
 unfold p_impl_eachCall_b2 at h
 refine cRs ?_
 refine xLt rfl ?_
 refine oNl ?_
 refine cSq ?_
 refine cIf h rfl (fun q20 h => ?_) (fun q20 h => ?_)
 refine cSk ?_
 refine cSq ?_
 refine cBk ?_
 refine cRs ?_
 refine xIx h rS_impl_Clause_eq rfl (fun e30_21 h => ?_)
 refine xLd rfl ?_
 refine xAz [.int .i64 0, .int .i64 0, .str [], .sl ([].map rS_impl_Expr), .sl ([].map rS_impl_Clause), .int .i64 0, .int .i64 0, .str [], .sl ([].map rS_impl_Expr), .sl ([].map rS_impl_Clause)] rfl ?_
 refine xSt rfl ?_
 refine oNl ?_
 refine cRg ?_
 refine xFd rfl ?_
 refine xLd rfl ?_
 refine xMv rfl ?_
 refine xCk h (ih_impl_eachCall ·) rfl (fun c35_22 h => ?_)
 refine oNl ?_
 refine cRg ?_
 refine xAdd rfl ?_
 refine xMv rfl ?_
 refine oNl ?_
 exact eL h rfl
 refine cEx ?_
 exact eX h rfl
 obtain ⟨v28_16, v29_17, w1000000_18, w1000001_19⟩ := q
 cases h
 exact eN rfl rfl rfl rfl
 refine cSk ?_
 refine cSq ?_
 refine cRs ?_
 refine xFd rfl ?_
 refine xLd rfl ?_
 refine xLn rfl ?_
 refine xMv rfl ?_
 refine oNl ?_
 refine cLp h [(5, 5), (17, 24)] [(5, 5), (1000000, 1000001)] (fun (v17_23, w1000000_24, w1000001_25) => ([(17, I64 v17_23)], [(1000000, [.sl (w1000000_24.map rS_impl_Fun)]), (1000001, [.bool w1000001_25])])) (fun (v17_26, v18_27, w1000000_28, w1000001_29) => (.e 0, [(17, I64 v17_26), (18, Bo v18_27)], [(1000000, [.sl (w1000000_28.map rS_impl_Fun)]), (1000001, [.bool w1000001_29])])) rfl (fun st _ h => ?_) (fun q h => ?_)
 obtain ⟨v17_23, w1000000_24, w1000001_25⟩ := st
 unfold p_impl_eachCall_b3 at h
 refine cRs ?_
 refine xLt rfl ?_
 refine oNl ?_
 refine cSq ?_
 refine cIf h rfl (fun q30 h => ?_) (fun q30 h => ?_)
 refine cSk ?_
 refine cSq ?_
 refine cBk ?_
 refine cRs ?_
 refine xIx h rS_impl_Expr_eq rfl (fun e19_31 h => ?_)
 refine xLd rfl ?_
 refine xAz [.int .i64 0, .int .i64 0, .str [], .sl ([].map rS_impl_Expr), .sl ([].map rS_impl_Clause)] rfl ?_
 refine xSt rfl ?_
 refine oNl ?_
 refine cRg ?_
 refine xLd rfl ?_
 refine xMv rfl ?_
 refine xCk h (ih_impl_eachCall ·) rfl (fun c23_32 h => ?_)
 refine oNl ?_
 refine cRg ?_
 refine xAdd rfl ?_
 refine xMv rfl ?_
 refine oNl ?_
 exact eL h rfl
 refine cEx ?_
 exact eX h rfl
 obtain ⟨v17_26, v18_27, w1000000_28, w1000001_29⟩ := q
 refine cRs ?_
 refine xFd rfl ?_
 refine xLd rfl ?_
 refine xLn rfl ?_
 refine xMv rfl ?_
 refine oNl ?_
 refine cLp h [(7, 7), (28, 36)] [(7, 7), (1000000, 1000001)] (fun (v28_33, w1000000_34, w1000001_35) => ([(28, I64 v28_33)], [(1000000, [.sl (w1000000_34.map rS_impl_Fun)]), (1000001, [.bool w1000001_35])])) (fun (v28_36, v29_37, w1000000_38, w1000001_39) => (.e 2, [(28, I64 v28_36), (29, Bo v29_37)], [(1000000, [.sl (w1000000_38.map rS_impl_Fun)]), (1000001, [.bool w1000001_39])])) rfl (fun st _ h => ?_) (fun q h => ?_)
 obtain ⟨v28_33, w1000000_34, w1000001_35⟩ := st
 unfold p_impl_eachCall_b4 at h
 refine cRs ?_
 refine xLt rfl ?_
 refine oNl ?_
 refine cSq ?_
 refine cIf h rfl (fun q40 h => ?_) (fun q40 h => ?_)
 refine cSk ?_
 refine cSq ?_
 refine cBk ?_
 refine cRs ?_
 refine xIx h rS_impl_Clause_eq rfl (fun e30_41 h => ?_)
 refine xLd rfl ?_
 refine xAz [.int .i64 0, .int .i64 0, .str [], .sl ([].map rS_impl_Expr), .sl ([].map rS_impl_Clause), .int .i64 0, .int .i64 0, .str [], .sl ([].map rS_impl_Expr), .sl ([].map rS_impl_Clause)] rfl ?_
 refine xSt rfl ?_
 refine oNl ?_
 refine cRg ?_
 refine xFd rfl ?_
 refine xLd rfl ?_
 refine xMv rfl ?_
 refine xCk h (ih_impl_eachCall ·) rfl (fun c35_42 h => ?_)
 refine oNl ?_
 refine cRg ?_
 refine xAdd rfl ?_
 refine xMv rfl ?_
 refine oNl ?_
 exact eL h rfl
 refine cEx ?_
 exact eX h rfl
 obtain ⟨v28_36, v29_37, w1000000_38, w1000001_39⟩ := q
 cases h
 exact eN rfl rfl rfl rfl
def q_impl_eachCall : Nat → (Y_impl_eachCall)
  | 0 => (fun _ _ _ _ _ _ _ => none)
  | n + 1 => s_impl_eachCall n (q_impl_eachCall n)
def p_impl_eachCall (n : Nat) : Y_impl_eachCall := q_impl_eachCall n
theorem bigs_impl_eachCall (n : Nat) : B_impl_eachCall (p_impl_eachCall n) := by
  induction n with
  | zero => exact (fun h => nomatch h)
  | succ n ih => exact step_impl_eachCall (n := n) ih
theorem big_impl_eachCall {n : Nat} : B_impl_eachCall (p_impl_eachCall n) := (bigs_impl_eachCall n)
theorem p_impl_eachCall_succ (n : Nat) : p_impl_eachCall (n + 1) = s_impl_eachCall n (p_impl_eachCall n) := rfl
abbrev B_impl_funIn (p : (List S_impl_Fun) → (List UInt8) → (List (List UInt8)) → Int → Int → (List UInt8) → (List S_impl_Expr) → (List S_impl_Clause) → Option (Bool)) : Prop := ∀ {t0_0 : List S_impl_Fun} {t1_0 : List UInt8} {t1_1 : List (List UInt8)} {t1_2 t1_3 : Int} {t1_4 : List UInt8} {t1_5 : List S_impl_Expr} {t1_6 : List S_impl_Clause} {r : Bool}, p t0_0 t1_0 t1_1 t1_2 t1_3 t1_4 t1_5 t1_6 = some r → Big Try.prog τ An (.fn 102 [.one (.ag [.sl (t0_0.map rS_impl_Fun)]), .one (.ag [.str t1_0, .sl (t1_1.map rStr), .int .i64 t1_2, .int .i64 t1_3, .str t1_4, .sl (t1_5.map rS_impl_Expr), .sl (t1_6.map rS_impl_Clause)])] [] (.one (.c (.bool r))) none [] none)
def p_impl_funIn_b1 (n : Nat) (t1_1 : List (List UInt8)) : (Int) → Option ((Int) ⊕ ((Bool) ⊕ (Int × Bool)))
  | v13_1 => bif decide (v13_1 < (t1_1.length : Int)) then (ix t1_1 v13_1).bind fun e16_6 => (p_slices_Index_cf0e n t1_1 e16_6).bind fun c21_7 => bif !decide (c21_7 = v13_1) then some (.inr (.inl false)) else some (.inl (IntKind.wrap .i64 (v13_1 + (1 : Int)))) else some (.inr (.inr (v13_1, false)))
def p_impl_funIn_b2 (n : Nat) (t1_1 : List (List UInt8)) (c27_9 : (List (List UInt8))) : (Int) → Option ((Int) ⊕ ((Bool) ⊕ (Int × Bool)))
  | v29_10 => bif decide (v29_10 < (c27_9.length : Int)) then (ix c27_9 v29_10).bind fun e31_15 => (p_slices_Contains_35c2 n t1_1 e31_15).bind fun c36_16 => bif !c36_16 then some (.inr (.inl false)) else some (.inl (IntKind.wrap .i64 (v29_10 + (1 : Int)))) else some (.inr (.inr (v29_10, false)))
def p_impl_funIn (n : Nat) (t0_0 : List S_impl_Fun) (t1_0 : List UInt8) (t1_1 : List (List UInt8)) (t1_2 : Int) (t1_3 : Int) (t1_4 : List UInt8) (t1_5 : List S_impl_Expr) (t1_6 : List S_impl_Clause) : Option (Bool) :=
  (loopN (p_impl_funIn_b1 n t1_1) n (0 : Int)).bind fun q => (match q with | .inl v4_2 => some v4_2 | .inr (v13_3, v14_4) => (p_impl_FreeOf n t1_2 t1_3 t1_4 t1_5 t1_6).bind fun c27_9 => (loopN (p_impl_funIn_b2 n t1_1 c27_9) n (0 : Int)).bind fun q => (match q with | .inl v4_11 => some v4_11 | .inr (v29_12, v30_13) => (p_impl_eachCall n t1_2 t1_3 t1_4 t1_5 t1_6 t0_0 true).bind fun c42_18 => some c42_18.2))
theorem big_impl_funIn {n : Nat} : B_impl_funIn (p_impl_funIn n) := by
 intro t0_0 t1_0 t1_1 t1_2 t1_3 t1_4 t1_5 t1_6 r h
 unfold p_impl_funIn at h
 refine bF Try.func102 rfl rfl ?_
 refine cRs ?_
 refine xBx rfl ?_
 refine xBx rfl ?_
 refine xAs rfl ?_
 refine oNl ?_
 refine cSq ?_
 refine cRs ?_
 refine xFd rfl ?_
 refine xLd rfl ?_
 refine xLn rfl ?_
 refine xMv rfl ?_
 refine oNl ?_
 refine cLp h [(4, 6), (13, 24)] [] (fun v13_1 => ([(13, I64 v13_1)], [])) (fun q => match q with | .inl v4_2 => (.r, [(4, Bo v4_2)], []) | .inr (v13_3, v14_4) => (.e 0, [(13, I64 v13_3), (14, Bo v14_4)], [])) rfl (fun v13_1 _ h => ?_) (fun q h => ?_)
 unfold p_impl_funIn_b1 at h
 refine cRs ?_
 refine xLt rfl ?_
 refine oNl ?_
 refine cSq ?_
 refine cIf h rfl (fun q5 h => ?_) (fun q5 h => ?_)
 refine cSk ?_
 refine cSq ?_
 refine cBk ?_
 refine cRs ?_
 refine xMv rfl ?_
 refine xIx h rStr_eq rfl (fun e16_6 h => ?_)
 refine xLd rfl ?_
 refine xAs rfl ?_
 refine xAs rfl ?_
 refine oRs ?_
 refine xFd rfl ?_
 refine xLd rfl ?_
 refine xMv rfl ?_
 refine xC0 h (big_slices_Index_cf0e ·) rfl (fun c21_7 h => ?_)
 refine xMv rfl ?_
 refine xNe rfl ?_
 refine oNl ?_
 refine cIf h rfl (fun q8 h => ?_) (fun q8 h => ?_)
 refine cRs ?_
 refine xAs rfl ?_
 refine oNl ?_
 refine cRt ?_
 exact eXr h rfl
 refine cSk ?_
 refine cRg ?_
 refine xAdd rfl ?_
 refine xMv rfl ?_
 refine oNl ?_
 exact eL h rfl
 refine cEx ?_
 exact eX h rfl
 rcases q with v4_2 | ⟨v13_3, v14_4⟩
 cases h
 exact eR rfl rfl rfl rfl
 refine cSq ?_
 refine cRs ?_
 refine xFd rfl ?_
 refine xLd rfl ?_
 refine xC0 h (big_impl_FreeOf ·) rfl (fun c27_9 h => ?_)
 refine xLn rfl ?_
 refine xMv rfl ?_
 refine oNl ?_
 refine cLp h [(4, 4), (8, 8), (29, 38)] [] (fun v29_10 => ([(29, I64 v29_10)], [])) (fun q => match q with | .inl v4_11 => (.r, [(4, Bo v4_11)], []) | .inr (v29_12, v30_13) => (.e 2, [(29, I64 v29_12), (30, Bo v30_13)], [])) rfl (fun v29_10 _ h => ?_) (fun q h => ?_)
 unfold p_impl_funIn_b2 at h
 refine cRs ?_
 refine xLt rfl ?_
 refine oNl ?_
 refine cSq ?_
 refine cIf h rfl (fun q14 h => ?_) (fun q14 h => ?_)
 refine cSk ?_
 refine cSq ?_
 refine cBk ?_
 refine cRs ?_
 refine xIx h rStr_eq rfl (fun e31_15 h => ?_)
 refine xLd rfl ?_
 refine xAs rfl ?_
 refine oRs ?_
 refine xFd rfl ?_
 refine xLd rfl ?_
 refine xMv rfl ?_
 refine xC0 h (big_slices_Contains_35c2 ·) rfl (fun c36_16 h => ?_)
 refine xNot rfl ?_
 refine oNl ?_
 refine cIf h rfl (fun q17 h => ?_) (fun q17 h => ?_)
 refine cRs ?_
 refine xAs rfl ?_
 refine oNl ?_
 refine cRt ?_
 exact eXr h rfl
 refine cSk ?_
 refine cRg ?_
 refine xAdd rfl ?_
 refine xMv rfl ?_
 refine oNl ?_
 exact eL h rfl
 refine cEx ?_
 exact eX h rfl
 rcases q with v4_11 | ⟨v29_12, v30_13⟩
 cases h
 exact eR rfl rfl rfl rfl
 refine cRs ?_
 refine xAc rfl ?_
 refine xSt rfl ?_
 refine oRs ?_
 refine xFd rfl ?_
 refine xLd rfl ?_
 refine wFn rfl rfl rfl ?_
 refine xCk h (big_impl_eachCall ·) rfl (fun c42_18 h => ?_)
 refine oRs ?_
 refine xLd rfl ?_
 refine xAs rfl ?_
 refine oNl ?_
 refine cRt ?_
 cases h
 exact eR rfl rfl rfl rfl
abbrev B_impl_ModuleOk (p : (List S_impl_Fun) → Option (Bool)) : Prop := ∀ {t0_0 : List S_impl_Fun} {r : Bool}, p t0_0 = some r → Big Try.prog τ An (.fn 29 [.one (.ag [.sl (t0_0.map rS_impl_Fun)])] [] (.one (.c (.bool r))) none [] none)
def p_impl_ModuleOk_b1 (n : Nat) (t0_0 : List S_impl_Fun) : (Int) → Option ((Int) ⊕ ((Bool) ⊕ (Int × Bool)))
  | v11_3 => bif decide (v11_3 < (t0_0.length : Int)) then (ix t0_0 v11_3).bind fun e14_8 => ((p_impl_FunAt n t0_0 e14_8.f0).bind fun c19_10 => bif !decide (c19_10 = v11_3) then some true else (p_impl_funIn n t0_0 e14_8.f0 e14_8.f1 e14_8.f2 e14_8.f3 e14_8.f4 e14_8.f5 e14_8.f6).bind fun c25_12 => some (!c25_12)).bind fun v27_9 => bif v27_9 then some (.inr (.inl false)) else some (.inl (IntKind.wrap .i64 (v11_3 + (1 : Int)))) else some (.inr (.inr (v11_3, false)))
def p_impl_ModuleOk (n : Nat) (t0_0 : List S_impl_Fun) : Option (Bool) :=
  (p_impl_canWrite n t0_0).bind fun c6_1 => bif !c6_1 then some false else (loopN (p_impl_ModuleOk_b1 n t0_0) n (0 : Int)).bind fun q => (match q with | .inl v2_4 => some v2_4 | .inr (v11_5, v12_6) => some true)
theorem big_impl_ModuleOk {n : Nat} : B_impl_ModuleOk (p_impl_ModuleOk n) := by
 intro t0_0 r h
 unfold p_impl_ModuleOk at h
 refine bF Try.func29 rfl rfl ?_
 refine cRs ?_
 refine xBx rfl ?_
 refine xAs rfl ?_
 refine oNl ?_
 refine cSq ?_
 refine cRs ?_
 refine xLd rfl ?_
 refine xC0 h (big_impl_canWrite ·) rfl (fun c6_1 h => ?_)
 refine xNot rfl ?_
 refine oNl ?_
 refine cIf h rfl (fun q2 h => ?_) (fun q2 h => ?_)
 refine cRs ?_
 refine xAs rfl ?_
 refine oNl ?_
 refine cRt ?_
 cases h
 exact eR rfl rfl rfl rfl
 refine cSk ?_
 refine cSq ?_
 refine cRs ?_
 refine xFd rfl ?_
 refine xLd rfl ?_
 refine xLn rfl ?_
 refine xMv rfl ?_
 refine oNl ?_
 refine cLp h [(2, 4), (11, 28)] [(4, 4)] (fun v11_3 => ([(11, I64 v11_3)], [])) (fun q => match q with | .inl v2_4 => (.r, [(2, Bo v2_4)], []) | .inr (v11_5, v12_6) => (.e 0, [(11, I64 v11_5), (12, Bo v12_6)], [])) rfl (fun v11_3 _ h => ?_) (fun q h => ?_)
 unfold p_impl_ModuleOk_b1 at h
 refine cRs ?_
 refine xLt rfl ?_
 refine oNl ?_
 refine cSq ?_
 refine cIf h rfl (fun q7 h => ?_) (fun q7 h => ?_)
 refine cSk ?_
 refine cSq ?_
 refine cBk ?_
 refine cRs ?_
 refine xMv rfl ?_
 refine xIx h rS_impl_Fun_eq rfl (fun e14_8 h => ?_)
 refine xLd rfl ?_
 refine xAz [.str [], .sl ([].map rStr), .int .i64 0, .int .i64 0, .str [], .sl ([].map rS_impl_Expr), .sl ([].map rS_impl_Clause)] rfl ?_
 refine xAs rfl ?_
 refine xSt rfl ?_
 refine oRs ?_
 refine oJn h [(16, 27)] [] (fun v27_9 => (.n, [(27, Bo v27_9)], [])) (fun _ h => ?_) (fun v27_9 h => ?_)
 refine xLd rfl ?_
 refine xFd rfl ?_
 refine xLd rfl ?_
 refine xC0 h (big_impl_FunAt ·) rfl (fun c19_10 h => ?_)
 refine xMv rfl ?_
 refine xNe rfl ?_
 refine xMv rfl ?_
 refine oIf 22 h rfl (fun q11 h => ?_) (fun q11 h => ?_)
 refine wSk rfl ?_
 refine wSk rfl ?_
 refine wSk rfl ?_
 refine wSk rfl ?_
 refine xPk rfl ?_
 refine oNl ?_
 exact eJ h rfl
 refine xLd rfl ?_
 refine xLd rfl ?_
 refine xC0 h (big_impl_funIn ·) rfl (fun c25_12 h => ?_)
 refine xNot rfl ?_
 refine xPk rfl ?_
 refine oNl ?_
 exact eJ h rfl
 refine cIf h rfl (fun q13 h => ?_) (fun q13 h => ?_)
 refine cRs ?_
 refine xAs rfl ?_
 refine oNl ?_
 refine cRt ?_
 exact eXr h rfl
 refine cSk ?_
 refine cRg ?_
 refine xAdd rfl ?_
 refine xMv rfl ?_
 refine oNl ?_
 exact eL h rfl
 refine cEx ?_
 exact eX h rfl
 rcases q with v2_4 | ⟨v11_5, v12_6⟩
 cases h
 exact eR rfl rfl rfl rfl
 refine cRs ?_
 refine xAs rfl ?_
 refine oNl ?_
 refine cRt ?_
 cases h
 exact eR rfl rfl rfl rfl
abbrev Y_laws_eqClause : Type := Int → Int → (List UInt8) → (List S_impl_Expr) → (List S_impl_Clause) → Int → Int → (List UInt8) → (List S_impl_Expr) → (List S_impl_Clause) → Int → Int → (List UInt8) → (List S_impl_Expr) → (List S_impl_Clause) → Int → Int → (List UInt8) → (List S_impl_Expr) → (List S_impl_Clause) → Option (Bool)
abbrev B_laws_eqClause (p : Y_laws_eqClause) : Prop := ∀ {t0_0 t0_1 : Int} {t0_2 : List UInt8} {t0_3 : List S_impl_Expr} {t0_4 : List S_impl_Clause} {t0_5 t0_6 : Int} {t0_7 : List UInt8} {t0_8 : List S_impl_Expr} {t0_9 : List S_impl_Clause} {t1_0 t1_1 : Int} {t1_2 : List UInt8} {t1_3 : List S_impl_Expr} {t1_4 : List S_impl_Clause} {t1_5 t1_6 : Int} {t1_7 : List UInt8} {t1_8 : List S_impl_Expr} {t1_9 : List S_impl_Clause} {r : Bool}, p t0_0 t0_1 t0_2 t0_3 t0_4 t0_5 t0_6 t0_7 t0_8 t0_9 t1_0 t1_1 t1_2 t1_3 t1_4 t1_5 t1_6 t1_7 t1_8 t1_9 = some r → Big Try.prog τ An (.fn 188 [.one (.ag [.int .i64 t0_0, .int .i64 t0_1, .str t0_2, .sl (t0_3.map rS_impl_Expr), .sl (t0_4.map rS_impl_Clause), .int .i64 t0_5, .int .i64 t0_6, .str t0_7, .sl (t0_8.map rS_impl_Expr), .sl (t0_9.map rS_impl_Clause)]), .one (.ag [.int .i64 t1_0, .int .i64 t1_1, .str t1_2, .sl (t1_3.map rS_impl_Expr), .sl (t1_4.map rS_impl_Clause), .int .i64 t1_5, .int .i64 t1_6, .str t1_7, .sl (t1_8.map rS_impl_Expr), .sl (t1_9.map rS_impl_Clause)])] [] (.one (.c (.bool r))) none [] none)
abbrev Y_laws_eqClauseS : Type := (List S_impl_Clause) → (List S_impl_Clause) → Option (Bool)
abbrev B_laws_eqClauseS (p : Y_laws_eqClauseS) : Prop := ∀ {t0_0 t1_0 : List S_impl_Clause} {r : Bool}, p t0_0 t1_0 = some r → Big Try.prog τ An (.fn 115 [.one (.c (.sl (t0_0.map rS_impl_Clause))), .one (.c (.sl (t1_0.map rS_impl_Clause)))] [] (.one (.c (.bool r))) none [] none)
abbrev Y_laws_eqExprS : Type := (List S_impl_Expr) → (List S_impl_Expr) → Option (Bool)
abbrev B_laws_eqExprS (p : Y_laws_eqExprS) : Prop := ∀ {t0_0 t1_0 : List S_impl_Expr} {r : Bool}, p t0_0 t1_0 = some r → Big Try.prog τ An (.fn 114 [.one (.c (.sl (t0_0.map rS_impl_Expr))), .one (.c (.sl (t1_0.map rS_impl_Expr)))] [] (.one (.c (.bool r))) none [] none)
abbrev Y_laws_eqExpr : Type := Int → Int → (List UInt8) → (List S_impl_Expr) → (List S_impl_Clause) → Int → Int → (List UInt8) → (List S_impl_Expr) → (List S_impl_Clause) → Option (Bool)
abbrev B_laws_eqExpr (p : Y_laws_eqExpr) : Prop := ∀ {t0_0 t0_1 : Int} {t0_2 : List UInt8} {t0_3 : List S_impl_Expr} {t0_4 : List S_impl_Clause} {t1_0 t1_1 : Int} {t1_2 : List UInt8} {t1_3 : List S_impl_Expr} {t1_4 : List S_impl_Clause} {r : Bool}, p t0_0 t0_1 t0_2 t0_3 t0_4 t1_0 t1_1 t1_2 t1_3 t1_4 = some r → Big Try.prog τ An (.fn 39 [.one (.ag [.int .i64 t0_0, .int .i64 t0_1, .str t0_2, .sl (t0_3.map rS_impl_Expr), .sl (t0_4.map rS_impl_Clause)]), .one (.ag [.int .i64 t1_0, .int .i64 t1_1, .str t1_2, .sl (t1_3.map rS_impl_Expr), .sl (t1_4.map rS_impl_Clause)])] [] (.one (.c (.bool r))) none [] none)
def s_laws_eqClause (n : Nat) (r_laws_eqExpr : Y_laws_eqExpr) (r_laws_eqExprS : Y_laws_eqExprS) (r_laws_eqClauseS : Y_laws_eqClauseS) (r_laws_eqClause : Y_laws_eqClause) (t0_0 : Int) (t0_1 : Int) (t0_2 : List UInt8) (t0_3 : List S_impl_Expr) (t0_4 : List S_impl_Clause) (t0_5 : Int) (t0_6 : Int) (t0_7 : List UInt8) (t0_8 : List S_impl_Expr) (t0_9 : List S_impl_Clause) (t1_0 : Int) (t1_1 : Int) (t1_2 : List UInt8) (t1_3 : List S_impl_Expr) (t1_4 : List S_impl_Clause) (t1_5 : Int) (t1_6 : Int) (t1_7 : List UInt8) (t1_8 : List S_impl_Expr) (t1_9 : List S_impl_Clause) : Option (Bool) :=
  (r_laws_eqExpr t0_0 t0_1 t0_2 t0_3 t0_4 t1_0 t1_1 t1_2 t1_3 t1_4).bind fun c9_1 => bif !c9_1 then some false else (r_laws_eqExpr t0_5 t0_6 t0_7 t0_8 t0_9 t1_5 t1_6 t1_7 t1_8 t1_9).bind fun c15_3 => bif !c15_3 then some false else some true
theorem step_laws_eqClause {n : Nat} {r_laws_eqExpr : Y_laws_eqExpr} (ih_laws_eqExpr : B_laws_eqExpr r_laws_eqExpr) {r_laws_eqExprS : Y_laws_eqExprS} (ih_laws_eqExprS : B_laws_eqExprS r_laws_eqExprS) {r_laws_eqClauseS : Y_laws_eqClauseS} (ih_laws_eqClauseS : B_laws_eqClauseS r_laws_eqClauseS) {r_laws_eqClause : Y_laws_eqClause} (ih_laws_eqClause : B_laws_eqClause r_laws_eqClause) : B_laws_eqClause (s_laws_eqClause n r_laws_eqExpr r_laws_eqExprS r_laws_eqClauseS r_laws_eqClause) := by
 intro t0_0 t0_1 t0_2 t0_3 t0_4 t0_5 t0_6 t0_7 t0_8 t0_9 t1_0 t1_1 t1_2 t1_3 t1_4 t1_5 t1_6 t1_7 t1_8 t1_9 r h
 unfold s_laws_eqClause at h
 refine bF Try.func188 rfl rfl ?_
 refine cRs ?_
 refine xBx rfl ?_
 refine xBx rfl ?_
 refine xAs rfl ?_
 refine oNl ?_
 refine cSq ?_
 refine cRs ?_
 refine xFd rfl ?_
 refine xLd rfl ?_
 refine xFd rfl ?_
 refine xLd rfl ?_
 refine xC0 h (ih_laws_eqExpr ·) rfl (fun c9_1 h => ?_)
 refine xNot rfl ?_
 refine oNl ?_
 refine cIf h rfl (fun q2 h => ?_) (fun q2 h => ?_)
 refine cRs ?_
 refine xAs rfl ?_
 refine oNl ?_
 refine cRt ?_
 cases h
 exact eR rfl rfl rfl rfl
 refine cSk ?_
 refine cSq ?_
 refine cRs ?_
 refine xFd rfl ?_
 refine xLd rfl ?_
 refine xFd rfl ?_
 refine xLd rfl ?_
 refine xC0 h (ih_laws_eqExpr ·) rfl (fun c15_3 h => ?_)
 refine xNot rfl ?_
 refine oNl ?_
 refine cIf h rfl (fun q4 h => ?_) (fun q4 h => ?_)
 refine cRs ?_
 refine xAs rfl ?_
 refine oNl ?_
 refine cRt ?_
 cases h
 exact eR rfl rfl rfl rfl
 refine cSk ?_
 refine cRs ?_
 refine xAs rfl ?_
 refine oNl ?_
 refine cRt ?_
 cases h
 exact eR rfl rfl rfl rfl
def p_laws_eqClauseS_b1 (n : Nat) (r_laws_eqClause : Y_laws_eqClause) (t0_0 : List S_impl_Clause) (t1_0 : List S_impl_Clause) : (Int) → Option ((Int) ⊕ ((Bool) ⊕ (Int × Bool)))
  | v5_2 => bif decide (v5_2 < (t0_0.length : Int)) then (ix t0_0 v5_2).bind fun e19_7 => (ix t1_0 v5_2).bind fun e23_8 => (r_laws_eqClause e19_7.f0 e19_7.f1 e19_7.f2 e19_7.f3 e19_7.f4 e19_7.f5 e19_7.f6 e19_7.f7 e19_7.f8 e19_7.f9 e23_8.f0 e23_8.f1 e23_8.f2 e23_8.f3 e23_8.f4 e23_8.f5 e23_8.f6 e23_8.f7 e23_8.f8 e23_8.f9).bind fun c25_9 => bif !c25_9 then some (.inr (.inl false)) else some (.inl (IntKind.wrap .i64 (v5_2 + (1 : Int)))) else some (.inr (.inr (v5_2, false)))
def s_laws_eqClauseS (n : Nat) (r_laws_eqExpr : Y_laws_eqExpr) (r_laws_eqExprS : Y_laws_eqExprS) (r_laws_eqClauseS : Y_laws_eqClauseS) (r_laws_eqClause : Y_laws_eqClause) (t0_0 : List S_impl_Clause) (t1_0 : List S_impl_Clause) : Option (Bool) :=
  bif !decide ((t0_0.length : Int) = (t1_0.length : Int)) then some false else (loopN (p_laws_eqClauseS_b1 n r_laws_eqClause t0_0 t1_0) n (0 : Int)).bind fun q => (match q with | .inl v4_3 => some v4_3 | .inr (v5_4, v14_5) => some true)
theorem step_laws_eqClauseS {n : Nat} {r_laws_eqExpr : Y_laws_eqExpr} (ih_laws_eqExpr : B_laws_eqExpr r_laws_eqExpr) {r_laws_eqExprS : Y_laws_eqExprS} (ih_laws_eqExprS : B_laws_eqExprS r_laws_eqExprS) {r_laws_eqClauseS : Y_laws_eqClauseS} (ih_laws_eqClauseS : B_laws_eqClauseS r_laws_eqClauseS) {r_laws_eqClause : Y_laws_eqClause} (ih_laws_eqClause : B_laws_eqClause r_laws_eqClause) : B_laws_eqClauseS (s_laws_eqClauseS n r_laws_eqExpr r_laws_eqExprS r_laws_eqClauseS r_laws_eqClause) := by
 intro t0_0 t1_0 r h
 unfold s_laws_eqClauseS at h
 refine bF Try.func115 rfl rfl ?_
 refine cRs ?_
 refine xAs rfl ?_
 refine oNl ?_
 refine cSq ?_
 refine cRs ?_
 refine xMv rfl ?_
 refine xLn rfl ?_
 refine xMv rfl ?_
 refine xLn rfl ?_
 refine xNe rfl ?_
 refine oNl ?_
 refine cIf h rfl (fun q1 h => ?_) (fun q1 h => ?_)
 refine cRs ?_
 refine xAs rfl ?_
 refine oNl ?_
 refine cRt ?_
 cases h
 exact eR rfl rfl rfl rfl
 refine cSk ?_
 refine cSq ?_
 refine cRs ?_
 refine xAs rfl ?_
 refine oNl ?_
 refine cLp h [(4, 5), (11, 26)] [] (fun v5_2 => ([(5, I64 v5_2)], [])) (fun q => match q with | .inl v4_3 => (.r, [(4, Bo v4_3)], []) | .inr (v5_4, v14_5) => (.e 0, [(5, I64 v5_4), (14, Bo v14_5)], [])) rfl (fun v5_2 _ h => ?_) (fun q h => ?_)
 unfold p_laws_eqClauseS_b1 at h
 refine cSq ?_
 refine cRs ?_
 refine xMv rfl ?_
 refine xMv rfl ?_
 refine xLn rfl ?_
 refine xLt rfl ?_
 refine oNl ?_
 refine cIf h rfl (fun q6 h => ?_) (fun q6 h => ?_)
 refine cSk ?_
 refine cSq ?_
 refine cBk ?_
 refine cRs ?_
 refine xMv rfl ?_
 refine xMv rfl ?_
 refine xIx h rS_impl_Clause_eq rfl (fun e19_7 h => ?_)
 refine xLd rfl ?_
 refine xMv rfl ?_
 refine xMv rfl ?_
 refine xIx h rS_impl_Clause_eq rfl (fun e23_8 h => ?_)
 refine xLd rfl ?_
 refine xC0 h (ih_laws_eqClause ·) rfl (fun c25_9 h => ?_)
 refine xNot rfl ?_
 refine oNl ?_
 refine cIf h rfl (fun q10 h => ?_) (fun q10 h => ?_)
 refine cRs ?_
 refine xAs rfl ?_
 refine oNl ?_
 refine cRt ?_
 exact eXr h rfl
 refine cSk ?_
 refine cRg ?_
 refine xMv rfl ?_
 refine xAdd rfl ?_
 refine xAs rfl ?_
 refine oNl ?_
 exact eL h rfl
 refine cEx ?_
 exact eX h rfl
 rcases q with v4_3 | ⟨v5_4, v14_5⟩
 cases h
 exact eR rfl rfl rfl rfl
 refine cRs ?_
 refine xAs rfl ?_
 refine oNl ?_
 refine cRt ?_
 cases h
 exact eR rfl rfl rfl rfl
def p_laws_eqExprS_b1 (n : Nat) (r_laws_eqExpr : Y_laws_eqExpr) (t0_0 : List S_impl_Expr) (t1_0 : List S_impl_Expr) : (Int) → Option ((Int) ⊕ ((Bool) ⊕ (Int × Bool)))
  | v5_2 => bif decide (v5_2 < (t0_0.length : Int)) then (ix t0_0 v5_2).bind fun e19_7 => (ix t1_0 v5_2).bind fun e23_8 => (r_laws_eqExpr e19_7.f0 e19_7.f1 e19_7.f2 e19_7.f3 e19_7.f4 e23_8.f0 e23_8.f1 e23_8.f2 e23_8.f3 e23_8.f4).bind fun c25_9 => bif !c25_9 then some (.inr (.inl false)) else some (.inl (IntKind.wrap .i64 (v5_2 + (1 : Int)))) else some (.inr (.inr (v5_2, false)))
def s_laws_eqExprS (n : Nat) (r_laws_eqExpr : Y_laws_eqExpr) (r_laws_eqExprS : Y_laws_eqExprS) (r_laws_eqClauseS : Y_laws_eqClauseS) (r_laws_eqClause : Y_laws_eqClause) (t0_0 : List S_impl_Expr) (t1_0 : List S_impl_Expr) : Option (Bool) :=
  bif !decide ((t0_0.length : Int) = (t1_0.length : Int)) then some false else (loopN (p_laws_eqExprS_b1 n r_laws_eqExpr t0_0 t1_0) n (0 : Int)).bind fun q => (match q with | .inl v4_3 => some v4_3 | .inr (v5_4, v14_5) => some true)
theorem step_laws_eqExprS {n : Nat} {r_laws_eqExpr : Y_laws_eqExpr} (ih_laws_eqExpr : B_laws_eqExpr r_laws_eqExpr) {r_laws_eqExprS : Y_laws_eqExprS} (ih_laws_eqExprS : B_laws_eqExprS r_laws_eqExprS) {r_laws_eqClauseS : Y_laws_eqClauseS} (ih_laws_eqClauseS : B_laws_eqClauseS r_laws_eqClauseS) {r_laws_eqClause : Y_laws_eqClause} (ih_laws_eqClause : B_laws_eqClause r_laws_eqClause) : B_laws_eqExprS (s_laws_eqExprS n r_laws_eqExpr r_laws_eqExprS r_laws_eqClauseS r_laws_eqClause) := by
 intro t0_0 t1_0 r h
 unfold s_laws_eqExprS at h
 refine bF Try.func114 rfl rfl ?_
 refine cRs ?_
 refine xAs rfl ?_
 refine oNl ?_
 refine cSq ?_
 refine cRs ?_
 refine xMv rfl ?_
 refine xLn rfl ?_
 refine xMv rfl ?_
 refine xLn rfl ?_
 refine xNe rfl ?_
 refine oNl ?_
 refine cIf h rfl (fun q1 h => ?_) (fun q1 h => ?_)
 refine cRs ?_
 refine xAs rfl ?_
 refine oNl ?_
 refine cRt ?_
 cases h
 exact eR rfl rfl rfl rfl
 refine cSk ?_
 refine cSq ?_
 refine cRs ?_
 refine xAs rfl ?_
 refine oNl ?_
 refine cLp h [(4, 5), (11, 26)] [] (fun v5_2 => ([(5, I64 v5_2)], [])) (fun q => match q with | .inl v4_3 => (.r, [(4, Bo v4_3)], []) | .inr (v5_4, v14_5) => (.e 0, [(5, I64 v5_4), (14, Bo v14_5)], [])) rfl (fun v5_2 _ h => ?_) (fun q h => ?_)
 unfold p_laws_eqExprS_b1 at h
 refine cSq ?_
 refine cRs ?_
 refine xMv rfl ?_
 refine xMv rfl ?_
 refine xLn rfl ?_
 refine xLt rfl ?_
 refine oNl ?_
 refine cIf h rfl (fun q6 h => ?_) (fun q6 h => ?_)
 refine cSk ?_
 refine cSq ?_
 refine cBk ?_
 refine cRs ?_
 refine xMv rfl ?_
 refine xMv rfl ?_
 refine xIx h rS_impl_Expr_eq rfl (fun e19_7 h => ?_)
 refine xLd rfl ?_
 refine xMv rfl ?_
 refine xMv rfl ?_
 refine xIx h rS_impl_Expr_eq rfl (fun e23_8 h => ?_)
 refine xLd rfl ?_
 refine xC0 h (ih_laws_eqExpr ·) rfl (fun c25_9 h => ?_)
 refine xNot rfl ?_
 refine oNl ?_
 refine cIf h rfl (fun q10 h => ?_) (fun q10 h => ?_)
 refine cRs ?_
 refine xAs rfl ?_
 refine oNl ?_
 refine cRt ?_
 exact eXr h rfl
 refine cSk ?_
 refine cRg ?_
 refine xMv rfl ?_
 refine xAdd rfl ?_
 refine xAs rfl ?_
 refine oNl ?_
 exact eL h rfl
 refine cEx ?_
 exact eX h rfl
 rcases q with v4_3 | ⟨v5_4, v14_5⟩
 cases h
 exact eR rfl rfl rfl rfl
 refine cRs ?_
 refine xAs rfl ?_
 refine oNl ?_
 refine cRt ?_
 cases h
 exact eR rfl rfl rfl rfl
def s_laws_eqExpr (n : Nat) (r_laws_eqExpr : Y_laws_eqExpr) (r_laws_eqExprS : Y_laws_eqExprS) (r_laws_eqClauseS : Y_laws_eqClauseS) (r_laws_eqClause : Y_laws_eqClause) (t0_0 : Int) (t0_1 : Int) (t0_2 : List UInt8) (t0_3 : List S_impl_Expr) (t0_4 : List S_impl_Clause) (t1_0 : Int) (t1_1 : Int) (t1_2 : List UInt8) (t1_3 : List S_impl_Expr) (t1_4 : List S_impl_Clause) : Option (Bool) :=
  bif !decide (t0_0 = t1_0) then some false else bif !decide (t0_1 = t1_1) then some false else bif !decide (t0_2 = t1_2) then some false else (r_laws_eqExprS t0_3 t1_3).bind fun c24_4 => bif !c24_4 then some false else (r_laws_eqClauseS t0_4 t1_4).bind fun c30_6 => bif !c30_6 then some false else some true
theorem step_laws_eqExpr {n : Nat} {r_laws_eqExpr : Y_laws_eqExpr} (ih_laws_eqExpr : B_laws_eqExpr r_laws_eqExpr) {r_laws_eqExprS : Y_laws_eqExprS} (ih_laws_eqExprS : B_laws_eqExprS r_laws_eqExprS) {r_laws_eqClauseS : Y_laws_eqClauseS} (ih_laws_eqClauseS : B_laws_eqClauseS r_laws_eqClauseS) {r_laws_eqClause : Y_laws_eqClause} (ih_laws_eqClause : B_laws_eqClause r_laws_eqClause) : B_laws_eqExpr (s_laws_eqExpr n r_laws_eqExpr r_laws_eqExprS r_laws_eqClauseS r_laws_eqClause) := by
 intro t0_0 t0_1 t0_2 t0_3 t0_4 t1_0 t1_1 t1_2 t1_3 t1_4 r h
 unfold s_laws_eqExpr at h
 refine bF Try.func39 rfl rfl ?_
 refine cRs ?_
 refine xBx rfl ?_
 refine xBx rfl ?_
 refine xAs rfl ?_
 refine oNl ?_
 refine cSq ?_
 refine cRs ?_
 refine xFd rfl ?_
 refine xLd rfl ?_
 refine xFd rfl ?_
 refine xLd rfl ?_
 refine xNe rfl ?_
 refine oNl ?_
 refine cIf h rfl (fun q1 h => ?_) (fun q1 h => ?_)
 refine cRs ?_
 refine xAs rfl ?_
 refine oNl ?_
 refine cRt ?_
 cases h
 exact eR rfl rfl rfl rfl
 refine cSk ?_
 refine cSq ?_
 refine cRs ?_
 refine xFd rfl ?_
 refine xLd rfl ?_
 refine xFd rfl ?_
 refine xLd rfl ?_
 refine xNe rfl ?_
 refine oNl ?_
 refine cIf h rfl (fun q2 h => ?_) (fun q2 h => ?_)
 refine cRs ?_
 refine xAs rfl ?_
 refine oNl ?_
 refine cRt ?_
 cases h
 exact eR rfl rfl rfl rfl
 refine cSk ?_
 refine cSq ?_
 refine cRs ?_
 refine xFd rfl ?_
 refine xLd rfl ?_
 refine xFd rfl ?_
 refine xLd rfl ?_
 refine xNs rfl ?_
 refine oNl ?_
 refine cIf h rfl (fun q3 h => ?_) (fun q3 h => ?_)
 refine cRs ?_
 refine xAs rfl ?_
 refine oNl ?_
 refine cRt ?_
 cases h
 exact eR rfl rfl rfl rfl
 refine cSk ?_
 refine cSq ?_
 refine cRs ?_
 refine xFd rfl ?_
 refine xLd rfl ?_
 refine xFd rfl ?_
 refine xLd rfl ?_
 refine xC0 h (ih_laws_eqExprS ·) rfl (fun c24_4 h => ?_)
 refine xNot rfl ?_
 refine oNl ?_
 refine cIf h rfl (fun q5 h => ?_) (fun q5 h => ?_)
 refine cRs ?_
 refine xAs rfl ?_
 refine oNl ?_
 refine cRt ?_
 cases h
 exact eR rfl rfl rfl rfl
 refine cSk ?_
 refine cSq ?_
 refine cRs ?_
 refine xFd rfl ?_
 refine xLd rfl ?_
 refine xFd rfl ?_
 refine xLd rfl ?_
 refine xC0 h (ih_laws_eqClauseS ·) rfl (fun c30_6 h => ?_)
 refine xNot rfl ?_
 refine oNl ?_
 refine cIf h rfl (fun q7 h => ?_) (fun q7 h => ?_)
 refine cRs ?_
 refine xAs rfl ?_
 refine oNl ?_
 refine cRt ?_
 cases h
 exact eR rfl rfl rfl rfl
 refine cSk ?_
 refine cRs ?_
 refine xAs rfl ?_
 refine oNl ?_
 refine cRt ?_
 cases h
 exact eR rfl rfl rfl rfl
def q_laws_eqExpr : Nat → (Y_laws_eqExpr) × (Y_laws_eqExprS) × (Y_laws_eqClauseS) × (Y_laws_eqClause)
  | 0 => ((fun _ _ _ _ _ _ _ _ _ _ => none), (fun _ _ => none), (fun _ _ => none), (fun _ _ _ _ _ _ _ _ _ _ _ _ _ _ _ _ _ _ _ _ => none))
  | n + 1 => (s_laws_eqExpr n ((q_laws_eqExpr n).1) ((q_laws_eqExpr n).2.1) ((q_laws_eqExpr n).2.2.1) ((q_laws_eqExpr n).2.2.2), s_laws_eqExprS n ((q_laws_eqExpr n).1) ((q_laws_eqExpr n).2.1) ((q_laws_eqExpr n).2.2.1) ((q_laws_eqExpr n).2.2.2), s_laws_eqClauseS n ((q_laws_eqExpr n).1) ((q_laws_eqExpr n).2.1) ((q_laws_eqExpr n).2.2.1) ((q_laws_eqExpr n).2.2.2), s_laws_eqClause n ((q_laws_eqExpr n).1) ((q_laws_eqExpr n).2.1) ((q_laws_eqExpr n).2.2.1) ((q_laws_eqExpr n).2.2.2))
def p_laws_eqExpr (n : Nat) : Y_laws_eqExpr := (q_laws_eqExpr n).1
def p_laws_eqExprS (n : Nat) : Y_laws_eqExprS := (q_laws_eqExpr n).2.1
def p_laws_eqClauseS (n : Nat) : Y_laws_eqClauseS := (q_laws_eqExpr n).2.2.1
def p_laws_eqClause (n : Nat) : Y_laws_eqClause := (q_laws_eqExpr n).2.2.2
theorem bigs_laws_eqExpr (n : Nat) : B_laws_eqExpr (p_laws_eqExpr n) ∧ B_laws_eqExprS (p_laws_eqExprS n) ∧ B_laws_eqClauseS (p_laws_eqClauseS n) ∧ B_laws_eqClause (p_laws_eqClause n) := by
  induction n with
  | zero => exact ⟨(fun h => nomatch h), (fun h => nomatch h), (fun h => nomatch h), (fun h => nomatch h)⟩
  | succ n ih => exact ⟨step_laws_eqExpr (n := n) (ih.1) (ih.2.1) (ih.2.2.1) (ih.2.2.2), step_laws_eqExprS (n := n) (ih.1) (ih.2.1) (ih.2.2.1) (ih.2.2.2), step_laws_eqClauseS (n := n) (ih.1) (ih.2.1) (ih.2.2.1) (ih.2.2.2), step_laws_eqClause (n := n) (ih.1) (ih.2.1) (ih.2.2.1) (ih.2.2.2)⟩
theorem big_laws_eqExpr {n : Nat} : B_laws_eqExpr (p_laws_eqExpr n) := (bigs_laws_eqExpr n).1
theorem big_laws_eqExprS {n : Nat} : B_laws_eqExprS (p_laws_eqExprS n) := (bigs_laws_eqExpr n).2.1
theorem big_laws_eqClauseS {n : Nat} : B_laws_eqClauseS (p_laws_eqClauseS n) := (bigs_laws_eqExpr n).2.2.1
theorem big_laws_eqClause {n : Nat} : B_laws_eqClause (p_laws_eqClause n) := (bigs_laws_eqExpr n).2.2.2
theorem p_laws_eqExpr_succ (n : Nat) : p_laws_eqExpr (n + 1) = s_laws_eqExpr n (p_laws_eqExpr n) (p_laws_eqExprS n) (p_laws_eqClauseS n) (p_laws_eqClause n) := rfl
theorem p_laws_eqExprS_succ (n : Nat) : p_laws_eqExprS (n + 1) = s_laws_eqExprS n (p_laws_eqExpr n) (p_laws_eqExprS n) (p_laws_eqClauseS n) (p_laws_eqClause n) := rfl
theorem p_laws_eqClauseS_succ (n : Nat) : p_laws_eqClauseS (n + 1) = s_laws_eqClauseS n (p_laws_eqExpr n) (p_laws_eqExprS n) (p_laws_eqClauseS n) (p_laws_eqClause n) := rfl
theorem p_laws_eqClause_succ (n : Nat) : p_laws_eqClause (n + 1) = s_laws_eqClause n (p_laws_eqExpr n) (p_laws_eqExprS n) (p_laws_eqClauseS n) (p_laws_eqClause n) := rfl
abbrev B_laws_eqStringS (p : (List (List UInt8)) → (List (List UInt8)) → Option (Bool)) : Prop := ∀ {t0_0 t1_0 : List (List UInt8)} {r : Bool}, p t0_0 t1_0 = some r → Big Try.prog τ An (.fn 231 [.one (.c (.sl (t0_0.map rStr))), .one (.c (.sl (t1_0.map rStr)))] [] (.one (.c (.bool r))) none [] none)
def p_laws_eqStringS_b1 (n : Nat) (t0_0 : List (List UInt8)) (t1_0 : List (List UInt8)) : (Int) → Option ((Int) ⊕ ((Bool) ⊕ (Int × Bool)))
  | v5_2 => bif decide (v5_2 < (t0_0.length : Int)) then (ix t0_0 v5_2).bind fun e19_7 => (ix t1_0 v5_2).bind fun e23_8 => bif !decide (e19_7 = e23_8) then some (.inr (.inl false)) else some (.inl (IntKind.wrap .i64 (v5_2 + (1 : Int)))) else some (.inr (.inr (v5_2, false)))
def p_laws_eqStringS (n : Nat) (t0_0 : List (List UInt8)) (t1_0 : List (List UInt8)) : Option (Bool) :=
  bif !decide ((t0_0.length : Int) = (t1_0.length : Int)) then some false else (loopN (p_laws_eqStringS_b1 n t0_0 t1_0) n (0 : Int)).bind fun q => (match q with | .inl v4_3 => some v4_3 | .inr (v5_4, v14_5) => some true)
theorem big_laws_eqStringS {n : Nat} : B_laws_eqStringS (p_laws_eqStringS n) := by
 intro t0_0 t1_0 r h
 unfold p_laws_eqStringS at h
 refine bF Try.func231 rfl rfl ?_
 refine cRs ?_
 refine xAs rfl ?_
 refine oNl ?_
 refine cSq ?_
 refine cRs ?_
 refine xMv rfl ?_
 refine xLn rfl ?_
 refine xMv rfl ?_
 refine xLn rfl ?_
 refine xNe rfl ?_
 refine oNl ?_
 refine cIf h rfl (fun q1 h => ?_) (fun q1 h => ?_)
 refine cRs ?_
 refine xAs rfl ?_
 refine oNl ?_
 refine cRt ?_
 cases h
 exact eR rfl rfl rfl rfl
 refine cSk ?_
 refine cSq ?_
 refine cRs ?_
 refine xAs rfl ?_
 refine oNl ?_
 refine cLp h [(4, 5), (11, 25)] [] (fun v5_2 => ([(5, I64 v5_2)], [])) (fun q => match q with | .inl v4_3 => (.r, [(4, Bo v4_3)], []) | .inr (v5_4, v14_5) => (.e 0, [(5, I64 v5_4), (14, Bo v14_5)], [])) rfl (fun v5_2 _ h => ?_) (fun q h => ?_)
 unfold p_laws_eqStringS_b1 at h
 refine cSq ?_
 refine cRs ?_
 refine xMv rfl ?_
 refine xMv rfl ?_
 refine xLn rfl ?_
 refine xLt rfl ?_
 refine oNl ?_
 refine cIf h rfl (fun q6 h => ?_) (fun q6 h => ?_)
 refine cSk ?_
 refine cSq ?_
 refine cBk ?_
 refine cRs ?_
 refine xMv rfl ?_
 refine xMv rfl ?_
 refine xIx h rStr_eq rfl (fun e19_7 h => ?_)
 refine xLd rfl ?_
 refine xMv rfl ?_
 refine xMv rfl ?_
 refine xIx h rStr_eq rfl (fun e23_8 h => ?_)
 refine xLd rfl ?_
 refine xNs rfl ?_
 refine oNl ?_
 refine cIf h rfl (fun q9 h => ?_) (fun q9 h => ?_)
 refine cRs ?_
 refine xAs rfl ?_
 refine oNl ?_
 refine cRt ?_
 exact eXr h rfl
 refine cSk ?_
 refine cRg ?_
 refine xMv rfl ?_
 refine xAdd rfl ?_
 refine xAs rfl ?_
 refine oNl ?_
 exact eL h rfl
 refine cEx ?_
 exact eX h rfl
 rcases q with v4_3 | ⟨v5_4, v14_5⟩
 cases h
 exact eR rfl rfl rfl rfl
 refine cRs ?_
 refine xAs rfl ?_
 refine oNl ?_
 refine cRt ?_
 cases h
 exact eR rfl rfl rfl rfl
abbrev B_laws_eqFun (p : (List UInt8) → (List (List UInt8)) → Int → Int → (List UInt8) → (List S_impl_Expr) → (List S_impl_Clause) → (List UInt8) → (List (List UInt8)) → Int → Int → (List UInt8) → (List S_impl_Expr) → (List S_impl_Clause) → Option (Bool)) : Prop := ∀ {t0_0 : List UInt8} {t0_1 : List (List UInt8)} {t0_2 t0_3 : Int} {t0_4 : List UInt8} {t0_5 : List S_impl_Expr} {t0_6 : List S_impl_Clause} {t1_0 : List UInt8} {t1_1 : List (List UInt8)} {t1_2 t1_3 : Int} {t1_4 : List UInt8} {t1_5 : List S_impl_Expr} {t1_6 : List S_impl_Clause} {r : Bool}, p t0_0 t0_1 t0_2 t0_3 t0_4 t0_5 t0_6 t1_0 t1_1 t1_2 t1_3 t1_4 t1_5 t1_6 = some r → Big Try.prog τ An (.fn 180 [.one (.ag [.str t0_0, .sl (t0_1.map rStr), .int .i64 t0_2, .int .i64 t0_3, .str t0_4, .sl (t0_5.map rS_impl_Expr), .sl (t0_6.map rS_impl_Clause)]), .one (.ag [.str t1_0, .sl (t1_1.map rStr), .int .i64 t1_2, .int .i64 t1_3, .str t1_4, .sl (t1_5.map rS_impl_Expr), .sl (t1_6.map rS_impl_Clause)])] [] (.one (.c (.bool r))) none [] none)
def p_laws_eqFun (n : Nat) (t0_0 : List UInt8) (t0_1 : List (List UInt8)) (t0_2 : Int) (t0_3 : Int) (t0_4 : List UInt8) (t0_5 : List S_impl_Expr) (t0_6 : List S_impl_Clause) (t1_0 : List UInt8) (t1_1 : List (List UInt8)) (t1_2 : Int) (t1_3 : Int) (t1_4 : List UInt8) (t1_5 : List S_impl_Expr) (t1_6 : List S_impl_Clause) : Option (Bool) :=
  bif !decide (t0_0 = t1_0) then some false else (p_laws_eqStringS n t0_1 t1_1).bind fun c14_2 => bif !c14_2 then some false else (p_laws_eqExpr n t0_2 t0_3 t0_4 t0_5 t0_6 t1_2 t1_3 t1_4 t1_5 t1_6).bind fun c20_4 => bif !c20_4 then some false else some true
theorem big_laws_eqFun {n : Nat} : B_laws_eqFun (p_laws_eqFun n) := by
 intro t0_0 t0_1 t0_2 t0_3 t0_4 t0_5 t0_6 t1_0 t1_1 t1_2 t1_3 t1_4 t1_5 t1_6 r h
 unfold p_laws_eqFun at h
 refine bF Try.func180 rfl rfl ?_
 refine cRs ?_
 refine xBx rfl ?_
 refine xBx rfl ?_
 refine xAs rfl ?_
 refine oNl ?_
 refine cSq ?_
 refine cRs ?_
 refine xFd rfl ?_
 refine xLd rfl ?_
 refine xFd rfl ?_
 refine xLd rfl ?_
 refine xNs rfl ?_
 refine oNl ?_
 refine cIf h rfl (fun q1 h => ?_) (fun q1 h => ?_)
 refine cRs ?_
 refine xAs rfl ?_
 refine oNl ?_
 refine cRt ?_
 cases h
 exact eR rfl rfl rfl rfl
 refine cSk ?_
 refine cSq ?_
 refine cRs ?_
 refine xFd rfl ?_
 refine xLd rfl ?_
 refine xFd rfl ?_
 refine xLd rfl ?_
 refine xC0 h (big_laws_eqStringS ·) rfl (fun c14_2 h => ?_)
 refine xNot rfl ?_
 refine oNl ?_
 refine cIf h rfl (fun q3 h => ?_) (fun q3 h => ?_)
 refine cRs ?_
 refine xAs rfl ?_
 refine oNl ?_
 refine cRt ?_
 cases h
 exact eR rfl rfl rfl rfl
 refine cSk ?_
 refine cSq ?_
 refine cRs ?_
 refine xFd rfl ?_
 refine xLd rfl ?_
 refine xFd rfl ?_
 refine xLd rfl ?_
 refine xC0 h (big_laws_eqExpr ·) rfl (fun c20_4 h => ?_)
 refine xNot rfl ?_
 refine oNl ?_
 refine cIf h rfl (fun q5 h => ?_) (fun q5 h => ?_)
 refine cRs ?_
 refine xAs rfl ?_
 refine oNl ?_
 refine cRt ?_
 cases h
 exact eR rfl rfl rfl rfl
 refine cSk ?_
 refine cRs ?_
 refine xAs rfl ?_
 refine oNl ?_
 refine cRt ?_
 cases h
 exact eR rfl rfl rfl rfl
abbrev B_laws_eqFunS (p : (List S_impl_Fun) → (List S_impl_Fun) → Option (Bool)) : Prop := ∀ {t0_0 t1_0 : List S_impl_Fun} {r : Bool}, p t0_0 t1_0 = some r → Big Try.prog τ An (.fn 103 [.one (.c (.sl (t0_0.map rS_impl_Fun))), .one (.c (.sl (t1_0.map rS_impl_Fun)))] [] (.one (.c (.bool r))) none [] none)
def p_laws_eqFunS_b1 (n : Nat) (t0_0 : List S_impl_Fun) (t1_0 : List S_impl_Fun) : (Int) → Option ((Int) ⊕ ((Bool) ⊕ (Int × Bool)))
  | v5_2 => bif decide (v5_2 < (t0_0.length : Int)) then (ix t0_0 v5_2).bind fun e19_7 => (ix t1_0 v5_2).bind fun e23_8 => (p_laws_eqFun n e19_7.f0 e19_7.f1 e19_7.f2 e19_7.f3 e19_7.f4 e19_7.f5 e19_7.f6 e23_8.f0 e23_8.f1 e23_8.f2 e23_8.f3 e23_8.f4 e23_8.f5 e23_8.f6).bind fun c25_9 => bif !c25_9 then some (.inr (.inl false)) else some (.inl (IntKind.wrap .i64 (v5_2 + (1 : Int)))) else some (.inr (.inr (v5_2, false)))
def p_laws_eqFunS (n : Nat) (t0_0 : List S_impl_Fun) (t1_0 : List S_impl_Fun) : Option (Bool) :=
  bif !decide ((t0_0.length : Int) = (t1_0.length : Int)) then some false else (loopN (p_laws_eqFunS_b1 n t0_0 t1_0) n (0 : Int)).bind fun q => (match q with | .inl v4_3 => some v4_3 | .inr (v5_4, v14_5) => some true)
theorem big_laws_eqFunS {n : Nat} : B_laws_eqFunS (p_laws_eqFunS n) := by
 intro t0_0 t1_0 r h
 unfold p_laws_eqFunS at h
 refine bF Try.func103 rfl rfl ?_
 refine cRs ?_
 refine xAs rfl ?_
 refine oNl ?_
 refine cSq ?_
 refine cRs ?_
 refine xMv rfl ?_
 refine xLn rfl ?_
 refine xMv rfl ?_
 refine xLn rfl ?_
 refine xNe rfl ?_
 refine oNl ?_
 refine cIf h rfl (fun q1 h => ?_) (fun q1 h => ?_)
 refine cRs ?_
 refine xAs rfl ?_
 refine oNl ?_
 refine cRt ?_
 cases h
 exact eR rfl rfl rfl rfl
 refine cSk ?_
 refine cSq ?_
 refine cRs ?_
 refine xAs rfl ?_
 refine oNl ?_
 refine cLp h [(4, 5), (11, 26)] [] (fun v5_2 => ([(5, I64 v5_2)], [])) (fun q => match q with | .inl v4_3 => (.r, [(4, Bo v4_3)], []) | .inr (v5_4, v14_5) => (.e 0, [(5, I64 v5_4), (14, Bo v14_5)], [])) rfl (fun v5_2 _ h => ?_) (fun q h => ?_)
 unfold p_laws_eqFunS_b1 at h
 refine cSq ?_
 refine cRs ?_
 refine xMv rfl ?_
 refine xMv rfl ?_
 refine xLn rfl ?_
 refine xLt rfl ?_
 refine oNl ?_
 refine cIf h rfl (fun q6 h => ?_) (fun q6 h => ?_)
 refine cSk ?_
 refine cSq ?_
 refine cBk ?_
 refine cRs ?_
 refine xMv rfl ?_
 refine xMv rfl ?_
 refine xIx h rS_impl_Fun_eq rfl (fun e19_7 h => ?_)
 refine xLd rfl ?_
 refine xMv rfl ?_
 refine xMv rfl ?_
 refine xIx h rS_impl_Fun_eq rfl (fun e23_8 h => ?_)
 refine xLd rfl ?_
 refine xC0 h (big_laws_eqFun ·) rfl (fun c25_9 h => ?_)
 refine xNot rfl ?_
 refine oNl ?_
 refine cIf h rfl (fun q10 h => ?_) (fun q10 h => ?_)
 refine cRs ?_
 refine xAs rfl ?_
 refine oNl ?_
 refine cRt ?_
 exact eXr h rfl
 refine cSk ?_
 refine cRg ?_
 refine xMv rfl ?_
 refine xAdd rfl ?_
 refine xAs rfl ?_
 refine oNl ?_
 exact eL h rfl
 refine cEx ?_
 exact eX h rfl
 rcases q with v4_3 | ⟨v5_4, v14_5⟩
 cases h
 exact eR rfl rfl rfl rfl
 refine cRs ?_
 refine xAs rfl ?_
 refine oNl ?_
 refine cRt ?_
 cases h
 exact eR rfl rfl rfl rfl
abbrev B_laws_eqModule (p : (List S_impl_Fun) → (List S_impl_Fun) → Option (Bool)) : Prop := ∀ {t0_0 t1_0 : List S_impl_Fun} {r : Bool}, p t0_0 t1_0 = some r → Big Try.prog τ An (.fn 30 [.one (.ag [.sl (t0_0.map rS_impl_Fun)]), .one (.ag [.sl (t1_0.map rS_impl_Fun)])] [] (.one (.c (.bool r))) none [] none)
def p_laws_eqModule (n : Nat) (t0_0 : List S_impl_Fun) (t1_0 : List S_impl_Fun) : Option (Bool) :=
  (p_laws_eqFunS n t0_0 t1_0).bind fun c9_1 => bif !c9_1 then some false else some true
theorem big_laws_eqModule {n : Nat} : B_laws_eqModule (p_laws_eqModule n) := by
 intro t0_0 t1_0 r h
 unfold p_laws_eqModule at h
 refine bF Try.func30 rfl rfl ?_
 refine cRs ?_
 refine xBx rfl ?_
 refine xBx rfl ?_
 refine xAs rfl ?_
 refine oNl ?_
 refine cSq ?_
 refine cRs ?_
 refine xFd rfl ?_
 refine xLd rfl ?_
 refine xFd rfl ?_
 refine xLd rfl ?_
 refine xC0 h (big_laws_eqFunS ·) rfl (fun c9_1 h => ?_)
 refine xNot rfl ?_
 refine oNl ?_
 refine cIf h rfl (fun q2 h => ?_) (fun q2 h => ?_)
 refine cRs ?_
 refine xAs rfl ?_
 refine oNl ?_
 refine cRt ?_
 cases h
 exact eR rfl rfl rfl rfl
 refine cSk ?_
 refine cRs ?_
 refine xAs rfl ?_
 refine oNl ?_
 refine cRt ?_
 cases h
 exact eR rfl rfl rfl rfl
abbrev B_laws_FnExactModuleOk (p : (List S_laws_Fun) → Option (Bool)) : Prop := ∀ {t0_0 : List S_laws_Fun} {r : Bool}, p t0_0 = some r → Big Try.prog τ An (.fn 5 [.one (.ag [.sl (t0_0.map rS_laws_Fun)])] [] (.one (.c (.bool r))) none [] none)
def p_laws_FnExactModuleOk (n : Nat) (t0_0 : List S_laws_Fun) : Option (Bool) :=
  (p_laws_szModule n t0_0 (1048576 : Int)).bind fun c9_1 => bif decide (c9_1 < (0 : Int)) then some true else (p_laws_toModule n t0_0).bind fun c13_3 => (p_spec_ModuleOk n c13_3).bind fun c14_4 => (p_laws_toModule n t0_0).bind fun c16_5 => (p_impl_ModuleOk n c16_5).bind fun c18_6 => bif !(c18_6 == c14_4) then some false else (p_laws_toModule n t0_0).bind fun c24_8 => (p_laws_eqModule n c16_5 c24_8).bind fun c25_9 => bif !c25_9 then some false else some true
theorem big_laws_FnExactModuleOk {n : Nat} : B_laws_FnExactModuleOk (p_laws_FnExactModuleOk n) := by
 intro t0_0 r h
 unfold p_laws_FnExactModuleOk at h
 refine bF Try.func5 rfl rfl ?_
 refine cRs ?_
 refine xBx rfl ?_
 refine xAs rfl ?_
 refine oRs ?_
 refine xAs rfl ?_
 refine oRs ?_
 refine xLd rfl ?_
 refine xMv rfl ?_
 refine xC0 h (big_laws_szModule ·) rfl (fun c9_1 h => ?_)
 refine xAs rfl ?_
 refine oNl ?_
 refine cSq ?_
 refine cRs ?_
 refine xMv rfl ?_
 refine xLt rfl ?_
 refine oNl ?_
 refine cIf h rfl (fun q2 h => ?_) (fun q2 h => ?_)
 refine cRs ?_
 refine xAs rfl ?_
 refine oNl ?_
 refine cRt ?_
 cases h
 exact eR rfl rfl rfl rfl
 refine cSk ?_
 refine cRs ?_
 refine xLd rfl ?_
 refine xC0 h (big_laws_toModule ·) rfl (fun c13_3 h => ?_)
 refine xC0 h (big_spec_ModuleOk ·) rfl (fun c14_4 h => ?_)
 refine xAs rfl ?_
 refine oRs ?_
 refine xLd rfl ?_
 refine xC0 h (big_laws_toModule ·) rfl (fun c16_5 h => ?_)
 refine xAz [.sl ([].map rS_impl_Fun)] rfl ?_
 refine xSt rfl ?_
 refine oRs ?_
 refine xLd rfl ?_
 refine xC0 h (big_impl_ModuleOk ·) rfl (fun c18_6 h => ?_)
 refine xAs rfl ?_
 refine oNl ?_
 refine cSq ?_
 refine cRs ?_
 refine xMv rfl ?_
 refine xMv rfl ?_
 refine wBi (.bool (!(c18_6 == c14_4))) rfl rfl rfl rfl rfl ?_
 refine oNl ?_
 refine cIf h rfl (fun q7 h => ?_) (fun q7 h => ?_)
 refine cRs ?_
 refine xAs rfl ?_
 refine oNl ?_
 refine cRt ?_
 cases h
 exact eR rfl rfl rfl rfl
 refine cSk ?_
 refine cSq ?_
 refine cRs ?_
 refine xLd rfl ?_
 refine xLd rfl ?_
 refine xC0 h (big_laws_toModule ·) rfl (fun c24_8 h => ?_)
 refine xC0 h (big_laws_eqModule ·) rfl (fun c25_9 h => ?_)
 refine xNot rfl ?_
 refine oNl ?_
 refine cIf h rfl (fun q10 h => ?_) (fun q10 h => ?_)
 refine cRs ?_
 refine xAs rfl ?_
 refine oNl ?_
 refine cRt ?_
 cases h
 exact eR rfl rfl rfl rfl
 refine cSk ?_
 refine cRs ?_
 refine xAs rfl ?_
 refine oNl ?_
 refine cRt ?_
 cases h
 exact eR rfl rfl rfl rfl
end Go.Own
