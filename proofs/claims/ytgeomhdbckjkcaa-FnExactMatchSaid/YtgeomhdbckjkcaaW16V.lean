/- A part of the proof. No conditions. -/
import Derived.Test.YtgeomhdbckjkcaaW16A
set_option linter.unusedVariables false
set_option linter.unusedSimpArgs false
set_option linter.unnecessarySimpa false
namespace Go.Own
open Go Go.Proofs
def rI_u8 (a : Int) : List T := [.int .u8 a]
theorem rI_u8_eq (a : Int) : rI_u8 a = [.int .u8 a] := rfl
def rStr (a : List UInt8) : List T := [.str a]
theorem rStr_eq (a : List UInt8) : rStr a = [.str a] := rfl
def rI_i64 (a : Int) : List T := [.int .i64 a]
theorem rI_i64_eq (a : Int) : rI_i64 a = [.int .i64 a] := rfl
mutual
inductive S_laws_Expr where
  | mk (f0 : Int) (f1 : Int) (f2 : List UInt8) (f3 : List S_laws_Expr) (f4 : List S_laws_Clause)
inductive S_laws_Clause where
  | two (p x : S_laws_Expr)
end
def S_laws_Clause.p : S_laws_Clause → S_laws_Expr
  | .two a _ => a
def S_laws_Clause.x : S_laws_Clause → S_laws_Expr
  | .two _ a => a
def S_laws_Expr.f0 : S_laws_Expr → Int
  | .mk a _ _ _ _ => a
def S_laws_Expr.f1 : S_laws_Expr → Int
  | .mk _ a _ _ _ => a
def S_laws_Expr.f2 : S_laws_Expr → List UInt8
  | .mk _ _ a _ _ => a
def S_laws_Expr.f3 : S_laws_Expr → List S_laws_Expr
  | .mk _ _ _ a _ => a
def S_laws_Expr.f4 : S_laws_Expr → List S_laws_Clause
  | .mk _ _ _ _ a => a
def S_laws_Clause.f0 (c : S_laws_Clause) : Int := S_laws_Expr.f0 (S_laws_Clause.p c)
def S_laws_Clause.f1 (c : S_laws_Clause) : Int := S_laws_Expr.f1 (S_laws_Clause.p c)
def S_laws_Clause.f2 (c : S_laws_Clause) : List UInt8 := S_laws_Expr.f2 (S_laws_Clause.p c)
def S_laws_Clause.f3 (c : S_laws_Clause) : List S_laws_Expr := S_laws_Expr.f3 (S_laws_Clause.p c)
def S_laws_Clause.f4 (c : S_laws_Clause) : List S_laws_Clause := S_laws_Expr.f4 (S_laws_Clause.p c)
def S_laws_Clause.f5 (c : S_laws_Clause) : Int := S_laws_Expr.f0 (S_laws_Clause.x c)
def S_laws_Clause.f6 (c : S_laws_Clause) : Int := S_laws_Expr.f1 (S_laws_Clause.x c)
def S_laws_Clause.f7 (c : S_laws_Clause) : List UInt8 := S_laws_Expr.f2 (S_laws_Clause.x c)
def S_laws_Clause.f8 (c : S_laws_Clause) : List S_laws_Expr := S_laws_Expr.f3 (S_laws_Clause.x c)
def S_laws_Clause.f9 (c : S_laws_Clause) : List S_laws_Clause := S_laws_Expr.f4 (S_laws_Clause.x c)
def S_laws_Clause.mk (a0 : Int) (a1 : Int) (a2 : List UInt8) (a3 : List S_laws_Expr) (a4 : List S_laws_Clause) (a5 : Int) (a6 : Int) (a7 : List UInt8) (a8 : List S_laws_Expr) (a9 : List S_laws_Clause) : S_laws_Clause := .two (.mk a0 a1 a2 a3 a4) (.mk a5 a6 a7 a8 a9)
mutual
def rS_laws_Expr : S_laws_Expr → List T
  | .mk a0 a1 a2 a3 a4 => [.int .i64 a0, .int .i64 a1, .str a2, .sl (rS_laws_Exprs a3), .sl (rS_laws_Clauses a4)]
def rS_laws_Exprs : List S_laws_Expr → List (List T)
  | [] => []
  | x :: r => rS_laws_Expr x :: rS_laws_Exprs r
def rS_laws_Clause : S_laws_Clause → List T
  | .two p x => rS_laws_Expr p ++ rS_laws_Expr x
def rS_laws_Clauses : List S_laws_Clause → List (List T)
  | [] => []
  | x :: r => rS_laws_Clause x :: rS_laws_Clauses r
end
theorem rS_laws_Exprs_map : ∀ l : List S_laws_Expr, rS_laws_Exprs l = l.map rS_laws_Expr
  | [] => by simp [rS_laws_Exprs]
  | x :: r => by simp [rS_laws_Exprs, rS_laws_Exprs_map r]
theorem rS_laws_Clauses_map : ∀ l : List S_laws_Clause, rS_laws_Clauses l = l.map rS_laws_Clause
  | [] => by simp [rS_laws_Clauses]
  | x :: r => by simp [rS_laws_Clauses, rS_laws_Clauses_map r]
theorem rS_laws_Expr_mk (a0 : Int) (a1 : Int) (a2 : List UInt8) (a3 : List S_laws_Expr) (a4 : List S_laws_Clause) : rS_laws_Expr (.mk a0 a1 a2 a3 a4) = [.int .i64 a0, .int .i64 a1, .str a2, .sl (a3.map rS_laws_Expr), .sl (a4.map rS_laws_Clause)] := by simp only [rS_laws_Expr, rS_laws_Exprs_map, rS_laws_Clauses_map]
theorem rS_laws_Expr_eq (a : S_laws_Expr) : rS_laws_Expr a = [.int .i64 a.f0, .int .i64 a.f1, .str a.f2, .sl (a.f3.map rS_laws_Expr), .sl (a.f4.map rS_laws_Clause)] := by
  cases a
  exact rS_laws_Expr_mk _ _ _ _ _
theorem rS_laws_Clause_eq (a : S_laws_Clause) : rS_laws_Clause a = [.int .i64 a.f0, .int .i64 a.f1, .str a.f2, .sl (a.f3.map rS_laws_Expr), .sl (a.f4.map rS_laws_Clause), .int .i64 a.f5, .int .i64 a.f6, .str a.f7, .sl (a.f8.map rS_laws_Expr), .sl (a.f9.map rS_laws_Clause)] := by
  cases a with
  | two p x =>
    simp only [rS_laws_Clause]
    rw [rS_laws_Expr_eq p, rS_laws_Expr_eq x]; rfl
theorem rS_laws_Clause_mk (a0 : Int) (a1 : Int) (a2 : List UInt8) (a3 : List S_laws_Expr) (a4 : List S_laws_Clause) (a5 : Int) (a6 : Int) (a7 : List UInt8) (a8 : List S_laws_Expr) (a9 : List S_laws_Clause) : rS_laws_Clause (.mk a0 a1 a2 a3 a4 a5 a6 a7 a8 a9) = [.int .i64 a0, .int .i64 a1, .str a2, .sl (a3.map rS_laws_Expr), .sl (a4.map rS_laws_Clause), .int .i64 a5, .int .i64 a6, .str a7, .sl (a8.map rS_laws_Expr), .sl (a9.map rS_laws_Clause)] := rS_laws_Clause_eq _
mutual
inductive S_impl_Expr where
  | mk (f0 : Int) (f1 : Int) (f2 : List UInt8) (f3 : List S_impl_Expr) (f4 : List S_impl_Clause)
inductive S_impl_Clause where
  | two (p x : S_impl_Expr)
end
def S_impl_Clause.p : S_impl_Clause → S_impl_Expr
  | .two a _ => a
def S_impl_Clause.x : S_impl_Clause → S_impl_Expr
  | .two _ a => a
def S_impl_Expr.f0 : S_impl_Expr → Int
  | .mk a _ _ _ _ => a
def S_impl_Expr.f1 : S_impl_Expr → Int
  | .mk _ a _ _ _ => a
def S_impl_Expr.f2 : S_impl_Expr → List UInt8
  | .mk _ _ a _ _ => a
def S_impl_Expr.f3 : S_impl_Expr → List S_impl_Expr
  | .mk _ _ _ a _ => a
def S_impl_Expr.f4 : S_impl_Expr → List S_impl_Clause
  | .mk _ _ _ _ a => a
def S_impl_Clause.f0 (c : S_impl_Clause) : Int := S_impl_Expr.f0 (S_impl_Clause.p c)
def S_impl_Clause.f1 (c : S_impl_Clause) : Int := S_impl_Expr.f1 (S_impl_Clause.p c)
def S_impl_Clause.f2 (c : S_impl_Clause) : List UInt8 := S_impl_Expr.f2 (S_impl_Clause.p c)
def S_impl_Clause.f3 (c : S_impl_Clause) : List S_impl_Expr := S_impl_Expr.f3 (S_impl_Clause.p c)
def S_impl_Clause.f4 (c : S_impl_Clause) : List S_impl_Clause := S_impl_Expr.f4 (S_impl_Clause.p c)
def S_impl_Clause.f5 (c : S_impl_Clause) : Int := S_impl_Expr.f0 (S_impl_Clause.x c)
def S_impl_Clause.f6 (c : S_impl_Clause) : Int := S_impl_Expr.f1 (S_impl_Clause.x c)
def S_impl_Clause.f7 (c : S_impl_Clause) : List UInt8 := S_impl_Expr.f2 (S_impl_Clause.x c)
def S_impl_Clause.f8 (c : S_impl_Clause) : List S_impl_Expr := S_impl_Expr.f3 (S_impl_Clause.x c)
def S_impl_Clause.f9 (c : S_impl_Clause) : List S_impl_Clause := S_impl_Expr.f4 (S_impl_Clause.x c)
def S_impl_Clause.mk (a0 : Int) (a1 : Int) (a2 : List UInt8) (a3 : List S_impl_Expr) (a4 : List S_impl_Clause) (a5 : Int) (a6 : Int) (a7 : List UInt8) (a8 : List S_impl_Expr) (a9 : List S_impl_Clause) : S_impl_Clause := .two (.mk a0 a1 a2 a3 a4) (.mk a5 a6 a7 a8 a9)
mutual
def rS_impl_Expr : S_impl_Expr → List T
  | .mk a0 a1 a2 a3 a4 => [.int .i64 a0, .int .i64 a1, .str a2, .sl (rS_impl_Exprs a3), .sl (rS_impl_Clauses a4)]
def rS_impl_Exprs : List S_impl_Expr → List (List T)
  | [] => []
  | x :: r => rS_impl_Expr x :: rS_impl_Exprs r
def rS_impl_Clause : S_impl_Clause → List T
  | .two p x => rS_impl_Expr p ++ rS_impl_Expr x
def rS_impl_Clauses : List S_impl_Clause → List (List T)
  | [] => []
  | x :: r => rS_impl_Clause x :: rS_impl_Clauses r
end
theorem rS_impl_Exprs_map : ∀ l : List S_impl_Expr, rS_impl_Exprs l = l.map rS_impl_Expr
  | [] => by simp [rS_impl_Exprs]
  | x :: r => by simp [rS_impl_Exprs, rS_impl_Exprs_map r]
theorem rS_impl_Clauses_map : ∀ l : List S_impl_Clause, rS_impl_Clauses l = l.map rS_impl_Clause
  | [] => by simp [rS_impl_Clauses]
  | x :: r => by simp [rS_impl_Clauses, rS_impl_Clauses_map r]
theorem rS_impl_Expr_mk (a0 : Int) (a1 : Int) (a2 : List UInt8) (a3 : List S_impl_Expr) (a4 : List S_impl_Clause) : rS_impl_Expr (.mk a0 a1 a2 a3 a4) = [.int .i64 a0, .int .i64 a1, .str a2, .sl (a3.map rS_impl_Expr), .sl (a4.map rS_impl_Clause)] := by simp only [rS_impl_Expr, rS_impl_Exprs_map, rS_impl_Clauses_map]
theorem rS_impl_Expr_eq (a : S_impl_Expr) : rS_impl_Expr a = [.int .i64 a.f0, .int .i64 a.f1, .str a.f2, .sl (a.f3.map rS_impl_Expr), .sl (a.f4.map rS_impl_Clause)] := by
  cases a
  exact rS_impl_Expr_mk _ _ _ _ _
theorem rS_impl_Clause_eq (a : S_impl_Clause) : rS_impl_Clause a = [.int .i64 a.f0, .int .i64 a.f1, .str a.f2, .sl (a.f3.map rS_impl_Expr), .sl (a.f4.map rS_impl_Clause), .int .i64 a.f5, .int .i64 a.f6, .str a.f7, .sl (a.f8.map rS_impl_Expr), .sl (a.f9.map rS_impl_Clause)] := by
  cases a with
  | two p x =>
    simp only [rS_impl_Clause]
    rw [rS_impl_Expr_eq p, rS_impl_Expr_eq x]; rfl
theorem rS_impl_Clause_mk (a0 : Int) (a1 : Int) (a2 : List UInt8) (a3 : List S_impl_Expr) (a4 : List S_impl_Clause) (a5 : Int) (a6 : Int) (a7 : List UInt8) (a8 : List S_impl_Expr) (a9 : List S_impl_Clause) : rS_impl_Clause (.mk a0 a1 a2 a3 a4 a5 a6 a7 a8 a9) = [.int .i64 a0, .int .i64 a1, .str a2, .sl (a3.map rS_impl_Expr), .sl (a4.map rS_impl_Clause), .int .i64 a5, .int .i64 a6, .str a7, .sl (a8.map rS_impl_Expr), .sl (a9.map rS_impl_Clause)] := rS_impl_Clause_eq _
inductive S_impl_Term where
  | mk (f0 : Int) (f1 : Int) (f2 : List UInt8) (f3 : List S_impl_Term)
def S_impl_Term.f0 : S_impl_Term → Int
  | .mk a _ _ _ => a
def S_impl_Term.f1 : S_impl_Term → Int
  | .mk _ a _ _ => a
def S_impl_Term.f2 : S_impl_Term → List UInt8
  | .mk _ _ a _ => a
def S_impl_Term.f3 : S_impl_Term → List S_impl_Term
  | .mk _ _ _ a => a
mutual
def rS_impl_Term : S_impl_Term → List T
  | .mk a0 a1 a2 a3 => [.int .i64 a0, .int .i64 a1, .str a2, .sl (rS_impl_Terms a3)]
def rS_impl_Terms : List S_impl_Term → List (List T)
  | [] => []
  | x :: r => rS_impl_Term x :: rS_impl_Terms r
end
theorem rS_impl_Terms_map : ∀ l : List S_impl_Term, rS_impl_Terms l = l.map rS_impl_Term
  | [] => by simp [rS_impl_Terms]
  | x :: r => by simp [rS_impl_Terms, rS_impl_Terms_map r]
theorem rS_impl_Term_eq (a : S_impl_Term) : rS_impl_Term a = [.int .i64 a.f0, .int .i64 a.f1, .str a.f2, .sl (a.f3.map rS_impl_Term)] := by
  cases a
  simp [rS_impl_Term, rS_impl_Terms_map, S_impl_Term.f0, S_impl_Term.f1, S_impl_Term.f2, S_impl_Term.f3]
theorem rS_impl_Term_mk (a0 : Int) (a1 : Int) (a2 : List UInt8) (a3 : List S_impl_Term) : rS_impl_Term (.mk a0 a1 a2 a3) = [.int .i64 a0, .int .i64 a1, .str a2, .sl (a3.map rS_impl_Term)] := by simp [rS_impl_Term, rS_impl_Terms_map]
structure S_impl_Bind where
  f0 : List UInt8
  f1 : Int
  f2 : Int
  f3 : List UInt8
  f4 : List S_impl_Term
def rS_impl_Bind (a : S_impl_Bind) : List T := [.str a.f0, .int .i64 a.f1, .int .i64 a.f2, .str a.f3, .sl (a.f4.map rS_impl_Term)]
theorem rS_impl_Bind_eq (a : S_impl_Bind) : rS_impl_Bind a = [.str a.f0, .int .i64 a.f1, .int .i64 a.f2, .str a.f3, .sl (a.f4.map rS_impl_Term)] := rfl
inductive S_laws_Term where
  | mk (f0 : Int) (f1 : Int) (f2 : List UInt8) (f3 : List S_laws_Term)
def S_laws_Term.f0 : S_laws_Term → Int
  | .mk a _ _ _ => a
def S_laws_Term.f1 : S_laws_Term → Int
  | .mk _ a _ _ => a
def S_laws_Term.f2 : S_laws_Term → List UInt8
  | .mk _ _ a _ => a
def S_laws_Term.f3 : S_laws_Term → List S_laws_Term
  | .mk _ _ _ a => a
mutual
def rS_laws_Term : S_laws_Term → List T
  | .mk a0 a1 a2 a3 => [.int .i64 a0, .int .i64 a1, .str a2, .sl (rS_laws_Terms a3)]
def rS_laws_Terms : List S_laws_Term → List (List T)
  | [] => []
  | x :: r => rS_laws_Term x :: rS_laws_Terms r
end
theorem rS_laws_Terms_map : ∀ l : List S_laws_Term, rS_laws_Terms l = l.map rS_laws_Term
  | [] => by simp [rS_laws_Terms]
  | x :: r => by simp [rS_laws_Terms, rS_laws_Terms_map r]
theorem rS_laws_Term_eq (a : S_laws_Term) : rS_laws_Term a = [.int .i64 a.f0, .int .i64 a.f1, .str a.f2, .sl (a.f3.map rS_laws_Term)] := by
  cases a
  simp [rS_laws_Term, rS_laws_Terms_map, S_laws_Term.f0, S_laws_Term.f1, S_laws_Term.f2, S_laws_Term.f3]
theorem rS_laws_Term_mk (a0 : Int) (a1 : Int) (a2 : List UInt8) (a3 : List S_laws_Term) : rS_laws_Term (.mk a0 a1 a2 a3) = [.int .i64 a0, .int .i64 a1, .str a2, .sl (a3.map rS_laws_Term)] := by simp [rS_laws_Term, rS_laws_Terms_map]
theorem marks_40 : Marks Try.prog 40 true 5 [(3, 116), (4, 117)] := by
  refine Marks.of (S := 70) Try.func40 rfl rfl (by decide) (by decide) (fun cs k w Bx R a hl hsz hdf h0 h1 hbs hq => ?_)
  refine mk_start rfl hsz hdf h0 h1 hbs hq (fun a w b Bx hst hq => ?_)
  refine mk_step tables [(4, 117)] rfl rfl rfl (fun _ => rfl) (Marks.slice _ 116) (by rw [hl]; decide) rfl rfl rfl hst hq (fun k a w hst hq => ?_)
  refine mk_step tables [] rfl rfl rfl (fun _ => rfl) (Marks.slice _ 117) (by rw [hl]; decide) rfl rfl rfl hst hq (fun k a w hst hq => ?_)
  exact mk_tail rfl rfl hst hq
theorem marks_42 : Marks Try.prog 42 true 4 [(3, 41)] := by
  refine Marks.of (S := 64) Try.func42 rfl rfl (by decide) (by decide) (fun cs k w Bx R a hl hsz hdf h0 h1 hbs hq => ?_)
  refine mk_start rfl hsz hdf h0 h1 hbs hq (fun a w b Bx hst hq => ?_)
  refine mk_step tables [] rfl rfl rfl (fun _ => rfl) (Marks.slice _ 41) (by rw [hl]; decide) rfl rfl rfl hst hq (fun k a w hst hq => ?_)
  exact mk_tail rfl rfl hst hq
abbrev Y_laws_szClause : Type := Int → Int → (List UInt8) → (List S_laws_Expr) → (List S_laws_Clause) → Int → Int → (List UInt8) → (List S_laws_Expr) → (List S_laws_Clause) → Int → Option (Int)
abbrev B_laws_szClause (p : Y_laws_szClause) : Prop := ∀ {t0_0 t0_1 : Int} {t0_2 : List UInt8} {t0_3 : List S_laws_Expr} {t0_4 : List S_laws_Clause} {t0_5 t0_6 : Int} {t0_7 : List UInt8} {t0_8 : List S_laws_Expr} {t0_9 : List S_laws_Clause} {t1_0 : Int} {r : Int}, p t0_0 t0_1 t0_2 t0_3 t0_4 t0_5 t0_6 t0_7 t0_8 t0_9 t1_0 = some r → Big Try.prog τ An (.fn 181 [.one (.ag [.int .i64 t0_0, .int .i64 t0_1, .str t0_2, .sl (t0_3.map rS_laws_Expr), .sl (t0_4.map rS_laws_Clause), .int .i64 t0_5, .int .i64 t0_6, .str t0_7, .sl (t0_8.map rS_laws_Expr), .sl (t0_9.map rS_laws_Clause)]), .one (.c (.int .i64 t1_0))] [] (.one (.c (.int .i64 r))) none [] none)
abbrev Y_laws_szClauseS : Type := (List S_laws_Clause) → Int → Option (Int)
abbrev B_laws_szClauseS (p : Y_laws_szClauseS) : Prop := ∀ {t0_0 : List S_laws_Clause} {t1_0 : Int} {r : Int}, p t0_0 t1_0 = some r → Big Try.prog τ An (.fn 105 [.one (.c (.sl (t0_0.map rS_laws_Clause))), .one (.c (.int .i64 t1_0))] [] (.one (.c (.int .i64 r))) none [] none)
abbrev Y_laws_szExprS : Type := (List S_laws_Expr) → Int → Option (Int)
abbrev B_laws_szExprS (p : Y_laws_szExprS) : Prop := ∀ {t0_0 : List S_laws_Expr} {t1_0 : Int} {r : Int}, p t0_0 t1_0 = some r → Big Try.prog τ An (.fn 104 [.one (.c (.sl (t0_0.map rS_laws_Expr))), .one (.c (.int .i64 t1_0))] [] (.one (.c (.int .i64 r))) none [] none)
abbrev Y_laws_szExpr : Type := Int → Int → (List UInt8) → (List S_laws_Expr) → (List S_laws_Clause) → Int → Option (Int)
abbrev B_laws_szExpr (p : Y_laws_szExpr) : Prop := ∀ {t0_0 t0_1 : Int} {t0_2 : List UInt8} {t0_3 : List S_laws_Expr} {t0_4 : List S_laws_Clause} {t1_0 : Int} {r : Int}, p t0_0 t0_1 t0_2 t0_3 t0_4 t1_0 = some r → Big Try.prog τ An (.fn 31 [.one (.ag [.int .i64 t0_0, .int .i64 t0_1, .str t0_2, .sl (t0_3.map rS_laws_Expr), .sl (t0_4.map rS_laws_Clause)]), .one (.c (.int .i64 t1_0))] [] (.one (.c (.int .i64 r))) none [] none)
def s_laws_szClause (n : Nat) (r_laws_szExpr : Y_laws_szExpr) (r_laws_szExprS : Y_laws_szExprS) (r_laws_szClauseS : Y_laws_szClauseS) (r_laws_szClause : Y_laws_szClause) (t0_0 : Int) (t0_1 : Int) (t0_2 : List UInt8) (t0_3 : List S_laws_Expr) (t0_4 : List S_laws_Clause) (t0_5 : Int) (t0_6 : Int) (t0_7 : List UInt8) (t0_8 : List S_laws_Expr) (t0_9 : List S_laws_Clause) (t1_0 : Int) : Option (Int) :=
  (r_laws_szExpr t0_0 t0_1 t0_2 t0_3 t0_4 t1_0).bind fun c8_1 => bif decide (c8_1 < (0 : Int)) then some ((-1) : Int) else (r_laws_szExpr t0_5 t0_6 t0_7 t0_8 t0_9 c8_1).bind fun c14_3 => bif decide (c14_3 < (0 : Int)) then some ((-1) : Int) else some c14_3
theorem step_laws_szClause {n : Nat} {r_laws_szExpr : Y_laws_szExpr} (ih_laws_szExpr : B_laws_szExpr r_laws_szExpr) {r_laws_szExprS : Y_laws_szExprS} (ih_laws_szExprS : B_laws_szExprS r_laws_szExprS) {r_laws_szClauseS : Y_laws_szClauseS} (ih_laws_szClauseS : B_laws_szClauseS r_laws_szClauseS) {r_laws_szClause : Y_laws_szClause} (ih_laws_szClause : B_laws_szClause r_laws_szClause) : B_laws_szClause (s_laws_szClause n r_laws_szExpr r_laws_szExprS r_laws_szClauseS r_laws_szClause) := by
 intro t0_0 t0_1 t0_2 t0_3 t0_4 t0_5 t0_6 t0_7 t0_8 t0_9 t1_0 r h
 unfold s_laws_szClause at h
 refine bF Try.func181 rfl rfl <| cRs <| xBx rfl <| xAs rfl <| oRs <| xFd rfl <| xLd rfl <| xMv rfl <| xC0 h (ih_laws_szExpr ·) rfl (fun c8_1 h => ?_)
 refine xAs rfl <| oNl <| cSq <| cRs <| xMv rfl <| xLt rfl <| oNl <| cIf h rfl (fun q2 h => ?_) (fun q2 h => ?_)
 refine cRs <| xAs rfl <| oNl <| cRt ?_
 cases h
 exact eR rfl rfl rfl rfl
 refine cSk <| cRs <| xFd rfl <| xLd rfl <| xMv rfl <| xC0 h (ih_laws_szExpr ·) rfl (fun c14_3 h => ?_)
 refine xAs rfl <| oNl <| cSq <| cRs <| xMv rfl <| xLt rfl <| oNl <| cIf h rfl (fun q4 h => ?_) (fun q4 h => ?_)
 refine cRs <| xAs rfl <| oNl <| cRt ?_
 cases h
 exact eR rfl rfl rfl rfl
 refine cSk <| cRs <| xMv rfl <| xAs rfl <| oNl <| cRt ?_
 cases h
 exact eR rfl rfl rfl rfl
def p_laws_szClauseS_b1 (n : Nat) (r_laws_szClause : Y_laws_szClause) (t0_0 : List S_laws_Clause) : (Int × Int) → Option ((Int × Int) ⊕ ((Int) ⊕ (Int × Int × Bool)))
  | (v1_2, v5_3) => bif decide (v5_3 < (t0_0.length : Int)) then (ix t0_0 v5_3).bind fun e20_9 => (r_laws_szClause e20_9.f0 e20_9.f1 e20_9.f2 e20_9.f3 e20_9.f4 e20_9.f5 e20_9.f6 e20_9.f7 e20_9.f8 e20_9.f9 v1_2).bind fun c23_10 => bif decide (c23_10 < (0 : Int)) then some (.inr (.inl ((-1) : Int))) else some (.inl (c23_10, (IntKind.wrap .i64 (v5_3 + (1 : Int))))) else some (.inr (.inr (v1_2, v5_3, false)))
def s_laws_szClauseS (n : Nat) (r_laws_szExpr : Y_laws_szExpr) (r_laws_szExprS : Y_laws_szExprS) (r_laws_szClauseS : Y_laws_szClauseS) (r_laws_szClause : Y_laws_szClause) (t0_0 : List S_laws_Clause) (t1_0 : Int) : Option (Int) :=
  bif decide ((IntKind.wrap .i64 (t1_0 - (t0_0.length : Int))) < (0 : Int)) then some ((-1) : Int) else (loopN (p_laws_szClauseS_b1 n r_laws_szClause t0_0) n ((IntKind.wrap .i64 (t1_0 - (t0_0.length : Int))), (0 : Int))).bind fun q => (match q with | .inl v4_4 => some v4_4 | .inr (v1_5, v5_6, v15_7) => some v1_5)
theorem step_laws_szClauseS {n : Nat} {r_laws_szExpr : Y_laws_szExpr} (ih_laws_szExpr : B_laws_szExpr r_laws_szExpr) {r_laws_szExprS : Y_laws_szExprS} (ih_laws_szExprS : B_laws_szExprS r_laws_szExprS) {r_laws_szClauseS : Y_laws_szClauseS} (ih_laws_szClauseS : B_laws_szClauseS r_laws_szClauseS) {r_laws_szClause : Y_laws_szClause} (ih_laws_szClause : B_laws_szClause r_laws_szClause) : B_laws_szClauseS (s_laws_szClauseS n r_laws_szExpr r_laws_szExprS r_laws_szClauseS r_laws_szClause) := by
 intro t0_0 t1_0 r h
 unfold s_laws_szClauseS at h
 refine bF Try.func105 rfl rfl <| cRs <| xAs rfl <| oRs <| xMv rfl <| xMv rfl <| xLn rfl <| xSub rfl <| xAs rfl <| oNl <| cSq <| cRs <| xMv rfl <| xLt rfl ?_
 refine oNl <| cIf h rfl (fun q1 h => ?_) (fun q1 h => ?_)
 refine cRs <| xAs rfl <| oNl <| cRt ?_
 cases h
 exact eR rfl rfl rfl rfl
 refine cSk <| cSq <| cRs <| xAs rfl <| oNl <| cLp h [(1, 1), (4, 5), (12, 25)] [] (fun (v1_2, v5_3) => ([(1, I64 v1_2), (5, I64 v5_3)], [])) (fun q => match q with | .inl v4_4 => (.r, [(4, I64 v4_4)], []) | .inr (v1_5, v5_6, v15_7) => (.e 0, [(1, I64 v1_5), (5, I64 v5_6), (15, Bo v15_7)], [])) rfl (fun st _ h => ?_) (fun q h => ?_)
 obtain ⟨v1_2, v5_3⟩ := st
 unfold p_laws_szClauseS_b1 at h
 refine cSq <| cRs <| xMv rfl <| xMv rfl <| xLn rfl <| xLt rfl <| oNl <| cIf h rfl (fun q8 h => ?_) (fun q8 h => ?_)
 refine cSk <| cSq <| cBk <| cRs <| xMv rfl <| xMv rfl <| xIx h rS_laws_Clause_eq rfl (fun e20_9 h => ?_)
 refine xLd rfl <| xMv rfl <| xC0 h (ih_laws_szClause ·) rfl (fun c23_10 h => ?_)
 refine xAs rfl <| oRs <| xMv rfl <| xLt rfl <| oNl <| cIf h rfl (fun q11 h => ?_) (fun q11 h => ?_)
 exact cRs <| xAs rfl <| oNl <| cRt <| eXr h rfl
 exact cSk <| cRg <| xMv rfl <| xAdd rfl <| xAs rfl <| oNl <| eL h rfl
 exact cEx <| eX h rfl
 rcases q with v4_4 | ⟨v1_5, v5_6, v15_7⟩
 cases h
 exact eR rfl rfl rfl rfl
 refine cRs <| xMv rfl <| xAs rfl <| oNl <| cRt ?_
 cases h
 exact eR rfl rfl rfl rfl
def p_laws_szExprS_b1 (n : Nat) (r_laws_szExpr : Y_laws_szExpr) (t0_0 : List S_laws_Expr) : (Int × Int) → Option ((Int × Int) ⊕ ((Int) ⊕ (Int × Int × Bool)))
  | (v1_2, v5_3) => bif decide (v5_3 < (t0_0.length : Int)) then (ix t0_0 v5_3).bind fun e20_9 => (r_laws_szExpr e20_9.f0 e20_9.f1 e20_9.f2 e20_9.f3 e20_9.f4 v1_2).bind fun c23_10 => bif decide (c23_10 < (0 : Int)) then some (.inr (.inl ((-1) : Int))) else some (.inl (c23_10, (IntKind.wrap .i64 (v5_3 + (1 : Int))))) else some (.inr (.inr (v1_2, v5_3, false)))
def s_laws_szExprS (n : Nat) (r_laws_szExpr : Y_laws_szExpr) (r_laws_szExprS : Y_laws_szExprS) (r_laws_szClauseS : Y_laws_szClauseS) (r_laws_szClause : Y_laws_szClause) (t0_0 : List S_laws_Expr) (t1_0 : Int) : Option (Int) :=
  bif decide ((IntKind.wrap .i64 (t1_0 - (t0_0.length : Int))) < (0 : Int)) then some ((-1) : Int) else (loopN (p_laws_szExprS_b1 n r_laws_szExpr t0_0) n ((IntKind.wrap .i64 (t1_0 - (t0_0.length : Int))), (0 : Int))).bind fun q => (match q with | .inl v4_4 => some v4_4 | .inr (v1_5, v5_6, v15_7) => some v1_5)
theorem step_laws_szExprS {n : Nat} {r_laws_szExpr : Y_laws_szExpr} (ih_laws_szExpr : B_laws_szExpr r_laws_szExpr) {r_laws_szExprS : Y_laws_szExprS} (ih_laws_szExprS : B_laws_szExprS r_laws_szExprS) {r_laws_szClauseS : Y_laws_szClauseS} (ih_laws_szClauseS : B_laws_szClauseS r_laws_szClauseS) {r_laws_szClause : Y_laws_szClause} (ih_laws_szClause : B_laws_szClause r_laws_szClause) : B_laws_szExprS (s_laws_szExprS n r_laws_szExpr r_laws_szExprS r_laws_szClauseS r_laws_szClause) := by
 intro t0_0 t1_0 r h
 unfold s_laws_szExprS at h
 refine bF Try.func104 rfl rfl <| cRs <| xAs rfl <| oRs <| xMv rfl <| xMv rfl <| xLn rfl <| xSub rfl <| xAs rfl <| oNl <| cSq <| cRs <| xMv rfl <| xLt rfl ?_
 refine oNl <| cIf h rfl (fun q1 h => ?_) (fun q1 h => ?_)
 refine cRs <| xAs rfl <| oNl <| cRt ?_
 cases h
 exact eR rfl rfl rfl rfl
 refine cSk <| cSq <| cRs <| xAs rfl <| oNl <| cLp h [(1, 1), (4, 5), (12, 25)] [] (fun (v1_2, v5_3) => ([(1, I64 v1_2), (5, I64 v5_3)], [])) (fun q => match q with | .inl v4_4 => (.r, [(4, I64 v4_4)], []) | .inr (v1_5, v5_6, v15_7) => (.e 0, [(1, I64 v1_5), (5, I64 v5_6), (15, Bo v15_7)], [])) rfl (fun st _ h => ?_) (fun q h => ?_)
 obtain ⟨v1_2, v5_3⟩ := st
 unfold p_laws_szExprS_b1 at h
 refine cSq <| cRs <| xMv rfl <| xMv rfl <| xLn rfl <| xLt rfl <| oNl <| cIf h rfl (fun q8 h => ?_) (fun q8 h => ?_)
 refine cSk <| cSq <| cBk <| cRs <| xMv rfl <| xMv rfl <| xIx h rS_laws_Expr_eq rfl (fun e20_9 h => ?_)
 refine xLd rfl <| xMv rfl <| xC0 h (ih_laws_szExpr ·) rfl (fun c23_10 h => ?_)
 refine xAs rfl <| oRs <| xMv rfl <| xLt rfl <| oNl <| cIf h rfl (fun q11 h => ?_) (fun q11 h => ?_)
 exact cRs <| xAs rfl <| oNl <| cRt <| eXr h rfl
 exact cSk <| cRg <| xMv rfl <| xAdd rfl <| xAs rfl <| oNl <| eL h rfl
 exact cEx <| eX h rfl
 rcases q with v4_4 | ⟨v1_5, v5_6, v15_7⟩
 cases h
 exact eR rfl rfl rfl rfl
 refine cRs <| xMv rfl <| xAs rfl <| oNl <| cRt ?_
 cases h
 exact eR rfl rfl rfl rfl
def s_laws_szExpr (n : Nat) (r_laws_szExpr : Y_laws_szExpr) (r_laws_szExprS : Y_laws_szExprS) (r_laws_szClauseS : Y_laws_szClauseS) (r_laws_szClause : Y_laws_szClause) (t0_0 : Int) (t0_1 : Int) (t0_2 : List UInt8) (t0_3 : List S_laws_Expr) (t0_4 : List S_laws_Clause) (t1_0 : Int) : Option (Int) :=
  bif decide ((IntKind.wrap .i64 (t1_0 - (t0_2.length : Int))) < (0 : Int)) then some ((-1) : Int) else (r_laws_szExprS t0_3 (IntKind.wrap .i64 (t1_0 - (t0_2.length : Int)))).bind fun c15_2 => bif decide (c15_2 < (0 : Int)) then some ((-1) : Int) else (r_laws_szClauseS t0_4 c15_2).bind fun c21_4 => bif decide (c21_4 < (0 : Int)) then some ((-1) : Int) else some c21_4
theorem step_laws_szExpr {n : Nat} {r_laws_szExpr : Y_laws_szExpr} (ih_laws_szExpr : B_laws_szExpr r_laws_szExpr) {r_laws_szExprS : Y_laws_szExprS} (ih_laws_szExprS : B_laws_szExprS r_laws_szExprS) {r_laws_szClauseS : Y_laws_szClauseS} (ih_laws_szClauseS : B_laws_szClauseS r_laws_szClauseS) {r_laws_szClause : Y_laws_szClause} (ih_laws_szClause : B_laws_szClause r_laws_szClause) : B_laws_szExpr (s_laws_szExpr n r_laws_szExpr r_laws_szExprS r_laws_szClauseS r_laws_szClause) := by
 intro t0_0 t0_1 t0_2 t0_3 t0_4 t1_0 r h
 unfold s_laws_szExpr at h
 refine bF Try.func31 rfl rfl <| cRs <| xBx rfl <| xAs rfl <| oRs <| xMv rfl <| xFd rfl <| xLd rfl <| xLs rfl <| xSub rfl <| xAs rfl <| oNl <| cSq <| cRs ?_
 refine xMv rfl <| xLt rfl <| oNl <| cIf h rfl (fun q1 h => ?_) (fun q1 h => ?_)
 refine cRs <| xAs rfl <| oNl <| cRt ?_
 cases h
 exact eR rfl rfl rfl rfl
 refine cSk <| cRs <| xFd rfl <| xLd rfl <| xMv rfl <| xC0 h (ih_laws_szExprS ·) rfl (fun c15_2 h => ?_)
 refine xAs rfl <| oNl <| cSq <| cRs <| xMv rfl <| xLt rfl <| oNl <| cIf h rfl (fun q3 h => ?_) (fun q3 h => ?_)
 refine cRs <| xAs rfl <| oNl <| cRt ?_
 cases h
 exact eR rfl rfl rfl rfl
 refine cSk <| cRs <| xFd rfl <| xLd rfl <| xMv rfl <| xC0 h (ih_laws_szClauseS ·) rfl (fun c21_4 h => ?_)
 refine xAs rfl <| oNl <| cSq <| cRs <| xMv rfl <| xLt rfl <| oNl <| cIf h rfl (fun q5 h => ?_) (fun q5 h => ?_)
 refine cRs <| xAs rfl <| oNl <| cRt ?_
 cases h
 exact eR rfl rfl rfl rfl
 refine cSk <| cRs <| xMv rfl <| xAs rfl <| oNl <| cRt ?_
 cases h
 exact eR rfl rfl rfl rfl
def q_laws_szExpr : Nat → (Y_laws_szExpr) × (Y_laws_szExprS) × (Y_laws_szClauseS) × (Y_laws_szClause)
  | 0 => ((fun _ _ _ _ _ _ => none), (fun _ _ => none), (fun _ _ => none), (fun _ _ _ _ _ _ _ _ _ _ _ => none))
  | n + 1 => (s_laws_szExpr n ((q_laws_szExpr n).1) ((q_laws_szExpr n).2.1) ((q_laws_szExpr n).2.2.1) ((q_laws_szExpr n).2.2.2), s_laws_szExprS n ((q_laws_szExpr n).1) ((q_laws_szExpr n).2.1) ((q_laws_szExpr n).2.2.1) ((q_laws_szExpr n).2.2.2), s_laws_szClauseS n ((q_laws_szExpr n).1) ((q_laws_szExpr n).2.1) ((q_laws_szExpr n).2.2.1) ((q_laws_szExpr n).2.2.2), s_laws_szClause n ((q_laws_szExpr n).1) ((q_laws_szExpr n).2.1) ((q_laws_szExpr n).2.2.1) ((q_laws_szExpr n).2.2.2))
def p_laws_szExpr (n : Nat) : Y_laws_szExpr := (q_laws_szExpr n).1
def p_laws_szExprS (n : Nat) : Y_laws_szExprS := (q_laws_szExpr n).2.1
def p_laws_szClauseS (n : Nat) : Y_laws_szClauseS := (q_laws_szExpr n).2.2.1
def p_laws_szClause (n : Nat) : Y_laws_szClause := (q_laws_szExpr n).2.2.2
theorem bigs_laws_szExpr (n : Nat) : B_laws_szExpr (p_laws_szExpr n) ∧ B_laws_szExprS (p_laws_szExprS n) ∧ B_laws_szClauseS (p_laws_szClauseS n) ∧ B_laws_szClause (p_laws_szClause n) := by
  induction n with
  | zero => exact ⟨(fun h => nomatch h), (fun h => nomatch h), (fun h => nomatch h), (fun h => nomatch h)⟩
  | succ n ih => exact ⟨step_laws_szExpr (n := n) (ih.1) (ih.2.1) (ih.2.2.1) (ih.2.2.2), step_laws_szExprS (n := n) (ih.1) (ih.2.1) (ih.2.2.1) (ih.2.2.2), step_laws_szClauseS (n := n) (ih.1) (ih.2.1) (ih.2.2.1) (ih.2.2.2), step_laws_szClause (n := n) (ih.1) (ih.2.1) (ih.2.2.1) (ih.2.2.2)⟩
theorem big_laws_szExpr {n : Nat} : B_laws_szExpr (p_laws_szExpr n) := (bigs_laws_szExpr n).1
theorem big_laws_szExprS {n : Nat} : B_laws_szExprS (p_laws_szExprS n) := (bigs_laws_szExpr n).2.1
theorem big_laws_szClauseS {n : Nat} : B_laws_szClauseS (p_laws_szClauseS n) := (bigs_laws_szExpr n).2.2.1
theorem big_laws_szClause {n : Nat} : B_laws_szClause (p_laws_szClause n) := (bigs_laws_szExpr n).2.2.2
theorem p_laws_szExpr_succ (n : Nat) : p_laws_szExpr (n + 1) = s_laws_szExpr n (p_laws_szExpr n) (p_laws_szExprS n) (p_laws_szClauseS n) (p_laws_szClause n) := rfl
theorem p_laws_szExprS_succ (n : Nat) : p_laws_szExprS (n + 1) = s_laws_szExprS n (p_laws_szExpr n) (p_laws_szExprS n) (p_laws_szClauseS n) (p_laws_szClause n) := rfl
theorem p_laws_szClauseS_succ (n : Nat) : p_laws_szClauseS (n + 1) = s_laws_szClauseS n (p_laws_szExpr n) (p_laws_szExprS n) (p_laws_szClauseS n) (p_laws_szClause n) := rfl
theorem p_laws_szClause_succ (n : Nat) : p_laws_szClause (n + 1) = s_laws_szClause n (p_laws_szExpr n) (p_laws_szExprS n) (p_laws_szClauseS n) (p_laws_szClause n) := rfl
abbrev Y_laws_toClause : Type := Int → Int → (List UInt8) → (List S_laws_Expr) → (List S_laws_Clause) → Int → Int → (List UInt8) → (List S_laws_Expr) → (List S_laws_Clause) → Option (Int × Int × (List UInt8) × (List S_impl_Expr) × (List S_impl_Clause) × Int × Int × (List UInt8) × (List S_impl_Expr) × (List S_impl_Clause))
abbrev B_laws_toClause (p : Y_laws_toClause) : Prop := ∀ {t0_0 t0_1 : Int} {t0_2 : List UInt8} {t0_3 : List S_laws_Expr} {t0_4 : List S_laws_Clause} {t0_5 t0_6 : Int} {t0_7 : List UInt8} {t0_8 : List S_laws_Expr} {t0_9 : List S_laws_Clause} {r : Int × Int × (List UInt8) × (List S_impl_Expr) × (List S_impl_Clause) × Int × Int × (List UInt8) × (List S_impl_Expr) × (List S_impl_Clause)}, p t0_0 t0_1 t0_2 t0_3 t0_4 t0_5 t0_6 t0_7 t0_8 t0_9 = some r → Big Try.prog τ An (.fn 187 [.one (.ag [.int .i64 t0_0, .int .i64 t0_1, .str t0_2, .sl (t0_3.map rS_laws_Expr), .sl (t0_4.map rS_laws_Clause), .int .i64 t0_5, .int .i64 t0_6, .str t0_7, .sl (t0_8.map rS_laws_Expr), .sl (t0_9.map rS_laws_Clause)])] [] (.one (.ag [.int .i64 r.1, .int .i64 r.2.1, .str r.2.2.1, .sl (r.2.2.2.1.map rS_impl_Expr), .sl (r.2.2.2.2.1.map rS_impl_Clause), .int .i64 r.2.2.2.2.2.1, .int .i64 r.2.2.2.2.2.2.1, .str r.2.2.2.2.2.2.2.1, .sl (r.2.2.2.2.2.2.2.2.1.map rS_impl_Expr), .sl (r.2.2.2.2.2.2.2.2.2.map rS_impl_Clause)])) none [] none)
abbrev Y_laws_toClauseS : Type := (List S_laws_Clause) → Option ((List S_impl_Clause))
abbrev B_laws_toClauseS (p : Y_laws_toClauseS) : Prop := ∀ {t0_0 : List S_laws_Clause} {r : (List S_impl_Clause)}, p t0_0 = some r → Big Try.prog τ An (.fn 111 [.one (.c (.sl (t0_0.map rS_laws_Clause)))] [] (.one (.c (.sl (r.map rS_impl_Clause)))) none [] none)
abbrev Y_laws_toExprS : Type := (List S_laws_Expr) → Option ((List S_impl_Expr))
abbrev B_laws_toExprS (p : Y_laws_toExprS) : Prop := ∀ {t0_0 : List S_laws_Expr} {r : (List S_impl_Expr)}, p t0_0 = some r → Big Try.prog τ An (.fn 110 [.one (.c (.sl (t0_0.map rS_laws_Expr)))] [] (.one (.c (.sl (r.map rS_impl_Expr)))) none [] none)
abbrev Y_laws_toExpr : Type := Int → Int → (List UInt8) → (List S_laws_Expr) → (List S_laws_Clause) → Option (Int × Int × (List UInt8) × (List S_impl_Expr) × (List S_impl_Clause))
abbrev B_laws_toExpr (p : Y_laws_toExpr) : Prop := ∀ {t0_0 t0_1 : Int} {t0_2 : List UInt8} {t0_3 : List S_laws_Expr} {t0_4 : List S_laws_Clause} {r : Int × Int × (List UInt8) × (List S_impl_Expr) × (List S_impl_Clause)}, p t0_0 t0_1 t0_2 t0_3 t0_4 = some r → Big Try.prog τ An (.fn 34 [.one (.ag [.int .i64 t0_0, .int .i64 t0_1, .str t0_2, .sl (t0_3.map rS_laws_Expr), .sl (t0_4.map rS_laws_Clause)])] [] (.one (.ag [.int .i64 r.1, .int .i64 r.2.1, .str r.2.2.1, .sl (r.2.2.2.1.map rS_impl_Expr), .sl (r.2.2.2.2.map rS_impl_Clause)])) none [] none)
def s_laws_toClause (n : Nat) (r_laws_toExpr : Y_laws_toExpr) (r_laws_toExprS : Y_laws_toExprS) (r_laws_toClauseS : Y_laws_toClauseS) (r_laws_toClause : Y_laws_toClause) (t0_0 : Int) (t0_1 : Int) (t0_2 : List UInt8) (t0_3 : List S_laws_Expr) (t0_4 : List S_laws_Clause) (t0_5 : Int) (t0_6 : Int) (t0_7 : List UInt8) (t0_8 : List S_laws_Expr) (t0_9 : List S_laws_Clause) : Option (Int × Int × (List UInt8) × (List S_impl_Expr) × (List S_impl_Clause) × Int × Int × (List UInt8) × (List S_impl_Expr) × (List S_impl_Clause)) :=
  (r_laws_toExpr t0_0 t0_1 t0_2 t0_3 t0_4).bind fun c6_1 => (r_laws_toExpr t0_5 t0_6 t0_7 t0_8 t0_9).bind fun c10_2 => some (c6_1.1, c6_1.2.1, c6_1.2.2.1, c6_1.2.2.2.1, c6_1.2.2.2.2, c10_2.1, c10_2.2.1, c10_2.2.2.1, c10_2.2.2.2.1, c10_2.2.2.2.2)
theorem step_laws_toClause {n : Nat} {r_laws_toExpr : Y_laws_toExpr} (ih_laws_toExpr : B_laws_toExpr r_laws_toExpr) {r_laws_toExprS : Y_laws_toExprS} (ih_laws_toExprS : B_laws_toExprS r_laws_toExprS) {r_laws_toClauseS : Y_laws_toClauseS} (ih_laws_toClauseS : B_laws_toClauseS r_laws_toClauseS) {r_laws_toClause : Y_laws_toClause} (ih_laws_toClause : B_laws_toClause r_laws_toClause) : B_laws_toClause (s_laws_toClause n r_laws_toExpr r_laws_toExprS r_laws_toClauseS r_laws_toClause) := by
 intro t0_0 t0_1 t0_2 t0_3 t0_4 t0_5 t0_6 t0_7 t0_8 t0_9 r h
 unfold s_laws_toClause at h
 refine bF Try.func187 rfl rfl <| cRs <| xBx rfl <| xAz [.int .i64 0, .int .i64 0, .str [], .sl ([].map rS_impl_Expr), .sl ([].map rS_impl_Clause), .int .i64 0, .int .i64 0, .str [], .sl ([].map rS_impl_Expr), .sl ([].map rS_impl_Clause)] rfl <| oRs <| xAz [.int .i64 0, .int .i64 0, .str [], .sl ([].map rS_impl_Expr), .sl ([].map rS_impl_Clause), .int .i64 0, .int .i64 0, .str [], .sl ([].map rS_impl_Expr), .sl ([].map rS_impl_Clause)] rfl <| oRs <| xFd rfl <| xLd rfl <| xC0 h (ih_laws_toExpr ·) rfl (fun c6_1 h => ?_)
 refine xFd rfl <| xSt rfl <| oRs <| xFd rfl <| xLd rfl <| xC0 h (ih_laws_toExpr ·) rfl (fun c10_2 h => ?_)
 refine xFd rfl <| xSt rfl <| oRs <| xLd rfl <| xSt rfl <| oNl <| cRt ?_
 cases h
 exact eR rfl rfl rfl rfl
def p_laws_toClauseS_b1 (n : Nat) (r_laws_toClause : Y_laws_toClause) (t0_0 : List S_laws_Clause) : ((List S_impl_Clause) × Int) → Option (((List S_impl_Clause) × Int) ⊕ (((List S_impl_Clause) × Int × Bool)))
  | (v3_2, v4_3) => bif decide (v4_3 < (t0_0.length : Int)) then (ix t0_0 v4_3).bind fun e18_8 => (r_laws_toClause e18_8.f0 e18_8.f1 e18_8.f2 e18_8.f3 e18_8.f4 e18_8.f5 e18_8.f6 e18_8.f7 e18_8.f8 e18_8.f9).bind fun c20_9 => (ix v3_2 v4_3).bind fun e21_10 => (some (v3_2.set (Int.toNat v4_3) (S_impl_Clause.mk c20_9.1 c20_9.2.1 c20_9.2.2.1 c20_9.2.2.2.1 c20_9.2.2.2.2.1 c20_9.2.2.2.2.2.1 c20_9.2.2.2.2.2.2.1 c20_9.2.2.2.2.2.2.2.1 c20_9.2.2.2.2.2.2.2.2.1 c20_9.2.2.2.2.2.2.2.2.2))).bind fun u3_11 => some (.inl (u3_11, (IntKind.wrap .i64 (v4_3 + (1 : Int))))) else some (.inr (v3_2, v4_3, false))
def s_laws_toClauseS (n : Nat) (r_laws_toExpr : Y_laws_toExpr) (r_laws_toExprS : Y_laws_toExprS) (r_laws_toClauseS : Y_laws_toClauseS) (r_laws_toClause : Y_laws_toClause) (t0_0 : List S_laws_Clause) : Option ((List S_impl_Clause)) :=
  (ck (decide (0 ≤ (t0_0.length : Int) ∧ (t0_0.length : Int) ≤ maxLen ∧ 160 * (t0_0.length : Int) ≤ 281474976710656))).bind fun _ => (loopN (p_laws_toClauseS_b1 n r_laws_toClause t0_0) n ((List.replicate (Int.toNat (t0_0.length : Int)) (S_impl_Clause.mk (0 : Int) (0 : Int) ([] : List UInt8) ([] : List S_impl_Expr) ([] : List S_impl_Clause) (0 : Int) (0 : Int) ([] : List UInt8) ([] : List S_impl_Expr) ([] : List S_impl_Clause))), (0 : Int))).bind fun (v3_4, v4_5, v11_6) => some v3_4
theorem step_laws_toClauseS {n : Nat} {r_laws_toExpr : Y_laws_toExpr} (ih_laws_toExpr : B_laws_toExpr r_laws_toExpr) {r_laws_toExprS : Y_laws_toExprS} (ih_laws_toExprS : B_laws_toExprS r_laws_toExprS) {r_laws_toClauseS : Y_laws_toClauseS} (ih_laws_toClauseS : B_laws_toClauseS r_laws_toClauseS) {r_laws_toClause : Y_laws_toClause} (ih_laws_toClause : B_laws_toClause r_laws_toClause) : B_laws_toClauseS (s_laws_toClauseS n r_laws_toExpr r_laws_toExprS r_laws_toClauseS r_laws_toClause) := by
 intro t0_0 r h
 unfold s_laws_toClauseS at h
 refine bF Try.func111 rfl rfl <| cRs <| wAe (Li rS_impl_Clause []) rfl rfl rfl rfl <| oRs <| xMv rfl <| xLn rfl <| oCk h (fun k7_0 h => ?_)
 refine wMk (z := S_impl_Clause.mk (0 : Int) (0 : Int) ([] : List UInt8) ([] : List S_impl_Expr) ([] : List S_impl_Clause) (0 : Int) (0 : Int) ([] : List UInt8) ([] : List S_impl_Expr) ([] : List S_impl_Clause)) (f := rS_impl_Clause) k7_0 rfl rfl rfl rfl rfl rfl rfl <| xAs rfl <| oNl <| cSq <| cRs <| xAs rfl <| oNl <| cLp h [(3, 4), (8, 21)] [] (fun (v3_2, v4_3) => ([(3, Li rS_impl_Clause v3_2), (4, I64 v4_3)], [])) (fun (v3_4, v4_5, v11_6) => (.e 0, [(3, Li rS_impl_Clause v3_4), (4, I64 v4_5), (11, Bo v11_6)], [])) rfl (fun st _ h => ?_) (fun q h => ?_)
 obtain ⟨v3_2, v4_3⟩ := st
 unfold p_laws_toClauseS_b1 at h
 refine cSq <| cRs <| xMv rfl <| xMv rfl <| xLn rfl <| xLt rfl <| oNl <| cIf h rfl (fun q7 h => ?_) (fun q7 h => ?_)
 refine cSk <| cSq <| cBk <| cRg <| wAl rfl rfl rfl rfl <| xMv rfl <| xMv rfl <| xMv rfl <| xIx h rS_laws_Clause_eq rfl (fun e18_8 h => ?_)
 refine xLd rfl <| xC0 h (ih_laws_toClause ·) rfl (fun c20_9 h => ?_)
 refine wIp (f := rS_impl_Clause) h rfl rfl rfl rfl rfl rfl (fun a => by rw [rS_impl_Clause_eq]; rfl) rfl (fun e21_10 ke21_10 h => ?_)
 refine wSpN (f := rS_impl_Clause) (v' := S_impl_Clause.mk c20_9.1 c20_9.2.1 c20_9.2.2.1 c20_9.2.2.2.1 c20_9.2.2.2.2.1 c20_9.2.2.2.2.2.1 c20_9.2.2.2.2.2.2.1 c20_9.2.2.2.2.2.2.2.1 c20_9.2.2.2.2.2.2.2.2.1 c20_9.2.2.2.2.2.2.2.2.2) h ke21_10 rfl rfl rfl rfl rfl rfl rfl (by rw [rS_impl_Clause_eq]; rfl) (by rw [rS_impl_Clause_eq, rS_impl_Clause_mk]; rfl) (fun u3_11 h => ?_)
 exact oNl <| cRg <| xMv rfl <| xAdd rfl <| xAs rfl <| oNl <| eL h rfl
 exact cEx <| eX h rfl
 obtain ⟨v3_4, v4_5, v11_6⟩ := q
 refine cRs <| xMv rfl <| xAs rfl <| oNl <| cRt ?_
 cases h
 exact eR rfl rfl rfl rfl
def p_laws_toExprS_b1 (n : Nat) (r_laws_toExpr : Y_laws_toExpr) (t0_0 : List S_laws_Expr) : ((List S_impl_Expr) × Int) → Option (((List S_impl_Expr) × Int) ⊕ (((List S_impl_Expr) × Int × Bool)))
  | (v3_2, v4_3) => bif decide (v4_3 < (t0_0.length : Int)) then (ix t0_0 v4_3).bind fun e18_8 => (r_laws_toExpr e18_8.f0 e18_8.f1 e18_8.f2 e18_8.f3 e18_8.f4).bind fun c20_9 => (ix v3_2 v4_3).bind fun e21_10 => (some (v3_2.set (Int.toNat v4_3) (S_impl_Expr.mk c20_9.1 c20_9.2.1 c20_9.2.2.1 c20_9.2.2.2.1 c20_9.2.2.2.2))).bind fun u3_11 => some (.inl (u3_11, (IntKind.wrap .i64 (v4_3 + (1 : Int))))) else some (.inr (v3_2, v4_3, false))
def s_laws_toExprS (n : Nat) (r_laws_toExpr : Y_laws_toExpr) (r_laws_toExprS : Y_laws_toExprS) (r_laws_toClauseS : Y_laws_toClauseS) (r_laws_toClause : Y_laws_toClause) (t0_0 : List S_laws_Expr) : Option ((List S_impl_Expr)) :=
  (ck (decide (0 ≤ (t0_0.length : Int) ∧ (t0_0.length : Int) ≤ maxLen ∧ 80 * (t0_0.length : Int) ≤ 281474976710656))).bind fun _ => (loopN (p_laws_toExprS_b1 n r_laws_toExpr t0_0) n ((List.replicate (Int.toNat (t0_0.length : Int)) (S_impl_Expr.mk (0 : Int) (0 : Int) ([] : List UInt8) ([] : List S_impl_Expr) ([] : List S_impl_Clause))), (0 : Int))).bind fun (v3_4, v4_5, v11_6) => some v3_4
theorem step_laws_toExprS {n : Nat} {r_laws_toExpr : Y_laws_toExpr} (ih_laws_toExpr : B_laws_toExpr r_laws_toExpr) {r_laws_toExprS : Y_laws_toExprS} (ih_laws_toExprS : B_laws_toExprS r_laws_toExprS) {r_laws_toClauseS : Y_laws_toClauseS} (ih_laws_toClauseS : B_laws_toClauseS r_laws_toClauseS) {r_laws_toClause : Y_laws_toClause} (ih_laws_toClause : B_laws_toClause r_laws_toClause) : B_laws_toExprS (s_laws_toExprS n r_laws_toExpr r_laws_toExprS r_laws_toClauseS r_laws_toClause) := by
 intro t0_0 r h
 unfold s_laws_toExprS at h
 refine bF Try.func110 rfl rfl <| cRs <| wAe (Li rS_impl_Expr []) rfl rfl rfl rfl <| oRs <| xMv rfl <| xLn rfl <| oCk h (fun k7_0 h => ?_)
 refine wMk (z := S_impl_Expr.mk (0 : Int) (0 : Int) ([] : List UInt8) ([] : List S_impl_Expr) ([] : List S_impl_Clause)) (f := rS_impl_Expr) k7_0 rfl rfl rfl rfl rfl rfl rfl <| xAs rfl <| oNl <| cSq <| cRs <| xAs rfl <| oNl <| cLp h [(3, 4), (8, 21)] [] (fun (v3_2, v4_3) => ([(3, Li rS_impl_Expr v3_2), (4, I64 v4_3)], [])) (fun (v3_4, v4_5, v11_6) => (.e 0, [(3, Li rS_impl_Expr v3_4), (4, I64 v4_5), (11, Bo v11_6)], [])) rfl (fun st _ h => ?_) (fun q h => ?_)
 obtain ⟨v3_2, v4_3⟩ := st
 unfold p_laws_toExprS_b1 at h
 refine cSq <| cRs <| xMv rfl <| xMv rfl <| xLn rfl <| xLt rfl <| oNl <| cIf h rfl (fun q7 h => ?_) (fun q7 h => ?_)
 refine cSk <| cSq <| cBk <| cRg <| wAl rfl rfl rfl rfl <| xMv rfl <| xMv rfl <| xMv rfl <| xIx h rS_laws_Expr_eq rfl (fun e18_8 h => ?_)
 refine xLd rfl <| xC0 h (ih_laws_toExpr ·) rfl (fun c20_9 h => ?_)
 refine wIp (f := rS_impl_Expr) h rfl rfl rfl rfl rfl rfl (fun a => by rw [rS_impl_Expr_eq]; rfl) rfl (fun e21_10 ke21_10 h => ?_)
 refine wSpN (f := rS_impl_Expr) (v' := S_impl_Expr.mk c20_9.1 c20_9.2.1 c20_9.2.2.1 c20_9.2.2.2.1 c20_9.2.2.2.2) h ke21_10 rfl rfl rfl rfl rfl rfl rfl (by rw [rS_impl_Expr_eq]; rfl) (by rw [rS_impl_Expr_eq, rS_impl_Expr_mk]; rfl) (fun u3_11 h => ?_)
 exact oNl <| cRg <| xMv rfl <| xAdd rfl <| xAs rfl <| oNl <| eL h rfl
 exact cEx <| eX h rfl
 obtain ⟨v3_4, v4_5, v11_6⟩ := q
 refine cRs <| xMv rfl <| xAs rfl <| oNl <| cRt ?_
 cases h
 exact eR rfl rfl rfl rfl
def s_laws_toExpr (n : Nat) (r_laws_toExpr : Y_laws_toExpr) (r_laws_toExprS : Y_laws_toExprS) (r_laws_toClauseS : Y_laws_toClauseS) (r_laws_toClause : Y_laws_toClause) (t0_0 : Int) (t0_1 : Int) (t0_2 : List UInt8) (t0_3 : List S_laws_Expr) (t0_4 : List S_laws_Clause) : Option (Int × Int × (List UInt8) × (List S_impl_Expr) × (List S_impl_Clause)) :=
  (r_laws_toExprS t0_3).bind fun c15_1 => (r_laws_toClauseS t0_4).bind fun c19_2 => some (t0_0, t0_1, t0_2, c15_1, c19_2)
theorem step_laws_toExpr {n : Nat} {r_laws_toExpr : Y_laws_toExpr} (ih_laws_toExpr : B_laws_toExpr r_laws_toExpr) {r_laws_toExprS : Y_laws_toExprS} (ih_laws_toExprS : B_laws_toExprS r_laws_toExprS) {r_laws_toClauseS : Y_laws_toClauseS} (ih_laws_toClauseS : B_laws_toClauseS r_laws_toClauseS) {r_laws_toClause : Y_laws_toClause} (ih_laws_toClause : B_laws_toClause r_laws_toClause) : B_laws_toExpr (s_laws_toExpr n r_laws_toExpr r_laws_toExprS r_laws_toClauseS r_laws_toClause) := by
 intro t0_0 t0_1 t0_2 t0_3 t0_4 r h
 unfold s_laws_toExpr at h
 refine bF Try.func34 rfl rfl <| cRs <| xBx rfl <| xAz [.int .i64 0, .int .i64 0, .str [], .sl ([].map rS_impl_Expr), .sl ([].map rS_impl_Clause)] rfl <| oRs <| xAz [.int .i64 0, .int .i64 0, .str [], .sl ([].map rS_impl_Expr), .sl ([].map rS_impl_Clause)] rfl <| oRs <| xFd rfl <| xLd rfl <| xFd rfl <| xSt rfl <| oRs <| xFd rfl <| xLd rfl ?_
 refine xFd rfl <| xSt rfl <| oRs <| xFd rfl <| xLd rfl <| xFd rfl <| xSt rfl <| oRs <| xFd rfl <| xLd rfl <| xC0 h (ih_laws_toExprS ·) rfl (fun c15_1 h => ?_)
 refine xFd rfl <| xSt rfl <| oRs <| xFd rfl <| xLd rfl <| xC0 h (ih_laws_toClauseS ·) rfl (fun c19_2 h => ?_)
 refine xFd rfl <| xSt rfl <| oRs <| xLd rfl <| xSt rfl <| oNl <| cRt ?_
 cases h
 exact eR rfl rfl rfl rfl
def q_laws_toExpr : Nat → (Y_laws_toExpr) × (Y_laws_toExprS) × (Y_laws_toClauseS) × (Y_laws_toClause)
  | 0 => ((fun _ _ _ _ _ => none), (fun _ => none), (fun _ => none), (fun _ _ _ _ _ _ _ _ _ _ => none))
  | n + 1 => (s_laws_toExpr n ((q_laws_toExpr n).1) ((q_laws_toExpr n).2.1) ((q_laws_toExpr n).2.2.1) ((q_laws_toExpr n).2.2.2), s_laws_toExprS n ((q_laws_toExpr n).1) ((q_laws_toExpr n).2.1) ((q_laws_toExpr n).2.2.1) ((q_laws_toExpr n).2.2.2), s_laws_toClauseS n ((q_laws_toExpr n).1) ((q_laws_toExpr n).2.1) ((q_laws_toExpr n).2.2.1) ((q_laws_toExpr n).2.2.2), s_laws_toClause n ((q_laws_toExpr n).1) ((q_laws_toExpr n).2.1) ((q_laws_toExpr n).2.2.1) ((q_laws_toExpr n).2.2.2))
def p_laws_toExpr (n : Nat) : Y_laws_toExpr := (q_laws_toExpr n).1
def p_laws_toExprS (n : Nat) : Y_laws_toExprS := (q_laws_toExpr n).2.1
def p_laws_toClauseS (n : Nat) : Y_laws_toClauseS := (q_laws_toExpr n).2.2.1
def p_laws_toClause (n : Nat) : Y_laws_toClause := (q_laws_toExpr n).2.2.2
theorem bigs_laws_toExpr (n : Nat) : B_laws_toExpr (p_laws_toExpr n) ∧ B_laws_toExprS (p_laws_toExprS n) ∧ B_laws_toClauseS (p_laws_toClauseS n) ∧ B_laws_toClause (p_laws_toClause n) := by
  induction n with
  | zero => exact ⟨(fun h => nomatch h), (fun h => nomatch h), (fun h => nomatch h), (fun h => nomatch h)⟩
  | succ n ih => exact ⟨step_laws_toExpr (n := n) (ih.1) (ih.2.1) (ih.2.2.1) (ih.2.2.2), step_laws_toExprS (n := n) (ih.1) (ih.2.1) (ih.2.2.1) (ih.2.2.2), step_laws_toClauseS (n := n) (ih.1) (ih.2.1) (ih.2.2.1) (ih.2.2.2), step_laws_toClause (n := n) (ih.1) (ih.2.1) (ih.2.2.1) (ih.2.2.2)⟩
theorem big_laws_toExpr {n : Nat} : B_laws_toExpr (p_laws_toExpr n) := (bigs_laws_toExpr n).1
theorem big_laws_toExprS {n : Nat} : B_laws_toExprS (p_laws_toExprS n) := (bigs_laws_toExpr n).2.1
theorem big_laws_toClauseS {n : Nat} : B_laws_toClauseS (p_laws_toClauseS n) := (bigs_laws_toExpr n).2.2.1
theorem big_laws_toClause {n : Nat} : B_laws_toClause (p_laws_toClause n) := (bigs_laws_toExpr n).2.2.2
theorem p_laws_toExpr_succ (n : Nat) : p_laws_toExpr (n + 1) = s_laws_toExpr n (p_laws_toExpr n) (p_laws_toExprS n) (p_laws_toClauseS n) (p_laws_toClause n) := rfl
theorem p_laws_toExprS_succ (n : Nat) : p_laws_toExprS (n + 1) = s_laws_toExprS n (p_laws_toExpr n) (p_laws_toExprS n) (p_laws_toClauseS n) (p_laws_toClause n) := rfl
theorem p_laws_toClauseS_succ (n : Nat) : p_laws_toClauseS (n + 1) = s_laws_toClauseS n (p_laws_toExpr n) (p_laws_toExprS n) (p_laws_toClauseS n) (p_laws_toClause n) := rfl
theorem p_laws_toClause_succ (n : Nat) : p_laws_toClause (n + 1) = s_laws_toClause n (p_laws_toExpr n) (p_laws_toExprS n) (p_laws_toClauseS n) (p_laws_toClause n) := rfl
abbrev Y_laws_eqTermS : Type := (List S_impl_Term) → (List S_impl_Term) → Option (Bool)
abbrev B_laws_eqTermS (p : Y_laws_eqTermS) : Prop := ∀ {t0_0 t1_0 : List S_impl_Term} {r : Bool}, p t0_0 t1_0 = some r → Big Try.prog τ An (.fn 38 [.one (.c (.sl (t0_0.map rS_impl_Term))), .one (.c (.sl (t1_0.map rS_impl_Term)))] [] (.one (.c (.bool r))) none [] none)
abbrev Y_laws_eqTerm : Type := Int → Int → (List UInt8) → (List S_impl_Term) → Int → Int → (List UInt8) → (List S_impl_Term) → Option (Bool)
abbrev B_laws_eqTerm (p : Y_laws_eqTerm) : Prop := ∀ {t0_0 t0_1 : Int} {t0_2 : List UInt8} {t0_3 : List S_impl_Term} {t1_0 t1_1 : Int} {t1_2 : List UInt8} {t1_3 : List S_impl_Term} {r : Bool}, p t0_0 t0_1 t0_2 t0_3 t1_0 t1_1 t1_2 t1_3 = some r → Big Try.prog τ An (.fn 37 [.one (.ag [.int .i64 t0_0, .int .i64 t0_1, .str t0_2, .sl (t0_3.map rS_impl_Term)]), .one (.ag [.int .i64 t1_0, .int .i64 t1_1, .str t1_2, .sl (t1_3.map rS_impl_Term)])] [] (.one (.c (.bool r))) none [] none)
def p_laws_eqTermS_b1 (n : Nat) (r_laws_eqTerm : Y_laws_eqTerm) (t0_0 : List S_impl_Term) (t1_0 : List S_impl_Term) : (Int) → Option ((Int) ⊕ ((Bool) ⊕ (Int × Bool)))
  | v5_2 => bif decide (v5_2 < (t0_0.length : Int)) then (ix t0_0 v5_2).bind fun e19_7 => (ix t1_0 v5_2).bind fun e23_8 => (r_laws_eqTerm e19_7.f0 e19_7.f1 e19_7.f2 e19_7.f3 e23_8.f0 e23_8.f1 e23_8.f2 e23_8.f3).bind fun c25_9 => bif !c25_9 then some (.inr (.inl false)) else some (.inl (IntKind.wrap .i64 (v5_2 + (1 : Int)))) else some (.inr (.inr (v5_2, false)))
def s_laws_eqTermS (n : Nat) (r_laws_eqTerm : Y_laws_eqTerm) (r_laws_eqTermS : Y_laws_eqTermS) (t0_0 : List S_impl_Term) (t1_0 : List S_impl_Term) : Option (Bool) :=
  bif !decide ((t0_0.length : Int) = (t1_0.length : Int)) then some false else (loopN (p_laws_eqTermS_b1 n r_laws_eqTerm t0_0 t1_0) n (0 : Int)).bind fun q => (match q with | .inl v4_3 => some v4_3 | .inr (v5_4, v14_5) => some true)
theorem step_laws_eqTermS {n : Nat} {r_laws_eqTerm : Y_laws_eqTerm} (ih_laws_eqTerm : B_laws_eqTerm r_laws_eqTerm) {r_laws_eqTermS : Y_laws_eqTermS} (ih_laws_eqTermS : B_laws_eqTermS r_laws_eqTermS) : B_laws_eqTermS (s_laws_eqTermS n r_laws_eqTerm r_laws_eqTermS) := by
 intro t0_0 t1_0 r h
 unfold s_laws_eqTermS at h
 refine bF Try.func38 rfl rfl <| cRs <| xAs rfl <| oNl <| cSq <| cRs <| xMv rfl <| xLn rfl <| xMv rfl <| xLn rfl <| xNe rfl <| oNl <| cIf h rfl (fun q1 h => ?_) (fun q1 h => ?_)
 refine cRs <| xAs rfl <| oNl <| cRt ?_
 cases h
 exact eR rfl rfl rfl rfl
 refine cSk <| cSq <| cRs <| xAs rfl <| oNl <| cLp h [(4, 5), (11, 26)] [] (fun v5_2 => ([(5, I64 v5_2)], [])) (fun q => match q with | .inl v4_3 => (.r, [(4, Bo v4_3)], []) | .inr (v5_4, v14_5) => (.e 0, [(5, I64 v5_4), (14, Bo v14_5)], [])) rfl (fun v5_2 _ h => ?_) (fun q h => ?_)
 unfold p_laws_eqTermS_b1 at h
 refine cSq <| cRs <| xMv rfl <| xMv rfl <| xLn rfl <| xLt rfl <| oNl <| cIf h rfl (fun q6 h => ?_) (fun q6 h => ?_)
 refine cSk <| cSq <| cBk <| cRs <| xMv rfl <| xMv rfl <| xIx h rS_impl_Term_eq rfl (fun e19_7 h => ?_)
 refine xLd rfl <| xMv rfl <| xMv rfl <| xIx h rS_impl_Term_eq rfl (fun e23_8 h => ?_)
 refine xLd rfl <| xC0 h (ih_laws_eqTerm ·) rfl (fun c25_9 h => ?_)
 refine xNot rfl <| oNl <| cIf h rfl (fun q10 h => ?_) (fun q10 h => ?_)
 exact cRs <| xAs rfl <| oNl <| cRt <| eXr h rfl
 exact cSk <| cRg <| xMv rfl <| xAdd rfl <| xAs rfl <| oNl <| eL h rfl
 exact cEx <| eX h rfl
 rcases q with v4_3 | ⟨v5_4, v14_5⟩
 cases h
 exact eR rfl rfl rfl rfl
 refine cRs <| xAs rfl <| oNl <| cRt ?_
 cases h
 exact eR rfl rfl rfl rfl
def s_laws_eqTerm (n : Nat) (r_laws_eqTerm : Y_laws_eqTerm) (r_laws_eqTermS : Y_laws_eqTermS) (t0_0 : Int) (t0_1 : Int) (t0_2 : List UInt8) (t0_3 : List S_impl_Term) (t1_0 : Int) (t1_1 : Int) (t1_2 : List UInt8) (t1_3 : List S_impl_Term) : Option (Bool) :=
  bif !decide (t0_0 = t1_0) then some false else bif !decide (t0_1 = t1_1) then some false else bif !decide (t0_2 = t1_2) then some false else (r_laws_eqTermS t0_3 t1_3).bind fun c24_4 => bif !c24_4 then some false else some true
theorem step_laws_eqTerm {n : Nat} {r_laws_eqTerm : Y_laws_eqTerm} (ih_laws_eqTerm : B_laws_eqTerm r_laws_eqTerm) {r_laws_eqTermS : Y_laws_eqTermS} (ih_laws_eqTermS : B_laws_eqTermS r_laws_eqTermS) : B_laws_eqTerm (s_laws_eqTerm n r_laws_eqTerm r_laws_eqTermS) := by
 intro t0_0 t0_1 t0_2 t0_3 t1_0 t1_1 t1_2 t1_3 r h
 unfold s_laws_eqTerm at h
 refine bF Try.func37 rfl rfl <| cRs <| xBx rfl <| xBx rfl <| xAs rfl <| oNl <| cSq <| cRs <| xFd rfl <| xLd rfl <| xFd rfl <| xLd rfl <| xNe rfl <| oNl <| cIf h rfl (fun q1 h => ?_) (fun q1 h => ?_)
 refine cRs <| xAs rfl <| oNl <| cRt ?_
 cases h
 exact eR rfl rfl rfl rfl
 refine cSk <| cSq <| cRs <| xFd rfl <| xLd rfl <| xFd rfl <| xLd rfl <| xNe rfl <| oNl <| cIf h rfl (fun q2 h => ?_) (fun q2 h => ?_)
 refine cRs <| xAs rfl <| oNl <| cRt ?_
 cases h
 exact eR rfl rfl rfl rfl
 refine cSk <| cSq <| cRs <| xFd rfl <| xLd rfl <| xFd rfl <| xLd rfl <| xNs rfl <| oNl <| cIf h rfl (fun q3 h => ?_) (fun q3 h => ?_)
 refine cRs <| xAs rfl <| oNl <| cRt ?_
 cases h
 exact eR rfl rfl rfl rfl
 refine cSk <| cSq <| cRs <| xFd rfl <| xLd rfl <| xFd rfl <| xLd rfl <| xC0 h (ih_laws_eqTermS ·) rfl (fun c24_4 h => ?_)
 refine xNot rfl <| oNl <| cIf h rfl (fun q5 h => ?_) (fun q5 h => ?_)
 refine cRs <| xAs rfl <| oNl <| cRt ?_
 cases h
 exact eR rfl rfl rfl rfl
 refine cSk <| cRs <| xAs rfl <| oNl <| cRt ?_
 cases h
 exact eR rfl rfl rfl rfl
def q_laws_eqTerm : Nat → (Y_laws_eqTerm) × (Y_laws_eqTermS)
  | 0 => ((fun _ _ _ _ _ _ _ _ => none), (fun _ _ => none))
  | n + 1 => (s_laws_eqTerm n ((q_laws_eqTerm n).1) ((q_laws_eqTerm n).2), s_laws_eqTermS n ((q_laws_eqTerm n).1) ((q_laws_eqTerm n).2))
def p_laws_eqTerm (n : Nat) : Y_laws_eqTerm := (q_laws_eqTerm n).1
def p_laws_eqTermS (n : Nat) : Y_laws_eqTermS := (q_laws_eqTerm n).2
theorem bigs_laws_eqTerm (n : Nat) : B_laws_eqTerm (p_laws_eqTerm n) ∧ B_laws_eqTermS (p_laws_eqTermS n) := by
  induction n with
  | zero => exact ⟨(fun h => nomatch h), (fun h => nomatch h)⟩
  | succ n ih => exact ⟨step_laws_eqTerm (n := n) (ih.1) (ih.2), step_laws_eqTermS (n := n) (ih.1) (ih.2)⟩
theorem big_laws_eqTerm {n : Nat} : B_laws_eqTerm (p_laws_eqTerm n) := (bigs_laws_eqTerm n).1
theorem big_laws_eqTermS {n : Nat} : B_laws_eqTermS (p_laws_eqTermS n) := (bigs_laws_eqTerm n).2
theorem p_laws_eqTerm_succ (n : Nat) : p_laws_eqTerm (n + 1) = s_laws_eqTerm n (p_laws_eqTerm n) (p_laws_eqTermS n) := rfl
theorem p_laws_eqTermS_succ (n : Nat) : p_laws_eqTermS (n + 1) = s_laws_eqTermS n (p_laws_eqTerm n) (p_laws_eqTermS n) := rfl
abbrev Y_laws_eqClause : Type := Int → Int → (List UInt8) → (List S_impl_Expr) → (List S_impl_Clause) → Int → Int → (List UInt8) → (List S_impl_Expr) → (List S_impl_Clause) → Int → Int → (List UInt8) → (List S_impl_Expr) → (List S_impl_Clause) → Int → Int → (List UInt8) → (List S_impl_Expr) → (List S_impl_Clause) → Option (Bool)
abbrev B_laws_eqClause (p : Y_laws_eqClause) : Prop := ∀ {t0_0 t0_1 : Int} {t0_2 : List UInt8} {t0_3 : List S_impl_Expr} {t0_4 : List S_impl_Clause} {t0_5 t0_6 : Int} {t0_7 : List UInt8} {t0_8 : List S_impl_Expr} {t0_9 : List S_impl_Clause} {t1_0 t1_1 : Int} {t1_2 : List UInt8} {t1_3 : List S_impl_Expr} {t1_4 : List S_impl_Clause} {t1_5 t1_6 : Int} {t1_7 : List UInt8} {t1_8 : List S_impl_Expr} {t1_9 : List S_impl_Clause} {r : Bool}, p t0_0 t0_1 t0_2 t0_3 t0_4 t0_5 t0_6 t0_7 t0_8 t0_9 t1_0 t1_1 t1_2 t1_3 t1_4 t1_5 t1_6 t1_7 t1_8 t1_9 = some r → Big Try.prog τ An (.fn 188 [.one (.ag [.int .i64 t0_0, .int .i64 t0_1, .str t0_2, .sl (t0_3.map rS_impl_Expr), .sl (t0_4.map rS_impl_Clause), .int .i64 t0_5, .int .i64 t0_6, .str t0_7, .sl (t0_8.map rS_impl_Expr), .sl (t0_9.map rS_impl_Clause)]), .one (.ag [.int .i64 t1_0, .int .i64 t1_1, .str t1_2, .sl (t1_3.map rS_impl_Expr), .sl (t1_4.map rS_impl_Clause), .int .i64 t1_5, .int .i64 t1_6, .str t1_7, .sl (t1_8.map rS_impl_Expr), .sl (t1_9.map rS_impl_Clause)])] [] (.one (.c (.bool r))) none [] none)
abbrev Y_laws_eqClauseS : Type := (List S_impl_Clause) → (List S_impl_Clause) → Option (Bool)
abbrev B_laws_eqClauseS (p : Y_laws_eqClauseS) : Prop := ∀ {t0_0 t1_0 : List S_impl_Clause} {r : Bool}, p t0_0 t1_0 = some r → Big Try.prog τ An (.fn 115 [.one (.c (.sl (t0_0.map rS_impl_Clause))), .one (.c (.sl (t1_0.map rS_impl_Clause)))] [] (.one (.c (.bool r))) none [] none)
abbrev Y_laws_eqExprS : Type := (List S_impl_Expr) → (List S_impl_Expr) → Option (Bool)
abbrev B_laws_eqExprS (p : Y_laws_eqExprS) : Prop := ∀ {t0_0 t1_0 : List S_impl_Expr} {r : Bool}, p t0_0 t1_0 = some r → Big Try.prog τ An (.fn 114 [.one (.c (.sl (t0_0.map rS_impl_Expr))), .one (.c (.sl (t1_0.map rS_impl_Expr)))] [] (.one (.c (.bool r))) none [] none)
abbrev Y_laws_eqExpr : Type := Int → Int → (List UInt8) → (List S_impl_Expr) → (List S_impl_Clause) → Int → Int → (List UInt8) → (List S_impl_Expr) → (List S_impl_Clause) → Option (Bool)
abbrev B_laws_eqExpr (p : Y_laws_eqExpr) : Prop := ∀ {t0_0 t0_1 : Int} {t0_2 : List UInt8} {t0_3 : List S_impl_Expr} {t0_4 : List S_impl_Clause} {t1_0 t1_1 : Int} {t1_2 : List UInt8} {t1_3 : List S_impl_Expr} {t1_4 : List S_impl_Clause} {r : Bool}, p t0_0 t0_1 t0_2 t0_3 t0_4 t1_0 t1_1 t1_2 t1_3 t1_4 = some r → Big Try.prog τ An (.fn 39 [.one (.ag [.int .i64 t0_0, .int .i64 t0_1, .str t0_2, .sl (t0_3.map rS_impl_Expr), .sl (t0_4.map rS_impl_Clause)]), .one (.ag [.int .i64 t1_0, .int .i64 t1_1, .str t1_2, .sl (t1_3.map rS_impl_Expr), .sl (t1_4.map rS_impl_Clause)])] [] (.one (.c (.bool r))) none [] none)
def s_laws_eqClause (n : Nat) (r_laws_eqExpr : Y_laws_eqExpr) (r_laws_eqExprS : Y_laws_eqExprS) (r_laws_eqClauseS : Y_laws_eqClauseS) (r_laws_eqClause : Y_laws_eqClause) (t0_0 : Int) (t0_1 : Int) (t0_2 : List UInt8) (t0_3 : List S_impl_Expr) (t0_4 : List S_impl_Clause) (t0_5 : Int) (t0_6 : Int) (t0_7 : List UInt8) (t0_8 : List S_impl_Expr) (t0_9 : List S_impl_Clause) (t1_0 : Int) (t1_1 : Int) (t1_2 : List UInt8) (t1_3 : List S_impl_Expr) (t1_4 : List S_impl_Clause) (t1_5 : Int) (t1_6 : Int) (t1_7 : List UInt8) (t1_8 : List S_impl_Expr) (t1_9 : List S_impl_Clause) : Option (Bool) :=
  (r_laws_eqExpr t0_0 t0_1 t0_2 t0_3 t0_4 t1_0 t1_1 t1_2 t1_3 t1_4).bind fun c9_1 => bif !c9_1 then some false else (r_laws_eqExpr t0_5 t0_6 t0_7 t0_8 t0_9 t1_5 t1_6 t1_7 t1_8 t1_9).bind fun c15_3 => bif !c15_3 then some false else some true
theorem step_laws_eqClause {n : Nat} {r_laws_eqExpr : Y_laws_eqExpr} (ih_laws_eqExpr : B_laws_eqExpr r_laws_eqExpr) {r_laws_eqExprS : Y_laws_eqExprS} (ih_laws_eqExprS : B_laws_eqExprS r_laws_eqExprS) {r_laws_eqClauseS : Y_laws_eqClauseS} (ih_laws_eqClauseS : B_laws_eqClauseS r_laws_eqClauseS) {r_laws_eqClause : Y_laws_eqClause} (ih_laws_eqClause : B_laws_eqClause r_laws_eqClause) : B_laws_eqClause (s_laws_eqClause n r_laws_eqExpr r_laws_eqExprS r_laws_eqClauseS r_laws_eqClause) := by
 intro t0_0 t0_1 t0_2 t0_3 t0_4 t0_5 t0_6 t0_7 t0_8 t0_9 t1_0 t1_1 t1_2 t1_3 t1_4 t1_5 t1_6 t1_7 t1_8 t1_9 r h
 unfold s_laws_eqClause at h
 refine bF Try.func188 rfl rfl <| cRs <| xBx rfl <| xBx rfl <| xAs rfl <| oNl <| cSq <| cRs <| xFd rfl <| xLd rfl <| xFd rfl <| xLd rfl <| xC0 h (ih_laws_eqExpr ·) rfl (fun c9_1 h => ?_)
 refine xNot rfl <| oNl <| cIf h rfl (fun q2 h => ?_) (fun q2 h => ?_)
 refine cRs <| xAs rfl <| oNl <| cRt ?_
 cases h
 exact eR rfl rfl rfl rfl
 refine cSk <| cSq <| cRs <| xFd rfl <| xLd rfl <| xFd rfl <| xLd rfl <| xC0 h (ih_laws_eqExpr ·) rfl (fun c15_3 h => ?_)
 refine xNot rfl <| oNl <| cIf h rfl (fun q4 h => ?_) (fun q4 h => ?_)
 refine cRs <| xAs rfl <| oNl <| cRt ?_
 cases h
 exact eR rfl rfl rfl rfl
 refine cSk <| cRs <| xAs rfl <| oNl <| cRt ?_
 cases h
 exact eR rfl rfl rfl rfl
def p_laws_eqClauseS_b1 (n : Nat) (r_laws_eqClause : Y_laws_eqClause) (t0_0 : List S_impl_Clause) (t1_0 : List S_impl_Clause) : (Int) → Option ((Int) ⊕ ((Bool) ⊕ (Int × Bool)))
  | v5_2 => bif decide (v5_2 < (t0_0.length : Int)) then (ix t0_0 v5_2).bind fun e19_7 => (ix t1_0 v5_2).bind fun e23_8 => (r_laws_eqClause e19_7.f0 e19_7.f1 e19_7.f2 e19_7.f3 e19_7.f4 e19_7.f5 e19_7.f6 e19_7.f7 e19_7.f8 e19_7.f9 e23_8.f0 e23_8.f1 e23_8.f2 e23_8.f3 e23_8.f4 e23_8.f5 e23_8.f6 e23_8.f7 e23_8.f8 e23_8.f9).bind fun c25_9 => bif !c25_9 then some (.inr (.inl false)) else some (.inl (IntKind.wrap .i64 (v5_2 + (1 : Int)))) else some (.inr (.inr (v5_2, false)))
def s_laws_eqClauseS (n : Nat) (r_laws_eqExpr : Y_laws_eqExpr) (r_laws_eqExprS : Y_laws_eqExprS) (r_laws_eqClauseS : Y_laws_eqClauseS) (r_laws_eqClause : Y_laws_eqClause) (t0_0 : List S_impl_Clause) (t1_0 : List S_impl_Clause) : Option (Bool) :=
  bif !decide ((t0_0.length : Int) = (t1_0.length : Int)) then some false else (loopN (p_laws_eqClauseS_b1 n r_laws_eqClause t0_0 t1_0) n (0 : Int)).bind fun q => (match q with | .inl v4_3 => some v4_3 | .inr (v5_4, v14_5) => some true)
theorem step_laws_eqClauseS {n : Nat} {r_laws_eqExpr : Y_laws_eqExpr} (ih_laws_eqExpr : B_laws_eqExpr r_laws_eqExpr) {r_laws_eqExprS : Y_laws_eqExprS} (ih_laws_eqExprS : B_laws_eqExprS r_laws_eqExprS) {r_laws_eqClauseS : Y_laws_eqClauseS} (ih_laws_eqClauseS : B_laws_eqClauseS r_laws_eqClauseS) {r_laws_eqClause : Y_laws_eqClause} (ih_laws_eqClause : B_laws_eqClause r_laws_eqClause) : B_laws_eqClauseS (s_laws_eqClauseS n r_laws_eqExpr r_laws_eqExprS r_laws_eqClauseS r_laws_eqClause) := by
 intro t0_0 t1_0 r h
 unfold s_laws_eqClauseS at h
 refine bF Try.func115 rfl rfl <| cRs <| xAs rfl <| oNl <| cSq <| cRs <| xMv rfl <| xLn rfl <| xMv rfl <| xLn rfl <| xNe rfl <| oNl <| cIf h rfl (fun q1 h => ?_) (fun q1 h => ?_)
 refine cRs <| xAs rfl <| oNl <| cRt ?_
 cases h
 exact eR rfl rfl rfl rfl
 refine cSk <| cSq <| cRs <| xAs rfl <| oNl <| cLp h [(4, 5), (11, 26)] [] (fun v5_2 => ([(5, I64 v5_2)], [])) (fun q => match q with | .inl v4_3 => (.r, [(4, Bo v4_3)], []) | .inr (v5_4, v14_5) => (.e 0, [(5, I64 v5_4), (14, Bo v14_5)], [])) rfl (fun v5_2 _ h => ?_) (fun q h => ?_)
 unfold p_laws_eqClauseS_b1 at h
 refine cSq <| cRs <| xMv rfl <| xMv rfl <| xLn rfl <| xLt rfl <| oNl <| cIf h rfl (fun q6 h => ?_) (fun q6 h => ?_)
 refine cSk <| cSq <| cBk <| cRs <| xMv rfl <| xMv rfl <| xIx h rS_impl_Clause_eq rfl (fun e19_7 h => ?_)
 refine xLd rfl <| xMv rfl <| xMv rfl <| xIx h rS_impl_Clause_eq rfl (fun e23_8 h => ?_)
 refine xLd rfl <| xC0 h (ih_laws_eqClause ·) rfl (fun c25_9 h => ?_)
 refine xNot rfl <| oNl <| cIf h rfl (fun q10 h => ?_) (fun q10 h => ?_)
 exact cRs <| xAs rfl <| oNl <| cRt <| eXr h rfl
 exact cSk <| cRg <| xMv rfl <| xAdd rfl <| xAs rfl <| oNl <| eL h rfl
 exact cEx <| eX h rfl
 rcases q with v4_3 | ⟨v5_4, v14_5⟩
 cases h
 exact eR rfl rfl rfl rfl
 refine cRs <| xAs rfl <| oNl <| cRt ?_
 cases h
 exact eR rfl rfl rfl rfl
def p_laws_eqExprS_b1 (n : Nat) (r_laws_eqExpr : Y_laws_eqExpr) (t0_0 : List S_impl_Expr) (t1_0 : List S_impl_Expr) : (Int) → Option ((Int) ⊕ ((Bool) ⊕ (Int × Bool)))
  | v5_2 => bif decide (v5_2 < (t0_0.length : Int)) then (ix t0_0 v5_2).bind fun e19_7 => (ix t1_0 v5_2).bind fun e23_8 => (r_laws_eqExpr e19_7.f0 e19_7.f1 e19_7.f2 e19_7.f3 e19_7.f4 e23_8.f0 e23_8.f1 e23_8.f2 e23_8.f3 e23_8.f4).bind fun c25_9 => bif !c25_9 then some (.inr (.inl false)) else some (.inl (IntKind.wrap .i64 (v5_2 + (1 : Int)))) else some (.inr (.inr (v5_2, false)))
def s_laws_eqExprS (n : Nat) (r_laws_eqExpr : Y_laws_eqExpr) (r_laws_eqExprS : Y_laws_eqExprS) (r_laws_eqClauseS : Y_laws_eqClauseS) (r_laws_eqClause : Y_laws_eqClause) (t0_0 : List S_impl_Expr) (t1_0 : List S_impl_Expr) : Option (Bool) :=
  bif !decide ((t0_0.length : Int) = (t1_0.length : Int)) then some false else (loopN (p_laws_eqExprS_b1 n r_laws_eqExpr t0_0 t1_0) n (0 : Int)).bind fun q => (match q with | .inl v4_3 => some v4_3 | .inr (v5_4, v14_5) => some true)
theorem step_laws_eqExprS {n : Nat} {r_laws_eqExpr : Y_laws_eqExpr} (ih_laws_eqExpr : B_laws_eqExpr r_laws_eqExpr) {r_laws_eqExprS : Y_laws_eqExprS} (ih_laws_eqExprS : B_laws_eqExprS r_laws_eqExprS) {r_laws_eqClauseS : Y_laws_eqClauseS} (ih_laws_eqClauseS : B_laws_eqClauseS r_laws_eqClauseS) {r_laws_eqClause : Y_laws_eqClause} (ih_laws_eqClause : B_laws_eqClause r_laws_eqClause) : B_laws_eqExprS (s_laws_eqExprS n r_laws_eqExpr r_laws_eqExprS r_laws_eqClauseS r_laws_eqClause) := by
 intro t0_0 t1_0 r h
 unfold s_laws_eqExprS at h
 refine bF Try.func114 rfl rfl <| cRs <| xAs rfl <| oNl <| cSq <| cRs <| xMv rfl <| xLn rfl <| xMv rfl <| xLn rfl <| xNe rfl <| oNl <| cIf h rfl (fun q1 h => ?_) (fun q1 h => ?_)
 refine cRs <| xAs rfl <| oNl <| cRt ?_
 cases h
 exact eR rfl rfl rfl rfl
 refine cSk <| cSq <| cRs <| xAs rfl <| oNl <| cLp h [(4, 5), (11, 26)] [] (fun v5_2 => ([(5, I64 v5_2)], [])) (fun q => match q with | .inl v4_3 => (.r, [(4, Bo v4_3)], []) | .inr (v5_4, v14_5) => (.e 0, [(5, I64 v5_4), (14, Bo v14_5)], [])) rfl (fun v5_2 _ h => ?_) (fun q h => ?_)
 unfold p_laws_eqExprS_b1 at h
 refine cSq <| cRs <| xMv rfl <| xMv rfl <| xLn rfl <| xLt rfl <| oNl <| cIf h rfl (fun q6 h => ?_) (fun q6 h => ?_)
 refine cSk <| cSq <| cBk <| cRs <| xMv rfl <| xMv rfl <| xIx h rS_impl_Expr_eq rfl (fun e19_7 h => ?_)
 refine xLd rfl <| xMv rfl <| xMv rfl <| xIx h rS_impl_Expr_eq rfl (fun e23_8 h => ?_)
 refine xLd rfl <| xC0 h (ih_laws_eqExpr ·) rfl (fun c25_9 h => ?_)
 refine xNot rfl <| oNl <| cIf h rfl (fun q10 h => ?_) (fun q10 h => ?_)
 exact cRs <| xAs rfl <| oNl <| cRt <| eXr h rfl
 exact cSk <| cRg <| xMv rfl <| xAdd rfl <| xAs rfl <| oNl <| eL h rfl
 exact cEx <| eX h rfl
 rcases q with v4_3 | ⟨v5_4, v14_5⟩
 cases h
 exact eR rfl rfl rfl rfl
 refine cRs <| xAs rfl <| oNl <| cRt ?_
 cases h
 exact eR rfl rfl rfl rfl
def s_laws_eqExpr (n : Nat) (r_laws_eqExpr : Y_laws_eqExpr) (r_laws_eqExprS : Y_laws_eqExprS) (r_laws_eqClauseS : Y_laws_eqClauseS) (r_laws_eqClause : Y_laws_eqClause) (t0_0 : Int) (t0_1 : Int) (t0_2 : List UInt8) (t0_3 : List S_impl_Expr) (t0_4 : List S_impl_Clause) (t1_0 : Int) (t1_1 : Int) (t1_2 : List UInt8) (t1_3 : List S_impl_Expr) (t1_4 : List S_impl_Clause) : Option (Bool) :=
  bif !decide (t0_0 = t1_0) then some false else bif !decide (t0_1 = t1_1) then some false else bif !decide (t0_2 = t1_2) then some false else (r_laws_eqExprS t0_3 t1_3).bind fun c24_4 => bif !c24_4 then some false else (r_laws_eqClauseS t0_4 t1_4).bind fun c30_6 => bif !c30_6 then some false else some true
theorem step_laws_eqExpr {n : Nat} {r_laws_eqExpr : Y_laws_eqExpr} (ih_laws_eqExpr : B_laws_eqExpr r_laws_eqExpr) {r_laws_eqExprS : Y_laws_eqExprS} (ih_laws_eqExprS : B_laws_eqExprS r_laws_eqExprS) {r_laws_eqClauseS : Y_laws_eqClauseS} (ih_laws_eqClauseS : B_laws_eqClauseS r_laws_eqClauseS) {r_laws_eqClause : Y_laws_eqClause} (ih_laws_eqClause : B_laws_eqClause r_laws_eqClause) : B_laws_eqExpr (s_laws_eqExpr n r_laws_eqExpr r_laws_eqExprS r_laws_eqClauseS r_laws_eqClause) := by
 intro t0_0 t0_1 t0_2 t0_3 t0_4 t1_0 t1_1 t1_2 t1_3 t1_4 r h
 unfold s_laws_eqExpr at h
 refine bF Try.func39 rfl rfl <| cRs <| xBx rfl <| xBx rfl <| xAs rfl <| oNl <| cSq <| cRs <| xFd rfl <| xLd rfl <| xFd rfl <| xLd rfl <| xNe rfl <| oNl <| cIf h rfl (fun q1 h => ?_) (fun q1 h => ?_)
 refine cRs <| xAs rfl <| oNl <| cRt ?_
 cases h
 exact eR rfl rfl rfl rfl
 refine cSk <| cSq <| cRs <| xFd rfl <| xLd rfl <| xFd rfl <| xLd rfl <| xNe rfl <| oNl <| cIf h rfl (fun q2 h => ?_) (fun q2 h => ?_)
 refine cRs <| xAs rfl <| oNl <| cRt ?_
 cases h
 exact eR rfl rfl rfl rfl
 refine cSk <| cSq <| cRs <| xFd rfl <| xLd rfl <| xFd rfl <| xLd rfl <| xNs rfl <| oNl <| cIf h rfl (fun q3 h => ?_) (fun q3 h => ?_)
 refine cRs <| xAs rfl <| oNl <| cRt ?_
 cases h
 exact eR rfl rfl rfl rfl
 refine cSk <| cSq <| cRs <| xFd rfl <| xLd rfl <| xFd rfl <| xLd rfl <| xC0 h (ih_laws_eqExprS ·) rfl (fun c24_4 h => ?_)
 refine xNot rfl <| oNl <| cIf h rfl (fun q5 h => ?_) (fun q5 h => ?_)
 refine cRs <| xAs rfl <| oNl <| cRt ?_
 cases h
 exact eR rfl rfl rfl rfl
 refine cSk <| cSq <| cRs <| xFd rfl <| xLd rfl <| xFd rfl <| xLd rfl <| xC0 h (ih_laws_eqClauseS ·) rfl (fun c30_6 h => ?_)
 refine xNot rfl <| oNl <| cIf h rfl (fun q7 h => ?_) (fun q7 h => ?_)
 refine cRs <| xAs rfl <| oNl <| cRt ?_
 cases h
 exact eR rfl rfl rfl rfl
 refine cSk <| cRs <| xAs rfl <| oNl <| cRt ?_
 cases h
 exact eR rfl rfl rfl rfl
def q_laws_eqExpr : Nat → (Y_laws_eqExpr) × (Y_laws_eqExprS) × (Y_laws_eqClauseS) × (Y_laws_eqClause)
  | 0 => ((fun _ _ _ _ _ _ _ _ _ _ => none), (fun _ _ => none), (fun _ _ => none), (fun _ _ _ _ _ _ _ _ _ _ _ _ _ _ _ _ _ _ _ _ => none))
  | n + 1 => (s_laws_eqExpr n ((q_laws_eqExpr n).1) ((q_laws_eqExpr n).2.1) ((q_laws_eqExpr n).2.2.1) ((q_laws_eqExpr n).2.2.2), s_laws_eqExprS n ((q_laws_eqExpr n).1) ((q_laws_eqExpr n).2.1) ((q_laws_eqExpr n).2.2.1) ((q_laws_eqExpr n).2.2.2), s_laws_eqClauseS n ((q_laws_eqExpr n).1) ((q_laws_eqExpr n).2.1) ((q_laws_eqExpr n).2.2.1) ((q_laws_eqExpr n).2.2.2), s_laws_eqClause n ((q_laws_eqExpr n).1) ((q_laws_eqExpr n).2.1) ((q_laws_eqExpr n).2.2.1) ((q_laws_eqExpr n).2.2.2))
def p_laws_eqExpr (n : Nat) : Y_laws_eqExpr := (q_laws_eqExpr n).1
def p_laws_eqExprS (n : Nat) : Y_laws_eqExprS := (q_laws_eqExpr n).2.1
def p_laws_eqClauseS (n : Nat) : Y_laws_eqClauseS := (q_laws_eqExpr n).2.2.1
def p_laws_eqClause (n : Nat) : Y_laws_eqClause := (q_laws_eqExpr n).2.2.2
theorem bigs_laws_eqExpr (n : Nat) : B_laws_eqExpr (p_laws_eqExpr n) ∧ B_laws_eqExprS (p_laws_eqExprS n) ∧ B_laws_eqClauseS (p_laws_eqClauseS n) ∧ B_laws_eqClause (p_laws_eqClause n) := by
  induction n with
  | zero => exact ⟨(fun h => nomatch h), (fun h => nomatch h), (fun h => nomatch h), (fun h => nomatch h)⟩
  | succ n ih => exact ⟨step_laws_eqExpr (n := n) (ih.1) (ih.2.1) (ih.2.2.1) (ih.2.2.2), step_laws_eqExprS (n := n) (ih.1) (ih.2.1) (ih.2.2.1) (ih.2.2.2), step_laws_eqClauseS (n := n) (ih.1) (ih.2.1) (ih.2.2.1) (ih.2.2.2), step_laws_eqClause (n := n) (ih.1) (ih.2.1) (ih.2.2.1) (ih.2.2.2)⟩
theorem big_laws_eqExpr {n : Nat} : B_laws_eqExpr (p_laws_eqExpr n) := (bigs_laws_eqExpr n).1
theorem big_laws_eqExprS {n : Nat} : B_laws_eqExprS (p_laws_eqExprS n) := (bigs_laws_eqExpr n).2.1
theorem big_laws_eqClauseS {n : Nat} : B_laws_eqClauseS (p_laws_eqClauseS n) := (bigs_laws_eqExpr n).2.2.1
theorem big_laws_eqClause {n : Nat} : B_laws_eqClause (p_laws_eqClause n) := (bigs_laws_eqExpr n).2.2.2
theorem p_laws_eqExpr_succ (n : Nat) : p_laws_eqExpr (n + 1) = s_laws_eqExpr n (p_laws_eqExpr n) (p_laws_eqExprS n) (p_laws_eqClauseS n) (p_laws_eqClause n) := rfl
theorem p_laws_eqExprS_succ (n : Nat) : p_laws_eqExprS (n + 1) = s_laws_eqExprS n (p_laws_eqExpr n) (p_laws_eqExprS n) (p_laws_eqClauseS n) (p_laws_eqClause n) := rfl
theorem p_laws_eqClauseS_succ (n : Nat) : p_laws_eqClauseS (n + 1) = s_laws_eqClauseS n (p_laws_eqExpr n) (p_laws_eqExprS n) (p_laws_eqClauseS n) (p_laws_eqClause n) := rfl
theorem p_laws_eqClause_succ (n : Nat) : p_laws_eqClause (n + 1) = s_laws_eqClause n (p_laws_eqExpr n) (p_laws_eqExprS n) (p_laws_eqClauseS n) (p_laws_eqClause n) := rfl
abbrev B_laws_markText (p : Int → Option ((List UInt8))) : Prop := ∀ {t0_0 : Int} {r : (List UInt8)}, p t0_0 = some r → Big Try.prog τ An (.fn 88 [.one (.c (.int .i64 t0_0))] [] (.one (.c (.str r))) none [] none)
def p_laws_markText_b1 (n : Nat) : (Int × (List UInt8)) → Option ((Int × (List UInt8)) ⊕ ((Int × (List UInt8) × Bool)))
  | (v0_2, v3_3) => bif decide ((0 : Int) < v0_2) then (toStr ([(IntKind.wrap .u8 (IntKind.wrap .i64 ((48 : Int) + (Int.tmod v0_2 (10 : Int)))))] : List Int)).bind fun v13_8 => (ck (decide (v13_8.length + v3_3.length ≤ 9223372036854775807))).bind fun _ => some (.inl ((IntKind.wrap .i64 (Int.tdiv v0_2 (10 : Int))), (v13_8 ++ v3_3))) else some (.inr (v0_2, v3_3, false))
def p_laws_markText (n : Nat) (t0_0 : Int) : Option ((List UInt8)) :=
  bif decide (t0_0 ≤ (0 : Int)) then some ([109, 48] : List UInt8) else (loopN (p_laws_markText_b1 n) n (t0_0, ([] : List UInt8))).bind fun (v0_4, v3_5, v7_6) => (ck (decide (([109] : List UInt8).length + v3_5.length ≤ 9223372036854775807))).bind fun _ => some (([109] : List UInt8) ++ v3_5)
theorem big_laws_markText {n : Nat} : B_laws_markText (p_laws_markText n) := by
 intro t0_0 r h
 unfold p_laws_markText at h
 refine bF Try.func88 rfl rfl <| cRs <| xAs rfl <| oNl <| cSq <| cRs <| xMv rfl <| xLe rfl <| oNl <| cIf h rfl (fun q1 h => ?_) (fun q1 h => ?_)
 refine cRs <| xAs rfl <| oNl <| cRt ?_
 cases h
 exact eR rfl rfl rfl rfl
 refine cSk <| cRs <| xAs rfl <| oNl <| cSq <| cLp h [(0, 0), (3, 3), (6, 17)] [] (fun (v0_2, v3_3) => ([(0, I64 v0_2), (3, St' v3_3)], [])) (fun (v0_4, v3_5, v7_6) => (.e 0, [(0, I64 v0_4), (3, St' v3_5), (7, Bo v7_6)], [])) rfl (fun st _ h => ?_) (fun q h => ?_)
 obtain ⟨v0_2, v3_3⟩ := st
 unfold p_laws_markText_b1 at h
 refine cSq <| cRs <| xMv rfl <| xGt rfl <| oNl <| cIf h rfl (fun q7 h => ?_) (fun q7 h => ?_)
 refine cSk <| cBk <| cRs <| xMv rfl <| wBi (.int .i64 (Int.tmod v0_2 (10 : Int))) rfl rfl rfl rfl rfl <| xAdd rfl <| wCv rfl rfl rfl rfl rfl <| wLt' (L := ([(IntKind.wrap .u8 (IntKind.wrap .i64 ((48 : Int) + (Int.tmod v0_2 (10 : Int)))))] : List Int)) (f := rI_u8) rfl rfl rfl rfl rfl rfl rfl <| wTs h rfl rfl ⟨rfl, rfl⟩ rfl rI_u8_eq rfl (fun v13_8 h => ?_)
 refine xMv rfl <| oCk h (fun k15_8 h => ?_)
 exact wCat k15_8 rfl rfl rfl rfl <| xAs rfl <| oNl <| cRg <| xMv rfl <| wBi (.int .i64 (IntKind.wrap .i64 (Int.tdiv v0_2 (10 : Int)))) rfl rfl rfl rfl rfl <| xAs rfl <| oNl <| eL h rfl
 exact cEx <| eX h rfl
 obtain ⟨v0_4, v3_5, v7_6⟩ := q
 refine cRs <| xMv rfl <| oCk h (fun k19_9 h => ?_)
 refine wCat k19_9 rfl rfl rfl rfl <| xAs rfl <| oNl <| cRt ?_
 cases h
 exact eR rfl rfl rfl rfl
abbrev Y_laws_markTermS : Type := (List S_impl_Term) → Int → Option (Int × (List S_impl_Term))
abbrev B_laws_markTermS (p : Y_laws_markTermS) : Prop := ∀ {t0_0 : List S_impl_Term} {t1_0 : Int} {r : Int × (List S_impl_Term)}, p t0_0 t1_0 = some r → Big Try.prog τ An (.fn 41 [.one (.c (.sl (t0_0.map rS_impl_Term))), .one (.c (.int .i64 t1_0))] [] (.one (.c (.int .i64 r.1))) (some (.sl (r.2.map rS_impl_Term))) [] none)
def p_laws_markTermS_b1 (n : Nat) (r_laws_markTermS : Y_laws_markTermS) : ((List S_impl_Term) × Int × Int) → Option (((List S_impl_Term) × Int × Int) ⊕ (((List S_impl_Term) × Int × Int × Bool)))
  | (v0_1, v1_2, v5_3) => bif decide (v5_3 < (v0_1.length : Int)) then (ix v0_1 v5_3).bind fun e15_9 => (some (v0_1.set (Int.toNat v5_3) (S_impl_Term.mk v1_2 e15_9.f1 e15_9.f2 e15_9.f3))).bind fun u0_10 => (ix u0_10 v5_3).bind fun e22_11 => (some (u0_10.set (Int.toNat v5_3) (S_impl_Term.mk e22_11.f0 (IntKind.wrap .i64 (v1_2 + (1 : Int))) e22_11.f2 e22_11.f3))).bind fun u0_12 => (p_laws_markText n (IntKind.wrap .i64 ((IntKind.wrap .i64 (v1_2 + (1 : Int))) + (1 : Int)))).bind fun c29_13 => (ix u0_12 v5_3).bind fun e30_14 => (some (u0_12.set (Int.toNat v5_3) (S_impl_Term.mk e30_14.f0 e30_14.f1 c29_13 e30_14.f3))).bind fun u0_15 => (ix u0_15 v5_3).bind fun e36_16 => (r_laws_markTermS e36_16.f3 (IntKind.wrap .i64 ((IntKind.wrap .i64 ((IntKind.wrap .i64 (v1_2 + (1 : Int))) + (1 : Int))) + (1 : Int)))).bind fun c40_17 => (some (u0_15.set (Int.toNat v5_3) (S_impl_Term.mk e36_16.f0 e36_16.f1 e36_16.f2 c40_17.2))).bind fun u0_18 => some (.inl (u0_18, c40_17.1, (IntKind.wrap .i64 (v5_3 + (1 : Int))))) else some (.inr (v0_1, v1_2, v5_3, false))
def s_laws_markTermS (n : Nat) (r_laws_markTermS : Y_laws_markTermS) (t0_0 : List S_impl_Term) (t1_0 : Int) : Option (Int × (List S_impl_Term)) :=
  (loopN (p_laws_markTermS_b1 n r_laws_markTermS) n (t0_0, t1_0, (0 : Int))).bind fun (v0_4, v1_5, v5_6, v9_7) => some (v1_5, v0_4)
theorem step_laws_markTermS {n : Nat} {r_laws_markTermS : Y_laws_markTermS} (ih_laws_markTermS : B_laws_markTermS r_laws_markTermS) : B_laws_markTermS (s_laws_markTermS n r_laws_markTermS) := by
 intro t0_0 t1_0 r h
 unfold s_laws_markTermS at h
 refine bFi Try.func41 rfl rfl <| cRs <| xAs rfl <| oNl <| cSq <| cRs <| xAs rfl <| oNl <| cLp h [(0, 1), (5, 40)] [] (fun (v0_1, v1_2, v5_3) => ([(0, Li rS_impl_Term v0_1), (1, I64 v1_2), (5, I64 v5_3)], [])) (fun (v0_4, v1_5, v5_6, v9_7) => (.e 0, [(0, Li rS_impl_Term v0_4), (1, I64 v1_5), (5, I64 v5_6), (9, Bo v9_7)], [])) rfl (fun st _ h => ?_) (fun q h => ?_)
 obtain ⟨v0_1, v1_2, v5_3⟩ := st
 unfold p_laws_markTermS_b1 at h
 refine cSq <| cRs <| xMv rfl <| xMv rfl <| xLn rfl <| xLt rfl <| oNl <| cIf h rfl (fun q8 h => ?_) (fun q8 h => ?_)
 refine cSk <| cSq <| cBk <| cRs <| wAl rfl rfl rfl rfl <| xMv rfl <| xMv rfl <| wIp (f := rS_impl_Term) h rfl rfl rfl rfl rfl rfl (fun a => by rw [rS_impl_Term_eq]; rfl) rfl (fun e15_9 ke15_9 h => ?_)
 refine xFd rfl <| wSpN (f := rS_impl_Term) (v' := S_impl_Term.mk v1_2 e15_9.f1 e15_9.f2 e15_9.f3) h ke15_9 rfl rfl rfl rfl rfl rfl rfl (by rw [rS_impl_Term_eq]; rfl) (by rw [rS_impl_Term_eq, rS_impl_Term_mk]; rfl) (fun u0_10 h => ?_)
 refine oRs <| xMv rfl <| xAdd rfl <| xAs rfl <| oRs <| wAl rfl rfl rfl rfl <| xMv rfl <| xMv rfl <| wIp (f := rS_impl_Term) h rfl rfl rfl rfl rfl rfl (fun a => by rw [rS_impl_Term_eq]; rfl) rfl (fun e22_11 ke22_11 h => ?_)
 refine xFd rfl <| wSpN (f := rS_impl_Term) (v' := S_impl_Term.mk e22_11.f0 (IntKind.wrap .i64 (v1_2 + (1 : Int))) e22_11.f2 e22_11.f3) h ke22_11 rfl rfl rfl rfl rfl rfl rfl (by rw [rS_impl_Term_eq]; rfl) (by rw [rS_impl_Term_eq, rS_impl_Term_mk]; rfl) (fun u0_12 h => ?_)
 refine oRs <| xMv rfl <| xAdd rfl <| xAs rfl <| oRs <| wAl rfl rfl rfl rfl <| xMv rfl <| xMv rfl <| xC0 h (big_laws_markText ·) rfl (fun c29_13 h => ?_)
 refine wIp (f := rS_impl_Term) h rfl rfl rfl rfl rfl rfl (fun a => by rw [rS_impl_Term_eq]; rfl) rfl (fun e30_14 ke30_14 h => ?_)
 refine xFd rfl <| wSpN (f := rS_impl_Term) (v' := S_impl_Term.mk e30_14.f0 e30_14.f1 c29_13 e30_14.f3) h ke30_14 rfl rfl rfl rfl rfl rfl rfl (by rw [rS_impl_Term_eq]; rfl) (by rw [rS_impl_Term_eq, rS_impl_Term_mk]; rfl) (fun u0_15 h => ?_)
 refine oRs <| xMv rfl <| xAdd rfl <| xAs rfl <| oNl <| cRg <| wAl rfl rfl rfl rfl <| xMv rfl <| wIp (f := rS_impl_Term) h rfl rfl rfl rfl rfl rfl (fun a => by rw [rS_impl_Term_eq]; rfl) rfl (fun e36_16 ke36_16 h => ?_)
 refine xFd rfl <| wLq (f := rS_impl_Term) ke36_16 rfl rfl rfl rfl rfl rfl rfl (by rw [rS_impl_Term_eq]) rfl rfl <| xMv rfl <| xIoN rS_impl_Term (fun c40_17 => u0_15.set (Int.toNat v5_3) (S_impl_Term.mk e36_16.f0 e36_16.f1 e36_16.f2 c40_17.2)) h (ih_laws_markTermS ·) rfl (nav1 ke36_16 (by rw [rS_impl_Term_eq]; rfl)) (fun _ => setAt1 ke36_16 (by rw [rS_impl_Term_eq]; rfl) (by rw [rS_impl_Term_eq, rS_impl_Term_mk]; rfl)) (fun c40_17 u0_18 h => ?_)
 exact xAs rfl <| oNl <| cRg <| xMv rfl <| xAdd rfl <| xAs rfl <| oNl <| eL h rfl
 exact cEx <| eX h rfl
 obtain ⟨v0_4, v1_5, v5_6, v9_7⟩ := q
 refine cRs <| xMv rfl <| xAs rfl <| oNl <| cRt ?_
 cases h
 exact eRi rfl rfl rfl rfl rfl
def q_laws_markTermS : Nat → (Y_laws_markTermS)
  | 0 => (fun _ _ => none)
  | n + 1 => s_laws_markTermS n (q_laws_markTermS n)
def p_laws_markTermS (n : Nat) : Y_laws_markTermS := q_laws_markTermS n
theorem bigs_laws_markTermS (n : Nat) : B_laws_markTermS (p_laws_markTermS n) := by
  induction n with
  | zero => exact (fun h => nomatch h)
  | succ n ih => exact step_laws_markTermS (n := n) ih
theorem big_laws_markTermS {n : Nat} : B_laws_markTermS (p_laws_markTermS n) := (bigs_laws_markTermS n)
theorem p_laws_markTermS_succ (n : Nat) : p_laws_markTermS (n + 1) = s_laws_markTermS n (p_laws_markTermS n) := rfl
abbrev B_impl_inRange (p : Int → Int → Int → Option (Bool)) : Prop := ∀ {t0_0 t1_0 t2_0 : Int} {r : Bool}, p t0_0 t1_0 t2_0 = some r → Big Try.prog τ An (.fn 75 [.one (.c (.int .i64 t0_0)), .one (.c (.int .i64 t1_0)), .one (.c (.int .i64 t2_0))] [] (.one (.c (.bool r))) none [] none)
def p_impl_inRange (n : Nat) (t0_0 : Int) (t1_0 : Int) (t2_0 : Int) : Option (Bool) :=
  (bif decide (t1_0 ≤ t0_0) then some (decide (t0_0 ≤ t2_0)) else some false).bind fun v6_1 => some v6_1
theorem big_impl_inRange {n : Nat} : B_impl_inRange (p_impl_inRange n) := by
 intro t0_0 t1_0 t2_0 r h
 unfold p_impl_inRange at h
 refine bF Try.func75 rfl rfl <| cRs <| xAs rfl <| oRs <| oJn h [(6, 14)] [] (fun v6_1 => (.n, [(6, Bo v6_1)], [])) (fun _ h => ?_) (fun v6_1 h => ?_)
 refine xMv rfl <| xMv rfl <| xGe rfl <| xMv rfl <| oIf 10 h rfl (fun q2 h => ?_) (fun q2 h => ?_)
 exact xMv rfl <| xMv rfl <| xLe rfl <| xPk rfl <| xAs rfl <| oNl <| eJ h rfl
 exact wSk rfl <| wSk rfl <| wSk rfl <| xPk rfl <| xAs rfl <| oNl <| eJ h rfl
 refine cRt ?_
 cases h
 exact eR rfl rfl rfl rfl
abbrev B_impl_isSmall (p : Int → Option (Bool)) : Prop := ∀ {t0_0 : Int} {r : Bool}, p t0_0 = some r → Big Try.prog τ An (.fn 236 [.one (.c (.int .u8 t0_0))] [] (.one (.c (.bool r))) none [] none)
def p_impl_isSmall (n : Nat) (t0_0 : Int) : Option (Bool) :=
  (bif decide ((97 : Int) ≤ t0_0) then some (decide (t0_0 ≤ (122 : Int))) else some false).bind fun v2_1 => some v2_1
theorem big_impl_isSmall {n : Nat} : B_impl_isSmall (p_impl_isSmall n) := by
 intro t0_0 r h
 unfold p_impl_isSmall at h
 refine bF Try.func236 rfl rfl <| cRs <| xAs rfl <| oRs <| oJn h [(2, 8)] [] (fun v2_1 => (.n, [(2, Bo v2_1)], [])) (fun _ h => ?_) (fun v2_1 h => ?_)
 refine xMv rfl <| xGe rfl <| xMv rfl <| oIf 5 h rfl (fun q2 h => ?_) (fun q2 h => ?_)
 exact xMv rfl <| xLe rfl <| xPk rfl <| xAs rfl <| oNl <| eJ h rfl
 exact wSk rfl <| wSk rfl <| xPk rfl <| xAs rfl <| oNl <| eJ h rfl
 refine cRt ?_
 cases h
 exact eR rfl rfl rfl rfl
abbrev B_impl_isFigure (p : Int → Option (Bool)) : Prop := ∀ {t0_0 : Int} {r : Bool}, p t0_0 = some r → Big Try.prog τ An (.fn 237 [.one (.c (.int .u8 t0_0))] [] (.one (.c (.bool r))) none [] none)
def p_impl_isFigure (n : Nat) (t0_0 : Int) : Option (Bool) :=
  (bif decide ((48 : Int) ≤ t0_0) then some (decide (t0_0 ≤ (57 : Int))) else some false).bind fun v2_1 => some v2_1
theorem big_impl_isFigure {n : Nat} : B_impl_isFigure (p_impl_isFigure n) := by
 intro t0_0 r h
 unfold p_impl_isFigure at h
 refine bF Try.func237 rfl rfl <| cRs <| xAs rfl <| oRs <| oJn h [(2, 8)] [] (fun v2_1 => (.n, [(2, Bo v2_1)], [])) (fun _ h => ?_) (fun v2_1 h => ?_)
 refine xMv rfl <| xGe rfl <| xMv rfl <| oIf 5 h rfl (fun q2 h => ?_) (fun q2 h => ?_)
 exact xMv rfl <| xLe rfl <| xPk rfl <| xAs rfl <| oNl <| eJ h rfl
 exact wSk rfl <| wSk rfl <| xPk rfl <| xAs rfl <| oNl <| eJ h rfl
 refine cRt ?_
 cases h
 exact eR rfl rfl rfl rfl
abbrev B_impl_AtomOk (p : (List UInt8) → Option (Bool)) : Prop := ∀ {t0_0 : List UInt8} {r : Bool}, p t0_0 = some r → Big Try.prog τ An (.fn 196 [.one (.c (.str t0_0))] [] (.one (.c (.bool r))) none [] none)
def p_impl_AtomOk_b1 (n : Nat) (t0_0 : List UInt8) : (Int) → Option ((Int) ⊕ ((Bool) ⊕ (Int × Bool)))
  | v3_1 => bif decide (v3_1 < (t0_0.length : Int)) then ((ixs t0_0 v3_1).bind fun e12_7 => (p_impl_isSmall n e12_7).bind fun c13_8 => bif !c13_8 then bif decide (v3_1 = (0 : Int)) then some true else (ixs t0_0 v3_1).bind fun e21_11 => (p_impl_isFigure n e21_11).bind fun c22_12 => bif !c22_12 then (ixs t0_0 v3_1).bind fun e27_14 => some (!decide (e27_14 = (95 : Int))) else some false else some false).bind fun v31_6 => bif v31_6 then some (.inr (.inl false)) else some (.inl (IntKind.wrap .i64 (v3_1 + (1 : Int)))) else some (.inr (.inr (v3_1, false)))
def p_impl_AtomOk (n : Nat) (t0_0 : List UInt8) : Option (Bool) :=
  (loopN (p_impl_AtomOk_b1 n t0_0) n (0 : Int)).bind fun q => (match q with | .inl v2_2 => some v2_2 | .inr (v3_3, v7_4) => (p_impl_inRange n (t0_0.length : Int) (1 : Int) (20 : Int)).bind fun c34_16 => some c34_16)
theorem big_impl_AtomOk {n : Nat} : B_impl_AtomOk (p_impl_AtomOk n) := by
 intro t0_0 r h
 unfold p_impl_AtomOk at h
 refine bF Try.func196 rfl rfl <| cRs <| xAs rfl <| oNl <| cSq <| cRs <| xAs rfl <| oNl <| cLp h [(2, 31)] [] (fun v3_1 => ([(3, I64 v3_1)], [])) (fun q => match q with | .inl v2_2 => (.r, [(2, Bo v2_2)], []) | .inr (v3_3, v7_4) => (.e 0, [(3, I64 v3_3), (7, Bo v7_4)], [])) rfl (fun v3_1 _ h => ?_) (fun q h => ?_)
 unfold p_impl_AtomOk_b1 at h
 refine cSq <| cRs <| xMv rfl <| xMv rfl <| xLs rfl <| xLt rfl <| oNl <| cIf h rfl (fun q5 h => ?_) (fun q5 h => ?_)
 refine cSk <| cSq <| cBk <| cRs <| oJn h [(10, 31)] [] (fun v31_6 => (.n, [(31, Bo v31_6)], [])) (fun _ h => ?_) (fun v31_6 h => ?_)
 refine xMv rfl <| xMv rfl <| wIxs h rfl rfl rfl rfl rfl (fun e12_7 h => ?_)
 refine xC0 h (big_impl_isSmall ·) rfl (fun c13_8 h => ?_)
 refine xNot rfl <| xMv rfl <| oIf 15 h rfl (fun q9 h => ?_) (fun q9 h => ?_)
 refine xMv rfl <| xEq rfl <| xMv rfl <| oIf 18 h rfl (fun q10 h => ?_) (fun q10 h => ?_)
 exact wSk rfl <| wSk rfl <| wSk rfl <| wSk rfl <| wSk rfl <| wSk rfl <| wSk rfl <| wSk rfl <| wSk rfl <| wSk rfl <| wSk rfl <| xPk rfl <| xPk rfl <| oNl <| eJ h rfl
 refine xMv rfl <| xMv rfl <| wIxs h rfl rfl rfl rfl rfl (fun e21_11 h => ?_)
 refine xC0 h (big_impl_isFigure ·) rfl (fun c22_12 h => ?_)
 refine xNot rfl <| xMv rfl <| oIf 24 h rfl (fun q13 h => ?_) (fun q13 h => ?_)
 refine xMv rfl <| xMv rfl <| wIxs h rfl rfl rfl rfl rfl (fun e27_14 h => ?_)
 exact xNe rfl <| xPk rfl <| xPk rfl <| xPk rfl <| oNl <| eJ h rfl
 exact wSk rfl <| wSk rfl <| wSk rfl <| wSk rfl <| xPk rfl <| xPk rfl <| xPk rfl <| oNl <| eJ h rfl
 refine wSk rfl <| wSk rfl <| wSk rfl <| wSk rfl <| wSk rfl <| wSk rfl <| wSk rfl <| wSk rfl <| wSk rfl <| wSk rfl <| wSk rfl <| wSk rfl <| wSk rfl <| wSk rfl ?_
 exact wSk rfl <| xPk rfl <| oNl <| eJ h rfl
 refine cIf h rfl (fun q15 h => ?_) (fun q15 h => ?_)
 exact cRs <| xAs rfl <| oNl <| cRt <| eXr h rfl
 exact cSk <| cRg <| xMv rfl <| xAdd rfl <| xAs rfl <| oNl <| eL h rfl
 exact cEx <| eX h rfl
 rcases q with v2_2 | ⟨v3_3, v7_4⟩
 cases h
 exact eR rfl rfl rfl rfl
 refine cRs <| xMv rfl <| xLs rfl <| xC0 h (big_impl_inRange ·) rfl (fun c34_16 h => ?_)
 refine xAs rfl <| oNl <| cRt ?_
 cases h
 exact eR rfl rfl rfl rfl
abbrev B_impl_Term_plainOk (p : Int → Int → (List UInt8) → (List S_impl_Term) → Option (Bool)) : Prop := ∀ {t0_0 t0_1 : Int} {t0_2 : List UInt8} {t0_3 : List S_impl_Term} {r : Bool}, p t0_0 t0_1 t0_2 t0_3 = some r → Big Try.prog τ An (.fn 203 [.one (.ag [.int .i64 t0_0, .int .i64 t0_1, .str t0_2, .sl (t0_3.map rS_impl_Term)])] [] (.one (.c (.bool r))) none [] none)
def p_impl_Term_plainOk (n : Nat) (t0_0 : Int) (t0_1 : Int) (t0_2 : List UInt8) (t0_3 : List S_impl_Term) : Option (Bool) :=
  bif decide (t0_0 = (1 : Int)) then ((p_impl_inRange n t0_1 ((-1000000000000) : Int) (1000000000000 : Int)).bind fun c9_3 => bif c9_3 then bif decide (t0_2 = ([] : List UInt8)) then some (decide ((t0_3.length : Int) = (0 : Int))) else some false else some false).bind fun v2_2 => some v2_2 else bif decide (t0_0 = (2 : Int)) then (bif decide (t0_1 = (0 : Int)) then (p_impl_AtomOk n t0_2).bind fun c29_9 => bif c29_9 then some (decide ((t0_3.length : Int) = (0 : Int))) else some false else some false).bind fun v2_7 => some v2_7 else bif decide (t0_0 = (3 : Int)) then ((p_impl_inRange n t0_1 (0 : Int) (1000000 : Int)).bind fun c41_13 => bif c41_13 then bif decide (t0_2 = ([] : List UInt8)) then some (decide ((t0_3.length : Int) = (0 : Int))) else some false else some false).bind fun v2_12 => some v2_12 else bif decide (t0_0 = (4 : Int)) then (bif decide (t0_1 = (0 : Int)) then bif decide (t0_2 = ([] : List UInt8)) then some (decide ((t0_3.length : Int) ≤ (20 : Int))) else some false else some false).bind fun v2_17 => some v2_17 else bif decide (t0_0 = (5 : Int)) then (bif decide (t0_1 = (0 : Int)) then bif decide (t0_2 = ([] : List UInt8)) then some (decide ((t0_3.length : Int) ≤ (60 : Int))) else some false else some false).bind fun v2_21 => some v2_21 else some false
theorem big_impl_Term_plainOk {n : Nat} : B_impl_Term_plainOk (p_impl_Term_plainOk n) := by
 intro t0_0 t0_1 t0_2 t0_3 r h
 unfold p_impl_Term_plainOk at h
 refine bF Try.func203 rfl rfl <| cRs <| xBx rfl <| xAs rfl <| oNl <| cSq <| cRs <| xFd rfl <| xLd rfl <| oNl <| cBk <| cRs <| xEq rfl <| xAs rfl ?_
 refine oNl <| cIf h rfl (fun q1 h => ?_) (fun q1 h => ?_)
 refine cRs <| oJn h [(2, 2), (7, 20)] [] (fun v2_2 => (.n, [(2, Bo v2_2)], [])) (fun _ h => ?_) (fun v2_2 h => ?_)
 refine xFd rfl <| xLd rfl <| xC0 h (big_impl_inRange ·) rfl (fun c9_3 h => ?_)
 refine xMv rfl <| oIf 10 h rfl (fun q4 h => ?_) (fun q4 h => ?_)
 refine xFd rfl <| xLd rfl <| xEs rfl <| xPk rfl <| xMv rfl <| oIf 15 h rfl (fun q5 h => ?_) (fun q5 h => ?_)
 exact xFd rfl <| xLd rfl <| xLn rfl <| xEq rfl <| xPk rfl <| xAs rfl <| oNl <| eJ h rfl
 exact wSk rfl <| wSk rfl <| wSk rfl <| wSk rfl <| xPk rfl <| xAs rfl <| oNl <| eJ h rfl
 exact wSk rfl <| wSk rfl <| wSk rfl <| xPk rfl <| xMv rfl <| wSk rfl <| wSk rfl <| wSk rfl <| wSk rfl <| xPk rfl <| xAs rfl <| oNl <| eJ h rfl
 refine cRt ?_
 cases h
 exact eR rfl rfl rfl rfl
 refine cRs <| xEq rfl <| xAs rfl <| oNl <| cIf h rfl (fun q6 h => ?_) (fun q6 h => ?_)
 refine cRs <| oJn h [(2, 2), (23, 36)] [] (fun v2_7 => (.n, [(2, Bo v2_7)], [])) (fun _ h => ?_) (fun v2_7 h => ?_)
 refine xFd rfl <| xLd rfl <| xEq rfl <| xMv rfl <| oIf 26 h rfl (fun q8 h => ?_) (fun q8 h => ?_)
 refine xFd rfl <| xLd rfl <| xC0 h (big_impl_AtomOk ·) rfl (fun c29_9 h => ?_)
 refine xPk rfl <| xMv rfl <| oIf 31 h rfl (fun q10 h => ?_) (fun q10 h => ?_)
 exact xFd rfl <| xLd rfl <| xLn rfl <| xEq rfl <| xPk rfl <| xAs rfl <| oNl <| eJ h rfl
 exact wSk rfl <| wSk rfl <| wSk rfl <| wSk rfl <| xPk rfl <| xAs rfl <| oNl <| eJ h rfl
 exact wSk rfl <| wSk rfl <| wSk rfl <| xPk rfl <| xMv rfl <| wSk rfl <| wSk rfl <| wSk rfl <| wSk rfl <| xPk rfl <| xAs rfl <| oNl <| eJ h rfl
 refine cRt ?_
 cases h
 exact eR rfl rfl rfl rfl
 refine cRs <| xEq rfl <| xAs rfl <| oNl <| cIf h rfl (fun q11 h => ?_) (fun q11 h => ?_)
 refine cRs <| oJn h [(2, 2), (39, 52)] [] (fun v2_12 => (.n, [(2, Bo v2_12)], [])) (fun _ h => ?_) (fun v2_12 h => ?_)
 refine xFd rfl <| xLd rfl <| xC0 h (big_impl_inRange ·) rfl (fun c41_13 h => ?_)
 refine xMv rfl <| oIf 42 h rfl (fun q14 h => ?_) (fun q14 h => ?_)
 refine xFd rfl <| xLd rfl <| xEs rfl <| xPk rfl <| xMv rfl <| oIf 47 h rfl (fun q15 h => ?_) (fun q15 h => ?_)
 exact xFd rfl <| xLd rfl <| xLn rfl <| xEq rfl <| xPk rfl <| xAs rfl <| oNl <| eJ h rfl
 exact wSk rfl <| wSk rfl <| wSk rfl <| wSk rfl <| xPk rfl <| xAs rfl <| oNl <| eJ h rfl
 exact wSk rfl <| wSk rfl <| wSk rfl <| xPk rfl <| xMv rfl <| wSk rfl <| wSk rfl <| wSk rfl <| wSk rfl <| xPk rfl <| xAs rfl <| oNl <| eJ h rfl
 refine cRt ?_
 cases h
 exact eR rfl rfl rfl rfl
 refine cRs <| xEq rfl <| xAs rfl <| oNl <| cIf h rfl (fun q16 h => ?_) (fun q16 h => ?_)
 refine cRs <| oJn h [(2, 2), (55, 68)] [] (fun v2_17 => (.n, [(2, Bo v2_17)], [])) (fun _ h => ?_) (fun v2_17 h => ?_)
 refine xFd rfl <| xLd rfl <| xEq rfl <| xMv rfl <| oIf 58 h rfl (fun q18 h => ?_) (fun q18 h => ?_)
 refine xFd rfl <| xLd rfl <| xEs rfl <| xPk rfl <| xMv rfl <| oIf 63 h rfl (fun q19 h => ?_) (fun q19 h => ?_)
 exact xFd rfl <| xLd rfl <| xLn rfl <| xLe rfl <| xPk rfl <| xAs rfl <| oNl <| eJ h rfl
 exact wSk rfl <| wSk rfl <| wSk rfl <| wSk rfl <| xPk rfl <| xAs rfl <| oNl <| eJ h rfl
 exact wSk rfl <| wSk rfl <| wSk rfl <| xPk rfl <| xMv rfl <| wSk rfl <| wSk rfl <| wSk rfl <| wSk rfl <| xPk rfl <| xAs rfl <| oNl <| eJ h rfl
 refine cRt ?_
 cases h
 exact eR rfl rfl rfl rfl
 refine cRs <| xEq rfl <| xAs rfl <| oNl <| cIf h rfl (fun q20 h => ?_) (fun q20 h => ?_)
 refine cRs <| oJn h [(2, 2), (71, 84)] [] (fun v2_21 => (.n, [(2, Bo v2_21)], [])) (fun _ h => ?_) (fun v2_21 h => ?_)
 refine xFd rfl <| xLd rfl <| xEq rfl <| xMv rfl <| oIf 74 h rfl (fun q22 h => ?_) (fun q22 h => ?_)
 refine xFd rfl <| xLd rfl <| xEs rfl <| xPk rfl <| xMv rfl <| oIf 79 h rfl (fun q23 h => ?_) (fun q23 h => ?_)
 exact xFd rfl <| xLd rfl <| xLn rfl <| xLe rfl <| xPk rfl <| xAs rfl <| oNl <| eJ h rfl
 exact wSk rfl <| wSk rfl <| wSk rfl <| wSk rfl <| xPk rfl <| xAs rfl <| oNl <| eJ h rfl
 exact wSk rfl <| wSk rfl <| wSk rfl <| xPk rfl <| xMv rfl <| wSk rfl <| wSk rfl <| wSk rfl <| wSk rfl <| xPk rfl <| xAs rfl <| oNl <| eJ h rfl
 refine cRt ?_
 cases h
 exact eR rfl rfl rfl rfl
 refine cSk <| cRs <| xAs rfl <| oNl <| cRt ?_
 cases h
 exact eR rfl rfl rfl rfl
abbrev Y_impl_Term_measure : Type := Int → Int → (List UInt8) → (List S_impl_Term) → Int → Option (Int)
abbrev B_impl_Term_measure (p : Y_impl_Term_measure) : Prop := ∀ {t0_0 t0_1 : Int} {t0_2 : List UInt8} {t0_3 : List S_impl_Term} {t1_0 : Int} {r : Int}, p t0_0 t0_1 t0_2 t0_3 t1_0 = some r → Big Try.prog τ An (.fn 133 [.one (.ag [.int .i64 t0_0, .int .i64 t0_1, .str t0_2, .sl (t0_3.map rS_impl_Term)]), .one (.c (.int .i64 t1_0))] [] (.one (.c (.int .i64 r))) none [] none)
def p_impl_Term_measure_b1 (n : Nat) (r_impl_Term_measure : Y_impl_Term_measure) (t1_0 : Int) (t0_3 : List S_impl_Term) : (Int × Int) → Option ((Int × Int) ⊕ ((Int) ⊕ (Int × Int × Bool)))
  | (v5_5, v18_6) => bif decide (v18_6 < (t0_3.length : Int)) then (ix t0_3 v18_6).bind fun e20_12 => (r_impl_Term_measure e20_12.f0 e20_12.f1 e20_12.f2 e20_12.f3 (IntKind.wrap .i64 (t1_0 + (1 : Int)))).bind fun c26_13 => bif decide ((300 : Int) < (IntKind.wrap .i64 (v5_5 + c26_13))) then some (.inr (.inl (301 : Int))) else some (.inl ((IntKind.wrap .i64 (v5_5 + c26_13)), (IntKind.wrap .i64 (v18_6 + (1 : Int))))) else some (.inr (.inr (v5_5, v18_6, false)))
def s_impl_Term_measure (n : Nat) (r_impl_Term_measure : Y_impl_Term_measure) (t0_0 : Int) (t0_1 : Int) (t0_2 : List UInt8) (t0_3 : List S_impl_Term) (t1_0 : Int) : Option (Int) :=
  (bif decide ((8 : Int) < t1_0) then some true else (p_impl_Term_plainOk n t0_0 t0_1 t0_2 t0_3).bind fun c12_3 => some (!c12_3)).bind fun v14_1 => bif v14_1 then some (301 : Int) else (loopN (p_impl_Term_measure_b1 n r_impl_Term_measure t1_0 t0_3) n ((1 : Int), (0 : Int))).bind fun q => (match q with | .inl v4_7 => some v4_7 | .inr (v5_8, v18_9, v19_10) => some v5_8)
theorem step_impl_Term_measure {n : Nat} {r_impl_Term_measure : Y_impl_Term_measure} (ih_impl_Term_measure : B_impl_Term_measure r_impl_Term_measure) : B_impl_Term_measure (s_impl_Term_measure n r_impl_Term_measure) := by
 intro t0_0 t0_1 t0_2 t0_3 t1_0 r h
 unfold s_impl_Term_measure at h
 refine bF Try.func133 rfl rfl <| cRs <| xBx rfl <| xAs rfl <| oNl <| cSq <| cRs <| oJn h [(8, 14)] [] (fun v14_1 => (.n, [(14, Bo v14_1)], [])) (fun _ h => ?_) (fun v14_1 h => ?_)
 refine xMv rfl <| xGt rfl <| xMv rfl <| oIf 10 h rfl (fun q2 h => ?_) (fun q2 h => ?_)
 exact wSk rfl <| wSk rfl <| wSk rfl <| xPk rfl <| oNl <| eJ h rfl
 refine xLd rfl <| xC0 h (big_impl_Term_plainOk ·) rfl (fun c12_3 h => ?_)
 exact xNot rfl <| xPk rfl <| oNl <| eJ h rfl
 refine cIf h rfl (fun q4 h => ?_) (fun q4 h => ?_)
 refine cRs <| xAs rfl <| oNl <| cRt ?_
 cases h
 exact eR rfl rfl rfl rfl
 refine cSk <| cRs <| xAs rfl <| oNl <| cSq <| cRs <| xFd rfl <| xLd rfl <| xLn rfl <| xMv rfl <| oNl <| cLp h [(4, 5), (7, 7), (18, 30)] [(7, 7)] (fun (v5_5, v18_6) => ([(5, I64 v5_5), (18, I64 v18_6)], [])) (fun q => match q with | .inl v4_7 => (.r, [(4, I64 v4_7)], []) | .inr (v5_8, v18_9, v19_10) => (.e 0, [(5, I64 v5_8), (18, I64 v18_9), (19, Bo v19_10)], [])) rfl (fun st _ h => ?_) (fun q h => ?_)
 obtain ⟨v5_5, v18_6⟩ := st
 unfold p_impl_Term_measure_b1 at h
 refine cRs <| xLt rfl <| oNl <| cSq <| cIf h rfl (fun q11 h => ?_) (fun q11 h => ?_)
 refine cSk <| cSq <| cBk <| cRs <| xIx h rS_impl_Term_eq rfl (fun e20_12 h => ?_)
 refine xLd rfl <| xAz [.int .i64 0, .int .i64 0, .str [], .sl ([].map rS_impl_Term)] rfl <| xSt rfl <| oRs <| xMv rfl <| xLd rfl <| xMv rfl <| xAdd rfl <| xC0 h (ih_impl_Term_measure ·) rfl (fun c26_13 h => ?_)
 refine xAdd rfl <| xAs rfl <| oRs <| xMv rfl <| xGt rfl <| oNl <| cIf h rfl (fun q14 h => ?_) (fun q14 h => ?_)
 exact cRs <| xAs rfl <| oNl <| cRt <| eXr h rfl
 exact cSk <| cRg <| xAdd rfl <| xMv rfl <| oNl <| eL h rfl
 exact cEx <| eX h rfl
 rcases q with v4_7 | ⟨v5_8, v18_9, v19_10⟩
 cases h
 exact eR rfl rfl rfl rfl
 refine cRs <| xMv rfl <| xAs rfl <| oNl <| cRt ?_
 cases h
 exact eR rfl rfl rfl rfl
def q_impl_Term_measure : Nat → (Y_impl_Term_measure)
  | 0 => (fun _ _ _ _ _ => none)
  | n + 1 => s_impl_Term_measure n (q_impl_Term_measure n)
def p_impl_Term_measure (n : Nat) : Y_impl_Term_measure := q_impl_Term_measure n
theorem bigs_impl_Term_measure (n : Nat) : B_impl_Term_measure (p_impl_Term_measure n) := by
  induction n with
  | zero => exact (fun h => nomatch h)
  | succ n ih => exact step_impl_Term_measure (n := n) ih
theorem big_impl_Term_measure {n : Nat} : B_impl_Term_measure (p_impl_Term_measure n) := (bigs_impl_Term_measure n)
theorem p_impl_Term_measure_succ (n : Nat) : p_impl_Term_measure (n + 1) = s_impl_Term_measure n (p_impl_Term_measure n) := rfl
abbrev B_impl_TermOk (p : Int → Int → (List UInt8) → (List S_impl_Term) → Option (Bool)) : Prop := ∀ {t0_0 t0_1 : Int} {t0_2 : List UInt8} {t0_3 : List S_impl_Term} {r : Bool}, p t0_0 t0_1 t0_2 t0_3 = some r → Big Try.prog τ An (.fn 61 [.one (.ag [.int .i64 t0_0, .int .i64 t0_1, .str t0_2, .sl (t0_3.map rS_impl_Term)])] [] (.one (.c (.bool r))) none [] none)
def p_impl_TermOk (n : Nat) (t0_0 : Int) (t0_1 : Int) (t0_2 : List UInt8) (t0_3 : List S_impl_Term) : Option (Bool) :=
  (p_impl_Term_measure n t0_0 t0_1 t0_2 t0_3 (1 : Int)).bind fun c4_1 => some (decide (c4_1 ≤ (300 : Int)))
theorem big_impl_TermOk {n : Nat} : B_impl_TermOk (p_impl_TermOk n) := by
 intro t0_0 t0_1 t0_2 t0_3 r h
 unfold p_impl_TermOk at h
 refine bF Try.func61 rfl rfl <| cRs <| xBx rfl <| xAs rfl <| oRs <| xLd rfl <| xC0 h (big_impl_Term_measure ·) rfl (fun c4_1 h => ?_)
 refine xLe rfl <| xAs rfl <| oNl <| cRt ?_
 cases h
 exact eR rfl rfl rfl rfl
abbrev B_slices_Index_cf0e (p : (List (List UInt8)) → (List UInt8) → Option (Int)) : Prop := ∀ {t0_0 : List (List UInt8)} {t1_0 : List UInt8} {r : Int}, p t0_0 t1_0 = some r → Big Try.prog τ An (.fn 156 [.one (.c (.sl (t0_0.map rStr))), .one (.c (.str t1_0))] [] (.one (.c (.int .i64 r))) none [] none)
def p_slices_Index_cf0e_b1 (n : Nat) (t0_0 : List (List UInt8)) (t1_0 : List UInt8) : (Int) → Option ((Int) ⊕ ((Int) ⊕ (Int × Bool)))
  | v8_1 => bif decide (v8_1 < (t0_0.length : Int)) then (ix t0_0 v8_1).bind fun e14_6 => bif decide (t1_0 = e14_6) then some (.inr (.inl v8_1)) else some (.inl (IntKind.wrap .i64 (v8_1 + (1 : Int)))) else some (.inr (.inr (v8_1, false)))
def p_slices_Index_cf0e (n : Nat) (t0_0 : List (List UInt8)) (t1_0 : List UInt8) : Option (Int) :=
  (loopN (p_slices_Index_cf0e_b1 n t0_0 t1_0) n (0 : Int)).bind fun q => (match q with | .inl v4_2 => some v4_2 | .inr (v8_3, v9_4) => some ((-1) : Int))
theorem big_slices_Index_cf0e {n : Nat} : B_slices_Index_cf0e (p_slices_Index_cf0e n) := by
 intro t0_0 t1_0 r h
 unfold p_slices_Index_cf0e at h
 refine bF Try.func156 rfl rfl <| cRs <| xAs rfl <| oNl <| cSq <| cRs <| xMv rfl <| xLn rfl <| xMv rfl <| oNl <| cLp h [(4, 5), (8, 18)] [] (fun v8_1 => ([(8, I64 v8_1)], [])) (fun q => match q with | .inl v4_2 => (.r, [(4, I64 v4_2)], []) | .inr (v8_3, v9_4) => (.e 0, [(8, I64 v8_3), (9, Bo v9_4)], [])) rfl (fun v8_1 _ h => ?_) (fun q h => ?_)
 unfold p_slices_Index_cf0e_b1 at h
 refine cRs <| xLt rfl <| oNl <| cSq <| cIf h rfl (fun q5 h => ?_) (fun q5 h => ?_)
 refine cSk <| cSq <| cBk <| cRs <| xMv rfl <| xAs rfl <| oRs <| xMv rfl <| xMv rfl <| xMv rfl <| xIx h rStr_eq rfl (fun e14_6 h => ?_)
 refine xLd rfl <| xEs rfl <| oNl <| cIf h rfl (fun q7 h => ?_) (fun q7 h => ?_)
 exact cRs <| xMv rfl <| xAs rfl <| oNl <| cRt <| eXr h rfl
 exact cSk <| cRg <| xAdd rfl <| xMv rfl <| oNl <| eL h rfl
 exact cEx <| eX h rfl
 rcases q with v4_2 | ⟨v8_3, v9_4⟩
 cases h
 exact eR rfl rfl rfl rfl
 refine cRs <| xAs rfl <| oNl <| cRt ?_
 cases h
 exact eR rfl rfl rfl rfl
abbrev B_slices_Contains_35c2 (p : (List (List UInt8)) → (List UInt8) → Option (Bool)) : Prop := ∀ {t0_0 : List (List UInt8)} {t1_0 : List UInt8} {r : Bool}, p t0_0 t1_0 = some r → Big Try.prog τ An (.fn 77 [.one (.c (.sl (t0_0.map rStr))), .one (.c (.str t1_0))] [] (.one (.c (.bool r))) none [] none)
def p_slices_Contains_35c2 (n : Nat) (t0_0 : List (List UInt8)) (t1_0 : List UInt8) : Option (Bool) :=
  (p_slices_Index_cf0e n t0_0 t1_0).bind fun c7_1 => some (decide ((0 : Int) ≤ c7_1))
theorem big_slices_Contains_35c2 {n : Nat} : B_slices_Contains_35c2 (p_slices_Contains_35c2 n) := by
 intro t0_0 t1_0 r h
 unfold p_slices_Contains_35c2 at h
 refine bF Try.func77 rfl rfl <| cRs <| xAs rfl <| oRs <| xMv rfl <| xMv rfl <| xC0 h (big_slices_Index_cf0e ·) rfl (fun c7_1 h => ?_)
 refine xGe rfl <| xAs rfl <| oNl <| cRt ?_
 cases h
 exact eR rfl rfl rfl rfl
abbrev B_impl_isLarge (p : Int → Option (Bool)) : Prop := ∀ {t0_0 : Int} {r : Bool}, p t0_0 = some r → Big Try.prog τ An (.fn 258 [.one (.c (.int .u8 t0_0))] [] (.one (.c (.bool r))) none [] none)
def p_impl_isLarge (n : Nat) (t0_0 : Int) : Option (Bool) :=
  (bif decide ((65 : Int) ≤ t0_0) then bif decide (t0_0 ≤ (90 : Int)) then some true else some (decide (t0_0 = (95 : Int))) else some (decide (t0_0 = (95 : Int)))).bind fun v2_1 => some v2_1
theorem big_impl_isLarge {n : Nat} : B_impl_isLarge (p_impl_isLarge n) := by
 intro t0_0 r h
 unfold p_impl_isLarge at h
 refine bF Try.func258 rfl rfl <| cRs <| xAs rfl <| oRs <| oJn h [(2, 12)] [] (fun v2_1 => (.n, [(2, Bo v2_1)], [])) (fun _ h => ?_) (fun v2_1 h => ?_)
 refine xMv rfl <| xGe rfl <| xMv rfl <| oIf 5 h rfl (fun q2 h => ?_) (fun q2 h => ?_)
 refine xMv rfl <| xLe rfl <| xPk rfl <| xMv rfl <| oIf 9 h rfl (fun q3 h => ?_) (fun q3 h => ?_)
 exact wSk rfl <| wSk rfl <| xPk rfl <| xAs rfl <| oNl <| eJ h rfl
 exact xMv rfl <| xEq rfl <| xPk rfl <| xAs rfl <| oNl <| eJ h rfl
 exact wSk rfl <| wSk rfl <| xPk rfl <| xMv rfl <| xMv rfl <| xEq rfl <| xPk rfl <| xAs rfl <| oNl <| eJ h rfl
 refine cRt ?_
 cases h
 exact eR rfl rfl rfl rfl
abbrev B_impl_isWordByte (p : Int → Option (Bool)) : Prop := ∀ {t0_0 : Int} {r : Bool}, p t0_0 = some r → Big Try.prog τ An (.fn 257 [.one (.c (.int .u8 t0_0))] [] (.one (.c (.bool r))) none [] none)
def p_impl_isWordByte (n : Nat) (t0_0 : Int) : Option (Bool) :=
  ((p_impl_isSmall n t0_0).bind fun c4_2 => bif c4_2 then some true else (p_impl_isLarge n t0_0).bind fun c7_4 => bif c7_4 then some true else (p_impl_isFigure n t0_0).bind fun c11_6 => some c11_6).bind fun v2_1 => some v2_1
theorem big_impl_isWordByte {n : Nat} : B_impl_isWordByte (p_impl_isWordByte n) := by
 intro t0_0 r h
 unfold p_impl_isWordByte at h
 refine bF Try.func257 rfl rfl <| cRs <| xAs rfl <| oRs <| oJn h [(2, 12)] [] (fun v2_1 => (.n, [(2, Bo v2_1)], [])) (fun _ h => ?_) (fun v2_1 h => ?_)
 refine xMv rfl <| xC0 h (big_impl_isSmall ·) rfl (fun c4_2 h => ?_)
 refine xMv rfl <| oIf 5 h rfl (fun q3 h => ?_) (fun q3 h => ?_)
 exact wSk rfl <| wSk rfl <| xPk rfl <| xMv rfl <| wSk rfl <| wSk rfl <| xPk rfl <| xAs rfl <| oNl <| eJ h rfl
 refine xMv rfl <| xC0 h (big_impl_isLarge ·) rfl (fun c7_4 h => ?_)
 refine xPk rfl <| xMv rfl <| oIf 9 h rfl (fun q5 h => ?_) (fun q5 h => ?_)
 exact wSk rfl <| wSk rfl <| xPk rfl <| xAs rfl <| oNl <| eJ h rfl
 refine xMv rfl <| xC0 h (big_impl_isFigure ·) rfl (fun c11_6 h => ?_)
 exact xPk rfl <| xAs rfl <| oNl <| eJ h rfl
 refine cRt ?_
 cases h
 exact eR rfl rfl rfl rfl
abbrev B_impl_varOk (p : (List UInt8) → Option (Bool)) : Prop := ∀ {t0_0 : List UInt8} {r : Bool}, p t0_0 = some r → Big Try.prog τ An (.fn 227 [.one (.c (.str t0_0))] [] (.one (.c (.bool r))) none [] none)
def p_impl_varOk_b1 (n : Nat) (t0_0 : List UInt8) : (Int) → Option ((Int) ⊕ ((Bool) ⊕ (Int × Bool)))
  | v3_1 => bif decide (v3_1 < (t0_0.length : Int)) then (ixs t0_0 v3_1).bind fun e12_6 => (p_impl_isWordByte n e12_6).bind fun c13_7 => bif !c13_7 then some (.inr (.inl false)) else some (.inl (IntKind.wrap .i64 (v3_1 + (1 : Int)))) else some (.inr (.inr (v3_1, false)))
def p_impl_varOk (n : Nat) (t0_0 : List UInt8) : Option (Bool) :=
  (loopN (p_impl_varOk_b1 n t0_0) n (0 : Int)).bind fun q => (match q with | .inl v2_2 => some v2_2 | .inr (v3_3, v7_4) => ((p_impl_inRange n (t0_0.length : Int) (1 : Int) (20 : Int)).bind fun c17_10 => bif c17_10 then (ixs t0_0 (0 : Int)).bind fun e20_12 => (p_impl_isLarge n e20_12).bind fun c21_13 => some c21_13 else some false).bind fun v2_9 => some v2_9)
theorem big_impl_varOk {n : Nat} : B_impl_varOk (p_impl_varOk n) := by
 intro t0_0 r h
 unfold p_impl_varOk at h
 refine bF Try.func227 rfl rfl <| cRs <| xAs rfl <| oNl <| cSq <| cRs <| xAs rfl <| oNl <| cLp h [(2, 14)] [] (fun v3_1 => ([(3, I64 v3_1)], [])) (fun q => match q with | .inl v2_2 => (.r, [(2, Bo v2_2)], []) | .inr (v3_3, v7_4) => (.e 0, [(3, I64 v3_3), (7, Bo v7_4)], [])) rfl (fun v3_1 _ h => ?_) (fun q h => ?_)
 unfold p_impl_varOk_b1 at h
 refine cSq <| cRs <| xMv rfl <| xMv rfl <| xLs rfl <| xLt rfl <| oNl <| cIf h rfl (fun q5 h => ?_) (fun q5 h => ?_)
 refine cSk <| cSq <| cBk <| cRs <| xMv rfl <| xMv rfl <| wIxs h rfl rfl rfl rfl rfl (fun e12_6 h => ?_)
 refine xC0 h (big_impl_isWordByte ·) rfl (fun c13_7 h => ?_)
 refine xNot rfl <| oNl <| cIf h rfl (fun q8 h => ?_) (fun q8 h => ?_)
 exact cRs <| xAs rfl <| oNl <| cRt <| eXr h rfl
 exact cSk <| cRg <| xMv rfl <| xAdd rfl <| xAs rfl <| oNl <| eL h rfl
 exact cEx <| eX h rfl
 rcases q with v2_2 | ⟨v3_3, v7_4⟩
 cases h
 exact eR rfl rfl rfl rfl
 refine cRs <| oJn h [(2, 2), (15, 22)] [] (fun v2_9 => (.n, [(2, Bo v2_9)], [])) (fun _ h => ?_) (fun v2_9 h => ?_)
 refine xMv rfl <| xLs rfl <| xC0 h (big_impl_inRange ·) rfl (fun c17_10 h => ?_)
 refine xMv rfl <| oIf 18 h rfl (fun q11 h => ?_) (fun q11 h => ?_)
 refine xMv rfl <| wIxs h rfl rfl rfl rfl rfl (fun e20_12 h => ?_)
 refine xC0 h (big_impl_isLarge ·) rfl (fun c21_13 h => ?_)
 exact xPk rfl <| xAs rfl <| oNl <| eJ h rfl
 exact wSk rfl <| wSk rfl <| wSk rfl <| xPk rfl <| xAs rfl <| oNl <| eJ h rfl
 refine cRt ?_
 cases h
 exact eR rfl rfl rfl rfl
abbrev B_impl_xAtomOk (p : (List UInt8) → Option (Bool)) : Prop := ∀ {t0_0 : List UInt8} {r : Bool}, p t0_0 = some r → Big Try.prog τ An (.fn 228 [.one (.c (.str t0_0))] [] (.one (.c (.bool r))) none [] none)
def p_impl_xAtomOk (n : Nat) (t0_0 : List UInt8) : Option (Bool) :=
  ((p_impl_AtomOk n t0_0).bind fun c4_2 => bif c4_2 then bif !decide (t0_0 = ([99, 97, 115, 101] : List UInt8)) then bif !decide (t0_0 = ([111, 102] : List UInt8)) then some (!decide (t0_0 = ([101, 110, 100] : List UInt8))) else some false else some false else some false).bind fun v2_1 => some v2_1
theorem big_impl_xAtomOk {n : Nat} : B_impl_xAtomOk (p_impl_xAtomOk n) := by
 intro t0_0 r h
 unfold p_impl_xAtomOk at h
 refine bF Try.func228 rfl rfl <| cRs <| xAs rfl <| oRs <| oJn h [(2, 16)] [] (fun v2_1 => (.n, [(2, Bo v2_1)], [])) (fun _ h => ?_) (fun v2_1 h => ?_)
 refine xMv rfl <| xC0 h (big_impl_AtomOk ·) rfl (fun c4_2 h => ?_)
 refine xMv rfl <| oIf 5 h rfl (fun q3 h => ?_) (fun q3 h => ?_)
 refine xMv rfl <| xNs rfl <| xPk rfl <| xMv rfl <| oIf 9 h rfl (fun q4 h => ?_) (fun q4 h => ?_)
 refine xMv rfl <| xNs rfl <| xPk rfl <| xMv rfl <| oIf 13 h rfl (fun q5 h => ?_) (fun q5 h => ?_)
 exact xMv rfl <| xNs rfl <| xPk rfl <| xAs rfl <| oNl <| eJ h rfl
 exact wSk rfl <| wSk rfl <| xPk rfl <| xAs rfl <| oNl <| eJ h rfl
 exact wSk rfl <| wSk rfl <| xPk rfl <| xMv rfl <| wSk rfl <| wSk rfl <| xPk rfl <| xAs rfl <| oNl <| eJ h rfl
 exact wSk rfl <| wSk rfl <| xPk rfl <| xMv rfl <| wSk rfl <| wSk rfl <| xPk rfl <| xMv rfl <| wSk rfl <| wSk rfl <| xPk rfl <| xAs rfl <| oNl <| eJ h rfl
 refine cRt ?_
 cases h
 exact eR rfl rfl rfl rfl
abbrev B_impl_isOp (p : (List UInt8) → Option (Bool)) : Prop := ∀ {t0_0 : List UInt8} {r : Bool}, p t0_0 = some r → Big Try.prog τ An (.fn 261 [.one (.c (.str t0_0))] [] (.one (.c (.bool r))) none [] none)
def p_impl_isOp (n : Nat) (t0_0 : List UInt8) : Option (Bool) :=
  bif decide (t0_0 = ([43] : List UInt8)) then some true else bif decide (t0_0 = ([45] : List UInt8)) then some true else bif decide (t0_0 = ([42] : List UInt8)) then some true else bif decide (t0_0 = ([61, 61] : List UInt8)) then some true else bif decide (t0_0 = ([60] : List UInt8)) then some true else some false
theorem big_impl_isOp {n : Nat} : B_impl_isOp (p_impl_isOp n) := by
 intro t0_0 r h
 unfold p_impl_isOp at h
 refine bF Try.func261 rfl rfl <| cRs <| xAs rfl <| oNl <| cSq <| cRs <| xMv rfl <| oNl <| cBk <| cSq <| cRs <| xEs rfl <| xAs rfl <| oNl <| cIf h rfl (fun q1 h => ?_) (fun q1 h => ?_)
 refine cSk <| cT rfl <| cRs <| xAs rfl <| oNl <| cRt ?_
 cases h
 exact eR rfl rfl rfl rfl
 refine cRs <| xEs rfl <| xAs rfl <| oNl <| cIf h rfl (fun q2 h => ?_) (fun q2 h => ?_)
 refine cSk <| cT rfl <| cRs <| xAs rfl <| oNl <| cRt ?_
 cases h
 exact eR rfl rfl rfl rfl
 refine cRs <| xEs rfl <| xAs rfl <| oNl <| cIf h rfl (fun q3 h => ?_) (fun q3 h => ?_)
 refine cSk <| cT rfl <| cRs <| xAs rfl <| oNl <| cRt ?_
 cases h
 exact eR rfl rfl rfl rfl
 refine cRs <| xEs rfl <| xAs rfl <| oNl <| cIf h rfl (fun q4 h => ?_) (fun q4 h => ?_)
 refine cSk <| cT rfl <| cRs <| xAs rfl <| oNl <| cRt ?_
 cases h
 exact eR rfl rfl rfl rfl
 refine cRg <| xEs rfl <| xAs rfl <| oNl <| cIf h rfl (fun q5 h => ?_) (fun q5 h => ?_)
 refine cRs <| xAs rfl <| oNl <| cRt ?_
 cases h
 exact eR rfl rfl rfl rfl
 refine cSk <| cRs <| xAs rfl <| oNl <| cRt ?_
 cases h
 exact eR rfl rfl rfl rfl
abbrev B_impl_shapeOk (p : Int → Int → (List UInt8) → Int → Option (Bool)) : Prop := ∀ {t0_0 t1_0 : Int} {t2_0 : List UInt8} {t3_0 : Int} {r : Bool}, p t0_0 t1_0 t2_0 t3_0 = some r → Big Try.prog τ An (.fn 234 [.one (.c (.int .i64 t0_0)), .one (.c (.int .i64 t1_0)), .one (.c (.str t2_0)), .one (.c (.int .i64 t3_0))] [] (.one (.c (.bool r))) none [] none)
def p_impl_shapeOk (n : Nat) (t0_0 : Int) (t1_0 : Int) (t2_0 : List UInt8) (t3_0 : Int) : Option (Bool) :=
  bif decide (t0_0 = (1 : Int)) then ((p_impl_inRange n t1_0 (0 : Int) (1000000000000 : Int)).bind fun c13_3 => bif c13_3 then bif decide (t2_0 = ([] : List UInt8)) then some (decide (t3_0 = (0 : Int))) else some false else some false).bind fun v8_2 => some v8_2 else bif decide (t0_0 = (2 : Int)) then (bif decide (t1_0 = (0 : Int)) then (p_impl_xAtomOk n t2_0).bind fun c28_9 => bif c28_9 then some (decide (t3_0 = (0 : Int))) else some false else some false).bind fun v8_7 => some v8_7 else bif decide (t0_0 = (3 : Int)) then (bif decide (t1_0 = (0 : Int)) then (p_impl_varOk n t2_0).bind fun c40_14 => bif c40_14 then some (decide (t3_0 = (0 : Int))) else some false else some false).bind fun v8_12 => some v8_12 else bif decide (t0_0 = (4 : Int)) then (bif decide (t1_0 = (0 : Int)) then bif decide (t2_0 = ([] : List UInt8)) then some (decide (t3_0 ≤ (20 : Int))) else some false else some false).bind fun v8_17 => some v8_17 else bif decide (t0_0 = (5 : Int)) then (bif decide (t1_0 = (0 : Int)) then bif decide (t2_0 = ([] : List UInt8)) then some (decide (t3_0 ≤ (20 : Int))) else some false else some false).bind fun v8_21 => some v8_21 else bif decide (t0_0 = (6 : Int)) then (bif decide (t1_0 = (0 : Int)) then bif decide (t2_0 = ([] : List UInt8)) then (p_impl_inRange n t3_0 (2 : Int) (6 : Int)).bind fun c69_28 => some c69_28 else some false else some false).bind fun v8_25 => some v8_25 else bif decide (t0_0 = (7 : Int)) then (bif decide (t1_0 = (0 : Int)) then (p_impl_isOp n t2_0).bind fun c77_32 => bif c77_32 then some (decide (t3_0 = (2 : Int))) else some false else some false).bind fun v8_30 => some v8_30 else bif decide (t0_0 = (8 : Int)) then (bif decide (t1_0 = (0 : Int)) then (p_impl_xAtomOk n t2_0).bind fun c89_37 => bif c89_37 then some (decide (t3_0 ≤ (4 : Int))) else some false else some false).bind fun v8_35 => some v8_35 else bif decide (t0_0 = (9 : Int)) then (bif decide (t1_0 = (0 : Int)) then bif decide (t2_0 = ([] : List UInt8)) then some (decide (t3_0 = (1 : Int))) else some false else some false).bind fun v8_40 => some v8_40 else some false
theorem big_impl_shapeOk {n : Nat} : B_impl_shapeOk (p_impl_shapeOk n) := by
 intro t0_0 t1_0 t2_0 t3_0 r h
 unfold p_impl_shapeOk at h
 refine bF Try.func234 rfl rfl <| cRs <| xAs rfl <| oNl <| cSq <| cRs <| xMv rfl <| oNl <| cBk <| cRs <| xEq rfl <| xAs rfl <| oNl <| cIf h rfl (fun q1 h => ?_) (fun q1 h => ?_)
 refine cRs <| oJn h [(8, 8), (12, 21)] [] (fun v8_2 => (.n, [(8, Bo v8_2)], [])) (fun _ h => ?_) (fun v8_2 h => ?_)
 refine xMv rfl <| xC0 h (big_impl_inRange ·) rfl (fun c13_3 h => ?_)
 refine xMv rfl <| oIf 14 h rfl (fun q4 h => ?_) (fun q4 h => ?_)
 refine xMv rfl <| xEs rfl <| xPk rfl <| xMv rfl <| oIf 18 h rfl (fun q5 h => ?_) (fun q5 h => ?_)
 exact xMv rfl <| xEq rfl <| xPk rfl <| xAs rfl <| oNl <| eJ h rfl
 exact wSk rfl <| wSk rfl <| xPk rfl <| xAs rfl <| oNl <| eJ h rfl
 exact wSk rfl <| wSk rfl <| xPk rfl <| xMv rfl <| wSk rfl <| wSk rfl <| xPk rfl <| xAs rfl <| oNl <| eJ h rfl
 refine cRt ?_
 cases h
 exact eR rfl rfl rfl rfl
 refine cRs <| xEq rfl <| xAs rfl <| oNl <| cIf h rfl (fun q6 h => ?_) (fun q6 h => ?_)
 refine cRs <| oJn h [(8, 8), (24, 33)] [] (fun v8_7 => (.n, [(8, Bo v8_7)], [])) (fun _ h => ?_) (fun v8_7 h => ?_)
 refine xMv rfl <| xEq rfl <| xMv rfl <| oIf 26 h rfl (fun q8 h => ?_) (fun q8 h => ?_)
 refine xMv rfl <| xC0 h (big_impl_xAtomOk ·) rfl (fun c28_9 h => ?_)
 refine xPk rfl <| xMv rfl <| oIf 30 h rfl (fun q10 h => ?_) (fun q10 h => ?_)
 exact xMv rfl <| xEq rfl <| xPk rfl <| xAs rfl <| oNl <| eJ h rfl
 exact wSk rfl <| wSk rfl <| xPk rfl <| xAs rfl <| oNl <| eJ h rfl
 exact wSk rfl <| wSk rfl <| xPk rfl <| xMv rfl <| wSk rfl <| wSk rfl <| xPk rfl <| xAs rfl <| oNl <| eJ h rfl
 refine cRt ?_
 cases h
 exact eR rfl rfl rfl rfl
 refine cRs <| xEq rfl <| xAs rfl <| oNl <| cIf h rfl (fun q11 h => ?_) (fun q11 h => ?_)
 refine cRs <| oJn h [(8, 8), (36, 45)] [] (fun v8_12 => (.n, [(8, Bo v8_12)], [])) (fun _ h => ?_) (fun v8_12 h => ?_)
 refine xMv rfl <| xEq rfl <| xMv rfl <| oIf 38 h rfl (fun q13 h => ?_) (fun q13 h => ?_)
 refine xMv rfl <| xC0 h (big_impl_varOk ·) rfl (fun c40_14 h => ?_)
 refine xPk rfl <| xMv rfl <| oIf 42 h rfl (fun q15 h => ?_) (fun q15 h => ?_)
 exact xMv rfl <| xEq rfl <| xPk rfl <| xAs rfl <| oNl <| eJ h rfl
 exact wSk rfl <| wSk rfl <| xPk rfl <| xAs rfl <| oNl <| eJ h rfl
 exact wSk rfl <| wSk rfl <| xPk rfl <| xMv rfl <| wSk rfl <| wSk rfl <| xPk rfl <| xAs rfl <| oNl <| eJ h rfl
 refine cRt ?_
 cases h
 exact eR rfl rfl rfl rfl
 refine cSq <| cRs <| xEq rfl <| xAs rfl <| oNl <| cIf h rfl (fun q16 h => ?_) (fun q16 h => ?_)
 refine cSk <| cT rfl <| cRs <| oJn h [(8, 8), (49, 58)] [] (fun v8_17 => (.n, [(8, Bo v8_17)], [])) (fun _ h => ?_) (fun v8_17 h => ?_)
 refine xMv rfl <| xEq rfl <| xMv rfl <| oIf 51 h rfl (fun q18 h => ?_) (fun q18 h => ?_)
 refine xMv rfl <| xEs rfl <| xPk rfl <| xMv rfl <| oIf 55 h rfl (fun q19 h => ?_) (fun q19 h => ?_)
 exact xMv rfl <| xLe rfl <| xPk rfl <| xAs rfl <| oNl <| eJ h rfl
 exact wSk rfl <| wSk rfl <| xPk rfl <| xAs rfl <| oNl <| eJ h rfl
 exact wSk rfl <| wSk rfl <| xPk rfl <| xMv rfl <| wSk rfl <| wSk rfl <| xPk rfl <| xAs rfl <| oNl <| eJ h rfl
 refine cRt ?_
 cases h
 exact eR rfl rfl rfl rfl
 refine cRg <| xEq rfl <| xAs rfl <| oNl <| cIf h rfl (fun q20 h => ?_) (fun q20 h => ?_)
 refine cRs <| oJn h [(8, 8), (49, 58)] [] (fun v8_21 => (.n, [(8, Bo v8_21)], [])) (fun _ h => ?_) (fun v8_21 h => ?_)
 refine xMv rfl <| xEq rfl <| xMv rfl <| oIf 51 h rfl (fun q22 h => ?_) (fun q22 h => ?_)
 refine xMv rfl <| xEs rfl <| xPk rfl <| xMv rfl <| oIf 55 h rfl (fun q23 h => ?_) (fun q23 h => ?_)
 exact xMv rfl <| xLe rfl <| xPk rfl <| xAs rfl <| oNl <| eJ h rfl
 exact wSk rfl <| wSk rfl <| xPk rfl <| xAs rfl <| oNl <| eJ h rfl
 exact wSk rfl <| wSk rfl <| xPk rfl <| xMv rfl <| wSk rfl <| wSk rfl <| xPk rfl <| xAs rfl <| oNl <| eJ h rfl
 refine cRt ?_
 cases h
 exact eR rfl rfl rfl rfl
 refine cRs <| xEq rfl <| xAs rfl <| oNl <| cIf h rfl (fun q24 h => ?_) (fun q24 h => ?_)
 refine cRs <| oJn h [(8, 8), (61, 70)] [] (fun v8_25 => (.n, [(8, Bo v8_25)], [])) (fun _ h => ?_) (fun v8_25 h => ?_)
 refine xMv rfl <| xEq rfl <| xMv rfl <| oIf 63 h rfl (fun q26 h => ?_) (fun q26 h => ?_)
 refine xMv rfl <| xEs rfl <| xPk rfl <| xMv rfl <| oIf 67 h rfl (fun q27 h => ?_) (fun q27 h => ?_)
 refine xMv rfl <| xC0 h (big_impl_inRange ·) rfl (fun c69_28 h => ?_)
 exact xPk rfl <| xAs rfl <| oNl <| eJ h rfl
 exact wSk rfl <| wSk rfl <| xPk rfl <| xAs rfl <| oNl <| eJ h rfl
 exact wSk rfl <| wSk rfl <| xPk rfl <| xMv rfl <| wSk rfl <| wSk rfl <| xPk rfl <| xAs rfl <| oNl <| eJ h rfl
 refine cRt ?_
 cases h
 exact eR rfl rfl rfl rfl
 refine cRs <| xEq rfl <| xAs rfl <| oNl <| cIf h rfl (fun q29 h => ?_) (fun q29 h => ?_)
 refine cRs <| oJn h [(8, 8), (73, 82)] [] (fun v8_30 => (.n, [(8, Bo v8_30)], [])) (fun _ h => ?_) (fun v8_30 h => ?_)
 refine xMv rfl <| xEq rfl <| xMv rfl <| oIf 75 h rfl (fun q31 h => ?_) (fun q31 h => ?_)
 refine xMv rfl <| xC0 h (big_impl_isOp ·) rfl (fun c77_32 h => ?_)
 refine xPk rfl <| xMv rfl <| oIf 79 h rfl (fun q33 h => ?_) (fun q33 h => ?_)
 exact xMv rfl <| xEq rfl <| xPk rfl <| xAs rfl <| oNl <| eJ h rfl
 exact wSk rfl <| wSk rfl <| xPk rfl <| xAs rfl <| oNl <| eJ h rfl
 exact wSk rfl <| wSk rfl <| xPk rfl <| xMv rfl <| wSk rfl <| wSk rfl <| xPk rfl <| xAs rfl <| oNl <| eJ h rfl
 refine cRt ?_
 cases h
 exact eR rfl rfl rfl rfl
 refine cRs <| xEq rfl <| xAs rfl <| oNl <| cIf h rfl (fun q34 h => ?_) (fun q34 h => ?_)
 refine cRs <| oJn h [(8, 8), (85, 94)] [] (fun v8_35 => (.n, [(8, Bo v8_35)], [])) (fun _ h => ?_) (fun v8_35 h => ?_)
 refine xMv rfl <| xEq rfl <| xMv rfl <| oIf 87 h rfl (fun q36 h => ?_) (fun q36 h => ?_)
 refine xMv rfl <| xC0 h (big_impl_xAtomOk ·) rfl (fun c89_37 h => ?_)
 refine xPk rfl <| xMv rfl <| oIf 91 h rfl (fun q38 h => ?_) (fun q38 h => ?_)
 exact xMv rfl <| xLe rfl <| xPk rfl <| xAs rfl <| oNl <| eJ h rfl
 exact wSk rfl <| wSk rfl <| xPk rfl <| xAs rfl <| oNl <| eJ h rfl
 exact wSk rfl <| wSk rfl <| xPk rfl <| xMv rfl <| wSk rfl <| wSk rfl <| xPk rfl <| xAs rfl <| oNl <| eJ h rfl
 refine cRt ?_
 cases h
 exact eR rfl rfl rfl rfl
 refine cRs <| xEq rfl <| xAs rfl <| oNl <| cIf h rfl (fun q39 h => ?_) (fun q39 h => ?_)
 refine cRs <| oJn h [(8, 8), (97, 106)] [] (fun v8_40 => (.n, [(8, Bo v8_40)], [])) (fun _ h => ?_) (fun v8_40 h => ?_)
 refine xMv rfl <| xEq rfl <| xMv rfl <| oIf 99 h rfl (fun q41 h => ?_) (fun q41 h => ?_)
 refine xMv rfl <| xEs rfl <| xPk rfl <| xMv rfl <| oIf 103 h rfl (fun q42 h => ?_) (fun q42 h => ?_)
 exact xMv rfl <| xEq rfl <| xPk rfl <| xAs rfl <| oNl <| eJ h rfl
 exact wSk rfl <| wSk rfl <| xPk rfl <| xAs rfl <| oNl <| eJ h rfl
 exact wSk rfl <| wSk rfl <| xPk rfl <| xMv rfl <| wSk rfl <| wSk rfl <| xPk rfl <| xAs rfl <| oNl <| eJ h rfl
 refine cRt ?_
 cases h
 exact eR rfl rfl rfl rfl
 refine cSk <| cRs <| xAs rfl <| oNl <| cRt ?_
 cases h
 exact eR rfl rfl rfl rfl
abbrev Y_impl_judge_pat : Type := Int → Int → (List UInt8) → (List S_impl_Expr) → (List S_impl_Clause) → Int → Int → (List (List UInt8)) → Option (Bool × Int × (List (List UInt8)))
abbrev B_impl_judge_pat (p : Y_impl_judge_pat) : Prop := ∀ {t1_0 t1_1 : Int} {t1_2 : List UInt8} {t1_3 : List S_impl_Expr} {t1_4 : List S_impl_Clause} {t2_0 o0_0 : Int} {o0_1 : List (List UInt8)} {r : Bool × Int × (List (List UInt8))}, p t1_0 t1_1 t1_2 t1_3 t1_4 t2_0 o0_0 o0_1 = some r → Big Try.prog τ An (.fn 192 [.one (.ptr 1000000 0), .one (.ag [.int .i64 t1_0, .int .i64 t1_1, .str t1_2, .sl (t1_3.map rS_impl_Expr), .sl (t1_4.map rS_impl_Clause)]), .one (.c (.int .i64 t2_0))] [[.int .i64 o0_0, .sl (o0_1.map rStr)]] (.one (.c (.bool r.1))) none [[.int .i64 r.2.1, .sl (r.2.2.map rStr)]] none)
def p_impl_judge_pat_b1 (n : Nat) (r_impl_judge_pat : Y_impl_judge_pat) (t2_0 : Int) (t1_3 : List S_impl_Expr) : (Int × Int × (List (List UInt8))) → Option ((Int × Int × (List (List UInt8))) ⊕ ((Bool × Int × (List (List UInt8))) ⊕ (Int × Bool × Int × (List (List UInt8)))))
  | (v78_14, w1000000_15, w1000000_16) => bif decide (v78_14 < (t1_3.length : Int)) then (ix t1_3 v78_14).bind fun e80_25 => (r_impl_judge_pat e80_25.f0 e80_25.f1 e80_25.f2 e80_25.f3 e80_25.f4 (IntKind.wrap .i64 (t2_0 + (1 : Int))) w1000000_15 w1000000_16).bind fun c86_26 => bif !c86_26.1 then some (.inr (.inl (false, c86_26.2.1, c86_26.2.2))) else some (.inl ((IntKind.wrap .i64 (v78_14 + (1 : Int))), c86_26.2.1, c86_26.2.2)) else some (.inr (.inr (v78_14, false, w1000000_15, w1000000_16)))
def p_impl_judge_pat_b2 (n : Nat) (r_impl_judge_pat : Y_impl_judge_pat) (t2_0 : Int) (t1_3 : List S_impl_Expr) : (Int × Int × (List (List UInt8))) → Option ((Int × Int × (List (List UInt8))) ⊕ ((Bool × Int × (List (List UInt8))) ⊕ (Int × Bool × Int × (List (List UInt8)))))
  | (v78_28, w1000000_29, w1000000_30) => bif decide (v78_28 < (t1_3.length : Int)) then (ix t1_3 v78_28).bind fun e80_39 => (r_impl_judge_pat e80_39.f0 e80_39.f1 e80_39.f2 e80_39.f3 e80_39.f4 (IntKind.wrap .i64 (t2_0 + (1 : Int))) w1000000_29 w1000000_30).bind fun c86_40 => bif !c86_40.1 then some (.inr (.inl (false, c86_40.2.1, c86_40.2.2))) else some (.inl ((IntKind.wrap .i64 (v78_28 + (1 : Int))), c86_40.2.1, c86_40.2.2)) else some (.inr (.inr (v78_28, false, w1000000_29, w1000000_30)))
def s_impl_judge_pat (n : Nat) (r_impl_judge_pat : Y_impl_judge_pat) (t1_0 : Int) (t1_1 : Int) (t1_2 : List UInt8) (t1_3 : List S_impl_Expr) (t1_4 : List S_impl_Clause) (t2_0 : Int) (o0_0 : Int) (o0_1 : List (List UInt8)) : Option (Bool × Int × (List (List UInt8))) :=
  (bif decide ((10 : Int) < t2_0) then some true else bif decide ((300 : Int) < (IntKind.wrap .i64 (o0_0 + (1 : Int)))) then some true else bif decide ((6 : Int) < t1_0) then some true else bif decide ((0 : Int) < (t1_4.length : Int)) then some true else (p_impl_shapeOk n t1_0 t1_1 t1_2 (t1_3.length : Int)).bind fun c46_6 => some (!c46_6)).bind fun v48_1 => bif v48_1 then some (false, (IntKind.wrap .i64 (o0_0 + (1 : Int))), o0_1) else (bif decide (t1_0 = (3 : Int)) then some (!decide (t1_2 = ([95] : List UInt8))) else some false).bind fun v56_8 => bif v56_8 then (p_slices_Contains_35c2 n o0_1 t1_2).bind fun c63_11 => bif c63_11 then some (false, (IntKind.wrap .i64 (o0_0 + (1 : Int))), o0_1) else (app2 16 o0_1 ([t1_2] : List (List UInt8))).bind fun v72_13 => (loopN (p_impl_judge_pat_b1 n r_impl_judge_pat t2_0 t1_3) n ((0 : Int), (IntKind.wrap .i64 (o0_0 + (1 : Int))), v72_13)).bind fun q => (match q with | .inl (v6_17, w1000000_18, w1000000_19) => some (v6_17, w1000000_18, w1000000_19) | .inr (v78_20, v79_21, w1000000_22, w1000000_23) => some (true, w1000000_22, w1000000_23)) else (loopN (p_impl_judge_pat_b2 n r_impl_judge_pat t2_0 t1_3) n ((0 : Int), (IntKind.wrap .i64 (o0_0 + (1 : Int))), o0_1)).bind fun q => (match q with | .inl (v6_31, w1000000_32, w1000000_33) => some (v6_31, w1000000_32, w1000000_33) | .inr (v78_34, v79_35, w1000000_36, w1000000_37) => some (true, w1000000_36, w1000000_37))
theorem step_impl_judge_pat {n : Nat} {r_impl_judge_pat : Y_impl_judge_pat} (ih_impl_judge_pat : B_impl_judge_pat r_impl_judge_pat) : B_impl_judge_pat (s_impl_judge_pat n r_impl_judge_pat) := by
 intro t1_0 t1_1 t1_2 t1_3 t1_4 t2_0 o0_0 o0_1 r h
 unfold s_impl_judge_pat at h
 refine bF Try.func192 rfl rfl <| cRs <| xBx rfl <| xAs rfl <| oRs <| xMv rfl <| xNc rfl <| xFd rfl <| xLd rfl <| xAdd rfl <| xNc rfl <| xFd rfl <| xSt rfl <| oNl ?_
 refine cSq <| cRs <| oJn h [(16, 48)] [] (fun v48_1 => (.n, [(48, Bo v48_1)], [])) (fun _ h => ?_) (fun v48_1 h => ?_)
 refine xMv rfl <| xGt rfl <| xMv rfl <| oIf 18 h rfl (fun q2 h => ?_) (fun q2 h => ?_)
 refine wSk rfl <| wSk rfl <| wSk rfl <| wSk rfl <| wSk rfl <| xPk rfl <| xMv rfl <| wSk rfl <| wSk rfl <| wSk rfl <| xPk rfl <| xMv rfl <| wSk rfl <| wSk rfl ?_
 refine wSk rfl <| wSk rfl <| xPk rfl <| xMv rfl <| wSk rfl <| wSk rfl <| wSk rfl <| wSk rfl <| wSk rfl <| wSk rfl <| wSk rfl <| wSk rfl <| wSk rfl <| wSk rfl ?_
 exact wSk rfl <| xPk rfl <| oNl <| eJ h rfl
 refine xMv rfl <| xNc rfl <| xFd rfl <| xLd rfl <| xGt rfl <| xPk rfl <| xMv rfl <| oIf 25 h rfl (fun q3 h => ?_) (fun q3 h => ?_)
 refine wSk rfl <| wSk rfl <| wSk rfl <| xPk rfl <| xMv rfl <| wSk rfl <| wSk rfl <| wSk rfl <| wSk rfl <| xPk rfl <| xMv rfl <| wSk rfl <| wSk rfl <| wSk rfl ?_
 exact wSk rfl <| wSk rfl <| wSk rfl <| wSk rfl <| wSk rfl <| wSk rfl <| wSk rfl <| wSk rfl <| xPk rfl <| oNl <| eJ h rfl
 refine xFd rfl <| xLd rfl <| xGt rfl <| xPk rfl <| xMv rfl <| oIf 30 h rfl (fun q4 h => ?_) (fun q4 h => ?_)
 refine wSk rfl <| wSk rfl <| wSk rfl <| wSk rfl <| xPk rfl <| xMv rfl <| wSk rfl <| wSk rfl <| wSk rfl <| wSk rfl <| wSk rfl <| wSk rfl <| wSk rfl <| wSk rfl ?_
 exact wSk rfl <| wSk rfl <| wSk rfl <| xPk rfl <| oNl <| eJ h rfl
 refine xFd rfl <| xLd rfl <| xLn rfl <| xGt rfl <| xPk rfl <| xMv rfl <| oIf 36 h rfl (fun q5 h => ?_) (fun q5 h => ?_)
 exact wSk rfl <| wSk rfl <| wSk rfl <| wSk rfl <| wSk rfl <| wSk rfl <| wSk rfl <| wSk rfl <| wSk rfl <| wSk rfl <| wSk rfl <| xPk rfl <| oNl <| eJ h rfl
 refine xFd rfl <| xLd rfl <| xFd rfl <| xLd rfl <| xFd rfl <| xLd rfl <| xFd rfl <| xLd rfl <| xLn rfl <| xC0 h (big_impl_shapeOk ·) rfl (fun c46_6 h => ?_)
 exact xNot rfl <| xPk rfl <| oNl <| eJ h rfl
 refine cIf h rfl (fun q7 h => ?_) (fun q7 h => ?_)
 refine cRs <| xAs rfl <| oNl <| cRt ?_
 cases h
 exact eR rfl rfl rfl rfl
 refine cSk <| cSq <| cRs <| oJn h [(49, 56)] [] (fun v56_8 => (.n, [(56, Bo v56_8)], [])) (fun _ h => ?_) (fun v56_8 h => ?_)
 refine xFd rfl <| xLd rfl <| xEq rfl <| xMv rfl <| oIf 52 h rfl (fun q9 h => ?_) (fun q9 h => ?_)
 exact xFd rfl <| xLd rfl <| xNs rfl <| xPk rfl <| oNl <| eJ h rfl
 exact wSk rfl <| wSk rfl <| wSk rfl <| xPk rfl <| oNl <| eJ h rfl
 refine cIf h rfl (fun q10 h => ?_) (fun q10 h => ?_)
 refine cSq <| cRs <| xMv rfl <| xNc rfl <| xFd rfl <| xLd rfl <| xFd rfl <| xLd rfl <| xC0 h (big_slices_Contains_35c2 ·) rfl (fun c63_11 h => ?_)
 refine oNl <| cIf h rfl (fun q12 h => ?_) (fun q12 h => ?_)
 refine cRs <| xAs rfl <| oNl <| cRt ?_
 cases h
 exact eR rfl rfl rfl rfl
 refine cSk <| cRg <| xMv rfl <| xMv rfl <| xNc rfl <| xFd rfl <| xLd rfl <| xFd rfl <| xLd rfl <| wLt' (L := ([t1_2] : List (List UInt8))) (f := rStr) rfl rfl rfl rfl rfl rfl rfl <| wAp (f := rStr) h rfl rfl rfl rfl rfl rfl rfl rfl rfl (fun _ => rfl) rfl (fun v72_13 h => ?_)
 refine xNc rfl <| xFd rfl <| xSt rfl <| oNl <| cSq <| cRs <| xFd rfl <| xLd rfl <| xLn rfl <| xMv rfl <| oNl <| cLp h [(6, 6), (8, 8), (78, 88)] [(8, 8), (1000000, 1000000)] (fun (v78_14, w1000000_15, w1000000_16) => ([(78, I64 v78_14)], [(1000000, [.int .i64 w1000000_15, .sl (w1000000_16.map rStr)])])) (fun q => match q with | .inl (v6_17, w1000000_18, w1000000_19) => (.r, [(6, Bo v6_17)], [(1000000, [.int .i64 w1000000_18, .sl (w1000000_19.map rStr)])]) | .inr (v78_20, v79_21, w1000000_22, w1000000_23) => (.e 0, [(78, I64 v78_20), (79, Bo v79_21)], [(1000000, [.int .i64 w1000000_22, .sl (w1000000_23.map rStr)])])) rfl (fun st _ h => ?_) (fun q h => ?_)
 obtain ⟨v78_14, w1000000_15, w1000000_16⟩ := st
 unfold p_impl_judge_pat_b1 at h
 refine cRs <| xLt rfl <| oNl <| cSq <| cIf h rfl (fun q24 h => ?_) (fun q24 h => ?_)
 refine cSk <| cSq <| cBk <| cRs <| xIx h rS_impl_Expr_eq rfl (fun e80_25 h => ?_)
 refine xLd rfl <| xAz [.int .i64 0, .int .i64 0, .str [], .sl ([].map rS_impl_Expr), .sl ([].map rS_impl_Clause)] rfl <| xSt rfl <| oRs <| xMv rfl <| xLd rfl <| xMv rfl <| xAdd rfl <| xC1 h (ih_impl_judge_pat ·) rfl (fun c86_26 h => ?_)
 refine xNot rfl <| oNl <| cIf h rfl (fun q27 h => ?_) (fun q27 h => ?_)
 exact cRs <| xAs rfl <| oNl <| cRt <| eXr h rfl
 exact cSk <| cRg <| xAdd rfl <| xMv rfl <| oNl <| eL h rfl
 exact cEx <| eX h rfl
 rcases q with ⟨v6_17, w1000000_18, w1000000_19⟩ | ⟨v78_20, v79_21, w1000000_22, w1000000_23⟩
 cases h
 exact eR rfl rfl rfl rfl
 refine cRs <| xAs rfl <| oNl <| cRt ?_
 cases h
 exact eR rfl rfl rfl rfl
 refine cSk <| cSq <| cRs <| xFd rfl <| xLd rfl <| xLn rfl <| xMv rfl <| oNl <| cLp h [(6, 6), (8, 8), (78, 88)] [(8, 8), (1000000, 1000000)] (fun (v78_28, w1000000_29, w1000000_30) => ([(78, I64 v78_28)], [(1000000, [.int .i64 w1000000_29, .sl (w1000000_30.map rStr)])])) (fun q => match q with | .inl (v6_31, w1000000_32, w1000000_33) => (.r, [(6, Bo v6_31)], [(1000000, [.int .i64 w1000000_32, .sl (w1000000_33.map rStr)])]) | .inr (v78_34, v79_35, w1000000_36, w1000000_37) => (.e 0, [(78, I64 v78_34), (79, Bo v79_35)], [(1000000, [.int .i64 w1000000_36, .sl (w1000000_37.map rStr)])])) rfl (fun st _ h => ?_) (fun q h => ?_)
 obtain ⟨v78_28, w1000000_29, w1000000_30⟩ := st
 unfold p_impl_judge_pat_b2 at h
 refine cRs <| xLt rfl <| oNl <| cSq <| cIf h rfl (fun q38 h => ?_) (fun q38 h => ?_)
 refine cSk <| cSq <| cBk <| cRs <| xIx h rS_impl_Expr_eq rfl (fun e80_39 h => ?_)
 refine xLd rfl <| xAz [.int .i64 0, .int .i64 0, .str [], .sl ([].map rS_impl_Expr), .sl ([].map rS_impl_Clause)] rfl <| xSt rfl <| oRs <| xMv rfl <| xLd rfl <| xMv rfl <| xAdd rfl <| xC1 h (ih_impl_judge_pat ·) rfl (fun c86_40 h => ?_)
 refine xNot rfl <| oNl <| cIf h rfl (fun q41 h => ?_) (fun q41 h => ?_)
 exact cRs <| xAs rfl <| oNl <| cRt <| eXr h rfl
 exact cSk <| cRg <| xAdd rfl <| xMv rfl <| oNl <| eL h rfl
 exact cEx <| eX h rfl
 rcases q with ⟨v6_31, w1000000_32, w1000000_33⟩ | ⟨v78_34, v79_35, w1000000_36, w1000000_37⟩
 cases h
 exact eR rfl rfl rfl rfl
 refine cRs <| xAs rfl <| oNl <| cRt ?_
 cases h
 exact eR rfl rfl rfl rfl
def q_impl_judge_pat : Nat → (Y_impl_judge_pat)
  | 0 => (fun _ _ _ _ _ _ _ _ => none)
  | n + 1 => s_impl_judge_pat n (q_impl_judge_pat n)
def p_impl_judge_pat (n : Nat) : Y_impl_judge_pat := q_impl_judge_pat n
theorem bigs_impl_judge_pat (n : Nat) : B_impl_judge_pat (p_impl_judge_pat n) := by
  induction n with
  | zero => exact (fun h => nomatch h)
  | succ n ih => exact step_impl_judge_pat (n := n) ih
theorem big_impl_judge_pat {n : Nat} : B_impl_judge_pat (p_impl_judge_pat n) := (bigs_impl_judge_pat n)
theorem p_impl_judge_pat_succ (n : Nat) : p_impl_judge_pat (n + 1) = s_impl_judge_pat n (p_impl_judge_pat n) := rfl
abbrev B_impl_PatOk (p : Int → Int → (List UInt8) → (List S_impl_Expr) → (List S_impl_Clause) → Option (Bool)) : Prop := ∀ {t0_0 t0_1 : Int} {t0_2 : List UInt8} {t0_3 : List S_impl_Expr} {t0_4 : List S_impl_Clause} {r : Bool}, p t0_0 t0_1 t0_2 t0_3 t0_4 = some r → Big Try.prog τ An (.fn 123 [.one (.ag [.int .i64 t0_0, .int .i64 t0_1, .str t0_2, .sl (t0_3.map rS_impl_Expr), .sl (t0_4.map rS_impl_Clause)])] [] (.one (.c (.bool r))) none [] none)
def p_impl_PatOk (n : Nat) (t0_0 : Int) (t0_1 : Int) (t0_2 : List UInt8) (t0_3 : List S_impl_Expr) (t0_4 : List S_impl_Clause) : Option (Bool) :=
  (p_impl_judge_pat n t0_0 t0_1 t0_2 t0_3 t0_4 (1 : Int) (0 : Int) ([] : List (List UInt8))).bind fun c5_1 => some c5_1.1
theorem big_impl_PatOk {n : Nat} : B_impl_PatOk (p_impl_PatOk n) := by
 intro t0_0 t0_1 t0_2 t0_3 t0_4 r h
 unfold p_impl_PatOk at h
 refine bF Try.func123 rfl rfl <| cRs <| xBx rfl <| xAs rfl <| oRs <| xAz [.int .i64 0, .sl ([].map rStr)] rfl <| oRs <| xLd rfl <| xC1 h (big_impl_judge_pat ·) rfl (fun c5_1 h => ?_)
 refine xAs rfl <| oNl <| cRt ?_
 cases h
 exact eR rfl rfl rfl rfl
abbrev Y_impl_copyTerms : Type := (List S_impl_Term) → Option ((List S_impl_Term))
abbrev B_impl_copyTerms (p : Y_impl_copyTerms) : Prop := ∀ {t0_0 : List S_impl_Term} {r : (List S_impl_Term)}, p t0_0 = some r → Big Try.prog τ An (.fn 112 [.one (.c (.sl (t0_0.map rS_impl_Term)))] [] (.one (.c (.sl (r.map rS_impl_Term)))) none [] none)
abbrev Y_impl_copyTerm : Type := Int → Int → (List UInt8) → (List S_impl_Term) → Option (Int × Int × (List UInt8) × (List S_impl_Term))
abbrev B_impl_copyTerm (p : Y_impl_copyTerm) : Prop := ∀ {t0_0 t0_1 : Int} {t0_2 : List UInt8} {t0_3 : List S_impl_Term} {r : Int × Int × (List UInt8) × (List S_impl_Term)}, p t0_0 t0_1 t0_2 t0_3 = some r → Big Try.prog τ An (.fn 132 [.one (.ag [.int .i64 t0_0, .int .i64 t0_1, .str t0_2, .sl (t0_3.map rS_impl_Term)])] [] (.one (.ag [.int .i64 r.1, .int .i64 r.2.1, .str r.2.2.1, .sl (r.2.2.2.map rS_impl_Term)])) none [] none)
def p_impl_copyTerms_b1 (n : Nat) (r_impl_copyTerm : Y_impl_copyTerm) (t0_0 : List S_impl_Term) : ((List S_impl_Term) × Int) → Option (((List S_impl_Term) × Int) ⊕ (((List S_impl_Term) × Int × Bool)))
  | (v3_1, v8_2) => bif decide (v8_2 < (t0_0.length : Int)) then (ix t0_0 v8_2).bind fun e10_7 => (r_impl_copyTerm e10_7.f0 e10_7.f1 e10_7.f2 e10_7.f3).bind fun c14_8 => (app2 56 v3_1 ([S_impl_Term.mk c14_8.1 c14_8.2.1 c14_8.2.2.1 c14_8.2.2.2] : List S_impl_Term)).bind fun v16_9 => some (.inl (v16_9, (IntKind.wrap .i64 (v8_2 + (1 : Int))))) else some (.inr (v3_1, v8_2, false))
def s_impl_copyTerms (n : Nat) (r_impl_copyTerms : Y_impl_copyTerms) (r_impl_copyTerm : Y_impl_copyTerm) (t0_0 : List S_impl_Term) : Option ((List S_impl_Term)) :=
  (loopN (p_impl_copyTerms_b1 n r_impl_copyTerm t0_0) n (([] : List S_impl_Term), (0 : Int))).bind fun (v3_3, v8_4, v9_5) => some v3_3
theorem step_impl_copyTerms {n : Nat} {r_impl_copyTerms : Y_impl_copyTerms} (ih_impl_copyTerms : B_impl_copyTerms r_impl_copyTerms) {r_impl_copyTerm : Y_impl_copyTerm} (ih_impl_copyTerm : B_impl_copyTerm r_impl_copyTerm) : B_impl_copyTerms (s_impl_copyTerms n r_impl_copyTerms r_impl_copyTerm) := by
 intro t0_0 r h
 unfold s_impl_copyTerms at h
 refine bF Try.func112 rfl rfl <| cRs <| wAe (Li rS_impl_Term []) rfl rfl rfl rfl <| oRs <| wAe (Li rS_impl_Term []) rfl rfl rfl rfl <| oNl <| cSq <| cRs <| xMv rfl <| xLn rfl <| xMv rfl <| oNl <| cLp h [(3, 3), (5, 5), (8, 17)] [(5, 5)] (fun (v3_1, v8_2) => ([(3, Li rS_impl_Term v3_1), (8, I64 v8_2)], [])) (fun (v3_3, v8_4, v9_5) => (.e 0, [(3, Li rS_impl_Term v3_3), (8, I64 v8_4), (9, Bo v9_5)], [])) rfl (fun st _ h => ?_) (fun q h => ?_)
 obtain ⟨v3_1, v8_2⟩ := st
 unfold p_impl_copyTerms_b1 at h
 refine cRs <| xLt rfl <| oNl <| cSq <| cIf h rfl (fun q6 h => ?_) (fun q6 h => ?_)
 refine cSk <| cSq <| cBk <| cRs <| xIx h rS_impl_Term_eq rfl (fun e10_7 h => ?_)
 refine xLd rfl <| xAz [.int .i64 0, .int .i64 0, .str [], .sl ([].map rS_impl_Term)] rfl <| xSt rfl <| oNl <| cRg <| xMv rfl <| xLd rfl <| xC0 h (ih_impl_copyTerm ·) rfl (fun c14_8 h => ?_)
 refine wLt' (L := ([S_impl_Term.mk c14_8.1 c14_8.2.1 c14_8.2.2.1 c14_8.2.2.2] : List S_impl_Term)) (f := rS_impl_Term) rfl rfl rfl rfl (by simp only [List.map, rS_impl_Term_mk] <;> rfl) rfl rfl <| wAp (f := rS_impl_Term) h rfl rfl rfl rfl rfl rfl rfl rfl rfl (fun a => by rw [rS_impl_Term_eq]; rfl) rfl (fun v16_9 h => ?_)
 exact xAs rfl <| oNl <| cRg <| xAdd rfl <| xMv rfl <| oNl <| eL h rfl
 exact cEx <| eX h rfl
 obtain ⟨v3_3, v8_4, v9_5⟩ := q
 refine cRs <| xMv rfl <| xAs rfl <| oNl <| cRt ?_
 cases h
 exact eR rfl rfl rfl rfl
def s_impl_copyTerm (n : Nat) (r_impl_copyTerms : Y_impl_copyTerms) (r_impl_copyTerm : Y_impl_copyTerm) (t0_0 : Int) (t0_1 : Int) (t0_2 : List UInt8) (t0_3 : List S_impl_Term) : Option (Int × Int × (List UInt8) × (List S_impl_Term)) :=
  (r_impl_copyTerms t0_3).bind fun c5_1 => some (t0_0, t0_1, t0_2, c5_1)
theorem step_impl_copyTerm {n : Nat} {r_impl_copyTerms : Y_impl_copyTerms} (ih_impl_copyTerms : B_impl_copyTerms r_impl_copyTerms) {r_impl_copyTerm : Y_impl_copyTerm} (ih_impl_copyTerm : B_impl_copyTerm r_impl_copyTerm) : B_impl_copyTerm (s_impl_copyTerm n r_impl_copyTerms r_impl_copyTerm) := by
 intro t0_0 t0_1 t0_2 t0_3 r h
 unfold s_impl_copyTerm at h
 refine bF Try.func132 rfl rfl <| cRs <| xBx rfl <| xAz [.int .i64 0, .int .i64 0, .str [], .sl ([].map rS_impl_Term)] rfl <| oRs <| xFd rfl <| xLd rfl <| xC0 h (ih_impl_copyTerms ·) rfl (fun c5_1 h => ?_)
 refine xFd rfl <| xSt rfl <| oRs <| xLd rfl <| xSt rfl <| oNl <| cRt ?_
 cases h
 exact eR rfl rfl rfl rfl
def q_impl_copyTerms : Nat → (Y_impl_copyTerms) × (Y_impl_copyTerm)
  | 0 => ((fun _ => none), (fun _ _ _ _ => none))
  | n + 1 => (s_impl_copyTerms n ((q_impl_copyTerms n).1) ((q_impl_copyTerms n).2), s_impl_copyTerm n ((q_impl_copyTerms n).1) ((q_impl_copyTerms n).2))
def p_impl_copyTerms (n : Nat) : Y_impl_copyTerms := (q_impl_copyTerms n).1
def p_impl_copyTerm (n : Nat) : Y_impl_copyTerm := (q_impl_copyTerms n).2
theorem bigs_impl_copyTerms (n : Nat) : B_impl_copyTerms (p_impl_copyTerms n) ∧ B_impl_copyTerm (p_impl_copyTerm n) := by
  induction n with
  | zero => exact ⟨(fun h => nomatch h), (fun h => nomatch h)⟩
  | succ n ih => exact ⟨step_impl_copyTerms (n := n) (ih.1) (ih.2), step_impl_copyTerm (n := n) (ih.1) (ih.2)⟩
theorem big_impl_copyTerms {n : Nat} : B_impl_copyTerms (p_impl_copyTerms n) := (bigs_impl_copyTerms n).1
theorem big_impl_copyTerm {n : Nat} : B_impl_copyTerm (p_impl_copyTerm n) := (bigs_impl_copyTerms n).2
theorem p_impl_copyTerms_succ (n : Nat) : p_impl_copyTerms (n + 1) = s_impl_copyTerms n (p_impl_copyTerms n) (p_impl_copyTerm n) := rfl
theorem p_impl_copyTerm_succ (n : Nat) : p_impl_copyTerm (n + 1) = s_impl_copyTerm n (p_impl_copyTerms n) (p_impl_copyTerm n) := rfl
abbrev Y_impl_matchAll : Type := (List S_impl_Expr) → (List S_impl_Term) → (List S_impl_Bind) → Option ((List S_impl_Bind) × Bool)
abbrev B_impl_matchAll (p : Y_impl_matchAll) : Prop := ∀ {t0_0 : List S_impl_Expr} {t1_0 : List S_impl_Term} {t2_0 : List S_impl_Bind} {r : (List S_impl_Bind) × Bool}, p t0_0 t1_0 t2_0 = some r → Big Try.prog τ An (.fn 193 [.one (.c (.sl (t0_0.map rS_impl_Expr))), .one (.c (.sl (t1_0.map rS_impl_Term))), .one (.c (.sl (t2_0.map rS_impl_Bind)))] [] (.tup [.c (.sl (r.1.map rS_impl_Bind)), .c (.bool r.2)]) none [] none)
abbrev Y_impl_match : Type := Int → Int → (List UInt8) → (List S_impl_Expr) → (List S_impl_Clause) → Int → Int → (List UInt8) → (List S_impl_Term) → (List S_impl_Bind) → Option ((List S_impl_Bind) × Bool)
abbrev B_impl_match (p : Y_impl_match) : Prop := ∀ {t0_0 t0_1 : Int} {t0_2 : List UInt8} {t0_3 : List S_impl_Expr} {t0_4 : List S_impl_Clause} {t1_0 t1_1 : Int} {t1_2 : List UInt8} {t1_3 : List S_impl_Term} {t2_0 : List S_impl_Bind} {r : (List S_impl_Bind) × Bool}, p t0_0 t0_1 t0_2 t0_3 t0_4 t1_0 t1_1 t1_2 t1_3 t2_0 = some r → Big Try.prog τ An (.fn 124 [.one (.ag [.int .i64 t0_0, .int .i64 t0_1, .str t0_2, .sl (t0_3.map rS_impl_Expr), .sl (t0_4.map rS_impl_Clause)]), .one (.ag [.int .i64 t1_0, .int .i64 t1_1, .str t1_2, .sl (t1_3.map rS_impl_Term)]), .one (.c (.sl (t2_0.map rS_impl_Bind)))] [] (.tup [.c (.sl (r.1.map rS_impl_Bind)), .c (.bool r.2)]) none [] none)
def p_impl_matchAll_b1 (n : Nat) (r_impl_match : Y_impl_match) (t0_0 : List S_impl_Expr) (t1_0 : List S_impl_Term) : ((List S_impl_Bind) × Int) → Option (((List S_impl_Bind) × Int) ⊕ (((List S_impl_Bind) × Bool) ⊕ ((List S_impl_Bind) × Int × Bool)))
  | (v2_1, v13_2) => bif decide (v13_2 < (t0_0.length : Int)) then (ix t0_0 v13_2).bind fun e16_9 => (ix t1_0 v13_2).bind fun e22_10 => (r_impl_match e16_9.f0 e16_9.f1 e16_9.f2 e16_9.f3 e16_9.f4 e22_10.f0 e22_10.f1 e22_10.f2 e22_10.f3 v2_1).bind fun c25_11 => bif !c25_11.2 then some (.inr (.inl (c25_11.1, false))) else some (.inl (c25_11.1, (IntKind.wrap .i64 (v13_2 + (1 : Int))))) else some (.inr (.inr (v2_1, v13_2, false)))
def s_impl_matchAll (n : Nat) (r_impl_match : Y_impl_match) (r_impl_matchAll : Y_impl_matchAll) (t0_0 : List S_impl_Expr) (t1_0 : List S_impl_Term) (t2_0 : List S_impl_Bind) : Option ((List S_impl_Bind) × Bool) :=
  (loopN (p_impl_matchAll_b1 n r_impl_match t0_0 t1_0) n (t2_0, (0 : Int))).bind fun q => (match q with | .inl (v6_3, v7_4) => some (v6_3, v7_4) | .inr (v2_5, v13_6, v14_7) => some (v2_5, true))
theorem step_impl_matchAll {n : Nat} {r_impl_match : Y_impl_match} (ih_impl_match : B_impl_match r_impl_match) {r_impl_matchAll : Y_impl_matchAll} (ih_impl_matchAll : B_impl_matchAll r_impl_matchAll) : B_impl_matchAll (s_impl_matchAll n r_impl_match r_impl_matchAll) := by
 intro t0_0 t1_0 t2_0 r h
 unfold s_impl_matchAll at h
 refine bF Try.func193 rfl rfl <| cRs <| wAe (Li rS_impl_Bind []) rfl rfl rfl rfl <| xAs rfl <| oRs <| xAs rfl <| oNl <| cSq <| cRs <| xMv rfl <| xLn rfl <| xMv rfl <| oNl <| cLp h [(2, 2), (6, 10), (13, 31)] [(10, 10)] (fun (v2_1, v13_2) => ([(2, Li rS_impl_Bind v2_1), (13, I64 v13_2)], [])) (fun q => match q with | .inl (v6_3, v7_4) => (.r, [(6, Li rS_impl_Bind v6_3), (7, Bo v7_4)], []) | .inr (v2_5, v13_6, v14_7) => (.e 0, [(2, Li rS_impl_Bind v2_5), (13, I64 v13_6), (14, Bo v14_7)], [])) rfl (fun st _ h => ?_) (fun q h => ?_)
 obtain ⟨v2_1, v13_2⟩ := st
 unfold p_impl_matchAll_b1 at h
 refine cRs <| xLt rfl <| oNl <| cSq <| cIf h rfl (fun q8 h => ?_) (fun q8 h => ?_)
 refine cSk <| cSq <| cBk <| cRs <| xMv rfl <| xIx h rS_impl_Expr_eq rfl (fun e16_9 h => ?_)
 refine xLd rfl <| xAz [.int .i64 0, .int .i64 0, .str [], .sl ([].map rS_impl_Expr), .sl ([].map rS_impl_Clause)] rfl <| xAs rfl <| xSt rfl <| oRs <| xLd rfl <| xMv rfl <| xMv rfl <| xIx h rS_impl_Term_eq rfl (fun e22_10 h => ?_)
 refine xLd rfl <| xMv rfl <| xC0 h (ih_impl_match ·) rfl (fun c25_11 h => ?_)
 refine xMv rfl <| xEt rfl <| xEt rfl <| xAs rfl <| xAs rfl <| oRs <| xMv rfl <| xNot rfl <| oNl <| cIf h rfl (fun q12 h => ?_) (fun q12 h => ?_)
 exact cRs <| xMv rfl <| xAs rfl <| xAs rfl <| oNl <| cRt <| eXr h rfl
 exact cSk <| cRg <| xAdd rfl <| xMv rfl <| oNl <| eL h rfl
 exact cEx <| eX h rfl
 rcases q with ⟨v6_3, v7_4⟩ | ⟨v2_5, v13_6, v14_7⟩
 cases h
 exact eR rfl rfl rfl rfl
 refine cRs <| xMv rfl <| xAs rfl <| xAs rfl <| oNl <| cRt ?_
 cases h
 exact eR rfl rfl rfl rfl
def s_impl_match (n : Nat) (r_impl_match : Y_impl_match) (r_impl_matchAll : Y_impl_matchAll) (t0_0 : Int) (t0_1 : Int) (t0_2 : List UInt8) (t0_3 : List S_impl_Expr) (t0_4 : List S_impl_Clause) (t1_0 : Int) (t1_1 : Int) (t1_2 : List UInt8) (t1_3 : List S_impl_Term) (t2_0 : List S_impl_Bind) : Option ((List S_impl_Bind) × Bool) :=
  bif decide (t0_0 = (1 : Int)) then (bif decide (t1_0 = (1 : Int)) then some (decide (t1_1 = t0_1)) else some false).bind fun v7_2 => some (t2_0, v7_2) else bif decide (t0_0 = (2 : Int)) then (bif decide (t1_0 = (2 : Int)) then some (decide (t1_2 = t0_2)) else some false).bind fun v7_5 => some (t2_0, v7_5) else bif decide (t0_0 = (3 : Int)) then bif !decide (t0_2 = ([95] : List UInt8)) then (p_impl_copyTerm n t1_0 t1_1 t1_2 t1_3).bind fun c47_9 => (app2 72 t2_0 ([S_impl_Bind.mk t0_2 c47_9.1 c47_9.2.1 c47_9.2.2.1 c47_9.2.2.2] : List S_impl_Bind)).bind fun v50_10 => some (v50_10, true) else some (t2_0, true) else bif decide (t0_0 = (4 : Int)) then (bif !decide (t1_0 = (4 : Int)) then some true else some (!decide ((t1_3.length : Int) = (t0_3.length : Int)))).bind fun v65_12 => bif v65_12 then some (t2_0, false) else (r_impl_matchAll t0_3 t1_3 t2_0).bind fun c72_15 => some (c72_15.1, c72_15.2) else bif decide (t0_0 = (5 : Int)) then (bif !decide (t1_0 = (5 : Int)) then some true else some (!decide ((t1_3.length : Int) = (t0_3.length : Int)))).bind fun v88_17 => bif v88_17 then some (t2_0, false) else (r_impl_matchAll t0_3 t1_3 t2_0).bind fun c95_20 => some (c95_20.1, c95_20.2) else (bif !decide (t1_0 = (5 : Int)) then some true else some (decide ((t1_3.length : Int) < (IntKind.wrap .i64 ((t0_3.length : Int) - (1 : Int)))))).bind fun v111_21 => bif v111_21 then some (t2_0, false) else (sub t0_3 none (some (IntKind.wrap .i64 ((t0_3.length : Int) - (1 : Int))))).bind fun v117_24 => (sub t1_3 none (some (IntKind.wrap .i64 ((t0_3.length : Int) - (1 : Int))))).bind fun v121_25 => (r_impl_matchAll v117_24 v121_25 t2_0).bind fun c123_26 => bif !c123_26.2 then some (c123_26.1, false) else (ix t0_3 (IntKind.wrap .i64 ((t0_3.length : Int) - (1 : Int)))).bind fun e132_28 => (sub t1_3 (some (IntKind.wrap .i64 ((t0_3.length : Int) - (1 : Int)))) none).bind fun v137_29 => (r_impl_match e132_28.f0 e132_28.f1 e132_28.f2 e132_28.f3 e132_28.f4 (5 : Int) (0 : Int) ([] : List UInt8) v137_29 c123_26.1).bind fun c140_30 => some (c140_30.1, c140_30.2)
theorem step_impl_match {n : Nat} {r_impl_match : Y_impl_match} (ih_impl_match : B_impl_match r_impl_match) {r_impl_matchAll : Y_impl_matchAll} (ih_impl_matchAll : B_impl_matchAll r_impl_matchAll) : B_impl_match (s_impl_match n r_impl_match r_impl_matchAll) := by
 intro t0_0 t0_1 t0_2 t0_3 t0_4 t1_0 t1_1 t1_2 t1_3 t2_0 r h
 unfold s_impl_match at h
 refine bF Try.func124 rfl rfl <| cRs <| xBx rfl <| xBx rfl <| wAe (Li rS_impl_Bind []) rfl rfl rfl rfl <| xAs rfl <| oNl <| cSq <| cRs <| xFd rfl <| xLd rfl <| oNl <| cBk <| cRs ?_
 refine xEq rfl <| xAs rfl <| oNl <| cIf h rfl (fun q1 h => ?_) (fun q1 h => ?_)
 refine cRs <| oJn h [(6, 7), (14, 24)] [] (fun v7_2 => (.n, [(6, Li rS_impl_Bind t2_0), (7, Bo v7_2)], [])) (fun _ h => ?_) (fun v7_2 h => ?_)
 refine xMv rfl <| xFd rfl <| xLd rfl <| xEq rfl <| xMv rfl <| oIf 18 h rfl (fun q3 h => ?_) (fun q3 h => ?_)
 exact xFd rfl <| xLd rfl <| xFd rfl <| xLd rfl <| xEq rfl <| xPk rfl <| xAs rfl <| xAs rfl <| oNl <| eJ h rfl
 exact wSk rfl <| wSk rfl <| wSk rfl <| wSk rfl <| wSk rfl <| xPk rfl <| xAs rfl <| xAs rfl <| oNl <| eJ h rfl
 refine cRt ?_
 cases h
 exact eR rfl rfl rfl rfl
 refine cRs <| xEq rfl <| xAs rfl <| oNl <| cIf h rfl (fun q4 h => ?_) (fun q4 h => ?_)
 refine cRs <| oJn h [(6, 7), (27, 37)] [] (fun v7_5 => (.n, [(6, Li rS_impl_Bind t2_0), (7, Bo v7_5)], [])) (fun _ h => ?_) (fun v7_5 h => ?_)
 refine xMv rfl <| xFd rfl <| xLd rfl <| xEq rfl <| xMv rfl <| oIf 31 h rfl (fun q6 h => ?_) (fun q6 h => ?_)
 exact xFd rfl <| xLd rfl <| xFd rfl <| xLd rfl <| xEs rfl <| xPk rfl <| xAs rfl <| xAs rfl <| oNl <| eJ h rfl
 exact wSk rfl <| wSk rfl <| wSk rfl <| wSk rfl <| wSk rfl <| xPk rfl <| xAs rfl <| xAs rfl <| oNl <| eJ h rfl
 refine cRt ?_
 cases h
 exact eR rfl rfl rfl rfl
 refine cRs <| xEq rfl <| xAs rfl <| oNl <| cIf h rfl (fun q7 h => ?_) (fun q7 h => ?_)
 refine cSq <| cRs <| xFd rfl <| xLd rfl <| xNs rfl <| oNl <| cIf h rfl (fun q8 h => ?_) (fun q8 h => ?_)
 refine cRg <| xMv rfl <| xFd rfl <| xLd rfl <| xLd rfl <| xC0 h (big_impl_copyTerm ·) rfl (fun c47_9 h => ?_)
 refine wBd [.str t0_2, .int .i64 c47_9.1, .int .i64 c47_9.2.1, .str c47_9.2.2.1, .sl (c47_9.2.2.2.map rS_impl_Term)] rfl rfl rfl rfl rfl rfl <| wLt' (L := ([S_impl_Bind.mk t0_2 c47_9.1 c47_9.2.1 c47_9.2.2.1 c47_9.2.2.2] : List S_impl_Bind)) (f := rS_impl_Bind) rfl rfl rfl rfl rfl rfl rfl <| wAp (f := rS_impl_Bind) h rfl rfl rfl rfl rfl rfl rfl rfl rfl (fun _ => rfl) rfl (fun v50_10 h => ?_)
 refine xAs rfl <| oNl <| cRs <| xMv rfl <| xAs rfl <| xAs rfl <| oNl <| cRt ?_
 cases h
 exact eR rfl rfl rfl rfl
 refine cSk <| cRs <| xMv rfl <| xAs rfl <| xAs rfl <| oNl <| cRt ?_
 cases h
 exact eR rfl rfl rfl rfl
 refine cRs <| xEq rfl <| xAs rfl <| oNl <| cIf h rfl (fun q11 h => ?_) (fun q11 h => ?_)
 refine cSq <| cRs <| oJn h [(54, 65)] [] (fun v65_12 => (.n, [(65, Bo v65_12)], [])) (fun _ h => ?_) (fun v65_12 h => ?_)
 refine xFd rfl <| xLd rfl <| xNe rfl <| xMv rfl <| oIf 57 h rfl (fun q13 h => ?_) (fun q13 h => ?_)
 exact wSk rfl <| wSk rfl <| wSk rfl <| wSk rfl <| wSk rfl <| wSk rfl <| wSk rfl <| xPk rfl <| oNl <| eJ h rfl
 exact xFd rfl <| xLd rfl <| xLn rfl <| xFd rfl <| xLd rfl <| xLn rfl <| xNe rfl <| xPk rfl <| oNl <| eJ h rfl
 refine cIf h rfl (fun q14 h => ?_) (fun q14 h => ?_)
 refine cRs <| xMv rfl <| xAs rfl <| xAs rfl <| oNl <| cRt ?_
 cases h
 exact eR rfl rfl rfl rfl
 refine cSk <| cRs <| xFd rfl <| xLd rfl <| xFd rfl <| xLd rfl <| xMv rfl <| xC0 h (ih_impl_matchAll ·) rfl (fun c72_15 h => ?_)
 refine xEt rfl <| xEt rfl <| xAs rfl <| xAs rfl <| oNl <| cRt ?_
 cases h
 exact eR rfl rfl rfl rfl
 refine cRs <| xEq rfl <| xAs rfl <| oNl <| cIf h rfl (fun q16 h => ?_) (fun q16 h => ?_)
 refine cSq <| cRs <| oJn h [(77, 88)] [] (fun v88_17 => (.n, [(88, Bo v88_17)], [])) (fun _ h => ?_) (fun v88_17 h => ?_)
 refine xFd rfl <| xLd rfl <| xNe rfl <| xMv rfl <| oIf 80 h rfl (fun q18 h => ?_) (fun q18 h => ?_)
 exact wSk rfl <| wSk rfl <| wSk rfl <| wSk rfl <| wSk rfl <| wSk rfl <| wSk rfl <| xPk rfl <| oNl <| eJ h rfl
 exact xFd rfl <| xLd rfl <| xLn rfl <| xFd rfl <| xLd rfl <| xLn rfl <| xNe rfl <| xPk rfl <| oNl <| eJ h rfl
 refine cIf h rfl (fun q19 h => ?_) (fun q19 h => ?_)
 refine cRs <| xMv rfl <| xAs rfl <| xAs rfl <| oNl <| cRt ?_
 cases h
 exact eR rfl rfl rfl rfl
 refine cSk <| cRs <| xFd rfl <| xLd rfl <| xFd rfl <| xLd rfl <| xMv rfl <| xC0 h (ih_impl_matchAll ·) rfl (fun c95_20 h => ?_)
 refine xEt rfl <| xEt rfl <| xAs rfl <| xAs rfl <| oNl <| cRt ?_
 cases h
 exact eR rfl rfl rfl rfl
 refine cSk <| cRs <| xFd rfl <| xLd rfl <| xLn rfl <| xSub rfl <| xAs rfl <| oNl <| cSq <| cRs <| oJn h [(102, 111)] [] (fun v111_21 => (.n, [(111, Bo v111_21)], [])) (fun _ h => ?_) (fun v111_21 h => ?_)
 refine xFd rfl <| xLd rfl <| xNe rfl <| xMv rfl <| oIf 105 h rfl (fun q22 h => ?_) (fun q22 h => ?_)
 exact wSk rfl <| wSk rfl <| wSk rfl <| wSk rfl <| wSk rfl <| xPk rfl <| oNl <| eJ h rfl
 exact xFd rfl <| xLd rfl <| xLn rfl <| xMv rfl <| xLt rfl <| xPk rfl <| oNl <| eJ h rfl
 refine cIf h rfl (fun q23 h => ?_) (fun q23 h => ?_)
 refine cRs <| xMv rfl <| xAs rfl <| xAs rfl <| oNl <| cRt ?_
 cases h
 exact eR rfl rfl rfl rfl
 refine cSk <| cRs <| xFd rfl <| xLd rfl <| xMv rfl <| wSl (rf := rS_impl_Expr) h rfl rfl rfl rfl .no (.so rfl) (fun a => by rw [rS_impl_Expr_eq]; rfl) rfl (fun v117_24 h => ?_)
 refine xFd rfl <| xLd rfl <| xMv rfl <| wSl (rf := rS_impl_Term) h rfl rfl rfl rfl .no (.so rfl) (fun a => by rw [rS_impl_Term_eq]; rfl) rfl (fun v121_25 h => ?_)
 refine xMv rfl <| xC0 h (ih_impl_matchAll ·) rfl (fun c123_26 h => ?_)
 refine xMv rfl <| xEt rfl <| xEt rfl <| xAs rfl <| xAs rfl <| oNl <| cSq <| cRs <| xMv rfl <| xNot rfl <| oNl <| cIf h rfl (fun q27 h => ?_) (fun q27 h => ?_)
 refine cRs <| xMv rfl <| xAs rfl <| xAs rfl <| oNl <| cRt ?_
 cases h
 exact eR rfl rfl rfl rfl
 refine cSk <| cRs <| xFd rfl <| xLd rfl <| xMv rfl <| xIx h rS_impl_Expr_eq rfl (fun e132_28 h => ?_)
 refine xLd rfl <| xFd rfl <| xLd rfl <| xMv rfl <| wSl (rf := rS_impl_Term) h rfl rfl rfl rfl (.so rfl) .no (fun a => by rw [rS_impl_Term_eq]; rfl) rfl (fun v137_29 h => ?_)
 refine wBd [.int .i64 5, .int .i64 0, .str [], .sl (v137_29.map rS_impl_Term)] rfl rfl rfl rfl rfl rfl <| xMv rfl <| xC0 h (ih_impl_match ·) rfl (fun c140_30 h => ?_)
 refine xEt rfl <| xEt rfl <| xAs rfl <| xAs rfl <| oNl <| cRt ?_
 cases h
 exact eR rfl rfl rfl rfl
def q_impl_match : Nat → (Y_impl_match) × (Y_impl_matchAll)
  | 0 => ((fun _ _ _ _ _ _ _ _ _ _ => none), (fun _ _ _ => none))
  | n + 1 => (s_impl_match n ((q_impl_match n).1) ((q_impl_match n).2), s_impl_matchAll n ((q_impl_match n).1) ((q_impl_match n).2))
def p_impl_match (n : Nat) : Y_impl_match := (q_impl_match n).1
def p_impl_matchAll (n : Nat) : Y_impl_matchAll := (q_impl_match n).2
theorem bigs_impl_match (n : Nat) : B_impl_match (p_impl_match n) ∧ B_impl_matchAll (p_impl_matchAll n) := by
  induction n with
  | zero => exact ⟨(fun h => nomatch h), (fun h => nomatch h)⟩
  | succ n ih => exact ⟨step_impl_match (n := n) (ih.1) (ih.2), step_impl_matchAll (n := n) (ih.1) (ih.2)⟩
theorem big_impl_match {n : Nat} : B_impl_match (p_impl_match n) := (bigs_impl_match n).1
theorem big_impl_matchAll {n : Nat} : B_impl_matchAll (p_impl_matchAll n) := (bigs_impl_match n).2
theorem p_impl_match_succ (n : Nat) : p_impl_match (n + 1) = s_impl_match n (p_impl_match n) (p_impl_matchAll n) := rfl
theorem p_impl_matchAll_succ (n : Nat) : p_impl_matchAll (n + 1) = s_impl_matchAll n (p_impl_match n) (p_impl_matchAll n) := rfl
abbrev B_impl_Match (p : Int → Int → (List UInt8) → (List S_impl_Expr) → (List S_impl_Clause) → Int → Int → (List UInt8) → (List S_impl_Term) → Option ((List S_impl_Bind) × Bool)) : Prop := ∀ {t0_0 t0_1 : Int} {t0_2 : List UInt8} {t0_3 : List S_impl_Expr} {t0_4 : List S_impl_Clause} {t1_0 t1_1 : Int} {t1_2 : List UInt8} {t1_3 : List S_impl_Term} {r : (List S_impl_Bind) × Bool}, p t0_0 t0_1 t0_2 t0_3 t0_4 t1_0 t1_1 t1_2 t1_3 = some r → Big Try.prog τ An (.fn 49 [.one (.ag [.int .i64 t0_0, .int .i64 t0_1, .str t0_2, .sl (t0_3.map rS_impl_Expr), .sl (t0_4.map rS_impl_Clause)]), .one (.ag [.int .i64 t1_0, .int .i64 t1_1, .str t1_2, .sl (t1_3.map rS_impl_Term)])] [] (.tup [.c (.sl (r.1.map rS_impl_Bind)), .c (.bool r.2)]) none [] none)
def p_impl_Match (n : Nat) (t0_0 : Int) (t0_1 : Int) (t0_2 : List UInt8) (t0_3 : List S_impl_Expr) (t0_4 : List S_impl_Clause) (t1_0 : Int) (t1_1 : Int) (t1_2 : List UInt8) (t1_3 : List S_impl_Term) : Option ((List S_impl_Bind) × Bool) :=
  ((p_impl_PatOk n t0_0 t0_1 t0_2 t0_3 t0_4).bind fun c9_2 => bif !c9_2 then some true else (p_impl_TermOk n t1_0 t1_1 t1_2 t1_3).bind fun c13_4 => some (!c13_4)).bind fun v15_1 => bif v15_1 then some (([] : List S_impl_Bind), false) else (p_impl_match n t0_0 t0_1 t0_2 t0_3 t0_4 t1_0 t1_1 t1_2 t1_3 ([] : List S_impl_Bind)).bind fun c19_6 => bif !c19_6.2 then some (([] : List S_impl_Bind), false) else some (c19_6.1, true)
theorem big_impl_Match {n : Nat} : B_impl_Match (p_impl_Match n) := by
 intro t0_0 t0_1 t0_2 t0_3 t0_4 t1_0 t1_1 t1_2 t1_3 r h
 unfold p_impl_Match at h
 refine bF Try.func49 rfl rfl <| cRs <| xBx rfl <| xBx rfl <| wAe (Li rS_impl_Bind []) rfl rfl rfl rfl <| xAs rfl <| oNl <| cSq <| cRs <| oJn h [(8, 15)] [] (fun v15_1 => (.n, [(15, Bo v15_1)], [])) (fun _ h => ?_) (fun v15_1 h => ?_)
 refine xLd rfl <| xC0 h (big_impl_PatOk ·) rfl (fun c9_2 h => ?_)
 refine xNot rfl <| xMv rfl <| oIf 11 h rfl (fun q3 h => ?_) (fun q3 h => ?_)
 exact wSk rfl <| wSk rfl <| wSk rfl <| xPk rfl <| oNl <| eJ h rfl
 refine xLd rfl <| xC0 h (big_impl_TermOk ·) rfl (fun c13_4 h => ?_)
 exact xNot rfl <| xPk rfl <| oNl <| eJ h rfl
 refine cIf h rfl (fun q5 h => ?_) (fun q5 h => ?_)
 refine cRs <| wAe (Li rS_impl_Bind []) rfl rfl rfl rfl <| xAs rfl <| oNl <| cRt ?_
 cases h
 exact eR rfl rfl rfl rfl
 refine cSk <| cRs <| xLd rfl <| xLd rfl <| xC0 h (big_impl_match ·) rfl (fun c19_6 h => ?_)
 refine xMv rfl <| xEt rfl <| xEt rfl <| xAs rfl <| xAs rfl <| oNl <| cSq <| cRs <| xMv rfl <| xNot rfl <| oNl <| cIf h rfl (fun q7 h => ?_) (fun q7 h => ?_)
 refine cRs <| wAe (Li rS_impl_Bind []) rfl rfl rfl rfl <| xAs rfl <| oNl <| cRt ?_
 cases h
 exact eR rfl rfl rfl rfl
 refine cSk <| cRs <| xMv rfl <| xAs rfl <| xAs rfl <| oNl <| cRt ?_
 cases h
 exact eR rfl rfl rfl rfl
abbrev Y_laws_szTermS : Type := (List S_laws_Term) → Int → Option (Int)
abbrev B_laws_szTermS (p : Y_laws_szTermS) : Prop := ∀ {t0_0 : List S_laws_Term} {t1_0 : Int} {r : Int}, p t0_0 t1_0 = some r → Big Try.prog τ An (.fn 32 [.one (.c (.sl (t0_0.map rS_laws_Term))), .one (.c (.int .i64 t1_0))] [] (.one (.c (.int .i64 r))) none [] none)
abbrev Y_laws_szTerm : Type := Int → Int → (List UInt8) → (List S_laws_Term) → Int → Option (Int)
abbrev B_laws_szTerm (p : Y_laws_szTerm) : Prop := ∀ {t0_0 t0_1 : Int} {t0_2 : List UInt8} {t0_3 : List S_laws_Term} {t1_0 : Int} {r : Int}, p t0_0 t0_1 t0_2 t0_3 t1_0 = some r → Big Try.prog τ An (.fn 50 [.one (.ag [.int .i64 t0_0, .int .i64 t0_1, .str t0_2, .sl (t0_3.map rS_laws_Term)]), .one (.c (.int .i64 t1_0))] [] (.one (.c (.int .i64 r))) none [] none)
def p_laws_szTermS_b1 (n : Nat) (r_laws_szTerm : Y_laws_szTerm) (t0_0 : List S_laws_Term) : (Int × Int) → Option ((Int × Int) ⊕ ((Int) ⊕ (Int × Int × Bool)))
  | (v1_2, v5_3) => bif decide (v5_3 < (t0_0.length : Int)) then (ix t0_0 v5_3).bind fun e20_9 => (r_laws_szTerm e20_9.f0 e20_9.f1 e20_9.f2 e20_9.f3 v1_2).bind fun c23_10 => bif decide (c23_10 < (0 : Int)) then some (.inr (.inl ((-1) : Int))) else some (.inl (c23_10, (IntKind.wrap .i64 (v5_3 + (1 : Int))))) else some (.inr (.inr (v1_2, v5_3, false)))
def s_laws_szTermS (n : Nat) (r_laws_szTermS : Y_laws_szTermS) (r_laws_szTerm : Y_laws_szTerm) (t0_0 : List S_laws_Term) (t1_0 : Int) : Option (Int) :=
  bif decide ((IntKind.wrap .i64 (t1_0 - (t0_0.length : Int))) < (0 : Int)) then some ((-1) : Int) else (loopN (p_laws_szTermS_b1 n r_laws_szTerm t0_0) n ((IntKind.wrap .i64 (t1_0 - (t0_0.length : Int))), (0 : Int))).bind fun q => (match q with | .inl v4_4 => some v4_4 | .inr (v1_5, v5_6, v15_7) => some v1_5)
theorem step_laws_szTermS {n : Nat} {r_laws_szTermS : Y_laws_szTermS} (ih_laws_szTermS : B_laws_szTermS r_laws_szTermS) {r_laws_szTerm : Y_laws_szTerm} (ih_laws_szTerm : B_laws_szTerm r_laws_szTerm) : B_laws_szTermS (s_laws_szTermS n r_laws_szTermS r_laws_szTerm) := by
 intro t0_0 t1_0 r h
 unfold s_laws_szTermS at h
 refine bF Try.func32 rfl rfl <| cRs <| xAs rfl <| oRs <| xMv rfl <| xMv rfl <| xLn rfl <| xSub rfl <| xAs rfl <| oNl <| cSq <| cRs <| xMv rfl <| xLt rfl ?_
 refine oNl <| cIf h rfl (fun q1 h => ?_) (fun q1 h => ?_)
 refine cRs <| xAs rfl <| oNl <| cRt ?_
 cases h
 exact eR rfl rfl rfl rfl
 refine cSk <| cSq <| cRs <| xAs rfl <| oNl <| cLp h [(1, 1), (4, 5), (12, 25)] [] (fun (v1_2, v5_3) => ([(1, I64 v1_2), (5, I64 v5_3)], [])) (fun q => match q with | .inl v4_4 => (.r, [(4, I64 v4_4)], []) | .inr (v1_5, v5_6, v15_7) => (.e 0, [(1, I64 v1_5), (5, I64 v5_6), (15, Bo v15_7)], [])) rfl (fun st _ h => ?_) (fun q h => ?_)
 obtain ⟨v1_2, v5_3⟩ := st
 unfold p_laws_szTermS_b1 at h
 refine cSq <| cRs <| xMv rfl <| xMv rfl <| xLn rfl <| xLt rfl <| oNl <| cIf h rfl (fun q8 h => ?_) (fun q8 h => ?_)
 refine cSk <| cSq <| cBk <| cRs <| xMv rfl <| xMv rfl <| xIx h rS_laws_Term_eq rfl (fun e20_9 h => ?_)
 refine xLd rfl <| xMv rfl <| xC0 h (ih_laws_szTerm ·) rfl (fun c23_10 h => ?_)
 refine xAs rfl <| oRs <| xMv rfl <| xLt rfl <| oNl <| cIf h rfl (fun q11 h => ?_) (fun q11 h => ?_)
 exact cRs <| xAs rfl <| oNl <| cRt <| eXr h rfl
 exact cSk <| cRg <| xMv rfl <| xAdd rfl <| xAs rfl <| oNl <| eL h rfl
 exact cEx <| eX h rfl
 rcases q with v4_4 | ⟨v1_5, v5_6, v15_7⟩
 cases h
 exact eR rfl rfl rfl rfl
 refine cRs <| xMv rfl <| xAs rfl <| oNl <| cRt ?_
 cases h
 exact eR rfl rfl rfl rfl
def s_laws_szTerm (n : Nat) (r_laws_szTermS : Y_laws_szTermS) (r_laws_szTerm : Y_laws_szTerm) (t0_0 : Int) (t0_1 : Int) (t0_2 : List UInt8) (t0_3 : List S_laws_Term) (t1_0 : Int) : Option (Int) :=
  bif decide ((IntKind.wrap .i64 (t1_0 - (t0_2.length : Int))) < (0 : Int)) then some ((-1) : Int) else (r_laws_szTermS t0_3 (IntKind.wrap .i64 (t1_0 - (t0_2.length : Int)))).bind fun c15_2 => bif decide (c15_2 < (0 : Int)) then some ((-1) : Int) else some c15_2
theorem step_laws_szTerm {n : Nat} {r_laws_szTermS : Y_laws_szTermS} (ih_laws_szTermS : B_laws_szTermS r_laws_szTermS) {r_laws_szTerm : Y_laws_szTerm} (ih_laws_szTerm : B_laws_szTerm r_laws_szTerm) : B_laws_szTerm (s_laws_szTerm n r_laws_szTermS r_laws_szTerm) := by
 intro t0_0 t0_1 t0_2 t0_3 t1_0 r h
 unfold s_laws_szTerm at h
 refine bF Try.func50 rfl rfl <| cRs <| xBx rfl <| xAs rfl <| oRs <| xMv rfl <| xFd rfl <| xLd rfl <| xLs rfl <| xSub rfl <| xAs rfl <| oNl <| cSq <| cRs ?_
 refine xMv rfl <| xLt rfl <| oNl <| cIf h rfl (fun q1 h => ?_) (fun q1 h => ?_)
 refine cRs <| xAs rfl <| oNl <| cRt ?_
 cases h
 exact eR rfl rfl rfl rfl
 refine cSk <| cRs <| xFd rfl <| xLd rfl <| xMv rfl <| xC0 h (ih_laws_szTermS ·) rfl (fun c15_2 h => ?_)
 refine xAs rfl <| oNl <| cSq <| cRs <| xMv rfl <| xLt rfl <| oNl <| cIf h rfl (fun q3 h => ?_) (fun q3 h => ?_)
 refine cRs <| xAs rfl <| oNl <| cRt ?_
 cases h
 exact eR rfl rfl rfl rfl
 refine cSk <| cRs <| xMv rfl <| xAs rfl <| oNl <| cRt ?_
 cases h
 exact eR rfl rfl rfl rfl
def q_laws_szTermS : Nat → (Y_laws_szTermS) × (Y_laws_szTerm)
  | 0 => ((fun _ _ => none), (fun _ _ _ _ _ => none))
  | n + 1 => (s_laws_szTermS n ((q_laws_szTermS n).1) ((q_laws_szTermS n).2), s_laws_szTerm n ((q_laws_szTermS n).1) ((q_laws_szTermS n).2))
def p_laws_szTermS (n : Nat) : Y_laws_szTermS := (q_laws_szTermS n).1
def p_laws_szTerm (n : Nat) : Y_laws_szTerm := (q_laws_szTermS n).2
theorem bigs_laws_szTermS (n : Nat) : B_laws_szTermS (p_laws_szTermS n) ∧ B_laws_szTerm (p_laws_szTerm n) := by
  induction n with
  | zero => exact ⟨(fun h => nomatch h), (fun h => nomatch h)⟩
  | succ n ih => exact ⟨step_laws_szTermS (n := n) (ih.1) (ih.2), step_laws_szTerm (n := n) (ih.1) (ih.2)⟩
theorem big_laws_szTermS {n : Nat} : B_laws_szTermS (p_laws_szTermS n) := (bigs_laws_szTermS n).1
theorem big_laws_szTerm {n : Nat} : B_laws_szTerm (p_laws_szTerm n) := (bigs_laws_szTermS n).2
theorem p_laws_szTermS_succ (n : Nat) : p_laws_szTermS (n + 1) = s_laws_szTermS n (p_laws_szTermS n) (p_laws_szTerm n) := rfl
theorem p_laws_szTerm_succ (n : Nat) : p_laws_szTerm (n + 1) = s_laws_szTerm n (p_laws_szTermS n) (p_laws_szTerm n) := rfl
abbrev B_spec_l4Has (p : (List (List UInt8)) → (List UInt8) → Option (Bool)) : Prop := ∀ {t0_0 : List (List UInt8)} {t1_0 : List UInt8} {r : Bool}, p t0_0 t1_0 = some r → Big Try.prog τ An (.fn 96 [.one (.c (.sl (t0_0.map rStr))), .one (.c (.str t1_0))] [] (.one (.c (.bool r))) none [] none)
def p_spec_l4Has_b1 (n : Nat) (t0_0 : List (List UInt8)) (t1_0 : List UInt8) : (Int) → Option ((Int) ⊕ ((Bool) ⊕ (Int × Bool)))
  | v5_1 => bif decide (v5_1 < (t0_0.length : Int)) then (ix t0_0 v5_1).bind fun e14_6 => bif decide (e14_6 = t1_0) then some (.inr (.inl true)) else some (.inl (IntKind.wrap .i64 (v5_1 + (1 : Int)))) else some (.inr (.inr (v5_1, false)))
def p_spec_l4Has (n : Nat) (t0_0 : List (List UInt8)) (t1_0 : List UInt8) : Option (Bool) :=
  (loopN (p_spec_l4Has_b1 n t0_0 t1_0) n (0 : Int)).bind fun q => (match q with | .inl v4_2 => some v4_2 | .inr (v5_3, v9_4) => some false)
theorem big_spec_l4Has {n : Nat} : B_spec_l4Has (p_spec_l4Has n) := by
 intro t0_0 t1_0 r h
 unfold p_spec_l4Has at h
 refine bF Try.func96 rfl rfl <| cRs <| xAs rfl <| oNl <| cSq <| cRs <| xAs rfl <| oNl <| cLp h [(4, 17)] [] (fun v5_1 => ([(5, I64 v5_1)], [])) (fun q => match q with | .inl v4_2 => (.r, [(4, Bo v4_2)], []) | .inr (v5_3, v9_4) => (.e 0, [(5, I64 v5_3), (9, Bo v9_4)], [])) rfl (fun v5_1 _ h => ?_) (fun q h => ?_)
 unfold p_spec_l4Has_b1 at h
 refine cSq <| cRs <| xMv rfl <| xMv rfl <| xLn rfl <| xLt rfl <| oNl <| cIf h rfl (fun q5 h => ?_) (fun q5 h => ?_)
 refine cSk <| cSq <| cBk <| cRs <| xMv rfl <| xMv rfl <| xIx h rStr_eq rfl (fun e14_6 h => ?_)
 refine xLd rfl <| xMv rfl <| xEs rfl <| oNl <| cIf h rfl (fun q7 h => ?_) (fun q7 h => ?_)
 exact cRs <| xAs rfl <| oNl <| cRt <| eXr h rfl
 exact cSk <| cRg <| xMv rfl <| xAdd rfl <| xAs rfl <| oNl <| eL h rfl
 exact cEx <| eX h rfl
 rcases q with v4_2 | ⟨v5_3, v9_4⟩
 cases h
 exact eR rfl rfl rfl rfl
 refine cRs <| xAs rfl <| oNl <| cRt ?_
 cases h
 exact eR rfl rfl rfl rfl
abbrev B_spec_l4Once (p : (List (List UInt8)) → Option (Bool)) : Prop := ∀ {t0_0 : List (List UInt8)} {r : Bool}, p t0_0 = some r → Big Try.prog τ An (.fn 72 [.one (.c (.sl (t0_0.map rStr)))] [] (.one (.c (.bool r))) none [] none)
def p_spec_l4Once_b1 (n : Nat) (t0_0 : List (List UInt8)) : (Int) → Option ((Int) ⊕ ((Bool) ⊕ (Int × Bool)))
  | v3_1 => bif decide (v3_1 < (t0_0.length : Int)) then (sub t0_0 none (some v3_1)).bind fun v12_6 => (ix t0_0 v3_1).bind fun e15_7 => (p_spec_l4Has n v12_6 e15_7).bind fun c17_8 => bif c17_8 then some (.inr (.inl false)) else some (.inl (IntKind.wrap .i64 (v3_1 + (1 : Int)))) else some (.inr (.inr (v3_1, false)))
def p_spec_l4Once (n : Nat) (t0_0 : List (List UInt8)) : Option (Bool) :=
  (loopN (p_spec_l4Once_b1 n t0_0) n (0 : Int)).bind fun q => (match q with | .inl v2_2 => some v2_2 | .inr (v3_3, v7_4) => some true)
theorem big_spec_l4Once {n : Nat} : B_spec_l4Once (p_spec_l4Once n) := by
 intro t0_0 r h
 unfold p_spec_l4Once at h
 refine bF Try.func72 rfl rfl <| cRs <| xAs rfl <| oNl <| cSq <| cRs <| xAs rfl <| oNl <| cLp h [(2, 17)] [] (fun v3_1 => ([(3, I64 v3_1)], [])) (fun q => match q with | .inl v2_2 => (.r, [(2, Bo v2_2)], []) | .inr (v3_3, v7_4) => (.e 0, [(3, I64 v3_3), (7, Bo v7_4)], [])) rfl (fun v3_1 _ h => ?_) (fun q h => ?_)
 unfold p_spec_l4Once_b1 at h
 refine cSq <| cRs <| xMv rfl <| xMv rfl <| xLn rfl <| xLt rfl <| oNl <| cIf h rfl (fun q5 h => ?_) (fun q5 h => ?_)
 refine cSk <| cSq <| cBk <| cRs <| xMv rfl <| xMv rfl <| wSl (rf := rStr) h rfl rfl rfl rfl .no (.so rfl) (fun _ => rfl) rfl (fun v12_6 h => ?_)
 refine xMv rfl <| xMv rfl <| xIx h rStr_eq rfl (fun e15_7 h => ?_)
 refine xLd rfl <| xC0 h (big_spec_l4Has ·) rfl (fun c17_8 h => ?_)
 refine oNl <| cIf h rfl (fun q9 h => ?_) (fun q9 h => ?_)
 exact cRs <| xAs rfl <| oNl <| cRt <| eXr h rfl
 exact cSk <| cRg <| xMv rfl <| xAdd rfl <| xAs rfl <| oNl <| eL h rfl
 exact cEx <| eX h rfl
 rcases q with v2_2 | ⟨v3_3, v7_4⟩
 cases h
 exact eR rfl rfl rfl rfl
 refine cRs <| xAs rfl <| oNl <| cRt ?_
 cases h
 exact eR rfl rfl rfl rfl
abbrev Y_spec_VarsOf : Type := Int → Int → (List UInt8) → (List S_impl_Expr) → (List S_impl_Clause) → Option ((List (List UInt8)))
abbrev B_spec_VarsOf (p : Y_spec_VarsOf) : Prop := ∀ {t0_0 t0_1 : Int} {t0_2 : List UInt8} {t0_3 : List S_impl_Expr} {t0_4 : List S_impl_Clause} {r : (List (List UInt8))}, p t0_0 t0_1 t0_2 t0_3 t0_4 = some r → Big Try.prog τ An (.fn 184 [.one (.ag [.int .i64 t0_0, .int .i64 t0_1, .str t0_2, .sl (t0_3.map rS_impl_Expr), .sl (t0_4.map rS_impl_Clause)])] [] (.one (.c (.sl (r.map rStr)))) none [] none)
def p_spec_VarsOf_b1 (n : Nat) (r_spec_VarsOf : Y_spec_VarsOf) (t0_3 : List S_impl_Expr) : ((List (List UInt8)) × Int) → Option (((List (List UInt8)) × Int) ⊕ (((List (List UInt8)) × Int × Bool)))
  | (v3_4, v4_5) => bif decide (v4_5 < (t0_3.length : Int)) then (ix t0_3 v4_5).bind fun e29_10 => (r_spec_VarsOf e29_10.f0 e29_10.f1 e29_10.f2 e29_10.f3 e29_10.f4).bind fun c31_11 => (app2 16 v3_4 c31_11).bind fun v32_12 => some (.inl (v32_12, (IntKind.wrap .i64 (v4_5 + (1 : Int))))) else some (.inr (v3_4, v4_5, false))
def s_spec_VarsOf (n : Nat) (r_spec_VarsOf : Y_spec_VarsOf) (t0_0 : Int) (t0_1 : Int) (t0_2 : List UInt8) (t0_3 : List S_impl_Expr) (t0_4 : List S_impl_Clause) : Option ((List (List UInt8))) :=
  bif decide (t0_0 = (3 : Int)) then bif !decide (t0_2 = ([95] : List UInt8)) then (app2 16 ([] : List (List UInt8)) ([t0_2] : List (List UInt8))).bind fun v16_3 => some v16_3 else some ([] : List (List UInt8)) else (loopN (p_spec_VarsOf_b1 n r_spec_VarsOf t0_3) n (([] : List (List UInt8)), (0 : Int))).bind fun (v3_6, v4_7, v22_8) => some v3_6
theorem step_spec_VarsOf {n : Nat} {r_spec_VarsOf : Y_spec_VarsOf} (ih_spec_VarsOf : B_spec_VarsOf r_spec_VarsOf) : B_spec_VarsOf (s_spec_VarsOf n r_spec_VarsOf) := by
 intro t0_0 t0_1 t0_2 t0_3 t0_4 r h
 unfold s_spec_VarsOf at h
 refine bF Try.func184 rfl rfl <| cRs <| xBx rfl <| wAe (Li rStr []) rfl rfl rfl rfl <| oRs <| wLt' (L := ([] : List (List UInt8))) (f := rStr) rfl rfl rfl rfl rfl rfl rfl <| xAs rfl <| oNl <| cSq <| cRs <| xFd rfl <| xLd rfl <| xEq rfl <| oNl <| cIf h rfl (fun q1 h => ?_) (fun q1 h => ?_)
 refine cSq <| cRs <| xFd rfl <| xLd rfl <| xNs rfl <| oNl <| cIf h rfl (fun q2 h => ?_) (fun q2 h => ?_)
 refine cRg <| xMv rfl <| xFd rfl <| xLd rfl <| wLt' (L := ([t0_2] : List (List UInt8))) (f := rStr) rfl rfl rfl rfl rfl rfl rfl <| wAp (f := rStr) h rfl rfl rfl rfl rfl rfl rfl rfl rfl (fun _ => rfl) rfl (fun v16_3 h => ?_)
 refine xAs rfl <| oNl <| cRs <| xMv rfl <| xAs rfl <| oNl <| cRt ?_
 cases h
 exact eR rfl rfl rfl rfl
 refine cSk <| cRs <| xMv rfl <| xAs rfl <| oNl <| cRt ?_
 cases h
 exact eR rfl rfl rfl rfl
 refine cSk <| cSq <| cRs <| xAs rfl <| oNl <| cLp h [(3, 4), (18, 32)] [] (fun (v3_4, v4_5) => ([(3, Li rStr v3_4), (4, I64 v4_5)], [])) (fun (v3_6, v4_7, v22_8) => (.e 0, [(3, Li rStr v3_6), (4, I64 v4_7), (22, Bo v22_8)], [])) rfl (fun st _ h => ?_) (fun q h => ?_)
 obtain ⟨v3_4, v4_5⟩ := st
 unfold p_spec_VarsOf_b1 at h
 refine cSq <| cRs <| xMv rfl <| xFd rfl <| xLd rfl <| xLn rfl <| xLt rfl <| oNl <| cIf h rfl (fun q9 h => ?_) (fun q9 h => ?_)
 refine cSk <| cSq <| cBk <| cRg <| xMv rfl <| xFd rfl <| xLd rfl <| xMv rfl <| xIx h rS_impl_Expr_eq rfl (fun e29_10 h => ?_)
 refine xLd rfl <| xC0 h (ih_spec_VarsOf ·) rfl (fun c31_11 h => ?_)
 refine wAp (f := rStr) h rfl rfl rfl rfl rfl rfl rfl rfl rfl (fun _ => rfl) rfl (fun v32_12 h => ?_)
 exact xAs rfl <| oNl <| cRg <| xMv rfl <| xAdd rfl <| xAs rfl <| oNl <| eL h rfl
 exact cEx <| eX h rfl
 obtain ⟨v3_6, v4_7, v22_8⟩ := q
 refine cRs <| xMv rfl <| xAs rfl <| oNl <| cRt ?_
 cases h
 exact eR rfl rfl rfl rfl
def q_spec_VarsOf : Nat → (Y_spec_VarsOf)
  | 0 => (fun _ _ _ _ _ => none)
  | n + 1 => s_spec_VarsOf n (q_spec_VarsOf n)
def p_spec_VarsOf (n : Nat) : Y_spec_VarsOf := q_spec_VarsOf n
theorem bigs_spec_VarsOf (n : Nat) : B_spec_VarsOf (p_spec_VarsOf n) := by
  induction n with
  | zero => exact (fun h => nomatch h)
  | succ n ih => exact step_spec_VarsOf (n := n) ih
theorem big_spec_VarsOf {n : Nat} : B_spec_VarsOf (p_spec_VarsOf n) := (bigs_spec_VarsOf n)
theorem p_spec_VarsOf_succ (n : Nat) : p_spec_VarsOf (n + 1) = s_spec_VarsOf n (p_spec_VarsOf n) := rfl
abbrev B_spec_l1In (p : Int → Int → Int → Option (Bool)) : Prop := ∀ {t0_0 t1_0 t2_0 : Int} {r : Bool}, p t0_0 t1_0 t2_0 = some r → Big Try.prog τ An (.fn 69 [.one (.c (.int .i64 t0_0)), .one (.c (.int .i64 t1_0)), .one (.c (.int .i64 t2_0))] [] (.one (.c (.bool r))) none [] none)
def p_spec_l1In (n : Nat) (t0_0 : Int) (t1_0 : Int) (t2_0 : Int) : Option (Bool) :=
  (bif decide (t1_0 ≤ t0_0) then some (decide (t0_0 ≤ t2_0)) else some false).bind fun v6_1 => some v6_1
theorem big_spec_l1In {n : Nat} : B_spec_l1In (p_spec_l1In n) := by
 intro t0_0 t1_0 t2_0 r h
 unfold p_spec_l1In at h
 refine bF Try.func69 rfl rfl <| cRs <| xAs rfl <| oRs <| oJn h [(6, 14)] [] (fun v6_1 => (.n, [(6, Bo v6_1)], [])) (fun _ h => ?_) (fun v6_1 h => ?_)
 refine xMv rfl <| xMv rfl <| xGe rfl <| xMv rfl <| oIf 10 h rfl (fun q2 h => ?_) (fun q2 h => ?_)
 exact xMv rfl <| xMv rfl <| xLe rfl <| xPk rfl <| xAs rfl <| oNl <| eJ h rfl
 exact wSk rfl <| wSk rfl <| wSk rfl <| xPk rfl <| xAs rfl <| oNl <| eJ h rfl
 refine cRt ?_
 cases h
 exact eR rfl rfl rfl rfl
abbrev B_spec_l3Large (p : Int → Option (Bool)) : Prop := ∀ {t0_0 : Int} {r : Bool}, p t0_0 = some r → Big Try.prog τ An (.fn 253 [.one (.c (.int .u8 t0_0))] [] (.one (.c (.bool r))) none [] none)
def p_spec_l3Large (n : Nat) (t0_0 : Int) : Option (Bool) :=
  ((p_spec_l1In n (IntKind.wrap .i64 t0_0) (65 : Int) (90 : Int)).bind fun c5_2 => bif c5_2 then some true else some (decide (t0_0 = (95 : Int)))).bind fun v2_1 => some v2_1
theorem big_spec_l3Large {n : Nat} : B_spec_l3Large (p_spec_l3Large n) := by
 intro t0_0 r h
 unfold p_spec_l3Large at h
 refine bF Try.func253 rfl rfl <| cRs <| xAs rfl <| oRs <| oJn h [(2, 9)] [] (fun v2_1 => (.n, [(2, Bo v2_1)], [])) (fun _ h => ?_) (fun v2_1 h => ?_)
 refine xMv rfl <| wCv rfl rfl rfl rfl rfl <| xC0 h (big_spec_l1In ·) rfl (fun c5_2 h => ?_)
 refine xMv rfl <| oIf 6 h rfl (fun q3 h => ?_) (fun q3 h => ?_)
 exact wSk rfl <| wSk rfl <| xPk rfl <| xAs rfl <| oNl <| eJ h rfl
 exact xMv rfl <| xEq rfl <| xPk rfl <| xAs rfl <| oNl <| eJ h rfl
 refine cRt ?_
 cases h
 exact eR rfl rfl rfl rfl
abbrev B_spec_l3Small (p : Int → Option (Bool)) : Prop := ∀ {t0_0 : Int} {r : Bool}, p t0_0 = some r → Big Try.prog τ An (.fn 254 [.one (.c (.int .u8 t0_0))] [] (.one (.c (.bool r))) none [] none)
def p_spec_l3Small (n : Nat) (t0_0 : Int) : Option (Bool) :=
  (p_spec_l1In n (IntKind.wrap .i64 t0_0) (97 : Int) (122 : Int)).bind fun c5_1 => some c5_1
theorem big_spec_l3Small {n : Nat} : B_spec_l3Small (p_spec_l3Small n) := by
 intro t0_0 r h
 unfold p_spec_l3Small at h
 refine bF Try.func254 rfl rfl <| cRs <| xAs rfl <| oRs <| xMv rfl <| wCv rfl rfl rfl rfl rfl <| xC0 h (big_spec_l1In ·) rfl (fun c5_1 h => ?_)
 refine xAs rfl <| oNl <| cRt ?_
 cases h
 exact eR rfl rfl rfl rfl
abbrev B_spec_l3Digit (p : Int → Option (Bool)) : Prop := ∀ {t0_0 : Int} {r : Bool}, p t0_0 = some r → Big Try.prog τ An (.fn 255 [.one (.c (.int .u8 t0_0))] [] (.one (.c (.bool r))) none [] none)
def p_spec_l3Digit (n : Nat) (t0_0 : Int) : Option (Bool) :=
  (p_spec_l1In n (IntKind.wrap .i64 t0_0) (48 : Int) (57 : Int)).bind fun c5_1 => some c5_1
theorem big_spec_l3Digit {n : Nat} : B_spec_l3Digit (p_spec_l3Digit n) := by
 intro t0_0 r h
 unfold p_spec_l3Digit at h
 refine bF Try.func255 rfl rfl <| cRs <| xAs rfl <| oRs <| xMv rfl <| wCv rfl rfl rfl rfl rfl <| xC0 h (big_spec_l1In ·) rfl (fun c5_1 h => ?_)
 refine xAs rfl <| oNl <| cRt ?_
 cases h
 exact eR rfl rfl rfl rfl
abbrev B_spec_l3VarOk (p : (List UInt8) → Option (Bool)) : Prop := ∀ {t0_0 : List UInt8} {r : Bool}, p t0_0 = some r → Big Try.prog τ An (.fn 223 [.one (.c (.str t0_0))] [] (.one (.c (.bool r))) none [] none)
def p_spec_l3VarOk_b1 (n : Nat) (t0_0 : List UInt8) : (Int) → Option ((Int) ⊕ ((Bool) ⊕ (Int × Bool)))
  | v3_1 => bif decide (v3_1 < (t0_0.length : Int)) then ((ixs t0_0 v3_1).bind fun e12_7 => (p_spec_l3Large n e12_7).bind fun c13_8 => bif !c13_8 then bif decide (v3_1 = (0 : Int)) then some true else (ixs t0_0 v3_1).bind fun e21_11 => (p_spec_l3Small n e21_11).bind fun c22_12 => bif !c22_12 then (ixs t0_0 v3_1).bind fun e27_14 => (p_spec_l3Digit n e27_14).bind fun c28_15 => some (!c28_15) else some false else some false).bind fun v32_6 => bif v32_6 then some (.inr (.inl false)) else some (.inl (IntKind.wrap .i64 (v3_1 + (1 : Int)))) else some (.inr (.inr (v3_1, false)))
def p_spec_l3VarOk (n : Nat) (t0_0 : List UInt8) : Option (Bool) :=
  (loopN (p_spec_l3VarOk_b1 n t0_0) n (0 : Int)).bind fun q => (match q with | .inl v2_2 => some v2_2 | .inr (v3_3, v7_4) => (p_spec_l1In n (t0_0.length : Int) (1 : Int) (20 : Int)).bind fun c35_17 => some c35_17)
theorem big_spec_l3VarOk {n : Nat} : B_spec_l3VarOk (p_spec_l3VarOk n) := by
 intro t0_0 r h
 unfold p_spec_l3VarOk at h
 refine bF Try.func223 rfl rfl <| cRs <| xAs rfl <| oNl <| cSq <| cRs <| xAs rfl <| oNl <| cLp h [(2, 32)] [] (fun v3_1 => ([(3, I64 v3_1)], [])) (fun q => match q with | .inl v2_2 => (.r, [(2, Bo v2_2)], []) | .inr (v3_3, v7_4) => (.e 0, [(3, I64 v3_3), (7, Bo v7_4)], [])) rfl (fun v3_1 _ h => ?_) (fun q h => ?_)
 unfold p_spec_l3VarOk_b1 at h
 refine cSq <| cRs <| xMv rfl <| xMv rfl <| xLs rfl <| xLt rfl <| oNl <| cIf h rfl (fun q5 h => ?_) (fun q5 h => ?_)
 refine cSk <| cSq <| cBk <| cRs <| oJn h [(10, 32)] [] (fun v32_6 => (.n, [(32, Bo v32_6)], [])) (fun _ h => ?_) (fun v32_6 h => ?_)
 refine xMv rfl <| xMv rfl <| wIxs h rfl rfl rfl rfl rfl (fun e12_7 h => ?_)
 refine xC0 h (big_spec_l3Large ·) rfl (fun c13_8 h => ?_)
 refine xNot rfl <| xMv rfl <| oIf 15 h rfl (fun q9 h => ?_) (fun q9 h => ?_)
 refine xMv rfl <| xEq rfl <| xMv rfl <| oIf 18 h rfl (fun q10 h => ?_) (fun q10 h => ?_)
 refine wSk rfl <| wSk rfl <| wSk rfl <| wSk rfl <| wSk rfl <| wSk rfl <| wSk rfl <| wSk rfl <| wSk rfl <| wSk rfl <| wSk rfl <| wSk rfl <| xPk rfl <| xPk rfl ?_
 exact oNl <| eJ h rfl
 refine xMv rfl <| xMv rfl <| wIxs h rfl rfl rfl rfl rfl (fun e21_11 h => ?_)
 refine xC0 h (big_spec_l3Small ·) rfl (fun c22_12 h => ?_)
 refine xNot rfl <| xMv rfl <| oIf 24 h rfl (fun q13 h => ?_) (fun q13 h => ?_)
 refine xMv rfl <| xMv rfl <| wIxs h rfl rfl rfl rfl rfl (fun e27_14 h => ?_)
 refine xC0 h (big_spec_l3Digit ·) rfl (fun c28_15 h => ?_)
 exact xNot rfl <| xPk rfl <| xPk rfl <| xPk rfl <| oNl <| eJ h rfl
 exact wSk rfl <| wSk rfl <| wSk rfl <| wSk rfl <| wSk rfl <| xPk rfl <| xPk rfl <| xPk rfl <| oNl <| eJ h rfl
 refine wSk rfl <| wSk rfl <| wSk rfl <| wSk rfl <| wSk rfl <| wSk rfl <| wSk rfl <| wSk rfl <| wSk rfl <| wSk rfl <| wSk rfl <| wSk rfl <| wSk rfl <| wSk rfl ?_
 exact wSk rfl <| wSk rfl <| xPk rfl <| oNl <| eJ h rfl
 refine cIf h rfl (fun q16 h => ?_) (fun q16 h => ?_)
 exact cRs <| xAs rfl <| oNl <| cRt <| eXr h rfl
 exact cSk <| cRg <| xMv rfl <| xAdd rfl <| xAs rfl <| oNl <| eL h rfl
 exact cEx <| eX h rfl
 rcases q with v2_2 | ⟨v3_3, v7_4⟩
 cases h
 exact eR rfl rfl rfl rfl
 refine cRs <| xMv rfl <| xLs rfl <| xC0 h (big_spec_l1In ·) rfl (fun c35_17 h => ?_)
 refine xAs rfl <| oNl <| cRt ?_
 cases h
 exact eR rfl rfl rfl rfl
abbrev B_spec_AtomOk (p : (List UInt8) → Option (Bool)) : Prop := ∀ {t0_0 : List UInt8} {r : Bool}, p t0_0 = some r → Big Try.prog τ An (.fn 194 [.one (.c (.str t0_0))] [] (.one (.c (.bool r))) none [] none)
def p_spec_AtomOk_b1 (n : Nat) (t0_0 : List UInt8) : (Int) → Option ((Int) ⊕ ((Bool) ⊕ (Int × Bool)))
  | v3_1 => bif decide (v3_1 < (t0_0.length : Int)) then (ixs t0_0 v3_1).bind fun e14_6 => (p_spec_l1In n (IntKind.wrap .i64 e14_6) (97 : Int) (122 : Int)).bind fun c17_7 => (bif !c17_7 then bif decide (v3_1 = (0 : Int)) then some true else (p_spec_l1In n (IntKind.wrap .i64 e14_6) (48 : Int) (57 : Int)).bind fun c25_11 => bif !c25_11 then some (!decide ((IntKind.wrap .i64 e14_6) = (95 : Int))) else some false else some false).bind fun v32_8 => bif v32_8 then some (.inr (.inl false)) else some (.inl (IntKind.wrap .i64 (v3_1 + (1 : Int)))) else some (.inr (.inr (v3_1, false)))
def p_spec_AtomOk (n : Nat) (t0_0 : List UInt8) : Option (Bool) :=
  (loopN (p_spec_AtomOk_b1 n t0_0) n (0 : Int)).bind fun q => (match q with | .inl v2_2 => some v2_2 | .inr (v3_3, v9_4) => (p_spec_l1In n (t0_0.length : Int) (1 : Int) (20 : Int)).bind fun c35_14 => some c35_14)
theorem big_spec_AtomOk {n : Nat} : B_spec_AtomOk (p_spec_AtomOk n) := by
 intro t0_0 r h
 unfold p_spec_AtomOk at h
 refine bF Try.func194 rfl rfl <| cRs <| xAs rfl <| oNl <| cSq <| cRs <| xAs rfl <| oNl <| cLp h [(2, 32)] [] (fun v3_1 => ([(3, I64 v3_1)], [])) (fun q => match q with | .inl v2_2 => (.r, [(2, Bo v2_2)], []) | .inr (v3_3, v9_4) => (.e 0, [(3, I64 v3_3), (9, Bo v9_4)], [])) rfl (fun v3_1 _ h => ?_) (fun q h => ?_)
 unfold p_spec_AtomOk_b1 at h
 refine cSq <| cRs <| xMv rfl <| xMv rfl <| xLs rfl <| xLt rfl <| oNl <| cIf h rfl (fun q5 h => ?_) (fun q5 h => ?_)
 refine cSk <| cSq <| cBk <| cRs <| xMv rfl <| xMv rfl <| wIxs h rfl rfl rfl rfl rfl (fun e14_6 h => ?_)
 refine wCv rfl rfl rfl rfl rfl <| xAs rfl <| oRs <| xMv rfl <| xC0 h (big_spec_l1In ·) rfl (fun c17_7 h => ?_)
 refine xAs rfl <| oRs <| oJn h [(18, 32)] [] (fun v32_8 => (.n, [(32, Bo v32_8)], [])) (fun _ h => ?_) (fun v32_8 h => ?_)
 refine xMv rfl <| xNot rfl <| xMv rfl <| oIf 20 h rfl (fun q9 h => ?_) (fun q9 h => ?_)
 refine xMv rfl <| xEq rfl <| xMv rfl <| oIf 23 h rfl (fun q10 h => ?_) (fun q10 h => ?_)
 exact wSk rfl <| wSk rfl <| wSk rfl <| wSk rfl <| wSk rfl <| wSk rfl <| wSk rfl <| xPk rfl <| xPk rfl <| oNl <| eJ h rfl
 refine xMv rfl <| xC0 h (big_spec_l1In ·) rfl (fun c25_11 h => ?_)
 refine xNot rfl <| xMv rfl <| oIf 27 h rfl (fun q12 h => ?_) (fun q12 h => ?_)
 exact xMv rfl <| xNe rfl <| xPk rfl <| xPk rfl <| xPk rfl <| oNl <| eJ h rfl
 exact wSk rfl <| wSk rfl <| xPk rfl <| xPk rfl <| xPk rfl <| oNl <| eJ h rfl
 exact wSk rfl <| wSk rfl <| wSk rfl <| wSk rfl <| wSk rfl <| wSk rfl <| wSk rfl <| wSk rfl <| wSk rfl <| wSk rfl <| wSk rfl <| xPk rfl <| oNl <| eJ h rfl
 refine cIf h rfl (fun q13 h => ?_) (fun q13 h => ?_)
 exact cRs <| xAs rfl <| oNl <| cRt <| eXr h rfl
 exact cSk <| cRg <| xMv rfl <| xAdd rfl <| xAs rfl <| oNl <| eL h rfl
 exact cEx <| eX h rfl
 rcases q with v2_2 | ⟨v3_3, v9_4⟩
 cases h
 exact eR rfl rfl rfl rfl
 refine cRs <| xMv rfl <| xLs rfl <| xC0 h (big_spec_l1In ·) rfl (fun c35_14 h => ?_)
 refine xAs rfl <| oNl <| cRt ?_
 cases h
 exact eR rfl rfl rfl rfl
abbrev B_spec_l4Reserved (p : (List UInt8) → Option (Bool)) : Prop := ∀ {t0_0 : List UInt8} {r : Bool}, p t0_0 = some r → Big Try.prog τ An (.fn 256 [.one (.c (.str t0_0))] [] (.one (.c (.bool r))) none [] none)
def p_spec_l4Reserved (n : Nat) (t0_0 : List UInt8) : Option (Bool) :=
  (bif decide (t0_0 = ([99, 97, 115, 101] : List UInt8)) then some true else bif decide (t0_0 = ([111, 102] : List UInt8)) then some true else some (decide (t0_0 = ([101, 110, 100] : List UInt8)))).bind fun v2_1 => some v2_1
theorem big_spec_l4Reserved {n : Nat} : B_spec_l4Reserved (p_spec_l4Reserved n) := by
 intro t0_0 r h
 unfold p_spec_l4Reserved at h
 refine bF Try.func256 rfl rfl <| cRs <| xAs rfl <| oRs <| oJn h [(2, 12)] [] (fun v2_1 => (.n, [(2, Bo v2_1)], [])) (fun _ h => ?_) (fun v2_1 h => ?_)
 refine xMv rfl <| xEs rfl <| xMv rfl <| oIf 5 h rfl (fun q2 h => ?_) (fun q2 h => ?_)
 exact wSk rfl <| wSk rfl <| xPk rfl <| xMv rfl <| wSk rfl <| wSk rfl <| xPk rfl <| xAs rfl <| oNl <| eJ h rfl
 refine xMv rfl <| xEs rfl <| xPk rfl <| xMv rfl <| oIf 9 h rfl (fun q3 h => ?_) (fun q3 h => ?_)
 exact wSk rfl <| wSk rfl <| xPk rfl <| xAs rfl <| oNl <| eJ h rfl
 exact xMv rfl <| xEs rfl <| xPk rfl <| xAs rfl <| oNl <| eJ h rfl
 refine cRt ?_
 cases h
 exact eR rfl rfl rfl rfl
abbrev B_spec_l4Atom (p : (List UInt8) → Option (Bool)) : Prop := ∀ {t0_0 : List UInt8} {r : Bool}, p t0_0 = some r → Big Try.prog τ An (.fn 224 [.one (.c (.str t0_0))] [] (.one (.c (.bool r))) none [] none)
def p_spec_l4Atom (n : Nat) (t0_0 : List UInt8) : Option (Bool) :=
  ((p_spec_AtomOk n t0_0).bind fun c4_2 => bif c4_2 then (p_spec_l4Reserved n t0_0).bind fun c7_4 => some (!c7_4) else some false).bind fun v2_1 => some v2_1
theorem big_spec_l4Atom {n : Nat} : B_spec_l4Atom (p_spec_l4Atom n) := by
 intro t0_0 r h
 unfold p_spec_l4Atom at h
 refine bF Try.func224 rfl rfl <| cRs <| xAs rfl <| oRs <| oJn h [(2, 9)] [] (fun v2_1 => (.n, [(2, Bo v2_1)], [])) (fun _ h => ?_) (fun v2_1 h => ?_)
 refine xMv rfl <| xC0 h (big_spec_AtomOk ·) rfl (fun c4_2 h => ?_)
 refine xMv rfl <| oIf 5 h rfl (fun q3 h => ?_) (fun q3 h => ?_)
 refine xMv rfl <| xC0 h (big_spec_l4Reserved ·) rfl (fun c7_4 h => ?_)
 exact xNot rfl <| xPk rfl <| xAs rfl <| oNl <| eJ h rfl
 exact wSk rfl <| wSk rfl <| wSk rfl <| xPk rfl <| xAs rfl <| oNl <| eJ h rfl
 refine cRt ?_
 cases h
 exact eR rfl rfl rfl rfl
abbrev B_spec_l4Op (p : (List UInt8) → Option (Bool)) : Prop := ∀ {t0_0 : List UInt8} {r : Bool}, p t0_0 = some r → Big Try.prog τ An (.fn 260 [.one (.c (.str t0_0))] [] (.one (.c (.bool r))) none [] none)
def p_spec_l4Op (n : Nat) (t0_0 : List UInt8) : Option (Bool) :=
  (bif decide (t0_0 = ([43] : List UInt8)) then some true else bif decide (t0_0 = ([45] : List UInt8)) then some true else bif decide (t0_0 = ([42] : List UInt8)) then some true else bif decide (t0_0 = ([61, 61] : List UInt8)) then some true else some (decide (t0_0 = ([60] : List UInt8)))).bind fun v2_1 => some v2_1
theorem big_spec_l4Op {n : Nat} : B_spec_l4Op (p_spec_l4Op n) := by
 intro t0_0 r h
 unfold p_spec_l4Op at h
 refine bF Try.func260 rfl rfl <| cRs <| xAs rfl <| oRs <| oJn h [(2, 20)] [] (fun v2_1 => (.n, [(2, Bo v2_1)], [])) (fun _ h => ?_) (fun v2_1 h => ?_)
 refine xMv rfl <| xEs rfl <| xMv rfl <| oIf 5 h rfl (fun q2 h => ?_) (fun q2 h => ?_)
 refine wSk rfl <| wSk rfl <| xPk rfl <| xMv rfl <| wSk rfl <| wSk rfl <| xPk rfl <| xMv rfl <| wSk rfl <| wSk rfl <| xPk rfl <| xMv rfl <| wSk rfl <| wSk rfl ?_
 exact xPk rfl <| xAs rfl <| oNl <| eJ h rfl
 refine xMv rfl <| xEs rfl <| xPk rfl <| xMv rfl <| oIf 9 h rfl (fun q3 h => ?_) (fun q3 h => ?_)
 exact wSk rfl <| wSk rfl <| xPk rfl <| xMv rfl <| wSk rfl <| wSk rfl <| xPk rfl <| xMv rfl <| wSk rfl <| wSk rfl <| xPk rfl <| xAs rfl <| oNl <| eJ h rfl
 refine xMv rfl <| xEs rfl <| xPk rfl <| xMv rfl <| oIf 13 h rfl (fun q4 h => ?_) (fun q4 h => ?_)
 exact wSk rfl <| wSk rfl <| xPk rfl <| xMv rfl <| wSk rfl <| wSk rfl <| xPk rfl <| xAs rfl <| oNl <| eJ h rfl
 refine xMv rfl <| xEs rfl <| xPk rfl <| xMv rfl <| oIf 17 h rfl (fun q5 h => ?_) (fun q5 h => ?_)
 exact wSk rfl <| wSk rfl <| xPk rfl <| xAs rfl <| oNl <| eJ h rfl
 exact xMv rfl <| xEs rfl <| xPk rfl <| xAs rfl <| oNl <| eJ h rfl
 refine cRt ?_
 cases h
 exact eR rfl rfl rfl rfl
abbrev B_spec_l4Shape (p : Int → Int → (List UInt8) → (List S_impl_Expr) → (List S_impl_Clause) → Bool → Option (Bool)) : Prop := ∀ {t0_0 t0_1 : Int} {t0_2 : List UInt8} {t0_3 : List S_impl_Expr} {t0_4 : List S_impl_Clause} {t1_0 : Bool} {r : Bool}, p t0_0 t0_1 t0_2 t0_3 t0_4 t1_0 = some r → Big Try.prog τ An (.fn 232 [.one (.ag [.int .i64 t0_0, .int .i64 t0_1, .str t0_2, .sl (t0_3.map rS_impl_Expr), .sl (t0_4.map rS_impl_Clause)]), .one (.c (.bool t1_0))] [] (.one (.c (.bool r))) none [] none)
def p_spec_l4Shape (n : Nat) (t0_0 : Int) (t0_1 : Int) (t0_2 : List UInt8) (t0_3 : List S_impl_Expr) (t0_4 : List S_impl_Clause) (t1_0 : Bool) : Option (Bool) :=
  (bif !decide (t0_0 = (9 : Int)) then bif decide ((0 : Int) < (t0_4.length : Int)) then some true else bif !decide (t0_0 = (1 : Int)) then some (!decide (t0_1 = (0 : Int))) else some false else bif !decide (t0_0 = (1 : Int)) then some (!decide (t0_1 = (0 : Int))) else some false).bind fun v27_1 => bif v27_1 then some false else bif decide (t0_0 = (1 : Int)) then ((p_spec_l1In n t0_1 (0 : Int) (1000000000000 : Int)).bind fun c34_9 => bif c34_9 then bif decide (t0_2 = ([] : List UInt8)) then some (decide ((t0_3.length : Int) = (0 : Int))) else some false else some false).bind fun v4_8 => some v4_8 else bif decide (t0_0 = (2 : Int)) then ((p_spec_l4Atom n t0_2).bind fun c48_14 => bif c48_14 then some (decide ((t0_3.length : Int) = (0 : Int))) else some false).bind fun v4_13 => some v4_13 else bif decide (t0_0 = (3 : Int)) then ((p_spec_l3VarOk n t0_2).bind fun c57_18 => bif c57_18 then bif decide ((t0_3.length : Int) = (0 : Int)) then bif t1_0 then some true else some (!decide (t0_2 = ([95] : List UInt8))) else some false else some false).bind fun v4_17 => some v4_17 else bif decide (t0_0 = (4 : Int)) then (bif decide (t0_2 = ([] : List UInt8)) then some (decide ((t0_3.length : Int) ≤ (20 : Int))) else some false).bind fun v4_23 => some v4_23 else bif decide (t0_0 = (5 : Int)) then (bif decide (t0_2 = ([] : List UInt8)) then some (decide ((t0_3.length : Int) ≤ (20 : Int))) else some false).bind fun v4_26 => some v4_26 else bif decide (t0_0 = (6 : Int)) then (bif decide (t0_2 = ([] : List UInt8)) then (p_spec_l1In n (t0_3.length : Int) (2 : Int) (6 : Int)).bind fun c87_31 => some c87_31 else some false).bind fun v4_29 => some v4_29 else bif decide (t0_0 = (7 : Int)) then (bif !t1_0 then (p_spec_l4Op n t0_2).bind fun c96_35 => bif c96_35 then some (decide ((t0_3.length : Int) = (2 : Int))) else some false else some false).bind fun v4_33 => some v4_33 else bif decide (t0_0 = (8 : Int)) then (bif !t1_0 then (p_spec_l4Atom n t0_2).bind fun c109_40 => bif c109_40 then some (decide ((t0_3.length : Int) ≤ (4 : Int))) else some false else some false).bind fun v4_38 => some v4_38 else bif decide (t0_0 = (9 : Int)) then (bif !t1_0 then bif decide (t0_2 = ([] : List UInt8)) then bif decide ((t0_3.length : Int) = (1 : Int)) then (p_spec_l1In n (t0_4.length : Int) (1 : Int) (6 : Int)).bind fun c132_47 => some c132_47 else some false else some false else some false).bind fun v4_43 => some v4_43 else some false
theorem big_spec_l4Shape {n : Nat} : B_spec_l4Shape (p_spec_l4Shape n) := by
 intro t0_0 t0_1 t0_2 t0_3 t0_4 t1_0 r h
 unfold p_spec_l4Shape at h
 refine bF Try.func232 rfl rfl <| cRs <| xBx rfl <| xAs rfl <| oRs <| xFd rfl <| xLd rfl <| xLn rfl <| xAs rfl <| oNl <| cSq <| cRs <| oJn h [(9, 27)] [] (fun v27_1 => (.n, [(27, Bo v27_1)], [])) (fun _ h => ?_) (fun v27_1 h => ?_)
 refine xFd rfl <| xLd rfl <| xNe rfl <| xMv rfl <| oIf 12 h rfl (fun q2 h => ?_) (fun q2 h => ?_)
 refine xFd rfl <| xLd rfl <| xLn rfl <| xGt rfl <| xPk rfl <| xMv rfl <| oIf 18 h rfl (fun q3 h => ?_) (fun q3 h => ?_)
 exact wSk rfl <| wSk rfl <| wSk rfl <| wSk rfl <| wSk rfl <| wSk rfl <| wSk rfl <| wSk rfl <| xPk rfl <| oNl <| eJ h rfl
 refine xFd rfl <| xLd rfl <| xNe rfl <| xMv rfl <| oIf 22 h rfl (fun q4 h => ?_) (fun q4 h => ?_)
 exact xFd rfl <| xLd rfl <| xNe rfl <| xPk rfl <| xPk rfl <| oNl <| eJ h rfl
 exact wSk rfl <| wSk rfl <| wSk rfl <| xPk rfl <| xPk rfl <| oNl <| eJ h rfl
 refine wSk rfl <| wSk rfl <| wSk rfl <| wSk rfl <| xPk rfl <| xMv rfl <| xFd rfl <| xLd rfl <| xNe rfl <| xMv rfl <| oIf 22 h rfl (fun q5 h => ?_) (fun q5 h => ?_)
 exact xFd rfl <| xLd rfl <| xNe rfl <| xPk rfl <| xPk rfl <| oNl <| eJ h rfl
 exact wSk rfl <| wSk rfl <| wSk rfl <| xPk rfl <| xPk rfl <| oNl <| eJ h rfl
 refine cIf h rfl (fun q6 h => ?_) (fun q6 h => ?_)
 refine cRs <| xAs rfl <| oNl <| cRt ?_
 cases h
 exact eR rfl rfl rfl rfl
 refine cSk <| cSq <| cRs <| xFd rfl <| xLd rfl <| oNl <| cBk <| cRs <| xEq rfl <| xAs rfl <| oNl <| cIf h rfl (fun q7 h => ?_) (fun q7 h => ?_)
 refine cRs <| oJn h [(4, 4), (32, 43)] [] (fun v4_8 => (.n, [(4, Bo v4_8)], [])) (fun _ h => ?_) (fun v4_8 h => ?_)
 refine xFd rfl <| xLd rfl <| xC0 h (big_spec_l1In ·) rfl (fun c34_9 h => ?_)
 refine xMv rfl <| oIf 35 h rfl (fun q10 h => ?_) (fun q10 h => ?_)
 refine xFd rfl <| xLd rfl <| xEs rfl <| xPk rfl <| xMv rfl <| oIf 40 h rfl (fun q11 h => ?_) (fun q11 h => ?_)
 exact xMv rfl <| xEq rfl <| xPk rfl <| xAs rfl <| oNl <| eJ h rfl
 exact wSk rfl <| wSk rfl <| xPk rfl <| xAs rfl <| oNl <| eJ h rfl
 exact wSk rfl <| wSk rfl <| wSk rfl <| xPk rfl <| xMv rfl <| wSk rfl <| wSk rfl <| xPk rfl <| xAs rfl <| oNl <| eJ h rfl
 refine cRt ?_
 cases h
 exact eR rfl rfl rfl rfl
 refine cRs <| xEq rfl <| xAs rfl <| oNl <| cIf h rfl (fun q12 h => ?_) (fun q12 h => ?_)
 refine cRs <| oJn h [(4, 4), (46, 52)] [] (fun v4_13 => (.n, [(4, Bo v4_13)], [])) (fun _ h => ?_) (fun v4_13 h => ?_)
 refine xFd rfl <| xLd rfl <| xC0 h (big_spec_l4Atom ·) rfl (fun c48_14 h => ?_)
 refine xMv rfl <| oIf 49 h rfl (fun q15 h => ?_) (fun q15 h => ?_)
 exact xMv rfl <| xEq rfl <| xPk rfl <| xAs rfl <| oNl <| eJ h rfl
 exact wSk rfl <| wSk rfl <| xPk rfl <| xAs rfl <| oNl <| eJ h rfl
 refine cRt ?_
 cases h
 exact eR rfl rfl rfl rfl
 refine cRs <| xEq rfl <| xAs rfl <| oNl <| cIf h rfl (fun q16 h => ?_) (fun q16 h => ?_)
 refine cRs <| oJn h [(4, 4), (55, 69)] [] (fun v4_17 => (.n, [(4, Bo v4_17)], [])) (fun _ h => ?_) (fun v4_17 h => ?_)
 refine xFd rfl <| xLd rfl <| xC0 h (big_spec_l3VarOk ·) rfl (fun c57_18 h => ?_)
 refine xMv rfl <| oIf 58 h rfl (fun q19 h => ?_) (fun q19 h => ?_)
 refine xMv rfl <| xEq rfl <| xPk rfl <| xMv rfl <| oIf 62 h rfl (fun q20 h => ?_) (fun q20 h => ?_)
 refine xMv rfl <| xMv rfl <| oIf 64 h rfl (fun q21 h => ?_) (fun q21 h => ?_)
 exact wSk rfl <| wSk rfl <| wSk rfl <| xPk rfl <| xPk rfl <| xAs rfl <| oNl <| eJ h rfl
 exact xFd rfl <| xLd rfl <| xNs rfl <| xPk rfl <| xPk rfl <| xAs rfl <| oNl <| eJ h rfl
 exact wSk rfl <| wSk rfl <| wSk rfl <| wSk rfl <| wSk rfl <| wSk rfl <| xPk rfl <| xAs rfl <| oNl <| eJ h rfl
 exact wSk rfl <| wSk rfl <| xPk rfl <| xMv rfl <| wSk rfl <| wSk rfl <| wSk rfl <| wSk rfl <| wSk rfl <| wSk rfl <| xPk rfl <| xAs rfl <| oNl <| eJ h rfl
 refine cRt ?_
 cases h
 exact eR rfl rfl rfl rfl
 refine cSq <| cRs <| xEq rfl <| xAs rfl <| oNl <| cIf h rfl (fun q22 h => ?_) (fun q22 h => ?_)
 refine cSk <| cT rfl <| cRs <| oJn h [(4, 4), (73, 79)] [] (fun v4_23 => (.n, [(4, Bo v4_23)], [])) (fun _ h => ?_) (fun v4_23 h => ?_)
 refine xFd rfl <| xLd rfl <| xEs rfl <| xMv rfl <| oIf 76 h rfl (fun q24 h => ?_) (fun q24 h => ?_)
 exact xMv rfl <| xLe rfl <| xPk rfl <| xAs rfl <| oNl <| eJ h rfl
 exact wSk rfl <| wSk rfl <| xPk rfl <| xAs rfl <| oNl <| eJ h rfl
 refine cRt ?_
 cases h
 exact eR rfl rfl rfl rfl
 refine cRg <| xEq rfl <| xAs rfl <| oNl <| cIf h rfl (fun q25 h => ?_) (fun q25 h => ?_)
 refine cRs <| oJn h [(4, 4), (73, 79)] [] (fun v4_26 => (.n, [(4, Bo v4_26)], [])) (fun _ h => ?_) (fun v4_26 h => ?_)
 refine xFd rfl <| xLd rfl <| xEs rfl <| xMv rfl <| oIf 76 h rfl (fun q27 h => ?_) (fun q27 h => ?_)
 exact xMv rfl <| xLe rfl <| xPk rfl <| xAs rfl <| oNl <| eJ h rfl
 exact wSk rfl <| wSk rfl <| xPk rfl <| xAs rfl <| oNl <| eJ h rfl
 refine cRt ?_
 cases h
 exact eR rfl rfl rfl rfl
 refine cRs <| xEq rfl <| xAs rfl <| oNl <| cIf h rfl (fun q28 h => ?_) (fun q28 h => ?_)
 refine cRs <| oJn h [(4, 4), (82, 88)] [] (fun v4_29 => (.n, [(4, Bo v4_29)], [])) (fun _ h => ?_) (fun v4_29 h => ?_)
 refine xFd rfl <| xLd rfl <| xEs rfl <| xMv rfl <| oIf 85 h rfl (fun q30 h => ?_) (fun q30 h => ?_)
 refine xMv rfl <| xC0 h (big_spec_l1In ·) rfl (fun c87_31 h => ?_)
 exact xPk rfl <| xAs rfl <| oNl <| eJ h rfl
 exact wSk rfl <| wSk rfl <| xPk rfl <| xAs rfl <| oNl <| eJ h rfl
 refine cRt ?_
 cases h
 exact eR rfl rfl rfl rfl
 refine cRs <| xEq rfl <| xAs rfl <| oNl <| cIf h rfl (fun q32 h => ?_) (fun q32 h => ?_)
 refine cRs <| oJn h [(4, 4), (91, 101)] [] (fun v4_33 => (.n, [(4, Bo v4_33)], [])) (fun _ h => ?_) (fun v4_33 h => ?_)
 refine xMv rfl <| xNot rfl <| xMv rfl <| oIf 93 h rfl (fun q34 h => ?_) (fun q34 h => ?_)
 refine xFd rfl <| xLd rfl <| xC0 h (big_spec_l4Op ·) rfl (fun c96_35 h => ?_)
 refine xPk rfl <| xMv rfl <| oIf 98 h rfl (fun q36 h => ?_) (fun q36 h => ?_)
 exact xMv rfl <| xEq rfl <| xPk rfl <| xAs rfl <| oNl <| eJ h rfl
 exact wSk rfl <| wSk rfl <| xPk rfl <| xAs rfl <| oNl <| eJ h rfl
 exact wSk rfl <| wSk rfl <| wSk rfl <| xPk rfl <| xMv rfl <| wSk rfl <| wSk rfl <| xPk rfl <| xAs rfl <| oNl <| eJ h rfl
 refine cRt ?_
 cases h
 exact eR rfl rfl rfl rfl
 refine cRs <| xEq rfl <| xAs rfl <| oNl <| cIf h rfl (fun q37 h => ?_) (fun q37 h => ?_)
 refine cRs <| oJn h [(4, 4), (104, 114)] [] (fun v4_38 => (.n, [(4, Bo v4_38)], [])) (fun _ h => ?_) (fun v4_38 h => ?_)
 refine xMv rfl <| xNot rfl <| xMv rfl <| oIf 106 h rfl (fun q39 h => ?_) (fun q39 h => ?_)
 refine xFd rfl <| xLd rfl <| xC0 h (big_spec_l4Atom ·) rfl (fun c109_40 h => ?_)
 refine xPk rfl <| xMv rfl <| oIf 111 h rfl (fun q41 h => ?_) (fun q41 h => ?_)
 exact xMv rfl <| xLe rfl <| xPk rfl <| xAs rfl <| oNl <| eJ h rfl
 exact wSk rfl <| wSk rfl <| xPk rfl <| xAs rfl <| oNl <| eJ h rfl
 exact wSk rfl <| wSk rfl <| wSk rfl <| xPk rfl <| xMv rfl <| wSk rfl <| wSk rfl <| xPk rfl <| xAs rfl <| oNl <| eJ h rfl
 refine cRt ?_
 cases h
 exact eR rfl rfl rfl rfl
 refine cRs <| xEq rfl <| xAs rfl <| oNl <| cIf h rfl (fun q42 h => ?_) (fun q42 h => ?_)
 refine cRs <| oJn h [(4, 4), (117, 133)] [] (fun v4_43 => (.n, [(4, Bo v4_43)], [])) (fun _ h => ?_) (fun v4_43 h => ?_)
 refine xMv rfl <| xNot rfl <| xMv rfl <| oIf 119 h rfl (fun q44 h => ?_) (fun q44 h => ?_)
 refine xFd rfl <| xLd rfl <| xEs rfl <| xPk rfl <| xMv rfl <| oIf 124 h rfl (fun q45 h => ?_) (fun q45 h => ?_)
 refine xMv rfl <| xEq rfl <| xPk rfl <| xMv rfl <| oIf 128 h rfl (fun q46 h => ?_) (fun q46 h => ?_)
 refine xFd rfl <| xLd rfl <| xLn rfl <| xC0 h (big_spec_l1In ·) rfl (fun c132_47 h => ?_)
 exact xPk rfl <| xAs rfl <| oNl <| eJ h rfl
 exact wSk rfl <| wSk rfl <| wSk rfl <| wSk rfl <| xPk rfl <| xAs rfl <| oNl <| eJ h rfl
 exact wSk rfl <| wSk rfl <| xPk rfl <| xMv rfl <| wSk rfl <| wSk rfl <| wSk rfl <| wSk rfl <| xPk rfl <| xAs rfl <| oNl <| eJ h rfl
 refine wSk rfl <| wSk rfl <| wSk rfl <| xPk rfl <| xMv rfl <| wSk rfl <| wSk rfl <| xPk rfl <| xMv rfl <| wSk rfl <| wSk rfl <| wSk rfl <| wSk rfl <| xPk rfl ?_
 exact xAs rfl <| oNl <| eJ h rfl
 refine cRt ?_
 cases h
 exact eR rfl rfl rfl rfl
 refine cSk <| cRs <| xAs rfl <| oNl <| cRt ?_
 cases h
 exact eR rfl rfl rfl rfl
abbrev Y_spec_l4Look : Type := Int → Int → (List UInt8) → (List S_impl_Expr) → (List S_impl_Clause) → Bool → Int → Int → Option (Int)
abbrev B_spec_l4Look (p : Y_spec_l4Look) : Prop := ∀ {t0_0 t0_1 : Int} {t0_2 : List UInt8} {t0_3 : List S_impl_Expr} {t0_4 : List S_impl_Clause} {t1_0 : Bool} {t2_0 t3_0 : Int} {r : Int}, p t0_0 t0_1 t0_2 t0_3 t0_4 t1_0 t2_0 t3_0 = some r → Big Try.prog τ An (.fn 183 [.one (.ag [.int .i64 t0_0, .int .i64 t0_1, .str t0_2, .sl (t0_3.map rS_impl_Expr), .sl (t0_4.map rS_impl_Clause)]), .one (.c (.bool t1_0)), .one (.c (.int .i64 t2_0)), .one (.c (.int .i64 t3_0))] [] (.one (.c (.int .i64 r))) none [] none)
def p_spec_l4Look_b1 (n : Nat) (r_spec_l4Look : Y_spec_l4Look) (t1_0 : Bool) (t2_0 : Int) (t0_3 : List S_impl_Expr) : (Int × Int) → Option ((Int × Int) ⊕ ((Int × Int × Bool)))
  | (v3_6, v9_7) => (bif decide (v9_7 < (t0_3.length : Int)) then some (decide ((0 : Int) ≤ v3_6)) else some false).bind fun v33_11 => bif v33_11 then (ix t0_3 v9_7).bind fun e39_14 => (r_spec_l4Look e39_14.f0 e39_14.f1 e39_14.f2 e39_14.f3 e39_14.f4 t1_0 (IntKind.wrap .i64 (t2_0 - (1 : Int))) v3_6).bind fun c45_15 => some (.inl (c45_15, (IntKind.wrap .i64 (v9_7 + (1 : Int))))) else some (.inr (v3_6, v9_7, false))
def p_spec_l4Look_b2 (n : Nat) (r_spec_l4Look : Y_spec_l4Look) (t2_0 : Int) (t0_4 : List S_impl_Clause) : (Int × Int) → Option ((Int × Int) ⊕ ((Int) ⊕ (Int × Int × Bool)))
  | (v3_16, v10_17) => (bif decide (v10_17 < (t0_4.length : Int)) then some (decide ((0 : Int) ≤ v3_16)) else some false).bind fun v54_22 => bif v54_22 then (((ix t0_4 v10_17).bind fun e60_27 => (p_spec_VarsOf n e60_27.f0 e60_27.f1 e60_27.f2 e60_27.f3 e60_27.f4).bind fun c63_28 => (p_spec_l4Once n c63_28).bind fun c64_29 => bif !c64_29 then some (.inl ((-1) : Int)) else (ix t0_4 v10_17).bind fun e69_31 => (r_spec_l4Look e69_31.f0 e69_31.f1 e69_31.f2 e69_31.f3 e69_31.f4 true (IntKind.wrap .i64 (t2_0 - (1 : Int))) v3_16).bind fun c75_32 => bif decide ((0 : Int) ≤ c75_32) then (ix t0_4 v10_17).bind fun e81_34 => (r_spec_l4Look e81_34.f5 e81_34.f6 e81_34.f7 e81_34.f8 e81_34.f9 false (IntKind.wrap .i64 (t2_0 - (1 : Int))) c75_32).bind fun c87_35 => some (.inr c87_35) else some (.inr c75_32) : Option ((Int) ⊕ (Int)))).bind fun q => (match q with | .inl v8_25 => some (.inr (.inl v8_25)) | .inr v3_26 => some (.inl (v3_26, (IntKind.wrap .i64 (v10_17 + (1 : Int)))))) else some (.inr (.inr (v3_16, v10_17, false)))
def s_spec_l4Look (n : Nat) (r_spec_l4Look : Y_spec_l4Look) (t0_0 : Int) (t0_1 : Int) (t0_2 : List UInt8) (t0_3 : List S_impl_Expr) (t0_4 : List S_impl_Clause) (t1_0 : Bool) (t2_0 : Int) (t3_0 : Int) : Option (Int) :=
  (bif decide (t2_0 < (1 : Int)) then some true else bif decide (t3_0 < (1 : Int)) then some true else (p_spec_l4Shape n t0_0 t0_1 t0_2 t0_3 t0_4 t1_0).bind fun c20_4 => some (!c20_4)).bind fun v22_1 => bif v22_1 then some ((-1) : Int) else (loopN (p_spec_l4Look_b1 n r_spec_l4Look t1_0 t2_0 t0_3) n ((IntKind.wrap .i64 (t3_0 - (1 : Int))), (0 : Int))).bind fun (v3_8, v9_9, v33_10) => (loopN (p_spec_l4Look_b2 n r_spec_l4Look t2_0 t0_4) n (v3_8, (0 : Int))).bind fun q => (match q with | .inl v8_18 => some v8_18 | .inr (v3_19, v10_20, v54_21) => some v3_19)
theorem step_spec_l4Look {n : Nat} {r_spec_l4Look : Y_spec_l4Look} (ih_spec_l4Look : B_spec_l4Look r_spec_l4Look) : B_spec_l4Look (s_spec_l4Look n r_spec_l4Look) := by
 intro t0_0 t0_1 t0_2 t0_3 t0_4 t1_0 t2_0 t3_0 r h
 unfold s_spec_l4Look at h
 refine bF Try.func183 rfl rfl <| cRs <| xBx rfl <| xAs rfl <| oNl <| cSq <| cRs <| oJn h [(11, 22)] [] (fun v22_1 => (.n, [(22, Bo v22_1)], [])) (fun _ h => ?_) (fun v22_1 h => ?_)
 refine xMv rfl <| xLt rfl <| xMv rfl <| oIf 13 h rfl (fun q2 h => ?_) (fun q2 h => ?_)
 exact wSk rfl <| wSk rfl <| xPk rfl <| xMv rfl <| wSk rfl <| wSk rfl <| wSk rfl <| wSk rfl <| xPk rfl <| oNl <| eJ h rfl
 refine xMv rfl <| xLt rfl <| xPk rfl <| xMv rfl <| oIf 17 h rfl (fun q3 h => ?_) (fun q3 h => ?_)
 exact wSk rfl <| wSk rfl <| wSk rfl <| wSk rfl <| xPk rfl <| oNl <| eJ h rfl
 refine xLd rfl <| xMv rfl <| xC0 h (big_spec_l4Shape ·) rfl (fun c20_4 h => ?_)
 exact xNot rfl <| xPk rfl <| oNl <| eJ h rfl
 refine cIf h rfl (fun q5 h => ?_) (fun q5 h => ?_)
 refine cRs <| xAs rfl <| oNl <| cRt ?_
 cases h
 exact eR rfl rfl rfl rfl
 refine cSk <| cRs <| xMv rfl <| xSub rfl <| xAs rfl <| oNl <| cSq <| cRs <| xAs rfl <| oNl <| cLp h [(3, 3), (9, 9), (25, 45)] [] (fun (v3_6, v9_7) => ([(3, I64 v3_6), (9, I64 v9_7)], [])) (fun (v3_8, v9_9, v33_10) => (.e 0, [(3, I64 v3_8), (9, I64 v9_9), (33, Bo v33_10)], [])) rfl (fun st _ h => ?_) (fun q h => ?_)
 obtain ⟨v3_6, v9_7⟩ := st
 unfold p_spec_l4Look_b1 at h
 refine cSq <| cRs <| oJn h [(25, 33)] [] (fun v33_11 => (.n, [(33, Bo v33_11)], [])) (fun _ h => ?_) (fun v33_11 h => ?_)
 refine xMv rfl <| xFd rfl <| xLd rfl <| xLn rfl <| xLt rfl <| xMv rfl <| oIf 30 h rfl (fun q12 h => ?_) (fun q12 h => ?_)
 exact xMv rfl <| xGe rfl <| xPk rfl <| oNl <| eJ h rfl
 exact wSk rfl <| wSk rfl <| xPk rfl <| oNl <| eJ h rfl
 refine cIf h rfl (fun q13 h => ?_) (fun q13 h => ?_)
 refine cSk <| cSq <| cBk <| cRg <| xFd rfl <| xLd rfl <| xMv rfl <| xIx h rS_impl_Expr_eq rfl (fun e39_14 h => ?_)
 refine xLd rfl <| xMv rfl <| xMv rfl <| xSub rfl <| xMv rfl <| xC0 h (ih_spec_l4Look ·) rfl (fun c45_15 h => ?_)
 exact xAs rfl <| oNl <| cRg <| xMv rfl <| xAdd rfl <| xAs rfl <| oNl <| eL h rfl
 exact cEx <| eX h rfl
 obtain ⟨v3_8, v9_9, v33_10⟩ := q
 refine cSq <| cRs <| xAs rfl <| oNl <| cLp h [(3, 3), (8, 8), (10, 10), (46, 87)] [] (fun (v3_16, v10_17) => ([(3, I64 v3_16), (10, I64 v10_17)], [])) (fun q => match q with | .inl v8_18 => (.r, [(8, I64 v8_18)], []) | .inr (v3_19, v10_20, v54_21) => (.e 2, [(3, I64 v3_19), (10, I64 v10_20), (54, Bo v54_21)], [])) rfl (fun st _ h => ?_) (fun q h => ?_)
 obtain ⟨v3_16, v10_17⟩ := st
 unfold p_spec_l4Look_b2 at h
 refine cSq <| cRs <| oJn h [(46, 54)] [] (fun v54_22 => (.n, [(54, Bo v54_22)], [])) (fun _ h => ?_) (fun v54_22 h => ?_)
 refine xMv rfl <| xFd rfl <| xLd rfl <| xLn rfl <| xLt rfl <| xMv rfl <| oIf 51 h rfl (fun q23 h => ?_) (fun q23 h => ?_)
 exact xMv rfl <| xGe rfl <| xPk rfl <| oNl <| eJ h rfl
 exact wSk rfl <| wSk rfl <| xPk rfl <| oNl <| eJ h rfl
 refine cIf h rfl (fun q24 h => ?_) (fun q24 h => ?_)
 refine cSk <| cSq <| cJn h [(3, 3), (8, 8), (57, 87)] [] (fun q => match q with | .inl v8_25 => (.r, [(8, I64 v8_25)], []) | .inr v3_26 => (.n, [(3, I64 v3_26)], [])) (fun _ h => ?_) (fun q h => ?_)
 refine cBk <| cSq <| cRs <| xFd rfl <| xLd rfl <| xMv rfl <| xIx h rS_impl_Clause_eq rfl (fun e60_27 h => ?_)
 refine xFd rfl <| xLd rfl <| xC0 h (big_spec_VarsOf ·) rfl (fun c63_28 h => ?_)
 refine xC0 h (big_spec_l4Once ·) rfl (fun c64_29 h => ?_)
 refine xNot rfl <| oNl <| cIf h rfl (fun q30 h => ?_) (fun q30 h => ?_)
 exact cRs <| xAs rfl <| oNl <| cRt <| eJ h rfl
 refine cSk <| cRs <| xFd rfl <| xLd rfl <| xMv rfl <| xIx h rS_impl_Clause_eq rfl (fun e69_31 h => ?_)
 refine xFd rfl <| xLd rfl <| xMv rfl <| xSub rfl <| xMv rfl <| xC0 h (ih_spec_l4Look ·) rfl (fun c75_32 h => ?_)
 refine xAs rfl <| oRs <| xMv rfl <| xGe rfl <| oNl <| cIf h rfl (fun q33 h => ?_) (fun q33 h => ?_)
 refine cRg <| xFd rfl <| xLd rfl <| xMv rfl <| xIx h rS_impl_Clause_eq rfl (fun e81_34 h => ?_)
 refine xFd rfl <| xLd rfl <| xMv rfl <| xSub rfl <| xMv rfl <| xC0 h (ih_spec_l4Look ·) rfl (fun c87_35 h => ?_)
 exact xAs rfl <| oNl <| eJ h rfl
 exact cSk <| eJ h rfl
 rcases q with v8_25 | v3_26
 exact eXr h rfl
 exact cRg <| xMv rfl <| xAdd rfl <| xAs rfl <| oNl <| eL h rfl
 exact cEx <| eX h rfl
 rcases q with v8_18 | ⟨v3_19, v10_20, v54_21⟩
 cases h
 exact eR rfl rfl rfl rfl
 refine cRs <| xMv rfl <| xAs rfl <| oNl <| cRt ?_
 cases h
 exact eR rfl rfl rfl rfl
def q_spec_l4Look : Nat → (Y_spec_l4Look)
  | 0 => (fun _ _ _ _ _ _ _ _ => none)
  | n + 1 => s_spec_l4Look n (q_spec_l4Look n)
def p_spec_l4Look (n : Nat) : Y_spec_l4Look := q_spec_l4Look n
theorem bigs_spec_l4Look (n : Nat) : B_spec_l4Look (p_spec_l4Look n) := by
  induction n with
  | zero => exact (fun h => nomatch h)
  | succ n ih => exact step_spec_l4Look (n := n) ih
theorem big_spec_l4Look {n : Nat} : B_spec_l4Look (p_spec_l4Look n) := (bigs_spec_l4Look n)
theorem p_spec_l4Look_succ (n : Nat) : p_spec_l4Look (n + 1) = s_spec_l4Look n (p_spec_l4Look n) := rfl
abbrev B_spec_PatOk (p : Int → Int → (List UInt8) → (List S_impl_Expr) → (List S_impl_Clause) → Option (Bool)) : Prop := ∀ {t0_0 t0_1 : Int} {t0_2 : List UInt8} {t0_3 : List S_impl_Expr} {t0_4 : List S_impl_Clause} {r : Bool}, p t0_0 t0_1 t0_2 t0_3 t0_4 = some r → Big Try.prog τ An (.fn 107 [.one (.ag [.int .i64 t0_0, .int .i64 t0_1, .str t0_2, .sl (t0_3.map rS_impl_Expr), .sl (t0_4.map rS_impl_Clause)])] [] (.one (.c (.bool r))) none [] none)
def p_spec_PatOk (n : Nat) (t0_0 : Int) (t0_1 : Int) (t0_2 : List UInt8) (t0_3 : List S_impl_Expr) (t0_4 : List S_impl_Clause) : Option (Bool) :=
  ((p_spec_l4Look n t0_0 t0_1 t0_2 t0_3 t0_4 true (10 : Int) (300 : Int)).bind fun c4_2 => bif decide ((0 : Int) ≤ c4_2) then (p_spec_VarsOf n t0_0 t0_1 t0_2 t0_3 t0_4).bind fun c8_4 => (p_spec_l4Once n c8_4).bind fun c9_5 => some c9_5 else some false).bind fun v2_1 => some v2_1
theorem big_spec_PatOk {n : Nat} : B_spec_PatOk (p_spec_PatOk n) := by
 intro t0_0 t0_1 t0_2 t0_3 t0_4 r h
 unfold p_spec_PatOk at h
 refine bF Try.func107 rfl rfl <| cRs <| xBx rfl <| xAs rfl <| oRs <| oJn h [(2, 10)] [] (fun v2_1 => (.n, [(2, Bo v2_1)], [])) (fun _ h => ?_) (fun v2_1 h => ?_)
 refine xLd rfl <| xC0 h (big_spec_l4Look ·) rfl (fun c4_2 h => ?_)
 refine xGe rfl <| xMv rfl <| oIf 6 h rfl (fun q3 h => ?_) (fun q3 h => ?_)
 refine xLd rfl <| xC0 h (big_spec_VarsOf ·) rfl (fun c8_4 h => ?_)
 refine xC0 h (big_spec_l4Once ·) rfl (fun c9_5 h => ?_)
 exact xPk rfl <| xAs rfl <| oNl <| eJ h rfl
 exact wSk rfl <| wSk rfl <| wSk rfl <| xPk rfl <| xAs rfl <| oNl <| eJ h rfl
 refine cRt ?_
 cases h
 exact eR rfl rfl rfl rfl
abbrev B_spec_l2Shape (p : Int → Int → (List UInt8) → (List S_impl_Term) → Option (Bool)) : Prop := ∀ {t0_0 t0_1 : Int} {t0_2 : List UInt8} {t0_3 : List S_impl_Term} {r : Bool}, p t0_0 t0_1 t0_2 t0_3 = some r → Big Try.prog τ An (.fn 233 [.one (.ag [.int .i64 t0_0, .int .i64 t0_1, .str t0_2, .sl (t0_3.map rS_impl_Term)])] [] (.one (.c (.bool r))) none [] none)
def p_spec_l2Shape (n : Nat) (t0_0 : Int) (t0_1 : Int) (t0_2 : List UInt8) (t0_3 : List S_impl_Term) : Option (Bool) :=
  bif decide (t0_0 = (1 : Int)) then ((p_spec_l1In n t0_1 ((-1000000000000) : Int) (1000000000000 : Int)).bind fun c9_3 => bif c9_3 then bif decide (t0_2 = ([] : List UInt8)) then some (decide ((t0_3.length : Int) = (0 : Int))) else some false else some false).bind fun v2_2 => some v2_2 else bif decide (t0_0 = (2 : Int)) then ((p_spec_AtomOk n t0_2).bind fun c25_8 => bif c25_8 then bif decide (t0_1 = (0 : Int)) then some (decide ((t0_3.length : Int) = (0 : Int))) else some false else some false).bind fun v2_7 => some v2_7 else bif decide (t0_0 = (3 : Int)) then ((p_spec_l1In n t0_1 (0 : Int) (1000000 : Int)).bind fun c41_13 => bif c41_13 then bif decide (t0_2 = ([] : List UInt8)) then some (decide ((t0_3.length : Int) = (0 : Int))) else some false else some false).bind fun v2_12 => some v2_12 else bif decide (t0_0 = (4 : Int)) then (bif decide (t0_1 = (0 : Int)) then bif decide (t0_2 = ([] : List UInt8)) then some (decide ((t0_3.length : Int) ≤ (20 : Int))) else some false else some false).bind fun v2_17 => some v2_17 else bif decide (t0_0 = (5 : Int)) then (bif decide (t0_1 = (0 : Int)) then bif decide (t0_2 = ([] : List UInt8)) then some (decide ((t0_3.length : Int) ≤ (60 : Int))) else some false else some false).bind fun v2_21 => some v2_21 else some false
theorem big_spec_l2Shape {n : Nat} : B_spec_l2Shape (p_spec_l2Shape n) := by
 intro t0_0 t0_1 t0_2 t0_3 r h
 unfold p_spec_l2Shape at h
 refine bF Try.func233 rfl rfl <| cRs <| xBx rfl <| xAs rfl <| oNl <| cSq <| cRs <| xFd rfl <| xLd rfl <| oNl <| cBk <| cRs <| xEq rfl <| xAs rfl ?_
 refine oNl <| cIf h rfl (fun q1 h => ?_) (fun q1 h => ?_)
 refine cRs <| oJn h [(2, 2), (7, 20)] [] (fun v2_2 => (.n, [(2, Bo v2_2)], [])) (fun _ h => ?_) (fun v2_2 h => ?_)
 refine xFd rfl <| xLd rfl <| xC0 h (big_spec_l1In ·) rfl (fun c9_3 h => ?_)
 refine xMv rfl <| oIf 10 h rfl (fun q4 h => ?_) (fun q4 h => ?_)
 refine xFd rfl <| xLd rfl <| xEs rfl <| xPk rfl <| xMv rfl <| oIf 15 h rfl (fun q5 h => ?_) (fun q5 h => ?_)
 exact xFd rfl <| xLd rfl <| xLn rfl <| xEq rfl <| xPk rfl <| xAs rfl <| oNl <| eJ h rfl
 exact wSk rfl <| wSk rfl <| wSk rfl <| wSk rfl <| xPk rfl <| xAs rfl <| oNl <| eJ h rfl
 exact wSk rfl <| wSk rfl <| wSk rfl <| xPk rfl <| xMv rfl <| wSk rfl <| wSk rfl <| wSk rfl <| wSk rfl <| xPk rfl <| xAs rfl <| oNl <| eJ h rfl
 refine cRt ?_
 cases h
 exact eR rfl rfl rfl rfl
 refine cRs <| xEq rfl <| xAs rfl <| oNl <| cIf h rfl (fun q6 h => ?_) (fun q6 h => ?_)
 refine cRs <| oJn h [(2, 2), (23, 36)] [] (fun v2_7 => (.n, [(2, Bo v2_7)], [])) (fun _ h => ?_) (fun v2_7 h => ?_)
 refine xFd rfl <| xLd rfl <| xC0 h (big_spec_AtomOk ·) rfl (fun c25_8 h => ?_)
 refine xMv rfl <| oIf 26 h rfl (fun q9 h => ?_) (fun q9 h => ?_)
 refine xFd rfl <| xLd rfl <| xEq rfl <| xPk rfl <| xMv rfl <| oIf 31 h rfl (fun q10 h => ?_) (fun q10 h => ?_)
 exact xFd rfl <| xLd rfl <| xLn rfl <| xEq rfl <| xPk rfl <| xAs rfl <| oNl <| eJ h rfl
 exact wSk rfl <| wSk rfl <| wSk rfl <| wSk rfl <| xPk rfl <| xAs rfl <| oNl <| eJ h rfl
 exact wSk rfl <| wSk rfl <| wSk rfl <| xPk rfl <| xMv rfl <| wSk rfl <| wSk rfl <| wSk rfl <| wSk rfl <| xPk rfl <| xAs rfl <| oNl <| eJ h rfl
 refine cRt ?_
 cases h
 exact eR rfl rfl rfl rfl
 refine cRs <| xEq rfl <| xAs rfl <| oNl <| cIf h rfl (fun q11 h => ?_) (fun q11 h => ?_)
 refine cRs <| oJn h [(2, 2), (39, 52)] [] (fun v2_12 => (.n, [(2, Bo v2_12)], [])) (fun _ h => ?_) (fun v2_12 h => ?_)
 refine xFd rfl <| xLd rfl <| xC0 h (big_spec_l1In ·) rfl (fun c41_13 h => ?_)
 refine xMv rfl <| oIf 42 h rfl (fun q14 h => ?_) (fun q14 h => ?_)
 refine xFd rfl <| xLd rfl <| xEs rfl <| xPk rfl <| xMv rfl <| oIf 47 h rfl (fun q15 h => ?_) (fun q15 h => ?_)
 exact xFd rfl <| xLd rfl <| xLn rfl <| xEq rfl <| xPk rfl <| xAs rfl <| oNl <| eJ h rfl
 exact wSk rfl <| wSk rfl <| wSk rfl <| wSk rfl <| xPk rfl <| xAs rfl <| oNl <| eJ h rfl
 exact wSk rfl <| wSk rfl <| wSk rfl <| xPk rfl <| xMv rfl <| wSk rfl <| wSk rfl <| wSk rfl <| wSk rfl <| xPk rfl <| xAs rfl <| oNl <| eJ h rfl
 refine cRt ?_
 cases h
 exact eR rfl rfl rfl rfl
 refine cRs <| xEq rfl <| xAs rfl <| oNl <| cIf h rfl (fun q16 h => ?_) (fun q16 h => ?_)
 refine cRs <| oJn h [(2, 2), (55, 68)] [] (fun v2_17 => (.n, [(2, Bo v2_17)], [])) (fun _ h => ?_) (fun v2_17 h => ?_)
 refine xFd rfl <| xLd rfl <| xEq rfl <| xMv rfl <| oIf 58 h rfl (fun q18 h => ?_) (fun q18 h => ?_)
 refine xFd rfl <| xLd rfl <| xEs rfl <| xPk rfl <| xMv rfl <| oIf 63 h rfl (fun q19 h => ?_) (fun q19 h => ?_)
 exact xFd rfl <| xLd rfl <| xLn rfl <| xLe rfl <| xPk rfl <| xAs rfl <| oNl <| eJ h rfl
 exact wSk rfl <| wSk rfl <| wSk rfl <| wSk rfl <| xPk rfl <| xAs rfl <| oNl <| eJ h rfl
 exact wSk rfl <| wSk rfl <| wSk rfl <| xPk rfl <| xMv rfl <| wSk rfl <| wSk rfl <| wSk rfl <| wSk rfl <| xPk rfl <| xAs rfl <| oNl <| eJ h rfl
 refine cRt ?_
 cases h
 exact eR rfl rfl rfl rfl
 refine cRs <| xEq rfl <| xAs rfl <| oNl <| cIf h rfl (fun q20 h => ?_) (fun q20 h => ?_)
 refine cRs <| oJn h [(2, 2), (71, 84)] [] (fun v2_21 => (.n, [(2, Bo v2_21)], [])) (fun _ h => ?_) (fun v2_21 h => ?_)
 refine xFd rfl <| xLd rfl <| xEq rfl <| xMv rfl <| oIf 74 h rfl (fun q22 h => ?_) (fun q22 h => ?_)
 refine xFd rfl <| xLd rfl <| xEs rfl <| xPk rfl <| xMv rfl <| oIf 79 h rfl (fun q23 h => ?_) (fun q23 h => ?_)
 exact xFd rfl <| xLd rfl <| xLn rfl <| xLe rfl <| xPk rfl <| xAs rfl <| oNl <| eJ h rfl
 exact wSk rfl <| wSk rfl <| wSk rfl <| wSk rfl <| xPk rfl <| xAs rfl <| oNl <| eJ h rfl
 exact wSk rfl <| wSk rfl <| wSk rfl <| xPk rfl <| xMv rfl <| wSk rfl <| wSk rfl <| wSk rfl <| wSk rfl <| xPk rfl <| xAs rfl <| oNl <| eJ h rfl
 refine cRt ?_
 cases h
 exact eR rfl rfl rfl rfl
 refine cSk <| cRs <| xAs rfl <| oNl <| cRt ?_
 cases h
 exact eR rfl rfl rfl rfl
abbrev Y_spec_l2Look : Type := Int → Int → (List UInt8) → (List S_impl_Term) → Int → Int → Option (Int)
abbrev B_spec_l2Look (p : Y_spec_l2Look) : Prop := ∀ {t0_0 t0_1 : Int} {t0_2 : List UInt8} {t0_3 : List S_impl_Term} {t1_0 t2_0 : Int} {r : Int}, p t0_0 t0_1 t0_2 t0_3 t1_0 t2_0 = some r → Big Try.prog τ An (.fn 185 [.one (.ag [.int .i64 t0_0, .int .i64 t0_1, .str t0_2, .sl (t0_3.map rS_impl_Term)]), .one (.c (.int .i64 t1_0)), .one (.c (.int .i64 t2_0))] [] (.one (.c (.int .i64 r))) none [] none)
end Go.Own
