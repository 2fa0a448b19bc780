/- Each function on plain data, and its walk. No conditions. -/
import Derived.Test.YticdjfieofjcaaaW8A
set_option linter.unusedVariables false
set_option linter.unusedSimpArgs false
set_option linter.unnecessarySimpa false
namespace Go.Own
open Go Go.Proofs
def rI_i64 (a : Int) : List T := [.int .i64 a]
theorem rI_i64_eq (a : Int) : rI_i64 a = [.int .i64 a] := rfl
def rI_u8 (a : Int) : List T := [.int .u8 a]
theorem rI_u8_eq (a : Int) : rI_u8 a = [.int .u8 a] := rfl
structure S_laws_Ins where
  f0 : Int
  f1 : Int
  f2 : List UInt8
  f3 : Int
  deriving DecidableEq
def rS_laws_Ins (a : S_laws_Ins) : List T := [.int .i64 a.f0, .int .i64 a.f1, .str a.f2, .int .i64 a.f3]
theorem rS_laws_Ins_eq (a : S_laws_Ins) : rS_laws_Ins a = [.int .i64 a.f0, .int .i64 a.f1, .str a.f2, .int .i64 a.f3] := rfl
structure S_laws_Fn where
  f0 : List UInt8
  f1 : Int
  f2 : Int
  f3 : List S_laws_Ins
  deriving DecidableEq
def rS_laws_Fn (a : S_laws_Fn) : List T := [.str a.f0, .int .i64 a.f1, .int .i64 a.f2, .sl (a.f3.map rS_laws_Ins)]
theorem rS_laws_Fn_eq (a : S_laws_Fn) : rS_laws_Fn a = [.str a.f0, .int .i64 a.f1, .int .i64 a.f2, .sl (a.f3.map rS_laws_Ins)] := rfl
inductive S_laws_Pat where
  | mk (f0 : Int) (f1 : Int) (f2 : List UInt8) (f3 : List S_laws_Pat)
def S_laws_Pat.f0 : S_laws_Pat → Int
  | .mk a _ _ _ => a
def S_laws_Pat.f1 : S_laws_Pat → Int
  | .mk _ a _ _ => a
def S_laws_Pat.f2 : S_laws_Pat → List UInt8
  | .mk _ _ a _ => a
def S_laws_Pat.f3 : S_laws_Pat → List S_laws_Pat
  | .mk _ _ _ a => a
mutual
def rS_laws_Pat : S_laws_Pat → List T
  | .mk a0 a1 a2 a3 => [.int .i64 a0, .int .i64 a1, .str a2, .sl (rS_laws_Pats a3)]
def rS_laws_Pats : List S_laws_Pat → List (List T)
  | [] => []
  | x :: r => rS_laws_Pat x :: rS_laws_Pats r
end
theorem rS_laws_Pats_map : ∀ l : List S_laws_Pat, rS_laws_Pats l = l.map rS_laws_Pat
  | [] => by simp [rS_laws_Pats]
  | x :: r => by simp [rS_laws_Pats, rS_laws_Pats_map r]
theorem rS_laws_Pat_eq (a : S_laws_Pat) : rS_laws_Pat a = [.int .i64 a.f0, .int .i64 a.f1, .str a.f2, .sl (a.f3.map rS_laws_Pat)] := by
  cases a
  simp [rS_laws_Pat, rS_laws_Pats_map, S_laws_Pat.f0, S_laws_Pat.f1, S_laws_Pat.f2, S_laws_Pat.f3]
theorem rS_laws_Pat_mk (a0 : Int) (a1 : Int) (a2 : List UInt8) (a3 : List S_laws_Pat) : rS_laws_Pat (.mk a0 a1 a2 a3) = [.int .i64 a0, .int .i64 a1, .str a2, .sl (a3.map rS_laws_Pat)] := by simp [rS_laws_Pat, rS_laws_Pats_map]
structure S_laws_Entry where
  f0 : List UInt8
  f1 : Int
  f2 : List S_laws_Fn
  f3 : List S_laws_Pat
  f4 : Bool
  f5 : List S_laws_Fn
  f6 : List S_laws_Pat
def rS_laws_Entry (a : S_laws_Entry) : List T := [.str a.f0, .int .i64 a.f1, .sl (a.f2.map rS_laws_Fn), .sl (a.f3.map rS_laws_Pat), .bool a.f4, .sl (a.f5.map rS_laws_Fn), .sl (a.f6.map rS_laws_Pat)]
theorem rS_laws_Entry_eq (a : S_laws_Entry) : rS_laws_Entry a = [.str a.f0, .int .i64 a.f1, .sl (a.f2.map rS_laws_Fn), .sl (a.f3.map rS_laws_Pat), .bool a.f4, .sl (a.f5.map rS_laws_Fn), .sl (a.f6.map rS_laws_Pat)] := rfl
structure S_impl_Fn where
  f0 : List UInt8
  f1 : Int
  f2 : Int
  f3 : List S_laws_Ins
  deriving DecidableEq
def rS_impl_Fn (a : S_impl_Fn) : List T := [.str a.f0, .int .i64 a.f1, .int .i64 a.f2, .sl (a.f3.map rS_laws_Ins)]
theorem rS_impl_Fn_eq (a : S_impl_Fn) : rS_impl_Fn a = [.str a.f0, .int .i64 a.f1, .int .i64 a.f2, .sl (a.f3.map rS_laws_Ins)] := rfl
inductive S_impl_Pat where
  | mk (f0 : Int) (f1 : Int) (f2 : List UInt8) (f3 : List S_impl_Pat)
def S_impl_Pat.f0 : S_impl_Pat → Int
  | .mk a _ _ _ => a
def S_impl_Pat.f1 : S_impl_Pat → Int
  | .mk _ a _ _ => a
def S_impl_Pat.f2 : S_impl_Pat → List UInt8
  | .mk _ _ a _ => a
def S_impl_Pat.f3 : S_impl_Pat → List S_impl_Pat
  | .mk _ _ _ a => a
mutual
def rS_impl_Pat : S_impl_Pat → List T
  | .mk a0 a1 a2 a3 => [.int .i64 a0, .int .i64 a1, .str a2, .sl (rS_impl_Pats a3)]
def rS_impl_Pats : List S_impl_Pat → List (List T)
  | [] => []
  | x :: r => rS_impl_Pat x :: rS_impl_Pats r
end
theorem rS_impl_Pats_map : ∀ l : List S_impl_Pat, rS_impl_Pats l = l.map rS_impl_Pat
  | [] => by simp [rS_impl_Pats]
  | x :: r => by simp [rS_impl_Pats, rS_impl_Pats_map r]
theorem rS_impl_Pat_eq (a : S_impl_Pat) : rS_impl_Pat a = [.int .i64 a.f0, .int .i64 a.f1, .str a.f2, .sl (a.f3.map rS_impl_Pat)] := by
  cases a
  simp [rS_impl_Pat, rS_impl_Pats_map, S_impl_Pat.f0, S_impl_Pat.f1, S_impl_Pat.f2, S_impl_Pat.f3]
theorem rS_impl_Pat_mk (a0 : Int) (a1 : Int) (a2 : List UInt8) (a3 : List S_impl_Pat) : rS_impl_Pat (.mk a0 a1 a2 a3) = [.int .i64 a0, .int .i64 a1, .str a2, .sl (a3.map rS_impl_Pat)] := by simp [rS_impl_Pat, rS_impl_Pats_map]
structure S_impl_Entry where
  f0 : List UInt8
  f1 : Int
  f2 : List S_impl_Fn
  f3 : List S_impl_Pat
  f4 : Bool
  f5 : List S_impl_Fn
  f6 : List S_impl_Pat
def rS_impl_Entry (a : S_impl_Entry) : List T := [.str a.f0, .int .i64 a.f1, .sl (a.f2.map rS_impl_Fn), .sl (a.f3.map rS_impl_Pat), .bool a.f4, .sl (a.f5.map rS_impl_Fn), .sl (a.f6.map rS_impl_Pat)]
theorem rS_impl_Entry_eq (a : S_impl_Entry) : rS_impl_Entry a = [.str a.f0, .int .i64 a.f1, .sl (a.f2.map rS_impl_Fn), .sl (a.f3.map rS_impl_Pat), .bool a.f4, .sl (a.f5.map rS_impl_Fn), .sl (a.f6.map rS_impl_Pat)] := rfl
abbrev B_laws_szIns (p : Int → Int → (List UInt8) → Int → Int → Option (Int)) : Prop := ∀ {t0_0 t0_1 : Int} {t0_2 : List UInt8} {t0_3 t1_0 : Int} {r : Int}, p t0_0 t0_1 t0_2 t0_3 t1_0 = some r → Big Try.prog τ An (.fn 149 [.one (.ag [.int .i64 t0_0, .int .i64 t0_1, .str t0_2, .int .i64 t0_3]), .one (.c (.int .i64 t1_0))] [] (.one (.c (.int .i64 r))) none [] none)
def p_laws_szIns (n : Nat) (t0_0 : Int) (t0_1 : Int) (t0_2 : List UInt8) (t0_3 : Int) (t1_0 : Int) : Option (Int) :=
  bif decide ((IntKind.wrap .i64 (t1_0 - (t0_2.length : Int))) < (0 : Int)) then some ((-1) : Int) else some (IntKind.wrap .i64 (t1_0 - (t0_2.length : Int)))
theorem big_laws_szIns {n : Nat} : B_laws_szIns (p_laws_szIns n) := by
 intro t0_0 t0_1 t0_2 t0_3 t1_0 r h
 unfold p_laws_szIns at h
 refine bF Try.func149 rfl rfl ?_
 refine cRs ?_
 refine xBx rfl ?_
 refine xAs rfl ?_
 refine oRs ?_
 refine xMv rfl ?_
 refine xFd rfl ?_
 refine xLd rfl ?_
 refine xLs rfl ?_
 refine xSub rfl ?_
 refine xAs rfl ?_
 refine oNl ?_
 refine cSq ?_
 refine cRs ?_
 refine xMv rfl ?_
 refine xLt rfl ?_
 refine oNl ?_
 refine cIf h rfl (fun q1 h => ?_) (fun q1 h => ?_)
 refine cRs ?_
 refine xAs rfl ?_
 refine oNl ?_
 refine cRt ?_
 cases h
 exact eR rfl rfl rfl rfl
 refine cSk ?_
 refine cRs ?_
 refine xMv rfl ?_
 refine xAs rfl ?_
 refine oNl ?_
 refine cRt ?_
 cases h
 exact eR rfl rfl rfl rfl
abbrev B_laws_szInsS (p : (List S_laws_Ins) → Int → Option (Int)) : Prop := ∀ {t0_0 : List S_laws_Ins} {t1_0 : Int} {r : Int}, p t0_0 t1_0 = some r → Big Try.prog τ An (.fn 146 [.one (.c (.sl (t0_0.map rS_laws_Ins))), .one (.c (.int .i64 t1_0))] [] (.one (.c (.int .i64 r))) none [] none)
def p_laws_szInsS_b1 (n : Nat) (t0_0 : List S_laws_Ins) : (Int × Int) → Option ((Int × Int) ⊕ ((Int) ⊕ (Int × Int × Bool)))
  | (v1_2, v5_3) => bif decide (v5_3 < (t0_0.length : Int)) then (ix t0_0 v5_3).bind fun e20_9 => (p_laws_szIns n e20_9.f0 e20_9.f1 e20_9.f2 e20_9.f3 v1_2).bind fun c23_10 => bif decide (c23_10 < (0 : Int)) then some (.inr (.inl ((-1) : Int))) else some (.inl (c23_10, (IntKind.wrap .i64 (v5_3 + (1 : Int))))) else some (.inr (.inr (v1_2, v5_3, false)))
def p_laws_szInsS (n : Nat) (t0_0 : List S_laws_Ins) (t1_0 : Int) : Option (Int) :=
  bif decide ((IntKind.wrap .i64 (t1_0 - (t0_0.length : Int))) < (0 : Int)) then some ((-1) : Int) else (loopN (p_laws_szInsS_b1 n t0_0) n ((IntKind.wrap .i64 (t1_0 - (t0_0.length : Int))), (0 : Int))).bind fun q => (match q with | .inl v4_4 => some v4_4 | .inr (v1_5, v5_6, v15_7) => some v1_5)
theorem big_laws_szInsS {n : Nat} : B_laws_szInsS (p_laws_szInsS n) := by
 intro t0_0 t1_0 r h
 unfold p_laws_szInsS at h
 refine bF Try.func146 rfl rfl ?_
 refine cRs ?_
 refine xAs rfl ?_
 refine oRs ?_
 refine xMv rfl ?_
 refine xMv rfl ?_
 refine xLn rfl ?_
 refine xSub rfl ?_
 refine xAs rfl ?_
 refine oNl ?_
 refine cSq ?_
 refine cRs ?_
 refine xMv rfl ?_
 refine xLt rfl ?_
 refine oNl ?_
 refine cIf h rfl (fun q1 h => ?_) (fun q1 h => ?_)
 refine cRs ?_
 refine xAs rfl ?_
 refine oNl ?_
 refine cRt ?_
 cases h
 exact eR rfl rfl rfl rfl
 refine cSk ?_
 refine cSq ?_
 refine cRs ?_
 refine xAs rfl ?_
 refine oNl ?_
 refine cLp h [(1, 1), (4, 5), (12, 25)] [] (fun (v1_2, v5_3) => ([(1, I64 v1_2), (5, I64 v5_3)], [])) (fun q => match q with | .inl v4_4 => (.r, [(4, I64 v4_4)], []) | .inr (v1_5, v5_6, v15_7) => (.e 0, [(1, I64 v1_5), (5, I64 v5_6), (15, Bo v15_7)], [])) rfl (fun st _ h => ?_) (fun q h => ?_)
 obtain ⟨v1_2, v5_3⟩ := st
 unfold p_laws_szInsS_b1 at h
 refine cSq ?_
 refine cRs ?_
 refine xMv rfl ?_
 refine xMv rfl ?_
 refine xLn rfl ?_
 refine xLt rfl ?_
 refine oNl ?_
 refine cIf h rfl (fun q8 h => ?_) (fun q8 h => ?_)
 refine cSk ?_
 refine cSq ?_
 refine cBk ?_
 refine cRs ?_
 refine xMv rfl ?_
 refine xMv rfl ?_
 refine xIx h rS_laws_Ins_eq rfl (fun e20_9 h => ?_)
 refine xLd rfl ?_
 refine xMv rfl ?_
 refine xC0 h (big_laws_szIns ·) rfl (fun c23_10 h => ?_)
 refine xAs rfl ?_
 refine oRs ?_
 refine xMv rfl ?_
 refine xLt rfl ?_
 refine oNl ?_
 refine cIf h rfl (fun q11 h => ?_) (fun q11 h => ?_)
 refine cRs ?_
 refine xAs rfl ?_
 refine oNl ?_
 refine cRt ?_
 exact eXr h rfl
 refine cSk ?_
 refine cRg ?_
 refine xMv rfl ?_
 refine xAdd rfl ?_
 refine xAs rfl ?_
 refine oNl ?_
 exact eL h rfl
 refine cEx ?_
 exact eX h rfl
 rcases q with v4_4 | ⟨v1_5, v5_6, v15_7⟩
 cases h
 exact eR rfl rfl rfl rfl
 refine cRs ?_
 refine xMv rfl ?_
 refine xAs rfl ?_
 refine oNl ?_
 refine cRt ?_
 cases h
 exact eR rfl rfl rfl rfl
abbrev B_laws_szFn (p : (List UInt8) → Int → Int → (List S_laws_Ins) → Int → Option (Int)) : Prop := ∀ {t0_0 : List UInt8} {t0_1 t0_2 : Int} {t0_3 : List S_laws_Ins} {t1_0 : Int} {r : Int}, p t0_0 t0_1 t0_2 t0_3 t1_0 = some r → Big Try.prog τ An (.fn 140 [.one (.ag [.str t0_0, .int .i64 t0_1, .int .i64 t0_2, .sl (t0_3.map rS_laws_Ins)]), .one (.c (.int .i64 t1_0))] [] (.one (.c (.int .i64 r))) none [] none)
def p_laws_szFn (n : Nat) (t0_0 : List UInt8) (t0_1 : Int) (t0_2 : Int) (t0_3 : List S_laws_Ins) (t1_0 : Int) : Option (Int) :=
  bif decide ((IntKind.wrap .i64 (t1_0 - (t0_0.length : Int))) < (0 : Int)) then some ((-1) : Int) else (p_laws_szInsS n t0_3 (IntKind.wrap .i64 (t1_0 - (t0_0.length : Int)))).bind fun c15_2 => bif decide (c15_2 < (0 : Int)) then some ((-1) : Int) else some c15_2
theorem big_laws_szFn {n : Nat} : B_laws_szFn (p_laws_szFn n) := by
 intro t0_0 t0_1 t0_2 t0_3 t1_0 r h
 unfold p_laws_szFn at h
 refine bF Try.func140 rfl rfl ?_
 refine cRs ?_
 refine xBx rfl ?_
 refine xAs rfl ?_
 refine oRs ?_
 refine xMv rfl ?_
 refine xFd rfl ?_
 refine xLd rfl ?_
 refine xLs rfl ?_
 refine xSub rfl ?_
 refine xAs rfl ?_
 refine oNl ?_
 refine cSq ?_
 refine cRs ?_
 refine xMv rfl ?_
 refine xLt rfl ?_
 refine oNl ?_
 refine cIf h rfl (fun q1 h => ?_) (fun q1 h => ?_)
 refine cRs ?_
 refine xAs rfl ?_
 refine oNl ?_
 refine cRt ?_
 cases h
 exact eR rfl rfl rfl rfl
 refine cSk ?_
 refine cRs ?_
 refine xFd rfl ?_
 refine xLd rfl ?_
 refine xMv rfl ?_
 refine xC0 h (big_laws_szInsS ·) rfl (fun c15_2 h => ?_)
 refine xAs rfl ?_
 refine oNl ?_
 refine cSq ?_
 refine cRs ?_
 refine xMv rfl ?_
 refine xLt rfl ?_
 refine oNl ?_
 refine cIf h rfl (fun q3 h => ?_) (fun q3 h => ?_)
 refine cRs ?_
 refine xAs rfl ?_
 refine oNl ?_
 refine cRt ?_
 cases h
 exact eR rfl rfl rfl rfl
 refine cSk ?_
 refine cRs ?_
 refine xMv rfl ?_
 refine xAs rfl ?_
 refine oNl ?_
 refine cRt ?_
 cases h
 exact eR rfl rfl rfl rfl
abbrev B_laws_szFnS (p : (List S_laws_Fn) → Int → Option (Int)) : Prop := ∀ {t0_0 : List S_laws_Fn} {t1_0 : Int} {r : Int}, p t0_0 t1_0 = some r → Big Try.prog τ An (.fn 130 [.one (.c (.sl (t0_0.map rS_laws_Fn))), .one (.c (.int .i64 t1_0))] [] (.one (.c (.int .i64 r))) none [] none)
def p_laws_szFnS_b1 (n : Nat) (t0_0 : List S_laws_Fn) : (Int × Int) → Option ((Int × Int) ⊕ ((Int) ⊕ (Int × Int × Bool)))
  | (v1_2, v5_3) => bif decide (v5_3 < (t0_0.length : Int)) then (ix t0_0 v5_3).bind fun e20_9 => (p_laws_szFn n e20_9.f0 e20_9.f1 e20_9.f2 e20_9.f3 v1_2).bind fun c23_10 => bif decide (c23_10 < (0 : Int)) then some (.inr (.inl ((-1) : Int))) else some (.inl (c23_10, (IntKind.wrap .i64 (v5_3 + (1 : Int))))) else some (.inr (.inr (v1_2, v5_3, false)))
def p_laws_szFnS (n : Nat) (t0_0 : List S_laws_Fn) (t1_0 : Int) : Option (Int) :=
  bif decide ((IntKind.wrap .i64 (t1_0 - (t0_0.length : Int))) < (0 : Int)) then some ((-1) : Int) else (loopN (p_laws_szFnS_b1 n t0_0) n ((IntKind.wrap .i64 (t1_0 - (t0_0.length : Int))), (0 : Int))).bind fun q => (match q with | .inl v4_4 => some v4_4 | .inr (v1_5, v5_6, v15_7) => some v1_5)
theorem big_laws_szFnS {n : Nat} : B_laws_szFnS (p_laws_szFnS n) := by
 intro t0_0 t1_0 r h
 unfold p_laws_szFnS at h
 refine bF Try.func130 rfl rfl ?_
 refine cRs ?_
 refine xAs rfl ?_
 refine oRs ?_
 refine xMv rfl ?_
 refine xMv rfl ?_
 refine xLn rfl ?_
 refine xSub rfl ?_
 refine xAs rfl ?_
 refine oNl ?_
 refine cSq ?_
 refine cRs ?_
 refine xMv rfl ?_
 refine xLt rfl ?_
 refine oNl ?_
 refine cIf h rfl (fun q1 h => ?_) (fun q1 h => ?_)
 refine cRs ?_
 refine xAs rfl ?_
 refine oNl ?_
 refine cRt ?_
 cases h
 exact eR rfl rfl rfl rfl
 refine cSk ?_
 refine cSq ?_
 refine cRs ?_
 refine xAs rfl ?_
 refine oNl ?_
 refine cLp h [(1, 1), (4, 5), (12, 25)] [] (fun (v1_2, v5_3) => ([(1, I64 v1_2), (5, I64 v5_3)], [])) (fun q => match q with | .inl v4_4 => (.r, [(4, I64 v4_4)], []) | .inr (v1_5, v5_6, v15_7) => (.e 0, [(1, I64 v1_5), (5, I64 v5_6), (15, Bo v15_7)], [])) rfl (fun st _ h => ?_) (fun q h => ?_)
 obtain ⟨v1_2, v5_3⟩ := st
 unfold p_laws_szFnS_b1 at h
 refine cSq ?_
 refine cRs ?_
 refine xMv rfl ?_
 refine xMv rfl ?_
 refine xLn rfl ?_
 refine xLt rfl ?_
 refine oNl ?_
 refine cIf h rfl (fun q8 h => ?_) (fun q8 h => ?_)
 refine cSk ?_
 refine cSq ?_
 refine cBk ?_
 refine cRs ?_
 refine xMv rfl ?_
 refine xMv rfl ?_
 refine xIx h rS_laws_Fn_eq rfl (fun e20_9 h => ?_)
 refine xLd rfl ?_
 refine xMv rfl ?_
 refine xC0 h (big_laws_szFn ·) rfl (fun c23_10 h => ?_)
 refine xAs rfl ?_
 refine oRs ?_
 refine xMv rfl ?_
 refine xLt rfl ?_
 refine oNl ?_
 refine cIf h rfl (fun q11 h => ?_) (fun q11 h => ?_)
 refine cRs ?_
 refine xAs rfl ?_
 refine oNl ?_
 refine cRt ?_
 exact eXr h rfl
 refine cSk ?_
 refine cRg ?_
 refine xMv rfl ?_
 refine xAdd rfl ?_
 refine xAs rfl ?_
 refine oNl ?_
 exact eL h rfl
 refine cEx ?_
 exact eX h rfl
 rcases q with v4_4 | ⟨v1_5, v5_6, v15_7⟩
 cases h
 exact eR rfl rfl rfl rfl
 refine cRs ?_
 refine xMv rfl ?_
 refine xAs rfl ?_
 refine oNl ?_
 refine cRt ?_
 cases h
 exact eR rfl rfl rfl rfl
abbrev B_laws_szPat (p : Int → Int → (List UInt8) → (List S_laws_Pat) → Int → Option (Int)) : Prop := ∀ {t0_0 t0_1 : Int} {t0_2 : List UInt8} {t0_3 : List S_laws_Pat} {t1_0 : Int} {r : Int}, p t0_0 t0_1 t0_2 t0_3 t1_0 = some r → Big Try.prog τ An (.fn 141 [.one (.ag [.int .i64 t0_0, .int .i64 t0_1, .str t0_2, .sl (t0_3.map rS_laws_Pat)]), .one (.c (.int .i64 t1_0))] [] (.one (.c (.int .i64 r))) none [] none)
abbrev B_laws_szPatS (p : (List S_laws_Pat) → Int → Option (Int)) : Prop := ∀ {t0_0 : List S_laws_Pat} {t1_0 : Int} {r : Int}, p t0_0 t1_0 = some r → Big Try.prog τ An (.fn 131 [.one (.c (.sl (t0_0.map rS_laws_Pat))), .one (.c (.int .i64 t1_0))] [] (.one (.c (.int .i64 r))) none [] none)
def s_laws_szPat (n : Nat) (r_laws_szPatS : (List S_laws_Pat) → Int → Option (Int)) (r_laws_szPat : Int → Int → (List UInt8) → (List S_laws_Pat) → Int → Option (Int)) (t0_0 : Int) (t0_1 : Int) (t0_2 : List UInt8) (t0_3 : List S_laws_Pat) (t1_0 : Int) : Option (Int) :=
  bif decide ((IntKind.wrap .i64 (t1_0 - (t0_2.length : Int))) < (0 : Int)) then some ((-1) : Int) else (r_laws_szPatS t0_3 (IntKind.wrap .i64 (t1_0 - (t0_2.length : Int)))).bind fun c15_2 => bif decide (c15_2 < (0 : Int)) then some ((-1) : Int) else some c15_2
theorem step_laws_szPat {n : Nat} {r_laws_szPatS : (List S_laws_Pat) → Int → Option (Int)} (ih_laws_szPatS : B_laws_szPatS r_laws_szPatS) {r_laws_szPat : Int → Int → (List UInt8) → (List S_laws_Pat) → Int → Option (Int)} (ih_laws_szPat : B_laws_szPat r_laws_szPat) : B_laws_szPat (s_laws_szPat n r_laws_szPatS r_laws_szPat) := by
 intro t0_0 t0_1 t0_2 t0_3 t1_0 r h
 unfold s_laws_szPat at h
 refine bF Try.func141 rfl rfl ?_
 refine cRs ?_
 refine xBx rfl ?_
 refine xAs rfl ?_
 refine oRs ?_
 refine xMv rfl ?_
 refine xFd rfl ?_
 refine xLd rfl ?_
 refine xLs rfl ?_
 refine xSub rfl ?_
 refine xAs rfl ?_
 refine oNl ?_
 refine cSq ?_
 refine cRs ?_
 refine xMv rfl ?_
 refine xLt rfl ?_
 refine oNl ?_
 refine cIf h rfl (fun q1 h => ?_) (fun q1 h => ?_)
 refine cRs ?_
 refine xAs rfl ?_
 refine oNl ?_
 refine cRt ?_
 cases h
 exact eR rfl rfl rfl rfl
 refine cSk ?_
 refine cRs ?_
 refine xFd rfl ?_
 refine xLd rfl ?_
 refine xMv rfl ?_
 refine xC0 h (ih_laws_szPatS ·) rfl (fun c15_2 h => ?_)
 refine xAs rfl ?_
 refine oNl ?_
 refine cSq ?_
 refine cRs ?_
 refine xMv rfl ?_
 refine xLt rfl ?_
 refine oNl ?_
 refine cIf h rfl (fun q3 h => ?_) (fun q3 h => ?_)
 refine cRs ?_
 refine xAs rfl ?_
 refine oNl ?_
 refine cRt ?_
 cases h
 exact eR rfl rfl rfl rfl
 refine cSk ?_
 refine cRs ?_
 refine xMv rfl ?_
 refine xAs rfl ?_
 refine oNl ?_
 refine cRt ?_
 cases h
 exact eR rfl rfl rfl rfl
def p_laws_szPatS_b1 (n : Nat) (r_laws_szPat : Int → Int → (List UInt8) → (List S_laws_Pat) → Int → Option (Int)) (t0_0 : List S_laws_Pat) : (Int × Int) → Option ((Int × Int) ⊕ ((Int) ⊕ (Int × Int × Bool)))
  | (v1_2, v5_3) => bif decide (v5_3 < (t0_0.length : Int)) then (ix t0_0 v5_3).bind fun e20_9 => (r_laws_szPat e20_9.f0 e20_9.f1 e20_9.f2 e20_9.f3 v1_2).bind fun c23_10 => bif decide (c23_10 < (0 : Int)) then some (.inr (.inl ((-1) : Int))) else some (.inl (c23_10, (IntKind.wrap .i64 (v5_3 + (1 : Int))))) else some (.inr (.inr (v1_2, v5_3, false)))
def s_laws_szPatS (n : Nat) (r_laws_szPatS : (List S_laws_Pat) → Int → Option (Int)) (r_laws_szPat : Int → Int → (List UInt8) → (List S_laws_Pat) → Int → Option (Int)) (t0_0 : List S_laws_Pat) (t1_0 : Int) : Option (Int) :=
  bif decide ((IntKind.wrap .i64 (t1_0 - (t0_0.length : Int))) < (0 : Int)) then some ((-1) : Int) else (loopN (p_laws_szPatS_b1 n r_laws_szPat t0_0) n ((IntKind.wrap .i64 (t1_0 - (t0_0.length : Int))), (0 : Int))).bind fun q => (match q with | .inl v4_4 => some v4_4 | .inr (v1_5, v5_6, v15_7) => some v1_5)
theorem step_laws_szPatS {n : Nat} {r_laws_szPatS : (List S_laws_Pat) → Int → Option (Int)} (ih_laws_szPatS : B_laws_szPatS r_laws_szPatS) {r_laws_szPat : Int → Int → (List UInt8) → (List S_laws_Pat) → Int → Option (Int)} (ih_laws_szPat : B_laws_szPat r_laws_szPat) : B_laws_szPatS (s_laws_szPatS n r_laws_szPatS r_laws_szPat) := by
 intro t0_0 t1_0 r h
 unfold s_laws_szPatS at h
 refine bF Try.func131 rfl rfl ?_
 refine cRs ?_
 refine xAs rfl ?_
 refine oRs ?_
 refine xMv rfl ?_
 refine xMv rfl ?_
 refine xLn rfl ?_
 refine xSub rfl ?_
 refine xAs rfl ?_
 refine oNl ?_
 refine cSq ?_
 refine cRs ?_
 refine xMv rfl ?_
 refine xLt rfl ?_
 refine oNl ?_
 refine cIf h rfl (fun q1 h => ?_) (fun q1 h => ?_)
 refine cRs ?_
 refine xAs rfl ?_
 refine oNl ?_
 refine cRt ?_
 cases h
 exact eR rfl rfl rfl rfl
 refine cSk ?_
 refine cSq ?_
 refine cRs ?_
 refine xAs rfl ?_
 refine oNl ?_
 refine cLp h [(1, 1), (4, 5), (12, 25)] [] (fun (v1_2, v5_3) => ([(1, I64 v1_2), (5, I64 v5_3)], [])) (fun q => match q with | .inl v4_4 => (.r, [(4, I64 v4_4)], []) | .inr (v1_5, v5_6, v15_7) => (.e 0, [(1, I64 v1_5), (5, I64 v5_6), (15, Bo v15_7)], [])) rfl (fun st _ h => ?_) (fun q h => ?_)
 obtain ⟨v1_2, v5_3⟩ := st
 unfold p_laws_szPatS_b1 at h
 refine cSq ?_
 refine cRs ?_
 refine xMv rfl ?_
 refine xMv rfl ?_
 refine xLn rfl ?_
 refine xLt rfl ?_
 refine oNl ?_
 refine cIf h rfl (fun q8 h => ?_) (fun q8 h => ?_)
 refine cSk ?_
 refine cSq ?_
 refine cBk ?_
 refine cRs ?_
 refine xMv rfl ?_
 refine xMv rfl ?_
 refine xIx h rS_laws_Pat_eq rfl (fun e20_9 h => ?_)
 refine xLd rfl ?_
 refine xMv rfl ?_
 refine xC0 h (ih_laws_szPat ·) rfl (fun c23_10 h => ?_)
 refine xAs rfl ?_
 refine oRs ?_
 refine xMv rfl ?_
 refine xLt rfl ?_
 refine oNl ?_
 refine cIf h rfl (fun q11 h => ?_) (fun q11 h => ?_)
 refine cRs ?_
 refine xAs rfl ?_
 refine oNl ?_
 refine cRt ?_
 exact eXr h rfl
 refine cSk ?_
 refine cRg ?_
 refine xMv rfl ?_
 refine xAdd rfl ?_
 refine xAs rfl ?_
 refine oNl ?_
 exact eL h rfl
 refine cEx ?_
 exact eX h rfl
 rcases q with v4_4 | ⟨v1_5, v5_6, v15_7⟩
 cases h
 exact eR rfl rfl rfl rfl
 refine cRs ?_
 refine xMv rfl ?_
 refine xAs rfl ?_
 refine oNl ?_
 refine cRt ?_
 cases h
 exact eR rfl rfl rfl rfl
def q_laws_szPatS : Nat → ((List S_laws_Pat) → Int → Option (Int)) × (Int → Int → (List UInt8) → (List S_laws_Pat) → Int → Option (Int))
  | 0 => ((fun _ _ => none), (fun _ _ _ _ _ => none))
  | n + 1 => (s_laws_szPatS n ((q_laws_szPatS n).1) ((q_laws_szPatS n).2), s_laws_szPat n ((q_laws_szPatS n).1) ((q_laws_szPatS n).2))
def p_laws_szPatS (n : Nat) : (List S_laws_Pat) → Int → Option (Int) := (q_laws_szPatS n).1
def p_laws_szPat (n : Nat) : Int → Int → (List UInt8) → (List S_laws_Pat) → Int → Option (Int) := (q_laws_szPatS n).2
theorem bigs_laws_szPatS (n : Nat) : B_laws_szPatS (p_laws_szPatS n) ∧ B_laws_szPat (p_laws_szPat n) := by
  induction n with
  | zero => exact ⟨(fun h => nomatch h), (fun h => nomatch h)⟩
  | succ n ih => exact ⟨step_laws_szPatS (n := n) (ih.1) (ih.2), step_laws_szPat (n := n) (ih.1) (ih.2)⟩
theorem big_laws_szPatS {n : Nat} : B_laws_szPatS (p_laws_szPatS n) := (bigs_laws_szPatS n).1
theorem big_laws_szPat {n : Nat} : B_laws_szPat (p_laws_szPat n) := (bigs_laws_szPatS n).2
theorem p_laws_szPatS_succ (n : Nat) : p_laws_szPatS (n + 1) = s_laws_szPatS n (p_laws_szPatS n) (p_laws_szPat n) := rfl
theorem p_laws_szPat_succ (n : Nat) : p_laws_szPat (n + 1) = s_laws_szPat n (p_laws_szPatS n) (p_laws_szPat n) := rfl
abbrev B_laws_szCode (p : (List S_laws_Fn) → (List S_laws_Pat) → Int → Option (Int)) : Prop := ∀ {t0_0 : List S_laws_Fn} {t0_1 : List S_laws_Pat} {t1_0 : Int} {r : Int}, p t0_0 t0_1 t1_0 = some r → Big Try.prog τ An (.fn 111 [.one (.ag [.sl (t0_0.map rS_laws_Fn), .sl (t0_1.map rS_laws_Pat)]), .one (.c (.int .i64 t1_0))] [] (.one (.c (.int .i64 r))) none [] none)
def p_laws_szCode (n : Nat) (t0_0 : List S_laws_Fn) (t0_1 : List S_laws_Pat) (t1_0 : Int) : Option (Int) :=
  (p_laws_szFnS n t0_0 t1_0).bind fun c8_1 => bif decide (c8_1 < (0 : Int)) then some ((-1) : Int) else (p_laws_szPatS n t0_1 c8_1).bind fun c14_3 => bif decide (c14_3 < (0 : Int)) then some ((-1) : Int) else some c14_3
theorem big_laws_szCode {n : Nat} : B_laws_szCode (p_laws_szCode n) := by
 intro t0_0 t0_1 t1_0 r h
 unfold p_laws_szCode at h
 refine bF Try.func111 rfl rfl ?_
 refine cRs ?_
 refine xBx rfl ?_
 refine xAs rfl ?_
 refine oRs ?_
 refine xFd rfl ?_
 refine xLd rfl ?_
 refine xMv rfl ?_
 refine xC0 h (big_laws_szFnS ·) rfl (fun c8_1 h => ?_)
 refine xAs rfl ?_
 refine oNl ?_
 refine cSq ?_
 refine cRs ?_
 refine xMv rfl ?_
 refine xLt rfl ?_
 refine oNl ?_
 refine cIf h rfl (fun q2 h => ?_) (fun q2 h => ?_)
 refine cRs ?_
 refine xAs rfl ?_
 refine oNl ?_
 refine cRt ?_
 cases h
 exact eR rfl rfl rfl rfl
 refine cSk ?_
 refine cRs ?_
 refine xFd rfl ?_
 refine xLd rfl ?_
 refine xMv rfl ?_
 refine xC0 h (big_laws_szPatS ·) rfl (fun c14_3 h => ?_)
 refine xAs rfl ?_
 refine oNl ?_
 refine cSq ?_
 refine cRs ?_
 refine xMv rfl ?_
 refine xLt rfl ?_
 refine oNl ?_
 refine cIf h rfl (fun q4 h => ?_) (fun q4 h => ?_)
 refine cRs ?_
 refine xAs rfl ?_
 refine oNl ?_
 refine cRt ?_
 cases h
 exact eR rfl rfl rfl rfl
 refine cSk ?_
 refine cRs ?_
 refine xMv rfl ?_
 refine xAs rfl ?_
 refine oNl ?_
 refine cRt ?_
 cases h
 exact eR rfl rfl rfl rfl
abbrev B_laws_szEntry (p : (List UInt8) → Int → (List S_laws_Fn) → (List S_laws_Pat) → Bool → (List S_laws_Fn) → (List S_laws_Pat) → Int → Option (Int)) : Prop := ∀ {t0_0 : List UInt8} {t0_1 : Int} {t0_2 : List S_laws_Fn} {t0_3 : List S_laws_Pat} {t0_4 : Bool} {t0_5 : List S_laws_Fn} {t0_6 : List S_laws_Pat} {t1_0 : Int} {r : Int}, p t0_0 t0_1 t0_2 t0_3 t0_4 t0_5 t0_6 t1_0 = some r → Big Try.prog τ An (.fn 80 [.one (.ag [.str t0_0, .int .i64 t0_1, .sl (t0_2.map rS_laws_Fn), .sl (t0_3.map rS_laws_Pat), .bool t0_4, .sl (t0_5.map rS_laws_Fn), .sl (t0_6.map rS_laws_Pat)]), .one (.c (.int .i64 t1_0))] [] (.one (.c (.int .i64 r))) none [] none)
def p_laws_szEntry (n : Nat) (t0_0 : List UInt8) (t0_1 : Int) (t0_2 : List S_laws_Fn) (t0_3 : List S_laws_Pat) (t0_4 : Bool) (t0_5 : List S_laws_Fn) (t0_6 : List S_laws_Pat) (t1_0 : Int) : Option (Int) :=
  bif decide ((IntKind.wrap .i64 (t1_0 - (t0_0.length : Int))) < (0 : Int)) then some ((-1) : Int) else (p_laws_szCode n t0_2 t0_3 (IntKind.wrap .i64 (t1_0 - (t0_0.length : Int)))).bind fun c15_2 => bif decide (c15_2 < (0 : Int)) then some ((-1) : Int) else (p_laws_szCode n t0_5 t0_6 c15_2).bind fun c21_4 => bif decide (c21_4 < (0 : Int)) then some ((-1) : Int) else some c21_4
theorem big_laws_szEntry {n : Nat} : B_laws_szEntry (p_laws_szEntry n) := by
 intro t0_0 t0_1 t0_2 t0_3 t0_4 t0_5 t0_6 t1_0 r h
 unfold p_laws_szEntry at h
 refine bF Try.func80 rfl rfl ?_
 refine cRs ?_
 refine xBx rfl ?_
 refine xAs rfl ?_
 refine oRs ?_
 refine xMv rfl ?_
 refine xFd rfl ?_
 refine xLd rfl ?_
 refine xLs rfl ?_
 refine xSub rfl ?_
 refine xAs rfl ?_
 refine oNl ?_
 refine cSq ?_
 refine cRs ?_
 refine xMv rfl ?_
 refine xLt rfl ?_
 refine oNl ?_
 refine cIf h rfl (fun q1 h => ?_) (fun q1 h => ?_)
 refine cRs ?_
 refine xAs rfl ?_
 refine oNl ?_
 refine cRt ?_
 cases h
 exact eR rfl rfl rfl rfl
 refine cSk ?_
 refine cRs ?_
 refine xFd rfl ?_
 refine xLd rfl ?_
 refine xMv rfl ?_
 refine xC0 h (big_laws_szCode ·) rfl (fun c15_2 h => ?_)
 refine xAs rfl ?_
 refine oNl ?_
 refine cSq ?_
 refine cRs ?_
 refine xMv rfl ?_
 refine xLt rfl ?_
 refine oNl ?_
 refine cIf h rfl (fun q3 h => ?_) (fun q3 h => ?_)
 refine cRs ?_
 refine xAs rfl ?_
 refine oNl ?_
 refine cRt ?_
 cases h
 exact eR rfl rfl rfl rfl
 refine cSk ?_
 refine cRs ?_
 refine xFd rfl ?_
 refine xLd rfl ?_
 refine xMv rfl ?_
 refine xC0 h (big_laws_szCode ·) rfl (fun c21_4 h => ?_)
 refine xAs rfl ?_
 refine oNl ?_
 refine cSq ?_
 refine cRs ?_
 refine xMv rfl ?_
 refine xLt rfl ?_
 refine oNl ?_
 refine cIf h rfl (fun q5 h => ?_) (fun q5 h => ?_)
 refine cRs ?_
 refine xAs rfl ?_
 refine oNl ?_
 refine cRt ?_
 cases h
 exact eR rfl rfl rfl rfl
 refine cSk ?_
 refine cRs ?_
 refine xMv rfl ?_
 refine xAs rfl ?_
 refine oNl ?_
 refine cRt ?_
 cases h
 exact eR rfl rfl rfl rfl
abbrev B_laws_szEntryS (p : (List S_laws_Entry) → Int → Option (Int)) : Prop := ∀ {t0_0 : List S_laws_Entry} {t1_0 : Int} {r : Int}, p t0_0 t1_0 = some r → Big Try.prog τ An (.fn 36 [.one (.c (.sl (t0_0.map rS_laws_Entry))), .one (.c (.int .i64 t1_0))] [] (.one (.c (.int .i64 r))) none [] none)
def p_laws_szEntryS_b1 (n : Nat) (t0_0 : List S_laws_Entry) : (Int × Int) → Option ((Int × Int) ⊕ ((Int) ⊕ (Int × Int × Bool)))
  | (v1_2, v5_3) => bif decide (v5_3 < (t0_0.length : Int)) then (ix t0_0 v5_3).bind fun e20_9 => (p_laws_szEntry n e20_9.f0 e20_9.f1 e20_9.f2 e20_9.f3 e20_9.f4 e20_9.f5 e20_9.f6 v1_2).bind fun c23_10 => bif decide (c23_10 < (0 : Int)) then some (.inr (.inl ((-1) : Int))) else some (.inl (c23_10, (IntKind.wrap .i64 (v5_3 + (1 : Int))))) else some (.inr (.inr (v1_2, v5_3, false)))
def p_laws_szEntryS (n : Nat) (t0_0 : List S_laws_Entry) (t1_0 : Int) : Option (Int) :=
  bif decide ((IntKind.wrap .i64 (t1_0 - (t0_0.length : Int))) < (0 : Int)) then some ((-1) : Int) else (loopN (p_laws_szEntryS_b1 n t0_0) n ((IntKind.wrap .i64 (t1_0 - (t0_0.length : Int))), (0 : Int))).bind fun q => (match q with | .inl v4_4 => some v4_4 | .inr (v1_5, v5_6, v15_7) => some v1_5)
theorem big_laws_szEntryS {n : Nat} : B_laws_szEntryS (p_laws_szEntryS n) := by
 intro t0_0 t1_0 r h
 unfold p_laws_szEntryS at h
 refine bF Try.func36 rfl rfl ?_
 refine cRs ?_
 refine xAs rfl ?_
 refine oRs ?_
 refine xMv rfl ?_
 refine xMv rfl ?_
 refine xLn rfl ?_
 refine xSub rfl ?_
 refine xAs rfl ?_
 refine oNl ?_
 refine cSq ?_
 refine cRs ?_
 refine xMv rfl ?_
 refine xLt rfl ?_
 refine oNl ?_
 refine cIf h rfl (fun q1 h => ?_) (fun q1 h => ?_)
 refine cRs ?_
 refine xAs rfl ?_
 refine oNl ?_
 refine cRt ?_
 cases h
 exact eR rfl rfl rfl rfl
 refine cSk ?_
 refine cSq ?_
 refine cRs ?_
 refine xAs rfl ?_
 refine oNl ?_
 refine cLp h [(1, 1), (4, 5), (12, 25)] [] (fun (v1_2, v5_3) => ([(1, I64 v1_2), (5, I64 v5_3)], [])) (fun q => match q with | .inl v4_4 => (.r, [(4, I64 v4_4)], []) | .inr (v1_5, v5_6, v15_7) => (.e 0, [(1, I64 v1_5), (5, I64 v5_6), (15, Bo v15_7)], [])) rfl (fun st _ h => ?_) (fun q h => ?_)
 obtain ⟨v1_2, v5_3⟩ := st
 unfold p_laws_szEntryS_b1 at h
 refine cSq ?_
 refine cRs ?_
 refine xMv rfl ?_
 refine xMv rfl ?_
 refine xLn rfl ?_
 refine xLt rfl ?_
 refine oNl ?_
 refine cIf h rfl (fun q8 h => ?_) (fun q8 h => ?_)
 refine cSk ?_
 refine cSq ?_
 refine cBk ?_
 refine cRs ?_
 refine xMv rfl ?_
 refine xMv rfl ?_
 refine xIx h rS_laws_Entry_eq rfl (fun e20_9 h => ?_)
 refine xLd rfl ?_
 refine xMv rfl ?_
 refine xC0 h (big_laws_szEntry ·) rfl (fun c23_10 h => ?_)
 refine xAs rfl ?_
 refine oRs ?_
 refine xMv rfl ?_
 refine xLt rfl ?_
 refine oNl ?_
 refine cIf h rfl (fun q11 h => ?_) (fun q11 h => ?_)
 refine cRs ?_
 refine xAs rfl ?_
 refine oNl ?_
 refine cRt ?_
 exact eXr h rfl
 refine cSk ?_
 refine cRg ?_
 refine xMv rfl ?_
 refine xAdd rfl ?_
 refine xAs rfl ?_
 refine oNl ?_
 exact eL h rfl
 refine cEx ?_
 exact eX h rfl
 rcases q with v4_4 | ⟨v1_5, v5_6, v15_7⟩
 cases h
 exact eR rfl rfl rfl rfl
 refine cRs ?_
 refine xMv rfl ?_
 refine xAs rfl ?_
 refine oNl ?_
 refine cRt ?_
 cases h
 exact eR rfl rfl rfl rfl
abbrev B_spec_l12At (p : (List S_impl_Entry) → (List UInt8) → Option (Int)) : Prop := ∀ {t0_0 : List S_impl_Entry} {t1_0 : List UInt8} {r : Int}, p t0_0 t1_0 = some r → Big Try.prog τ An (.fn 81 [.one (.c (.sl (t0_0.map rS_impl_Entry))), .one (.c (.str t1_0))] [] (.one (.c (.int .i64 r))) none [] none)
def p_spec_l12At_b1 (n : Nat) (t0_0 : List S_impl_Entry) (t1_0 : List UInt8) : (Int) → Option ((Int) ⊕ ((Int) ⊕ (Int × Bool)))
  | v5_1 => bif decide (v5_1 < (t0_0.length : Int)) then (ix t0_0 v5_1).bind fun e14_6 => bif decide (e14_6.f0 = t1_0) then some (.inr (.inl v5_1)) else some (.inl (IntKind.wrap .i64 (v5_1 + (1 : Int)))) else some (.inr (.inr (v5_1, false)))
def p_spec_l12At (n : Nat) (t0_0 : List S_impl_Entry) (t1_0 : List UInt8) : Option (Int) :=
  (loopN (p_spec_l12At_b1 n t0_0 t1_0) n (0 : Int)).bind fun q => (match q with | .inl v4_2 => some v4_2 | .inr (v5_3, v9_4) => some ((-1) : Int))
theorem big_spec_l12At {n : Nat} : B_spec_l12At (p_spec_l12At n) := by
 intro t0_0 t1_0 r h
 unfold p_spec_l12At at h
 refine bF Try.func81 rfl rfl ?_
 refine cRs ?_
 refine xAs rfl ?_
 refine oNl ?_
 refine cSq ?_
 refine cRs ?_
 refine xAs rfl ?_
 refine oNl ?_
 refine cLp h [(4, 19)] [] (fun v5_1 => ([(5, I64 v5_1)], [])) (fun q => match q with | .inl v4_2 => (.r, [(4, I64 v4_2)], []) | .inr (v5_3, v9_4) => (.e 0, [(5, I64 v5_3), (9, Bo v9_4)], [])) rfl (fun v5_1 _ h => ?_) (fun q h => ?_)
 unfold p_spec_l12At_b1 at h
 refine cSq ?_
 refine cRs ?_
 refine xMv rfl ?_
 refine xMv rfl ?_
 refine xLn rfl ?_
 refine xLt rfl ?_
 refine oNl ?_
 refine cIf h rfl (fun q5 h => ?_) (fun q5 h => ?_)
 refine cSk ?_
 refine cSq ?_
 refine cBk ?_
 refine cRs ?_
 refine xMv rfl ?_
 refine xMv rfl ?_
 refine xIx h rS_impl_Entry_eq rfl (fun e14_6 h => ?_)
 refine xFd rfl ?_
 refine xLd rfl ?_
 refine xMv rfl ?_
 refine xEs rfl ?_
 refine oNl ?_
 refine cIf h rfl (fun q7 h => ?_) (fun q7 h => ?_)
 refine cRs ?_
 refine xMv rfl ?_
 refine xAs rfl ?_
 refine oNl ?_
 refine cRt ?_
 exact eXr h rfl
 refine cSk ?_
 refine cRg ?_
 refine xMv rfl ?_
 refine xAdd rfl ?_
 refine xAs rfl ?_
 refine oNl ?_
 exact eL h rfl
 refine cEx ?_
 exact eX h rfl
 rcases q with v4_2 | ⟨v5_3, v9_4⟩
 cases h
 exact eR rfl rfl rfl rfl
 refine cRs ?_
 refine xAs rfl ?_
 refine oNl ?_
 refine cRt ?_
 cases h
 exact eR rfl rfl rfl rfl
abbrev B_spec_NewestOf (p : (List S_impl_Entry) → (List UInt8) → Option (Int)) : Prop := ∀ {t0_0 : List S_impl_Entry} {t1_0 : List UInt8} {r : Int}, p t0_0 t1_0 = some r → Big Try.prog τ An (.fn 37 [.one (.c (.sl (t0_0.map rS_impl_Entry))), .one (.c (.str t1_0))] [] (.one (.c (.int .i64 r))) none [] none)
def p_spec_NewestOf (n : Nat) (t0_0 : List S_impl_Entry) (t1_0 : List UInt8) : Option (Int) :=
  (p_spec_l12At n t0_0 t1_0).bind fun c8_1 => bif decide (c8_1 < (0 : Int)) then some (0 : Int) else (ix t0_0 c8_1).bind fun e13_3 => some e13_3.f1
theorem big_spec_NewestOf {n : Nat} : B_spec_NewestOf (p_spec_NewestOf n) := by
 intro t0_0 t1_0 r h
 unfold p_spec_NewestOf at h
 refine bF Try.func37 rfl rfl ?_
 refine cRs ?_
 refine xAs rfl ?_
 refine oRs ?_
 refine xMv rfl ?_
 refine xMv rfl ?_
 refine xC0 h (big_spec_l12At ·) rfl (fun c8_1 h => ?_)
 refine xAs rfl ?_
 refine oNl ?_
 refine cSq ?_
 refine cRs ?_
 refine xMv rfl ?_
 refine xLt rfl ?_
 refine oNl ?_
 refine cIf h rfl (fun q2 h => ?_) (fun q2 h => ?_)
 refine cRs ?_
 refine xAs rfl ?_
 refine oNl ?_
 refine cRt ?_
 cases h
 exact eR rfl rfl rfl rfl
 refine cSk ?_
 refine cRs ?_
 refine xMv rfl ?_
 refine xMv rfl ?_
 refine xIx h rS_impl_Entry_eq rfl (fun e13_3 h => ?_)
 refine xFd rfl ?_
 refine xLd rfl ?_
 refine xAs rfl ?_
 refine oNl ?_
 refine cRt ?_
 cases h
 exact eR rfl rfl rfl rfl
abbrev B_laws_toIns (p : Int → Int → (List UInt8) → Int → Option (Int × Int × (List UInt8) × Int)) : Prop := ∀ {t0_0 t0_1 : Int} {t0_2 : List UInt8} {t0_3 : Int} {r : Int × Int × (List UInt8) × Int}, p t0_0 t0_1 t0_2 t0_3 = some r → Big Try.prog τ An (.fn 150 [.one (.ag [.int .i64 t0_0, .int .i64 t0_1, .str t0_2, .int .i64 t0_3])] [] (.one (.ag [.int .i64 r.1, .int .i64 r.2.1, .str r.2.2.1, .int .i64 r.2.2.2])) none [] none)
def p_laws_toIns (n : Nat) (t0_0 : Int) (t0_1 : Int) (t0_2 : List UInt8) (t0_3 : Int) : Option (Int × Int × (List UInt8) × Int) :=
  some (t0_0, t0_1, t0_2, t0_3)
theorem big_laws_toIns {n : Nat} : B_laws_toIns (p_laws_toIns n) := by
 intro t0_0 t0_1 t0_2 t0_3 r h
 unfold p_laws_toIns at h
 refine bF Try.func150 rfl rfl ?_
 refine cRs ?_
 refine xBx rfl ?_
 refine xAc rfl ?_
 refine oRs ?_
 refine xAc rfl ?_
 refine oRs ?_
 refine xFd rfl ?_
 refine xLd rfl ?_
 refine xFd rfl ?_
 refine xSt rfl ?_
 refine oRs ?_
 refine xFd rfl ?_
 refine xLd rfl ?_
 refine xFd rfl ?_
 refine xSt rfl ?_
 refine oRs ?_
 refine xFd rfl ?_
 refine xLd rfl ?_
 refine xFd rfl ?_
 refine xSt rfl ?_
 refine oRs ?_
 refine xFd rfl ?_
 refine xLd rfl ?_
 refine xFd rfl ?_
 refine xSt rfl ?_
 refine oRs ?_
 refine xLd rfl ?_
 refine xSt rfl ?_
 refine oNl ?_
 refine cRt ?_
 cases h
 exact eR rfl rfl rfl rfl
abbrev B_laws_toInsS (p : (List S_laws_Ins) → Option ((List S_laws_Ins))) : Prop := ∀ {t0_0 : List S_laws_Ins} {r : (List S_laws_Ins)}, p t0_0 = some r → Big Try.prog τ An (.fn 147 [.one (.c (.sl (t0_0.map rS_laws_Ins)))] [] (.one (.c (.sl (r.map rS_laws_Ins)))) none [] none)
def p_laws_toInsS_b1 (n : Nat) (t0_0 : List S_laws_Ins) : ((List S_laws_Ins) × Int) → Option (((List S_laws_Ins) × Int) ⊕ (((List S_laws_Ins) × Int × Bool)))
  | (v3_2, v4_3) => bif decide (v4_3 < (t0_0.length : Int)) then (ix t0_0 v4_3).bind fun e18_8 => (p_laws_toIns n e18_8.f0 e18_8.f1 e18_8.f2 e18_8.f3).bind fun c20_9 => (ix v3_2 v4_3).bind fun e21_10 => some (.inl ((v3_2.set (Int.toNat v4_3) (S_laws_Ins.mk c20_9.1 c20_9.2.1 c20_9.2.2.1 c20_9.2.2.2)), (IntKind.wrap .i64 (v4_3 + (1 : Int))))) else some (.inr (v3_2, v4_3, false))
def p_laws_toInsS (n : Nat) (t0_0 : List S_laws_Ins) : Option ((List S_laws_Ins)) :=
  (ck (decide (0 ≤ (t0_0.length : Int) ∧ (t0_0.length : Int) ≤ maxLen ∧ 40 * (t0_0.length : Int) ≤ 281474976710656))).bind fun _ => (loopN (p_laws_toInsS_b1 n t0_0) n ((List.replicate (Int.toNat (t0_0.length : Int)) (S_laws_Ins.mk (0 : Int) (0 : Int) ([] : List UInt8) (0 : Int))), (0 : Int))).bind fun (v3_4, v4_5, v11_6) => some v3_4
theorem big_laws_toInsS {n : Nat} : B_laws_toInsS (p_laws_toInsS n) := by
 intro t0_0 r h
 unfold p_laws_toInsS at h
 refine bF Try.func147 rfl rfl ?_
 refine cRs ?_
 refine wAe (Li rS_laws_Ins []) rfl rfl rfl rfl ?_
 refine oRs ?_
 refine xMv rfl ?_
 refine xLn rfl ?_
 refine oCk h (fun k7_0 h => ?_)
 refine wMk (z := S_laws_Ins.mk (0 : Int) (0 : Int) ([] : List UInt8) (0 : Int)) (f := rS_laws_Ins) k7_0 rfl rfl rfl rfl rfl rfl rfl ?_
 refine xAs rfl ?_
 refine oNl ?_
 refine cSq ?_
 refine cRs ?_
 refine xAs rfl ?_
 refine oNl ?_
 refine cLp h [(3, 4), (8, 21)] [] (fun (v3_2, v4_3) => ([(3, Li rS_laws_Ins v3_2), (4, I64 v4_3)], [])) (fun (v3_4, v4_5, v11_6) => (.e 0, [(3, Li rS_laws_Ins v3_4), (4, I64 v4_5), (11, Bo v11_6)], [])) rfl (fun st _ h => ?_) (fun q h => ?_)
 obtain ⟨v3_2, v4_3⟩ := st
 unfold p_laws_toInsS_b1 at h
 refine cSq ?_
 refine cRs ?_
 refine xMv rfl ?_
 refine xMv rfl ?_
 refine xLn rfl ?_
 refine xLt rfl ?_
 refine oNl ?_
 refine cIf h rfl (fun q7 h => ?_) (fun q7 h => ?_)
 refine cSk ?_
 refine cSq ?_
 refine cBk ?_
 refine cRg ?_
 refine wAl rfl rfl rfl rfl ?_
 refine xMv rfl ?_
 refine xMv rfl ?_
 refine xMv rfl ?_
 refine xIx h rS_laws_Ins_eq rfl (fun e18_8 h => ?_)
 refine xLd rfl ?_
 refine xC0 h (big_laws_toIns ·) rfl (fun c20_9 h => ?_)
 refine wIp (f := rS_laws_Ins) h rfl rfl rfl rfl rfl rfl (fun _ => rfl) rfl (fun e21_10 ke21_10 h => ?_)
 refine wSp (f := rS_laws_Ins) (v' := S_laws_Ins.mk c20_9.1 c20_9.2.1 c20_9.2.2.1 c20_9.2.2.2) ke21_10 rfl rfl rfl rfl rfl rfl rfl rfl rfl ?_
 refine oNl ?_
 refine cRg ?_
 refine xMv rfl ?_
 refine xAdd rfl ?_
 refine xAs rfl ?_
 refine oNl ?_
 exact eL h rfl
 refine cEx ?_
 exact eX h rfl
 obtain ⟨v3_4, v4_5, v11_6⟩ := q
 refine cRs ?_
 refine xMv rfl ?_
 refine xAs rfl ?_
 refine oNl ?_
 refine cRt ?_
 cases h
 exact eR rfl rfl rfl rfl
abbrev B_laws_toFn (p : (List UInt8) → Int → Int → (List S_laws_Ins) → Option ((List UInt8) × Int × Int × (List S_laws_Ins))) : Prop := ∀ {t0_0 : List UInt8} {t0_1 t0_2 : Int} {t0_3 : List S_laws_Ins} {r : (List UInt8) × Int × Int × (List S_laws_Ins)}, p t0_0 t0_1 t0_2 t0_3 = some r → Big Try.prog τ An (.fn 142 [.one (.ag [.str t0_0, .int .i64 t0_1, .int .i64 t0_2, .sl (t0_3.map rS_laws_Ins)])] [] (.one (.ag [.str r.1, .int .i64 r.2.1, .int .i64 r.2.2.1, .sl (r.2.2.2.map rS_laws_Ins)])) none [] none)
def p_laws_toFn (n : Nat) (t0_0 : List UInt8) (t0_1 : Int) (t0_2 : Int) (t0_3 : List S_laws_Ins) : Option ((List UInt8) × Int × Int × (List S_laws_Ins)) :=
  (p_laws_toInsS n t0_3).bind fun c15_1 => some (t0_0, t0_1, t0_2, c15_1)
theorem big_laws_toFn {n : Nat} : B_laws_toFn (p_laws_toFn n) := by
 intro t0_0 t0_1 t0_2 t0_3 r h
 unfold p_laws_toFn at h
 refine bF Try.func142 rfl rfl ?_
 refine cRs ?_
 refine xBx rfl ?_
 refine xAz [.str [], .int .i64 0, .int .i64 0, .sl ([].map rS_laws_Ins)] rfl ?_
 refine oRs ?_
 refine xAz [.str [], .int .i64 0, .int .i64 0, .sl ([].map rS_laws_Ins)] rfl ?_
 refine oRs ?_
 refine xFd rfl ?_
 refine xLd rfl ?_
 refine xFd rfl ?_
 refine xSt rfl ?_
 refine oRs ?_
 refine xFd rfl ?_
 refine xLd rfl ?_
 refine xFd rfl ?_
 refine xSt rfl ?_
 refine oRs ?_
 refine xFd rfl ?_
 refine xLd rfl ?_
 refine xFd rfl ?_
 refine xSt rfl ?_
 refine oRs ?_
 refine xFd rfl ?_
 refine xLd rfl ?_
 refine xC0 h (big_laws_toInsS ·) rfl (fun c15_1 h => ?_)
 refine xFd rfl ?_
 refine xSt rfl ?_
 refine oRs ?_
 refine xLd rfl ?_
 refine xSt rfl ?_
 refine oNl ?_
 refine cRt ?_
 cases h
 exact eR rfl rfl rfl rfl
abbrev B_laws_toFnS (p : (List S_laws_Fn) → Option ((List S_impl_Fn))) : Prop := ∀ {t0_0 : List S_laws_Fn} {r : (List S_impl_Fn)}, p t0_0 = some r → Big Try.prog τ An (.fn 132 [.one (.c (.sl (t0_0.map rS_laws_Fn)))] [] (.one (.c (.sl (r.map rS_impl_Fn)))) none [] none)
def p_laws_toFnS_b1 (n : Nat) (t0_0 : List S_laws_Fn) : ((List S_impl_Fn) × Int) → Option (((List S_impl_Fn) × Int) ⊕ (((List S_impl_Fn) × Int × Bool)))
  | (v3_2, v4_3) => bif decide (v4_3 < (t0_0.length : Int)) then (ix t0_0 v4_3).bind fun e18_8 => (p_laws_toFn n e18_8.f0 e18_8.f1 e18_8.f2 e18_8.f3).bind fun c20_9 => (ix v3_2 v4_3).bind fun e21_10 => some (.inl ((v3_2.set (Int.toNat v4_3) (S_impl_Fn.mk c20_9.1 c20_9.2.1 c20_9.2.2.1 c20_9.2.2.2)), (IntKind.wrap .i64 (v4_3 + (1 : Int))))) else some (.inr (v3_2, v4_3, false))
def p_laws_toFnS (n : Nat) (t0_0 : List S_laws_Fn) : Option ((List S_impl_Fn)) :=
  (ck (decide (0 ≤ (t0_0.length : Int) ∧ (t0_0.length : Int) ≤ maxLen ∧ 56 * (t0_0.length : Int) ≤ 281474976710656))).bind fun _ => (loopN (p_laws_toFnS_b1 n t0_0) n ((List.replicate (Int.toNat (t0_0.length : Int)) (S_impl_Fn.mk ([] : List UInt8) (0 : Int) (0 : Int) ([] : List S_laws_Ins))), (0 : Int))).bind fun (v3_4, v4_5, v11_6) => some v3_4
theorem big_laws_toFnS {n : Nat} : B_laws_toFnS (p_laws_toFnS n) := by
 intro t0_0 r h
 unfold p_laws_toFnS at h
 refine bF Try.func132 rfl rfl ?_
 refine cRs ?_
 refine wAe (Li rS_impl_Fn []) rfl rfl rfl rfl ?_
 refine oRs ?_
 refine xMv rfl ?_
 refine xLn rfl ?_
 refine oCk h (fun k7_0 h => ?_)
 refine wMk (z := S_impl_Fn.mk ([] : List UInt8) (0 : Int) (0 : Int) ([] : List S_laws_Ins)) (f := rS_impl_Fn) k7_0 rfl rfl rfl rfl rfl rfl rfl ?_
 refine xAs rfl ?_
 refine oNl ?_
 refine cSq ?_
 refine cRs ?_
 refine xAs rfl ?_
 refine oNl ?_
 refine cLp h [(3, 4), (8, 21)] [] (fun (v3_2, v4_3) => ([(3, Li rS_impl_Fn v3_2), (4, I64 v4_3)], [])) (fun (v3_4, v4_5, v11_6) => (.e 0, [(3, Li rS_impl_Fn v3_4), (4, I64 v4_5), (11, Bo v11_6)], [])) rfl (fun st _ h => ?_) (fun q h => ?_)
 obtain ⟨v3_2, v4_3⟩ := st
 unfold p_laws_toFnS_b1 at h
 refine cSq ?_
 refine cRs ?_
 refine xMv rfl ?_
 refine xMv rfl ?_
 refine xLn rfl ?_
 refine xLt rfl ?_
 refine oNl ?_
 refine cIf h rfl (fun q7 h => ?_) (fun q7 h => ?_)
 refine cSk ?_
 refine cSq ?_
 refine cBk ?_
 refine cRg ?_
 refine wAl rfl rfl rfl rfl ?_
 refine xMv rfl ?_
 refine xMv rfl ?_
 refine xMv rfl ?_
 refine xIx h rS_laws_Fn_eq rfl (fun e18_8 h => ?_)
 refine xLd rfl ?_
 refine xC0 h (big_laws_toFn ·) rfl (fun c20_9 h => ?_)
 refine wIp (f := rS_impl_Fn) h rfl rfl rfl rfl rfl rfl (fun _ => rfl) rfl (fun e21_10 ke21_10 h => ?_)
 refine wSp (f := rS_impl_Fn) (v' := S_impl_Fn.mk c20_9.1 c20_9.2.1 c20_9.2.2.1 c20_9.2.2.2) ke21_10 rfl rfl rfl rfl rfl rfl rfl rfl rfl ?_
 refine oNl ?_
 refine cRg ?_
 refine xMv rfl ?_
 refine xAdd rfl ?_
 refine xAs rfl ?_
 refine oNl ?_
 exact eL h rfl
 refine cEx ?_
 exact eX h rfl
 obtain ⟨v3_4, v4_5, v11_6⟩ := q
 refine cRs ?_
 refine xMv rfl ?_
 refine xAs rfl ?_
 refine oNl ?_
 refine cRt ?_
 cases h
 exact eR rfl rfl rfl rfl
abbrev B_laws_toPat (p : Int → Int → (List UInt8) → (List S_laws_Pat) → Option (Int × Int × (List UInt8) × (List S_impl_Pat))) : Prop := ∀ {t0_0 t0_1 : Int} {t0_2 : List UInt8} {t0_3 : List S_laws_Pat} {r : Int × Int × (List UInt8) × (List S_impl_Pat)}, p t0_0 t0_1 t0_2 t0_3 = some r → Big Try.prog τ An (.fn 143 [.one (.ag [.int .i64 t0_0, .int .i64 t0_1, .str t0_2, .sl (t0_3.map rS_laws_Pat)])] [] (.one (.ag [.int .i64 r.1, .int .i64 r.2.1, .str r.2.2.1, .sl (r.2.2.2.map rS_impl_Pat)])) none [] none)
abbrev B_laws_toPatS (p : (List S_laws_Pat) → Option ((List S_impl_Pat))) : Prop := ∀ {t0_0 : List S_laws_Pat} {r : (List S_impl_Pat)}, p t0_0 = some r → Big Try.prog τ An (.fn 133 [.one (.c (.sl (t0_0.map rS_laws_Pat)))] [] (.one (.c (.sl (r.map rS_impl_Pat)))) none [] none)
def s_laws_toPat (n : Nat) (r_laws_toPatS : (List S_laws_Pat) → Option ((List S_impl_Pat))) (r_laws_toPat : Int → Int → (List UInt8) → (List S_laws_Pat) → Option (Int × Int × (List UInt8) × (List S_impl_Pat))) (t0_0 : Int) (t0_1 : Int) (t0_2 : List UInt8) (t0_3 : List S_laws_Pat) : Option (Int × Int × (List UInt8) × (List S_impl_Pat)) :=
  (r_laws_toPatS t0_3).bind fun c15_1 => some (t0_0, t0_1, t0_2, c15_1)
theorem step_laws_toPat {n : Nat} {r_laws_toPatS : (List S_laws_Pat) → Option ((List S_impl_Pat))} (ih_laws_toPatS : B_laws_toPatS r_laws_toPatS) {r_laws_toPat : Int → Int → (List UInt8) → (List S_laws_Pat) → Option (Int × Int × (List UInt8) × (List S_impl_Pat))} (ih_laws_toPat : B_laws_toPat r_laws_toPat) : B_laws_toPat (s_laws_toPat n r_laws_toPatS r_laws_toPat) := by
 intro t0_0 t0_1 t0_2 t0_3 r h
 unfold s_laws_toPat at h
 refine bF Try.func143 rfl rfl ?_
 refine cRs ?_
 refine xBx rfl ?_
 refine xAz [.int .i64 0, .int .i64 0, .str [], .sl ([].map rS_impl_Pat)] rfl ?_
 refine oRs ?_
 refine xAz [.int .i64 0, .int .i64 0, .str [], .sl ([].map rS_impl_Pat)] rfl ?_
 refine oRs ?_
 refine xFd rfl ?_
 refine xLd rfl ?_
 refine xFd rfl ?_
 refine xSt rfl ?_
 refine oRs ?_
 refine xFd rfl ?_
 refine xLd rfl ?_
 refine xFd rfl ?_
 refine xSt rfl ?_
 refine oRs ?_
 refine xFd rfl ?_
 refine xLd rfl ?_
 refine xFd rfl ?_
 refine xSt rfl ?_
 refine oRs ?_
 refine xFd rfl ?_
 refine xLd rfl ?_
 refine xC0 h (ih_laws_toPatS ·) rfl (fun c15_1 h => ?_)
 refine xFd rfl ?_
 refine xSt rfl ?_
 refine oRs ?_
 refine xLd rfl ?_
 refine xSt rfl ?_
 refine oNl ?_
 refine cRt ?_
 cases h
 exact eR rfl rfl rfl rfl
def p_laws_toPatS_b1 (n : Nat) (r_laws_toPat : Int → Int → (List UInt8) → (List S_laws_Pat) → Option (Int × Int × (List UInt8) × (List S_impl_Pat))) (t0_0 : List S_laws_Pat) : ((List S_impl_Pat) × Int) → Option (((List S_impl_Pat) × Int) ⊕ (((List S_impl_Pat) × Int × Bool)))
  | (v3_2, v4_3) => bif decide (v4_3 < (t0_0.length : Int)) then (ix t0_0 v4_3).bind fun e18_8 => (r_laws_toPat e18_8.f0 e18_8.f1 e18_8.f2 e18_8.f3).bind fun c20_9 => (ix v3_2 v4_3).bind fun e21_10 => some (.inl ((v3_2.set (Int.toNat v4_3) (S_impl_Pat.mk c20_9.1 c20_9.2.1 c20_9.2.2.1 c20_9.2.2.2)), (IntKind.wrap .i64 (v4_3 + (1 : Int))))) else some (.inr (v3_2, v4_3, false))
def s_laws_toPatS (n : Nat) (r_laws_toPatS : (List S_laws_Pat) → Option ((List S_impl_Pat))) (r_laws_toPat : Int → Int → (List UInt8) → (List S_laws_Pat) → Option (Int × Int × (List UInt8) × (List S_impl_Pat))) (t0_0 : List S_laws_Pat) : Option ((List S_impl_Pat)) :=
  (ck (decide (0 ≤ (t0_0.length : Int) ∧ (t0_0.length : Int) ≤ maxLen ∧ 56 * (t0_0.length : Int) ≤ 281474976710656))).bind fun _ => (loopN (p_laws_toPatS_b1 n r_laws_toPat t0_0) n ((List.replicate (Int.toNat (t0_0.length : Int)) (S_impl_Pat.mk (0 : Int) (0 : Int) ([] : List UInt8) ([] : List S_impl_Pat))), (0 : Int))).bind fun (v3_4, v4_5, v11_6) => some v3_4
theorem step_laws_toPatS {n : Nat} {r_laws_toPatS : (List S_laws_Pat) → Option ((List S_impl_Pat))} (ih_laws_toPatS : B_laws_toPatS r_laws_toPatS) {r_laws_toPat : Int → Int → (List UInt8) → (List S_laws_Pat) → Option (Int × Int × (List UInt8) × (List S_impl_Pat))} (ih_laws_toPat : B_laws_toPat r_laws_toPat) : B_laws_toPatS (s_laws_toPatS n r_laws_toPatS r_laws_toPat) := by
 intro t0_0 r h
 unfold s_laws_toPatS at h
 refine bF Try.func133 rfl rfl ?_
 refine cRs ?_
 refine wAe (Li rS_impl_Pat []) rfl rfl rfl rfl ?_
 refine oRs ?_
 refine xMv rfl ?_
 refine xLn rfl ?_
 refine oCk h (fun k7_0 h => ?_)
 refine wMk (z := S_impl_Pat.mk (0 : Int) (0 : Int) ([] : List UInt8) ([] : List S_impl_Pat)) (f := rS_impl_Pat) k7_0 rfl rfl rfl rfl rfl rfl rfl ?_
 refine xAs rfl ?_
 refine oNl ?_
 refine cSq ?_
 refine cRs ?_
 refine xAs rfl ?_
 refine oNl ?_
 refine cLp h [(3, 4), (8, 21)] [] (fun (v3_2, v4_3) => ([(3, Li rS_impl_Pat v3_2), (4, I64 v4_3)], [])) (fun (v3_4, v4_5, v11_6) => (.e 0, [(3, Li rS_impl_Pat v3_4), (4, I64 v4_5), (11, Bo v11_6)], [])) rfl (fun st _ h => ?_) (fun q h => ?_)
 obtain ⟨v3_2, v4_3⟩ := st
 unfold p_laws_toPatS_b1 at h
 refine cSq ?_
 refine cRs ?_
 refine xMv rfl ?_
 refine xMv rfl ?_
 refine xLn rfl ?_
 refine xLt rfl ?_
 refine oNl ?_
 refine cIf h rfl (fun q7 h => ?_) (fun q7 h => ?_)
 refine cSk ?_
 refine cSq ?_
 refine cBk ?_
 refine cRg ?_
 refine wAl rfl rfl rfl rfl ?_
 refine xMv rfl ?_
 refine xMv rfl ?_
 refine xMv rfl ?_
 refine xIx h rS_laws_Pat_eq rfl (fun e18_8 h => ?_)
 refine xLd rfl ?_
 refine xC0 h (ih_laws_toPat ·) rfl (fun c20_9 h => ?_)
 refine wIp (f := rS_impl_Pat) h rfl rfl rfl rfl rfl rfl (fun a => by rw [rS_impl_Pat_eq]; rfl) rfl (fun e21_10 ke21_10 h => ?_)
 refine wSp (f := rS_impl_Pat) (v' := S_impl_Pat.mk c20_9.1 c20_9.2.1 c20_9.2.2.1 c20_9.2.2.2) ke21_10 rfl rfl rfl rfl rfl rfl rfl (by rw [rS_impl_Pat_eq]; rfl) (by rw [rS_impl_Pat_eq, rS_impl_Pat_mk]; rfl) ?_
 refine oNl ?_
 refine cRg ?_
 refine xMv rfl ?_
 refine xAdd rfl ?_
 refine xAs rfl ?_
 refine oNl ?_
 exact eL h rfl
 refine cEx ?_
 exact eX h rfl
 obtain ⟨v3_4, v4_5, v11_6⟩ := q
 refine cRs ?_
 refine xMv rfl ?_
 refine xAs rfl ?_
 refine oNl ?_
 refine cRt ?_
 cases h
 exact eR rfl rfl rfl rfl
def q_laws_toPatS : Nat → ((List S_laws_Pat) → Option ((List S_impl_Pat))) × (Int → Int → (List UInt8) → (List S_laws_Pat) → Option (Int × Int × (List UInt8) × (List S_impl_Pat)))
  | 0 => ((fun _ => none), (fun _ _ _ _ => none))
  | n + 1 => (s_laws_toPatS n ((q_laws_toPatS n).1) ((q_laws_toPatS n).2), s_laws_toPat n ((q_laws_toPatS n).1) ((q_laws_toPatS n).2))
def p_laws_toPatS (n : Nat) : (List S_laws_Pat) → Option ((List S_impl_Pat)) := (q_laws_toPatS n).1
def p_laws_toPat (n : Nat) : Int → Int → (List UInt8) → (List S_laws_Pat) → Option (Int × Int × (List UInt8) × (List S_impl_Pat)) := (q_laws_toPatS n).2
theorem bigs_laws_toPatS (n : Nat) : B_laws_toPatS (p_laws_toPatS n) ∧ B_laws_toPat (p_laws_toPat n) := by
  induction n with
  | zero => exact ⟨(fun h => nomatch h), (fun h => nomatch h)⟩
  | succ n ih => exact ⟨step_laws_toPatS (n := n) (ih.1) (ih.2), step_laws_toPat (n := n) (ih.1) (ih.2)⟩
theorem big_laws_toPatS {n : Nat} : B_laws_toPatS (p_laws_toPatS n) := (bigs_laws_toPatS n).1
theorem big_laws_toPat {n : Nat} : B_laws_toPat (p_laws_toPat n) := (bigs_laws_toPatS n).2
theorem p_laws_toPatS_succ (n : Nat) : p_laws_toPatS (n + 1) = s_laws_toPatS n (p_laws_toPatS n) (p_laws_toPat n) := rfl
theorem p_laws_toPat_succ (n : Nat) : p_laws_toPat (n + 1) = s_laws_toPat n (p_laws_toPatS n) (p_laws_toPat n) := rfl
abbrev B_laws_toCode (p : (List S_laws_Fn) → (List S_laws_Pat) → Option ((List S_impl_Fn) × (List S_impl_Pat))) : Prop := ∀ {t0_0 : List S_laws_Fn} {t0_1 : List S_laws_Pat} {r : (List S_impl_Fn) × (List S_impl_Pat)}, p t0_0 t0_1 = some r → Big Try.prog τ An (.fn 112 [.one (.ag [.sl (t0_0.map rS_laws_Fn), .sl (t0_1.map rS_laws_Pat)])] [] (.one (.ag [.sl (r.1.map rS_impl_Fn), .sl (r.2.map rS_impl_Pat)])) none [] none)
def p_laws_toCode (n : Nat) (t0_0 : List S_laws_Fn) (t0_1 : List S_laws_Pat) : Option ((List S_impl_Fn) × (List S_impl_Pat)) :=
  (p_laws_toFnS n t0_0).bind fun c6_1 => (p_laws_toPatS n t0_1).bind fun c10_2 => some (c6_1, c10_2)
theorem big_laws_toCode {n : Nat} : B_laws_toCode (p_laws_toCode n) := by
 intro t0_0 t0_1 r h
 unfold p_laws_toCode at h
 refine bF Try.func112 rfl rfl ?_
 refine cRs ?_
 refine xBx rfl ?_
 refine xAz [.sl ([].map rS_impl_Fn), .sl ([].map rS_impl_Pat)] rfl ?_
 refine oRs ?_
 refine xAz [.sl ([].map rS_impl_Fn), .sl ([].map rS_impl_Pat)] rfl ?_
 refine oRs ?_
 refine xFd rfl ?_
 refine xLd rfl ?_
 refine xC0 h (big_laws_toFnS ·) rfl (fun c6_1 h => ?_)
 refine xFd rfl ?_
 refine xSt rfl ?_
 refine oRs ?_
 refine xFd rfl ?_
 refine xLd rfl ?_
 refine xC0 h (big_laws_toPatS ·) rfl (fun c10_2 h => ?_)
 refine xFd rfl ?_
 refine xSt rfl ?_
 refine oRs ?_
 refine xLd rfl ?_
 refine xSt rfl ?_
 refine oNl ?_
 refine cRt ?_
 cases h
 exact eR rfl rfl rfl rfl
abbrev B_laws_toEntry (p : (List UInt8) → Int → (List S_laws_Fn) → (List S_laws_Pat) → Bool → (List S_laws_Fn) → (List S_laws_Pat) → Option ((List UInt8) × Int × (List S_impl_Fn) × (List S_impl_Pat) × Bool × (List S_impl_Fn) × (List S_impl_Pat))) : Prop := ∀ {t0_0 : List UInt8} {t0_1 : Int} {t0_2 : List S_laws_Fn} {t0_3 : List S_laws_Pat} {t0_4 : Bool} {t0_5 : List S_laws_Fn} {t0_6 : List S_laws_Pat} {r : (List UInt8) × Int × (List S_impl_Fn) × (List S_impl_Pat) × Bool × (List S_impl_Fn) × (List S_impl_Pat)}, p t0_0 t0_1 t0_2 t0_3 t0_4 t0_5 t0_6 = some r → Big Try.prog τ An (.fn 82 [.one (.ag [.str t0_0, .int .i64 t0_1, .sl (t0_2.map rS_laws_Fn), .sl (t0_3.map rS_laws_Pat), .bool t0_4, .sl (t0_5.map rS_laws_Fn), .sl (t0_6.map rS_laws_Pat)])] [] (.one (.ag [.str r.1, .int .i64 r.2.1, .sl (r.2.2.1.map rS_impl_Fn), .sl (r.2.2.2.1.map rS_impl_Pat), .bool r.2.2.2.2.1, .sl (r.2.2.2.2.2.1.map rS_impl_Fn), .sl (r.2.2.2.2.2.2.map rS_impl_Pat)])) none [] none)
def p_laws_toEntry (n : Nat) (t0_0 : List UInt8) (t0_1 : Int) (t0_2 : List S_laws_Fn) (t0_3 : List S_laws_Pat) (t0_4 : Bool) (t0_5 : List S_laws_Fn) (t0_6 : List S_laws_Pat) : Option ((List UInt8) × Int × (List S_impl_Fn) × (List S_impl_Pat) × Bool × (List S_impl_Fn) × (List S_impl_Pat)) :=
  (p_laws_toCode n t0_2 t0_3).bind fun c12_1 => (p_laws_toCode n t0_5 t0_6).bind fun c19_2 => some (t0_0, t0_1, c12_1.1, c12_1.2, t0_4, c19_2.1, c19_2.2)
theorem big_laws_toEntry {n : Nat} : B_laws_toEntry (p_laws_toEntry n) := by
 intro t0_0 t0_1 t0_2 t0_3 t0_4 t0_5 t0_6 r h
 unfold p_laws_toEntry at h
 refine bF Try.func82 rfl rfl ?_
 refine cRs ?_
 refine xBx rfl ?_
 refine xAz [.str [], .int .i64 0, .sl ([].map rS_impl_Fn), .sl ([].map rS_impl_Pat), .bool false, .sl ([].map rS_impl_Fn), .sl ([].map rS_impl_Pat)] rfl ?_
 refine oRs ?_
 refine xAz [.str [], .int .i64 0, .sl ([].map rS_impl_Fn), .sl ([].map rS_impl_Pat), .bool false, .sl ([].map rS_impl_Fn), .sl ([].map rS_impl_Pat)] rfl ?_
 refine oRs ?_
 refine xFd rfl ?_
 refine xLd rfl ?_
 refine xFd rfl ?_
 refine xSt rfl ?_
 refine oRs ?_
 refine xFd rfl ?_
 refine xLd rfl ?_
 refine xFd rfl ?_
 refine xSt rfl ?_
 refine oRs ?_
 refine xFd rfl ?_
 refine xLd rfl ?_
 refine xC0 h (big_laws_toCode ·) rfl (fun c12_1 h => ?_)
 refine xFd rfl ?_
 refine xSt rfl ?_
 refine oRs ?_
 refine xFd rfl ?_
 refine xLd rfl ?_
 refine xFd rfl ?_
 refine xSt rfl ?_
 refine oRs ?_
 refine xFd rfl ?_
 refine xLd rfl ?_
 refine xC0 h (big_laws_toCode ·) rfl (fun c19_2 h => ?_)
 refine xFd rfl ?_
 refine xSt rfl ?_
 refine oRs ?_
 refine xLd rfl ?_
 refine xSt rfl ?_
 refine oNl ?_
 refine cRt ?_
 cases h
 exact eR rfl rfl rfl rfl
abbrev B_laws_toEntryS (p : (List S_laws_Entry) → Option ((List S_impl_Entry))) : Prop := ∀ {t0_0 : List S_laws_Entry} {r : (List S_impl_Entry)}, p t0_0 = some r → Big Try.prog τ An (.fn 38 [.one (.c (.sl (t0_0.map rS_laws_Entry)))] [] (.one (.c (.sl (r.map rS_impl_Entry)))) none [] none)
def p_laws_toEntryS_b1 (n : Nat) (t0_0 : List S_laws_Entry) : ((List S_impl_Entry) × Int) → Option (((List S_impl_Entry) × Int) ⊕ (((List S_impl_Entry) × Int × Bool)))
  | (v3_2, v4_3) => bif decide (v4_3 < (t0_0.length : Int)) then (ix t0_0 v4_3).bind fun e18_8 => (p_laws_toEntry n e18_8.f0 e18_8.f1 e18_8.f2 e18_8.f3 e18_8.f4 e18_8.f5 e18_8.f6).bind fun c20_9 => (ix v3_2 v4_3).bind fun e21_10 => some (.inl ((v3_2.set (Int.toNat v4_3) (S_impl_Entry.mk c20_9.1 c20_9.2.1 c20_9.2.2.1 c20_9.2.2.2.1 c20_9.2.2.2.2.1 c20_9.2.2.2.2.2.1 c20_9.2.2.2.2.2.2)), (IntKind.wrap .i64 (v4_3 + (1 : Int))))) else some (.inr (v3_2, v4_3, false))
def p_laws_toEntryS (n : Nat) (t0_0 : List S_laws_Entry) : Option ((List S_impl_Entry)) :=
  (ck (decide (0 ≤ (t0_0.length : Int) ∧ (t0_0.length : Int) ≤ maxLen ∧ 128 * (t0_0.length : Int) ≤ 281474976710656))).bind fun _ => (loopN (p_laws_toEntryS_b1 n t0_0) n ((List.replicate (Int.toNat (t0_0.length : Int)) (S_impl_Entry.mk ([] : List UInt8) (0 : Int) ([] : List S_impl_Fn) ([] : List S_impl_Pat) false ([] : List S_impl_Fn) ([] : List S_impl_Pat))), (0 : Int))).bind fun (v3_4, v4_5, v11_6) => some v3_4
theorem big_laws_toEntryS {n : Nat} : B_laws_toEntryS (p_laws_toEntryS n) := by
 intro t0_0 r h
 unfold p_laws_toEntryS at h
 refine bF Try.func38 rfl rfl ?_
 refine cRs ?_
 refine wAe (Li rS_impl_Entry []) rfl rfl rfl rfl ?_
 refine oRs ?_
 refine xMv rfl ?_
 refine xLn rfl ?_
 refine oCk h (fun k7_0 h => ?_)
 refine wMk (z := S_impl_Entry.mk ([] : List UInt8) (0 : Int) ([] : List S_impl_Fn) ([] : List S_impl_Pat) false ([] : List S_impl_Fn) ([] : List S_impl_Pat)) (f := rS_impl_Entry) k7_0 rfl rfl rfl rfl rfl rfl rfl ?_
 refine xAs rfl ?_
 refine oNl ?_
 refine cSq ?_
 refine cRs ?_
 refine xAs rfl ?_
 refine oNl ?_
 refine cLp h [(3, 4), (8, 21)] [] (fun (v3_2, v4_3) => ([(3, Li rS_impl_Entry v3_2), (4, I64 v4_3)], [])) (fun (v3_4, v4_5, v11_6) => (.e 0, [(3, Li rS_impl_Entry v3_4), (4, I64 v4_5), (11, Bo v11_6)], [])) rfl (fun st _ h => ?_) (fun q h => ?_)
 obtain ⟨v3_2, v4_3⟩ := st
 unfold p_laws_toEntryS_b1 at h
 refine cSq ?_
 refine cRs ?_
 refine xMv rfl ?_
 refine xMv rfl ?_
 refine xLn rfl ?_
 refine xLt rfl ?_
 refine oNl ?_
 refine cIf h rfl (fun q7 h => ?_) (fun q7 h => ?_)
 refine cSk ?_
 refine cSq ?_
 refine cBk ?_
 refine cRg ?_
 refine wAl rfl rfl rfl rfl ?_
 refine xMv rfl ?_
 refine xMv rfl ?_
 refine xMv rfl ?_
 refine xIx h rS_laws_Entry_eq rfl (fun e18_8 h => ?_)
 refine xLd rfl ?_
 refine xC0 h (big_laws_toEntry ·) rfl (fun c20_9 h => ?_)
 refine wIp (f := rS_impl_Entry) h rfl rfl rfl rfl rfl rfl (fun _ => rfl) rfl (fun e21_10 ke21_10 h => ?_)
 refine wSp (f := rS_impl_Entry) (v' := S_impl_Entry.mk c20_9.1 c20_9.2.1 c20_9.2.2.1 c20_9.2.2.2.1 c20_9.2.2.2.2.1 c20_9.2.2.2.2.2.1 c20_9.2.2.2.2.2.2) ke21_10 rfl rfl rfl rfl rfl rfl rfl rfl rfl ?_
 refine oNl ?_
 refine cRg ?_
 refine xMv rfl ?_
 refine xAdd rfl ?_
 refine xAs rfl ?_
 refine oNl ?_
 exact eL h rfl
 refine cEx ?_
 exact eX h rfl
 obtain ⟨v3_4, v4_5, v11_6⟩ := q
 refine cRs ?_
 refine xMv rfl ?_
 refine xAs rfl ?_
 refine oNl ?_
 refine cRt ?_
 cases h
 exact eR rfl rfl rfl rfl
abbrev B_impl_entryAt_1 (p : (List UInt8) → Int → (List S_impl_Fn) → (List S_impl_Pat) → Bool → (List S_impl_Fn) → (List S_impl_Pat) → (List UInt8) → Option (Bool × (List UInt8))) : Prop := ∀ {t0_0 : List UInt8} {t0_1 : Int} {t0_2 : List S_impl_Fn} {t0_3 : List S_impl_Pat} {t0_4 : Bool} {t0_5 : List S_impl_Fn} {t0_6 : List S_impl_Pat} {o0_0 : List UInt8} {r : Bool × (List UInt8)}, p t0_0 t0_1 t0_2 t0_3 t0_4 t0_5 t0_6 o0_0 = some r → Big Try.prog τ An (.fn 114 [.one (.ag [.str t0_0, .int .i64 t0_1, .sl (t0_2.map rS_impl_Fn), .sl (t0_3.map rS_impl_Pat), .bool t0_4, .sl (t0_5.map rS_impl_Fn), .sl (t0_6.map rS_impl_Pat)]), .one (.ptr 1000000 0)] [[.str o0_0]] (.one (.c (.bool r.1))) none [[.str r.2]] none)
def p_impl_entryAt_1 (n : Nat) (t0_0 : List UInt8) (t0_1 : Int) (t0_2 : List S_impl_Fn) (t0_3 : List S_impl_Pat) (t0_4 : Bool) (t0_5 : List S_impl_Fn) (t0_6 : List S_impl_Pat) (o0_0 : List UInt8) : Option (Bool × (List UInt8)) :=
  some ((decide (t0_0 = o0_0)), o0_0)
theorem big_impl_entryAt_1 {n : Nat} : B_impl_entryAt_1 (p_impl_entryAt_1 n) := by
 intro t0_0 t0_1 t0_2 t0_3 t0_4 t0_5 t0_6 o0_0 r h
 unfold p_impl_entryAt_1 at h
 refine bF Try.func114 rfl rfl ?_
 refine cRs ?_
 refine xBx rfl ?_
 refine xAs rfl ?_
 refine oRs ?_
 refine xFd rfl ?_
 refine xLd rfl ?_
 refine xLd rfl ?_
 refine xEs rfl ?_
 refine xAs rfl ?_
 refine oNl ?_
 refine cRt ?_
 cases h
 exact eR rfl rfl rfl rfl
abbrev B_slices_IndexFunc_e4d6 (p : (List S_impl_Entry) → (List UInt8) → Option (Int × (List UInt8))) : Prop := ∀ {t0_0 : List S_impl_Entry} {o0_0 : List UInt8} {r : Int × (List UInt8)}, p t0_0 o0_0 = some r → Big Try.prog τ An (.fn 113 [.one (.c (.sl (t0_0.map rS_impl_Entry))), .one (.fn 114 [(1000000, 0)])] [[.str o0_0]] (.one (.c (.int .i64 r.1))) none [[.str r.2]] none)
def p_slices_IndexFunc_e4d6_b1 (n : Nat) (t0_0 : List S_impl_Entry) : (Int × (List UInt8)) → Option ((Int × (List UInt8)) ⊕ ((Int × (List UInt8)) ⊕ (Int × Bool × (List UInt8))))
  | (v8_1, w1000000_2) => bif decide (v8_1 < (t0_0.length : Int)) then (ix t0_0 v8_1).bind fun e14_9 => (p_impl_entryAt_1 n e14_9.f0 e14_9.f1 e14_9.f2 e14_9.f3 e14_9.f4 e14_9.f5 e14_9.f6 w1000000_2).bind fun c16_10 => bif c16_10.1 then some (.inr (.inl (v8_1, c16_10.2))) else some (.inl ((IntKind.wrap .i64 (v8_1 + (1 : Int))), c16_10.2)) else some (.inr (.inr (v8_1, false, w1000000_2)))
def p_slices_IndexFunc_e4d6 (n : Nat) (t0_0 : List S_impl_Entry) (o0_0 : List UInt8) : Option (Int × (List UInt8)) :=
  (loopN (p_slices_IndexFunc_e4d6_b1 n t0_0) n ((0 : Int), o0_0)).bind fun q => (match q with | .inl (v4_3, w1000000_4) => some (v4_3, w1000000_4) | .inr (v8_5, v9_6, w1000000_7) => some (((-1) : Int), w1000000_7))
theorem big_slices_IndexFunc_e4d6 {n : Nat} : B_slices_IndexFunc_e4d6 (p_slices_IndexFunc_e4d6 n) := by
 intro t0_0 o0_0 r h
 unfold p_slices_IndexFunc_e4d6 at h
 refine bF Try.func113 rfl rfl ?_
 refine cRs ?_
 refine xAs rfl ?_
 refine oNl ?_
 refine cSq ?_
 refine cRs ?_
 refine xMv rfl ?_
 refine xLn rfl ?_
 refine xMv rfl ?_
 refine oNl ?_
 refine cLp h [(4, 5), (8, 18)] [(1000000, 1000000)] (fun (v8_1, w1000000_2) => ([(8, I64 v8_1)], [(1000000, [.str w1000000_2])])) (fun q => match q with | .inl (v4_3, w1000000_4) => (.r, [(4, I64 v4_3)], [(1000000, [.str w1000000_4])]) | .inr (v8_5, v9_6, w1000000_7) => (.e 0, [(8, I64 v8_5), (9, Bo v9_6)], [(1000000, [.str w1000000_7])])) rfl (fun st _ h => ?_) (fun q h => ?_)
 obtain ⟨v8_1, w1000000_2⟩ := st
 unfold p_slices_IndexFunc_e4d6_b1 at h
 refine cRs ?_
 refine xLt rfl ?_
 refine oNl ?_
 refine cSq ?_
 refine cIf h rfl (fun q8 h => ?_) (fun q8 h => ?_)
 refine cSk ?_
 refine cSq ?_
 refine cBk ?_
 refine cRs ?_
 refine xMv rfl ?_
 refine xAs rfl ?_
 refine oRs ?_
 refine xMv rfl ?_
 refine xMv rfl ?_
 refine xMv rfl ?_
 refine xIx h rS_impl_Entry_eq rfl (fun e14_9 h => ?_)
 refine xLd rfl ?_
 refine xC1 h (big_impl_entryAt_1 ·) rfl (fun c16_10 h => ?_)
 refine oNl ?_
 refine cIf h rfl (fun q11 h => ?_) (fun q11 h => ?_)
 refine cRs ?_
 refine xMv rfl ?_
 refine xAs rfl ?_
 refine oNl ?_
 refine cRt ?_
 exact eXr h rfl
 refine cSk ?_
 refine cRg ?_
 refine xAdd rfl ?_
 refine xMv rfl ?_
 refine oNl ?_
 exact eL h rfl
 refine cEx ?_
 exact eX h rfl
 rcases q with ⟨v4_3, w1000000_4⟩ | ⟨v8_5, v9_6, w1000000_7⟩
 cases h
 exact eR rfl rfl rfl rfl
 refine cRs ?_
 refine xAs rfl ?_
 refine oNl ?_
 refine cRt ?_
 cases h
 exact eR rfl rfl rfl rfl
abbrev B_impl_entryAt (p : (List S_impl_Entry) → (List UInt8) → Option (Int)) : Prop := ∀ {t0_0 : List S_impl_Entry} {t1_0 : List UInt8} {r : Int}, p t0_0 t1_0 = some r → Big Try.prog τ An (.fn 83 [.one (.c (.sl (t0_0.map rS_impl_Entry))), .one (.c (.str t1_0))] [] (.one (.c (.int .i64 r))) none [] none)
def p_impl_entryAt (n : Nat) (t0_0 : List S_impl_Entry) (t1_0 : List UInt8) : Option (Int) :=
  (p_slices_IndexFunc_e4d6 n t0_0 t1_0).bind fun c7_1 => some c7_1.1
theorem big_impl_entryAt {n : Nat} : B_impl_entryAt (p_impl_entryAt n) := by
 intro t0_0 t1_0 r h
 unfold p_impl_entryAt at h
 refine bF Try.func83 rfl rfl ?_
 refine cRs ?_
 refine xBx rfl ?_
 refine xAs rfl ?_
 refine oRs ?_
 refine xMv rfl ?_
 refine wFn rfl rfl rfl ?_
 refine xC1 h (big_slices_IndexFunc_e4d6 ·) rfl (fun c7_1 h => ?_)
 refine xAs rfl ?_
 refine oNl ?_
 refine cRt ?_
 cases h
 exact eR rfl rfl rfl rfl
abbrev B_impl_NewestOf (p : (List S_impl_Entry) → (List UInt8) → Option (Int)) : Prop := ∀ {t0_0 : List S_impl_Entry} {t1_0 : List UInt8} {r : Int}, p t0_0 t1_0 = some r → Big Try.prog τ An (.fn 39 [.one (.c (.sl (t0_0.map rS_impl_Entry))), .one (.c (.str t1_0))] [] (.one (.c (.int .i64 r))) none [] none)
def p_impl_NewestOf (n : Nat) (t0_0 : List S_impl_Entry) (t1_0 : List UInt8) : Option (Int) :=
  (p_impl_entryAt n t0_0 t1_0).bind fun c8_1 => bif decide (c8_1 < (0 : Int)) then some (0 : Int) else (ix t0_0 c8_1).bind fun e13_3 => some e13_3.f1
theorem big_impl_NewestOf {n : Nat} : B_impl_NewestOf (p_impl_NewestOf n) := by
 intro t0_0 t1_0 r h
 unfold p_impl_NewestOf at h
 refine bF Try.func39 rfl rfl ?_
 refine cRs ?_
 refine xAs rfl ?_
 refine oRs ?_
 refine xMv rfl ?_
 refine xMv rfl ?_
 refine xC0 h (big_impl_entryAt ·) rfl (fun c8_1 h => ?_)
 refine xAs rfl ?_
 refine oNl ?_
 refine cSq ?_
 refine cRs ?_
 refine xMv rfl ?_
 refine xLt rfl ?_
 refine oNl ?_
 refine cIf h rfl (fun q2 h => ?_) (fun q2 h => ?_)
 refine cRs ?_
 refine xAs rfl ?_
 refine oNl ?_
 refine cRt ?_
 cases h
 exact eR rfl rfl rfl rfl
 refine cSk ?_
 refine cRs ?_
 refine xMv rfl ?_
 refine xMv rfl ?_
 refine xIx h rS_impl_Entry_eq rfl (fun e13_3 h => ?_)
 refine xFd rfl ?_
 refine xLd rfl ?_
 refine xAs rfl ?_
 refine oNl ?_
 refine cRt ?_
 cases h
 exact eR rfl rfl rfl rfl
abbrev B_laws_eqIns (p : Int → Int → (List UInt8) → Int → Int → Int → (List UInt8) → Int → Option (Bool)) : Prop := ∀ {t0_0 t0_1 : Int} {t0_2 : List UInt8} {t0_3 t1_0 t1_1 : Int} {t1_2 : List UInt8} {t1_3 : Int} {r : Bool}, p t0_0 t0_1 t0_2 t0_3 t1_0 t1_1 t1_2 t1_3 = some r → Big Try.prog τ An (.fn 151 [.one (.ag [.int .i64 t0_0, .int .i64 t0_1, .str t0_2, .int .i64 t0_3]), .one (.ag [.int .i64 t1_0, .int .i64 t1_1, .str t1_2, .int .i64 t1_3])] [] (.one (.c (.bool r))) none [] none)
def p_laws_eqIns (n : Nat) (t0_0 : Int) (t0_1 : Int) (t0_2 : List UInt8) (t0_3 : Int) (t1_0 : Int) (t1_1 : Int) (t1_2 : List UInt8) (t1_3 : Int) : Option (Bool) :=
  bif !decide (t0_0 = t1_0) then some false else bif !decide (t0_1 = t1_1) then some false else bif !decide (t0_2 = t1_2) then some false else bif !decide (t0_3 = t1_3) then some false else some true
theorem big_laws_eqIns {n : Nat} : B_laws_eqIns (p_laws_eqIns n) := by
 intro t0_0 t0_1 t0_2 t0_3 t1_0 t1_1 t1_2 t1_3 r h
 unfold p_laws_eqIns at h
 refine bF Try.func151 rfl rfl ?_
 refine cRs ?_
 refine xBx rfl ?_
 refine xBx rfl ?_
 refine xAs rfl ?_
 refine oNl ?_
 refine cSq ?_
 refine cRs ?_
 refine xFd rfl ?_
 refine xLd rfl ?_
 refine xFd rfl ?_
 refine xLd rfl ?_
 refine xNe rfl ?_
 refine oNl ?_
 refine cIf h rfl (fun q1 h => ?_) (fun q1 h => ?_)
 refine cRs ?_
 refine xAs rfl ?_
 refine oNl ?_
 refine cRt ?_
 cases h
 exact eR rfl rfl rfl rfl
 refine cSk ?_
 refine cSq ?_
 refine cRs ?_
 refine xFd rfl ?_
 refine xLd rfl ?_
 refine xFd rfl ?_
 refine xLd rfl ?_
 refine xNe rfl ?_
 refine oNl ?_
 refine cIf h rfl (fun q2 h => ?_) (fun q2 h => ?_)
 refine cRs ?_
 refine xAs rfl ?_
 refine oNl ?_
 refine cRt ?_
 cases h
 exact eR rfl rfl rfl rfl
 refine cSk ?_
 refine cSq ?_
 refine cRs ?_
 refine xFd rfl ?_
 refine xLd rfl ?_
 refine xFd rfl ?_
 refine xLd rfl ?_
 refine xNs rfl ?_
 refine oNl ?_
 refine cIf h rfl (fun q3 h => ?_) (fun q3 h => ?_)
 refine cRs ?_
 refine xAs rfl ?_
 refine oNl ?_
 refine cRt ?_
 cases h
 exact eR rfl rfl rfl rfl
 refine cSk ?_
 refine cSq ?_
 refine cRs ?_
 refine xFd rfl ?_
 refine xLd rfl ?_
 refine xFd rfl ?_
 refine xLd rfl ?_
 refine xNe rfl ?_
 refine oNl ?_
 refine cIf h rfl (fun q4 h => ?_) (fun q4 h => ?_)
 refine cRs ?_
 refine xAs rfl ?_
 refine oNl ?_
 refine cRt ?_
 cases h
 exact eR rfl rfl rfl rfl
 refine cSk ?_
 refine cRs ?_
 refine xAs rfl ?_
 refine oNl ?_
 refine cRt ?_
 cases h
 exact eR rfl rfl rfl rfl
abbrev B_laws_eqInsS (p : (List S_laws_Ins) → (List S_laws_Ins) → Option (Bool)) : Prop := ∀ {t0_0 t1_0 : List S_laws_Ins} {r : Bool}, p t0_0 t1_0 = some r → Big Try.prog τ An (.fn 148 [.one (.c (.sl (t0_0.map rS_laws_Ins))), .one (.c (.sl (t1_0.map rS_laws_Ins)))] [] (.one (.c (.bool r))) none [] none)
def p_laws_eqInsS_b1 (n : Nat) (t0_0 : List S_laws_Ins) (t1_0 : List S_laws_Ins) : (Int) → Option ((Int) ⊕ ((Bool) ⊕ (Int × Bool)))
  | v5_2 => bif decide (v5_2 < (t0_0.length : Int)) then (ix t0_0 v5_2).bind fun e19_7 => (ix t1_0 v5_2).bind fun e23_8 => (p_laws_eqIns n e19_7.f0 e19_7.f1 e19_7.f2 e19_7.f3 e23_8.f0 e23_8.f1 e23_8.f2 e23_8.f3).bind fun c25_9 => bif !c25_9 then some (.inr (.inl false)) else some (.inl (IntKind.wrap .i64 (v5_2 + (1 : Int)))) else some (.inr (.inr (v5_2, false)))
def p_laws_eqInsS (n : Nat) (t0_0 : List S_laws_Ins) (t1_0 : List S_laws_Ins) : Option (Bool) :=
  bif !decide ((t0_0.length : Int) = (t1_0.length : Int)) then some false else (loopN (p_laws_eqInsS_b1 n t0_0 t1_0) n (0 : Int)).bind fun q => (match q with | .inl v4_3 => some v4_3 | .inr (v5_4, v14_5) => some true)
theorem big_laws_eqInsS {n : Nat} : B_laws_eqInsS (p_laws_eqInsS n) := by
 intro t0_0 t1_0 r h
 unfold p_laws_eqInsS at h
 refine bF Try.func148 rfl rfl ?_
 refine cRs ?_
 refine xAs rfl ?_
 refine oNl ?_
 refine cSq ?_
 refine cRs ?_
 refine xMv rfl ?_
 refine xLn rfl ?_
 refine xMv rfl ?_
 refine xLn rfl ?_
 refine xNe rfl ?_
 refine oNl ?_
 refine cIf h rfl (fun q1 h => ?_) (fun q1 h => ?_)
 refine cRs ?_
 refine xAs rfl ?_
 refine oNl ?_
 refine cRt ?_
 cases h
 exact eR rfl rfl rfl rfl
 refine cSk ?_
 refine cSq ?_
 refine cRs ?_
 refine xAs rfl ?_
 refine oNl ?_
 refine cLp h [(4, 5), (11, 26)] [] (fun v5_2 => ([(5, I64 v5_2)], [])) (fun q => match q with | .inl v4_3 => (.r, [(4, Bo v4_3)], []) | .inr (v5_4, v14_5) => (.e 0, [(5, I64 v5_4), (14, Bo v14_5)], [])) rfl (fun v5_2 _ h => ?_) (fun q h => ?_)
 unfold p_laws_eqInsS_b1 at h
 refine cSq ?_
 refine cRs ?_
 refine xMv rfl ?_
 refine xMv rfl ?_
 refine xLn rfl ?_
 refine xLt rfl ?_
 refine oNl ?_
 refine cIf h rfl (fun q6 h => ?_) (fun q6 h => ?_)
 refine cSk ?_
 refine cSq ?_
 refine cBk ?_
 refine cRs ?_
 refine xMv rfl ?_
 refine xMv rfl ?_
 refine xIx h rS_laws_Ins_eq rfl (fun e19_7 h => ?_)
 refine xLd rfl ?_
 refine xMv rfl ?_
 refine xMv rfl ?_
 refine xIx h rS_laws_Ins_eq rfl (fun e23_8 h => ?_)
 refine xLd rfl ?_
 refine xC0 h (big_laws_eqIns ·) rfl (fun c25_9 h => ?_)
 refine xNot rfl ?_
 refine oNl ?_
 refine cIf h rfl (fun q10 h => ?_) (fun q10 h => ?_)
 refine cRs ?_
 refine xAs rfl ?_
 refine oNl ?_
 refine cRt ?_
 exact eXr h rfl
 refine cSk ?_
 refine cRg ?_
 refine xMv rfl ?_
 refine xAdd rfl ?_
 refine xAs rfl ?_
 refine oNl ?_
 exact eL h rfl
 refine cEx ?_
 exact eX h rfl
 rcases q with v4_3 | ⟨v5_4, v14_5⟩
 cases h
 exact eR rfl rfl rfl rfl
 refine cRs ?_
 refine xAs rfl ?_
 refine oNl ?_
 refine cRt ?_
 cases h
 exact eR rfl rfl rfl rfl
abbrev B_laws_eqFn (p : (List UInt8) → Int → Int → (List S_laws_Ins) → (List UInt8) → Int → Int → (List S_laws_Ins) → Option (Bool)) : Prop := ∀ {t0_0 : List UInt8} {t0_1 t0_2 : Int} {t0_3 : List S_laws_Ins} {t1_0 : List UInt8} {t1_1 t1_2 : Int} {t1_3 : List S_laws_Ins} {r : Bool}, p t0_0 t0_1 t0_2 t0_3 t1_0 t1_1 t1_2 t1_3 = some r → Big Try.prog τ An (.fn 144 [.one (.ag [.str t0_0, .int .i64 t0_1, .int .i64 t0_2, .sl (t0_3.map rS_laws_Ins)]), .one (.ag [.str t1_0, .int .i64 t1_1, .int .i64 t1_2, .sl (t1_3.map rS_laws_Ins)])] [] (.one (.c (.bool r))) none [] none)
def p_laws_eqFn (n : Nat) (t0_0 : List UInt8) (t0_1 : Int) (t0_2 : Int) (t0_3 : List S_laws_Ins) (t1_0 : List UInt8) (t1_1 : Int) (t1_2 : Int) (t1_3 : List S_laws_Ins) : Option (Bool) :=
  bif !decide (t0_0 = t1_0) then some false else bif !decide (t0_1 = t1_1) then some false else bif !decide (t0_2 = t1_2) then some false else (p_laws_eqInsS n t0_3 t1_3).bind fun c24_4 => bif !c24_4 then some false else some true
theorem big_laws_eqFn {n : Nat} : B_laws_eqFn (p_laws_eqFn n) := by
 intro t0_0 t0_1 t0_2 t0_3 t1_0 t1_1 t1_2 t1_3 r h
 unfold p_laws_eqFn at h
 refine bF Try.func144 rfl rfl ?_
 refine cRs ?_
 refine xBx rfl ?_
 refine xBx rfl ?_
 refine xAs rfl ?_
 refine oNl ?_
 refine cSq ?_
 refine cRs ?_
 refine xFd rfl ?_
 refine xLd rfl ?_
 refine xFd rfl ?_
 refine xLd rfl ?_
 refine xNs rfl ?_
 refine oNl ?_
 refine cIf h rfl (fun q1 h => ?_) (fun q1 h => ?_)
 refine cRs ?_
 refine xAs rfl ?_
 refine oNl ?_
 refine cRt ?_
 cases h
 exact eR rfl rfl rfl rfl
 refine cSk ?_
 refine cSq ?_
 refine cRs ?_
 refine xFd rfl ?_
 refine xLd rfl ?_
 refine xFd rfl ?_
 refine xLd rfl ?_
 refine xNe rfl ?_
 refine oNl ?_
 refine cIf h rfl (fun q2 h => ?_) (fun q2 h => ?_)
 refine cRs ?_
 refine xAs rfl ?_
 refine oNl ?_
 refine cRt ?_
 cases h
 exact eR rfl rfl rfl rfl
 refine cSk ?_
 refine cSq ?_
 refine cRs ?_
 refine xFd rfl ?_
 refine xLd rfl ?_
 refine xFd rfl ?_
 refine xLd rfl ?_
 refine xNe rfl ?_
 refine oNl ?_
 refine cIf h rfl (fun q3 h => ?_) (fun q3 h => ?_)
 refine cRs ?_
 refine xAs rfl ?_
 refine oNl ?_
 refine cRt ?_
 cases h
 exact eR rfl rfl rfl rfl
 refine cSk ?_
 refine cSq ?_
 refine cRs ?_
 refine xFd rfl ?_
 refine xLd rfl ?_
 refine xFd rfl ?_
 refine xLd rfl ?_
 refine xC0 h (big_laws_eqInsS ·) rfl (fun c24_4 h => ?_)
 refine xNot rfl ?_
 refine oNl ?_
 refine cIf h rfl (fun q5 h => ?_) (fun q5 h => ?_)
 refine cRs ?_
 refine xAs rfl ?_
 refine oNl ?_
 refine cRt ?_
 cases h
 exact eR rfl rfl rfl rfl
 refine cSk ?_
 refine cRs ?_
 refine xAs rfl ?_
 refine oNl ?_
 refine cRt ?_
 cases h
 exact eR rfl rfl rfl rfl
abbrev B_laws_eqFnS (p : (List S_impl_Fn) → (List S_impl_Fn) → Option (Bool)) : Prop := ∀ {t0_0 t1_0 : List S_impl_Fn} {r : Bool}, p t0_0 t1_0 = some r → Big Try.prog τ An (.fn 134 [.one (.c (.sl (t0_0.map rS_impl_Fn))), .one (.c (.sl (t1_0.map rS_impl_Fn)))] [] (.one (.c (.bool r))) none [] none)
def p_laws_eqFnS_b1 (n : Nat) (t0_0 : List S_impl_Fn) (t1_0 : List S_impl_Fn) : (Int) → Option ((Int) ⊕ ((Bool) ⊕ (Int × Bool)))
  | v5_2 => bif decide (v5_2 < (t0_0.length : Int)) then (ix t0_0 v5_2).bind fun e19_7 => (ix t1_0 v5_2).bind fun e23_8 => (p_laws_eqFn n e19_7.f0 e19_7.f1 e19_7.f2 e19_7.f3 e23_8.f0 e23_8.f1 e23_8.f2 e23_8.f3).bind fun c25_9 => bif !c25_9 then some (.inr (.inl false)) else some (.inl (IntKind.wrap .i64 (v5_2 + (1 : Int)))) else some (.inr (.inr (v5_2, false)))
def p_laws_eqFnS (n : Nat) (t0_0 : List S_impl_Fn) (t1_0 : List S_impl_Fn) : Option (Bool) :=
  bif !decide ((t0_0.length : Int) = (t1_0.length : Int)) then some false else (loopN (p_laws_eqFnS_b1 n t0_0 t1_0) n (0 : Int)).bind fun q => (match q with | .inl v4_3 => some v4_3 | .inr (v5_4, v14_5) => some true)
theorem big_laws_eqFnS {n : Nat} : B_laws_eqFnS (p_laws_eqFnS n) := by
 intro t0_0 t1_0 r h
 unfold p_laws_eqFnS at h
 refine bF Try.func134 rfl rfl ?_
 refine cRs ?_
 refine xAs rfl ?_
 refine oNl ?_
 refine cSq ?_
 refine cRs ?_
 refine xMv rfl ?_
 refine xLn rfl ?_
 refine xMv rfl ?_
 refine xLn rfl ?_
 refine xNe rfl ?_
 refine oNl ?_
 refine cIf h rfl (fun q1 h => ?_) (fun q1 h => ?_)
 refine cRs ?_
 refine xAs rfl ?_
 refine oNl ?_
 refine cRt ?_
 cases h
 exact eR rfl rfl rfl rfl
 refine cSk ?_
 refine cSq ?_
 refine cRs ?_
 refine xAs rfl ?_
 refine oNl ?_
 refine cLp h [(4, 5), (11, 26)] [] (fun v5_2 => ([(5, I64 v5_2)], [])) (fun q => match q with | .inl v4_3 => (.r, [(4, Bo v4_3)], []) | .inr (v5_4, v14_5) => (.e 0, [(5, I64 v5_4), (14, Bo v14_5)], [])) rfl (fun v5_2 _ h => ?_) (fun q h => ?_)
 unfold p_laws_eqFnS_b1 at h
 refine cSq ?_
 refine cRs ?_
 refine xMv rfl ?_
 refine xMv rfl ?_
 refine xLn rfl ?_
 refine xLt rfl ?_
 refine oNl ?_
 refine cIf h rfl (fun q6 h => ?_) (fun q6 h => ?_)
 refine cSk ?_
 refine cSq ?_
 refine cBk ?_
 refine cRs ?_
 refine xMv rfl ?_
 refine xMv rfl ?_
 refine xIx h rS_impl_Fn_eq rfl (fun e19_7 h => ?_)
 refine xLd rfl ?_
 refine xMv rfl ?_
 refine xMv rfl ?_
 refine xIx h rS_impl_Fn_eq rfl (fun e23_8 h => ?_)
 refine xLd rfl ?_
 refine xC0 h (big_laws_eqFn ·) rfl (fun c25_9 h => ?_)
 refine xNot rfl ?_
 refine oNl ?_
 refine cIf h rfl (fun q10 h => ?_) (fun q10 h => ?_)
 refine cRs ?_
 refine xAs rfl ?_
 refine oNl ?_
 refine cRt ?_
 exact eXr h rfl
 refine cSk ?_
 refine cRg ?_
 refine xMv rfl ?_
 refine xAdd rfl ?_
 refine xAs rfl ?_
 refine oNl ?_
 exact eL h rfl
 refine cEx ?_
 exact eX h rfl
 rcases q with v4_3 | ⟨v5_4, v14_5⟩
 cases h
 exact eR rfl rfl rfl rfl
 refine cRs ?_
 refine xAs rfl ?_
 refine oNl ?_
 refine cRt ?_
 cases h
 exact eR rfl rfl rfl rfl
abbrev B_laws_eqPat (p : Int → Int → (List UInt8) → (List S_impl_Pat) → Int → Int → (List UInt8) → (List S_impl_Pat) → Option (Bool)) : Prop := ∀ {t0_0 t0_1 : Int} {t0_2 : List UInt8} {t0_3 : List S_impl_Pat} {t1_0 t1_1 : Int} {t1_2 : List UInt8} {t1_3 : List S_impl_Pat} {r : Bool}, p t0_0 t0_1 t0_2 t0_3 t1_0 t1_1 t1_2 t1_3 = some r → Big Try.prog τ An (.fn 145 [.one (.ag [.int .i64 t0_0, .int .i64 t0_1, .str t0_2, .sl (t0_3.map rS_impl_Pat)]), .one (.ag [.int .i64 t1_0, .int .i64 t1_1, .str t1_2, .sl (t1_3.map rS_impl_Pat)])] [] (.one (.c (.bool r))) none [] none)
abbrev B_laws_eqPatS (p : (List S_impl_Pat) → (List S_impl_Pat) → Option (Bool)) : Prop := ∀ {t0_0 t1_0 : List S_impl_Pat} {r : Bool}, p t0_0 t1_0 = some r → Big Try.prog τ An (.fn 135 [.one (.c (.sl (t0_0.map rS_impl_Pat))), .one (.c (.sl (t1_0.map rS_impl_Pat)))] [] (.one (.c (.bool r))) none [] none)
def s_laws_eqPat (n : Nat) (r_laws_eqPatS : (List S_impl_Pat) → (List S_impl_Pat) → Option (Bool)) (r_laws_eqPat : Int → Int → (List UInt8) → (List S_impl_Pat) → Int → Int → (List UInt8) → (List S_impl_Pat) → Option (Bool)) (t0_0 : Int) (t0_1 : Int) (t0_2 : List UInt8) (t0_3 : List S_impl_Pat) (t1_0 : Int) (t1_1 : Int) (t1_2 : List UInt8) (t1_3 : List S_impl_Pat) : Option (Bool) :=
  bif !decide (t0_0 = t1_0) then some false else bif !decide (t0_1 = t1_1) then some false else bif !decide (t0_2 = t1_2) then some false else (r_laws_eqPatS t0_3 t1_3).bind fun c24_4 => bif !c24_4 then some false else some true
theorem step_laws_eqPat {n : Nat} {r_laws_eqPatS : (List S_impl_Pat) → (List S_impl_Pat) → Option (Bool)} (ih_laws_eqPatS : B_laws_eqPatS r_laws_eqPatS) {r_laws_eqPat : Int → Int → (List UInt8) → (List S_impl_Pat) → Int → Int → (List UInt8) → (List S_impl_Pat) → Option (Bool)} (ih_laws_eqPat : B_laws_eqPat r_laws_eqPat) : B_laws_eqPat (s_laws_eqPat n r_laws_eqPatS r_laws_eqPat) := by
 intro t0_0 t0_1 t0_2 t0_3 t1_0 t1_1 t1_2 t1_3 r h
 unfold s_laws_eqPat at h
 refine bF Try.func145 rfl rfl ?_
 refine cRs ?_
 refine xBx rfl ?_
 refine xBx rfl ?_
 refine xAs rfl ?_
 refine oNl ?_
 refine cSq ?_
 refine cRs ?_
 refine xFd rfl ?_
 refine xLd rfl ?_
 refine xFd rfl ?_
 refine xLd rfl ?_
 refine xNe rfl ?_
 refine oNl ?_
 refine cIf h rfl (fun q1 h => ?_) (fun q1 h => ?_)
 refine cRs ?_
 refine xAs rfl ?_
 refine oNl ?_
 refine cRt ?_
 cases h
 exact eR rfl rfl rfl rfl
 refine cSk ?_
 refine cSq ?_
 refine cRs ?_
 refine xFd rfl ?_
 refine xLd rfl ?_
 refine xFd rfl ?_
 refine xLd rfl ?_
 refine xNe rfl ?_
 refine oNl ?_
 refine cIf h rfl (fun q2 h => ?_) (fun q2 h => ?_)
 refine cRs ?_
 refine xAs rfl ?_
 refine oNl ?_
 refine cRt ?_
 cases h
 exact eR rfl rfl rfl rfl
 refine cSk ?_
 refine cSq ?_
 refine cRs ?_
 refine xFd rfl ?_
 refine xLd rfl ?_
 refine xFd rfl ?_
 refine xLd rfl ?_
 refine xNs rfl ?_
 refine oNl ?_
 refine cIf h rfl (fun q3 h => ?_) (fun q3 h => ?_)
 refine cRs ?_
 refine xAs rfl ?_
 refine oNl ?_
 refine cRt ?_
 cases h
 exact eR rfl rfl rfl rfl
 refine cSk ?_
 refine cSq ?_
 refine cRs ?_
 refine xFd rfl ?_
 refine xLd rfl ?_
 refine xFd rfl ?_
 refine xLd rfl ?_
 refine xC0 h (ih_laws_eqPatS ·) rfl (fun c24_4 h => ?_)
 refine xNot rfl ?_
 refine oNl ?_
 refine cIf h rfl (fun q5 h => ?_) (fun q5 h => ?_)
 refine cRs ?_
 refine xAs rfl ?_
 refine oNl ?_
 refine cRt ?_
 cases h
 exact eR rfl rfl rfl rfl
 refine cSk ?_
 refine cRs ?_
 refine xAs rfl ?_
 refine oNl ?_
 refine cRt ?_
 cases h
 exact eR rfl rfl rfl rfl
def p_laws_eqPatS_b1 (n : Nat) (r_laws_eqPat : Int → Int → (List UInt8) → (List S_impl_Pat) → Int → Int → (List UInt8) → (List S_impl_Pat) → Option (Bool)) (t0_0 : List S_impl_Pat) (t1_0 : List S_impl_Pat) : (Int) → Option ((Int) ⊕ ((Bool) ⊕ (Int × Bool)))
  | v5_2 => bif decide (v5_2 < (t0_0.length : Int)) then (ix t0_0 v5_2).bind fun e19_7 => (ix t1_0 v5_2).bind fun e23_8 => (r_laws_eqPat e19_7.f0 e19_7.f1 e19_7.f2 e19_7.f3 e23_8.f0 e23_8.f1 e23_8.f2 e23_8.f3).bind fun c25_9 => bif !c25_9 then some (.inr (.inl false)) else some (.inl (IntKind.wrap .i64 (v5_2 + (1 : Int)))) else some (.inr (.inr (v5_2, false)))
def s_laws_eqPatS (n : Nat) (r_laws_eqPatS : (List S_impl_Pat) → (List S_impl_Pat) → Option (Bool)) (r_laws_eqPat : Int → Int → (List UInt8) → (List S_impl_Pat) → Int → Int → (List UInt8) → (List S_impl_Pat) → Option (Bool)) (t0_0 : List S_impl_Pat) (t1_0 : List S_impl_Pat) : Option (Bool) :=
  bif !decide ((t0_0.length : Int) = (t1_0.length : Int)) then some false else (loopN (p_laws_eqPatS_b1 n r_laws_eqPat t0_0 t1_0) n (0 : Int)).bind fun q => (match q with | .inl v4_3 => some v4_3 | .inr (v5_4, v14_5) => some true)
theorem step_laws_eqPatS {n : Nat} {r_laws_eqPatS : (List S_impl_Pat) → (List S_impl_Pat) → Option (Bool)} (ih_laws_eqPatS : B_laws_eqPatS r_laws_eqPatS) {r_laws_eqPat : Int → Int → (List UInt8) → (List S_impl_Pat) → Int → Int → (List UInt8) → (List S_impl_Pat) → Option (Bool)} (ih_laws_eqPat : B_laws_eqPat r_laws_eqPat) : B_laws_eqPatS (s_laws_eqPatS n r_laws_eqPatS r_laws_eqPat) := by
 intro t0_0 t1_0 r h
 unfold s_laws_eqPatS at h
 refine bF Try.func135 rfl rfl ?_
 refine cRs ?_
 refine xAs rfl ?_
 refine oNl ?_
 refine cSq ?_
 refine cRs ?_
 refine xMv rfl ?_
 refine xLn rfl ?_
 refine xMv rfl ?_
 refine xLn rfl ?_
 refine xNe rfl ?_
 refine oNl ?_
 refine cIf h rfl (fun q1 h => ?_) (fun q1 h => ?_)
 refine cRs ?_
 refine xAs rfl ?_
 refine oNl ?_
 refine cRt ?_
 cases h
 exact eR rfl rfl rfl rfl
 refine cSk ?_
 refine cSq ?_
 refine cRs ?_
 refine xAs rfl ?_
 refine oNl ?_
 refine cLp h [(4, 5), (11, 26)] [] (fun v5_2 => ([(5, I64 v5_2)], [])) (fun q => match q with | .inl v4_3 => (.r, [(4, Bo v4_3)], []) | .inr (v5_4, v14_5) => (.e 0, [(5, I64 v5_4), (14, Bo v14_5)], [])) rfl (fun v5_2 _ h => ?_) (fun q h => ?_)
 unfold p_laws_eqPatS_b1 at h
 refine cSq ?_
 refine cRs ?_
 refine xMv rfl ?_
 refine xMv rfl ?_
 refine xLn rfl ?_
 refine xLt rfl ?_
 refine oNl ?_
 refine cIf h rfl (fun q6 h => ?_) (fun q6 h => ?_)
 refine cSk ?_
 refine cSq ?_
 refine cBk ?_
 refine cRs ?_
 refine xMv rfl ?_
 refine xMv rfl ?_
 refine xIx h rS_impl_Pat_eq rfl (fun e19_7 h => ?_)
 refine xLd rfl ?_
 refine xMv rfl ?_
 refine xMv rfl ?_
 refine xIx h rS_impl_Pat_eq rfl (fun e23_8 h => ?_)
 refine xLd rfl ?_
 refine xC0 h (ih_laws_eqPat ·) rfl (fun c25_9 h => ?_)
 refine xNot rfl ?_
 refine oNl ?_
 refine cIf h rfl (fun q10 h => ?_) (fun q10 h => ?_)
 refine cRs ?_
 refine xAs rfl ?_
 refine oNl ?_
 refine cRt ?_
 exact eXr h rfl
 refine cSk ?_
 refine cRg ?_
 refine xMv rfl ?_
 refine xAdd rfl ?_
 refine xAs rfl ?_
 refine oNl ?_
 exact eL h rfl
 refine cEx ?_
 exact eX h rfl
 rcases q with v4_3 | ⟨v5_4, v14_5⟩
 cases h
 exact eR rfl rfl rfl rfl
 refine cRs ?_
 refine xAs rfl ?_
 refine oNl ?_
 refine cRt ?_
 cases h
 exact eR rfl rfl rfl rfl
def q_laws_eqPatS : Nat → ((List S_impl_Pat) → (List S_impl_Pat) → Option (Bool)) × (Int → Int → (List UInt8) → (List S_impl_Pat) → Int → Int → (List UInt8) → (List S_impl_Pat) → Option (Bool))
  | 0 => ((fun _ _ => none), (fun _ _ _ _ _ _ _ _ => none))
  | n + 1 => (s_laws_eqPatS n ((q_laws_eqPatS n).1) ((q_laws_eqPatS n).2), s_laws_eqPat n ((q_laws_eqPatS n).1) ((q_laws_eqPatS n).2))
def p_laws_eqPatS (n : Nat) : (List S_impl_Pat) → (List S_impl_Pat) → Option (Bool) := (q_laws_eqPatS n).1
def p_laws_eqPat (n : Nat) : Int → Int → (List UInt8) → (List S_impl_Pat) → Int → Int → (List UInt8) → (List S_impl_Pat) → Option (Bool) := (q_laws_eqPatS n).2
theorem bigs_laws_eqPatS (n : Nat) : B_laws_eqPatS (p_laws_eqPatS n) ∧ B_laws_eqPat (p_laws_eqPat n) := by
  induction n with
  | zero => exact ⟨(fun h => nomatch h), (fun h => nomatch h)⟩
  | succ n ih => exact ⟨step_laws_eqPatS (n := n) (ih.1) (ih.2), step_laws_eqPat (n := n) (ih.1) (ih.2)⟩
theorem big_laws_eqPatS {n : Nat} : B_laws_eqPatS (p_laws_eqPatS n) := (bigs_laws_eqPatS n).1
theorem big_laws_eqPat {n : Nat} : B_laws_eqPat (p_laws_eqPat n) := (bigs_laws_eqPatS n).2
theorem p_laws_eqPatS_succ (n : Nat) : p_laws_eqPatS (n + 1) = s_laws_eqPatS n (p_laws_eqPatS n) (p_laws_eqPat n) := rfl
theorem p_laws_eqPat_succ (n : Nat) : p_laws_eqPat (n + 1) = s_laws_eqPat n (p_laws_eqPatS n) (p_laws_eqPat n) := rfl
abbrev B_laws_eqCode (p : (List S_impl_Fn) → (List S_impl_Pat) → (List S_impl_Fn) → (List S_impl_Pat) → Option (Bool)) : Prop := ∀ {t0_0 : List S_impl_Fn} {t0_1 : List S_impl_Pat} {t1_0 : List S_impl_Fn} {t1_1 : List S_impl_Pat} {r : Bool}, p t0_0 t0_1 t1_0 t1_1 = some r → Big Try.prog τ An (.fn 115 [.one (.ag [.sl (t0_0.map rS_impl_Fn), .sl (t0_1.map rS_impl_Pat)]), .one (.ag [.sl (t1_0.map rS_impl_Fn), .sl (t1_1.map rS_impl_Pat)])] [] (.one (.c (.bool r))) none [] none)
def p_laws_eqCode (n : Nat) (t0_0 : List S_impl_Fn) (t0_1 : List S_impl_Pat) (t1_0 : List S_impl_Fn) (t1_1 : List S_impl_Pat) : Option (Bool) :=
  (p_laws_eqFnS n t0_0 t1_0).bind fun c9_1 => bif !c9_1 then some false else (p_laws_eqPatS n t0_1 t1_1).bind fun c15_3 => bif !c15_3 then some false else some true
theorem big_laws_eqCode {n : Nat} : B_laws_eqCode (p_laws_eqCode n) := by
 intro t0_0 t0_1 t1_0 t1_1 r h
 unfold p_laws_eqCode at h
 refine bF Try.func115 rfl rfl ?_
 refine cRs ?_
 refine xBx rfl ?_
 refine xBx rfl ?_
 refine xAs rfl ?_
 refine oNl ?_
 refine cSq ?_
 refine cRs ?_
 refine xFd rfl ?_
 refine xLd rfl ?_
 refine xFd rfl ?_
 refine xLd rfl ?_
 refine xC0 h (big_laws_eqFnS ·) rfl (fun c9_1 h => ?_)
 refine xNot rfl ?_
 refine oNl ?_
 refine cIf h rfl (fun q2 h => ?_) (fun q2 h => ?_)
 refine cRs ?_
 refine xAs rfl ?_
 refine oNl ?_
 refine cRt ?_
 cases h
 exact eR rfl rfl rfl rfl
 refine cSk ?_
 refine cSq ?_
 refine cRs ?_
 refine xFd rfl ?_
 refine xLd rfl ?_
 refine xFd rfl ?_
 refine xLd rfl ?_
 refine xC0 h (big_laws_eqPatS ·) rfl (fun c15_3 h => ?_)
 refine xNot rfl ?_
 refine oNl ?_
 refine cIf h rfl (fun q4 h => ?_) (fun q4 h => ?_)
 refine cRs ?_
 refine xAs rfl ?_
 refine oNl ?_
 refine cRt ?_
 cases h
 exact eR rfl rfl rfl rfl
 refine cSk ?_
 refine cRs ?_
 refine xAs rfl ?_
 refine oNl ?_
 refine cRt ?_
 cases h
 exact eR rfl rfl rfl rfl
abbrev B_laws_eqEntry (p : (List UInt8) → Int → (List S_impl_Fn) → (List S_impl_Pat) → Bool → (List S_impl_Fn) → (List S_impl_Pat) → (List UInt8) → Int → (List S_impl_Fn) → (List S_impl_Pat) → Bool → (List S_impl_Fn) → (List S_impl_Pat) → Option (Bool)) : Prop := ∀ {t0_0 : List UInt8} {t0_1 : Int} {t0_2 : List S_impl_Fn} {t0_3 : List S_impl_Pat} {t0_4 : Bool} {t0_5 : List S_impl_Fn} {t0_6 : List S_impl_Pat} {t1_0 : List UInt8} {t1_1 : Int} {t1_2 : List S_impl_Fn} {t1_3 : List S_impl_Pat} {t1_4 : Bool} {t1_5 : List S_impl_Fn} {t1_6 : List S_impl_Pat} {r : Bool}, p t0_0 t0_1 t0_2 t0_3 t0_4 t0_5 t0_6 t1_0 t1_1 t1_2 t1_3 t1_4 t1_5 t1_6 = some r → Big Try.prog τ An (.fn 84 [.one (.ag [.str t0_0, .int .i64 t0_1, .sl (t0_2.map rS_impl_Fn), .sl (t0_3.map rS_impl_Pat), .bool t0_4, .sl (t0_5.map rS_impl_Fn), .sl (t0_6.map rS_impl_Pat)]), .one (.ag [.str t1_0, .int .i64 t1_1, .sl (t1_2.map rS_impl_Fn), .sl (t1_3.map rS_impl_Pat), .bool t1_4, .sl (t1_5.map rS_impl_Fn), .sl (t1_6.map rS_impl_Pat)])] [] (.one (.c (.bool r))) none [] none)
def p_laws_eqEntry (n : Nat) (t0_0 : List UInt8) (t0_1 : Int) (t0_2 : List S_impl_Fn) (t0_3 : List S_impl_Pat) (t0_4 : Bool) (t0_5 : List S_impl_Fn) (t0_6 : List S_impl_Pat) (t1_0 : List UInt8) (t1_1 : Int) (t1_2 : List S_impl_Fn) (t1_3 : List S_impl_Pat) (t1_4 : Bool) (t1_5 : List S_impl_Fn) (t1_6 : List S_impl_Pat) : Option (Bool) :=
  bif !decide (t0_0 = t1_0) then some false else bif !decide (t0_1 = t1_1) then some false else (p_laws_eqCode n t0_2 t0_3 t1_2 t1_3).bind fun c19_3 => bif !c19_3 then some false else bif !(t0_4 == t1_4) then some false else (p_laws_eqCode n t0_5 t0_6 t1_5 t1_6).bind fun c30_6 => bif !c30_6 then some false else some true
theorem big_laws_eqEntry {n : Nat} : B_laws_eqEntry (p_laws_eqEntry n) := by
 intro t0_0 t0_1 t0_2 t0_3 t0_4 t0_5 t0_6 t1_0 t1_1 t1_2 t1_3 t1_4 t1_5 t1_6 r h
 unfold p_laws_eqEntry at h
 refine bF Try.func84 rfl rfl ?_
 refine cRs ?_
 refine xBx rfl ?_
 refine xBx rfl ?_
 refine xAs rfl ?_
 refine oNl ?_
 refine cSq ?_
 refine cRs ?_
 refine xFd rfl ?_
 refine xLd rfl ?_
 refine xFd rfl ?_
 refine xLd rfl ?_
 refine xNs rfl ?_
 refine oNl ?_
 refine cIf h rfl (fun q1 h => ?_) (fun q1 h => ?_)
 refine cRs ?_
 refine xAs rfl ?_
 refine oNl ?_
 refine cRt ?_
 cases h
 exact eR rfl rfl rfl rfl
 refine cSk ?_
 refine cSq ?_
 refine cRs ?_
 refine xFd rfl ?_
 refine xLd rfl ?_
 refine xFd rfl ?_
 refine xLd rfl ?_
 refine xNe rfl ?_
 refine oNl ?_
 refine cIf h rfl (fun q2 h => ?_) (fun q2 h => ?_)
 refine cRs ?_
 refine xAs rfl ?_
 refine oNl ?_
 refine cRt ?_
 cases h
 exact eR rfl rfl rfl rfl
 refine cSk ?_
 refine cSq ?_
 refine cRs ?_
 refine xFd rfl ?_
 refine xLd rfl ?_
 refine xFd rfl ?_
 refine xLd rfl ?_
 refine xC0 h (big_laws_eqCode ·) rfl (fun c19_3 h => ?_)
 refine xNot rfl ?_
 refine oNl ?_
 refine cIf h rfl (fun q4 h => ?_) (fun q4 h => ?_)
 refine cRs ?_
 refine xAs rfl ?_
 refine oNl ?_
 refine cRt ?_
 cases h
 exact eR rfl rfl rfl rfl
 refine cSk ?_
 refine cSq ?_
 refine cRs ?_
 refine xFd rfl ?_
 refine xLd rfl ?_
 refine xFd rfl ?_
 refine xLd rfl ?_
 refine wBi (.bool (!(t0_4 == t1_4))) rfl rfl rfl rfl rfl ?_
 refine oNl ?_
 refine cIf h rfl (fun q5 h => ?_) (fun q5 h => ?_)
 refine cRs ?_
 refine xAs rfl ?_
 refine oNl ?_
 refine cRt ?_
 cases h
 exact eR rfl rfl rfl rfl
 refine cSk ?_
 refine cSq ?_
 refine cRs ?_
 refine xFd rfl ?_
 refine xLd rfl ?_
 refine xFd rfl ?_
 refine xLd rfl ?_
 refine xC0 h (big_laws_eqCode ·) rfl (fun c30_6 h => ?_)
 refine xNot rfl ?_
 refine oNl ?_
 refine cIf h rfl (fun q7 h => ?_) (fun q7 h => ?_)
 refine cRs ?_
 refine xAs rfl ?_
 refine oNl ?_
 refine cRt ?_
 cases h
 exact eR rfl rfl rfl rfl
 refine cSk ?_
 refine cRs ?_
 refine xAs rfl ?_
 refine oNl ?_
 refine cRt ?_
 cases h
 exact eR rfl rfl rfl rfl
abbrev B_laws_eqEntryS (p : (List S_impl_Entry) → (List S_impl_Entry) → Option (Bool)) : Prop := ∀ {t0_0 t1_0 : List S_impl_Entry} {r : Bool}, p t0_0 t1_0 = some r → Big Try.prog τ An (.fn 40 [.one (.c (.sl (t0_0.map rS_impl_Entry))), .one (.c (.sl (t1_0.map rS_impl_Entry)))] [] (.one (.c (.bool r))) none [] none)
def p_laws_eqEntryS_b1 (n : Nat) (t0_0 : List S_impl_Entry) (t1_0 : List S_impl_Entry) : (Int) → Option ((Int) ⊕ ((Bool) ⊕ (Int × Bool)))
  | v5_2 => bif decide (v5_2 < (t0_0.length : Int)) then (ix t0_0 v5_2).bind fun e19_7 => (ix t1_0 v5_2).bind fun e23_8 => (p_laws_eqEntry n e19_7.f0 e19_7.f1 e19_7.f2 e19_7.f3 e19_7.f4 e19_7.f5 e19_7.f6 e23_8.f0 e23_8.f1 e23_8.f2 e23_8.f3 e23_8.f4 e23_8.f5 e23_8.f6).bind fun c25_9 => bif !c25_9 then some (.inr (.inl false)) else some (.inl (IntKind.wrap .i64 (v5_2 + (1 : Int)))) else some (.inr (.inr (v5_2, false)))
def p_laws_eqEntryS (n : Nat) (t0_0 : List S_impl_Entry) (t1_0 : List S_impl_Entry) : Option (Bool) :=
  bif !decide ((t0_0.length : Int) = (t1_0.length : Int)) then some false else (loopN (p_laws_eqEntryS_b1 n t0_0 t1_0) n (0 : Int)).bind fun q => (match q with | .inl v4_3 => some v4_3 | .inr (v5_4, v14_5) => some true)
theorem big_laws_eqEntryS {n : Nat} : B_laws_eqEntryS (p_laws_eqEntryS n) := by
 intro t0_0 t1_0 r h
 unfold p_laws_eqEntryS at h
 refine bF Try.func40 rfl rfl ?_
 refine cRs ?_
 refine xAs rfl ?_
 refine oNl ?_
 refine cSq ?_
 refine cRs ?_
 refine xMv rfl ?_
 refine xLn rfl ?_
 refine xMv rfl ?_
 refine xLn rfl ?_
 refine xNe rfl ?_
 refine oNl ?_
 refine cIf h rfl (fun q1 h => ?_) (fun q1 h => ?_)
 refine cRs ?_
 refine xAs rfl ?_
 refine oNl ?_
 refine cRt ?_
 cases h
 exact eR rfl rfl rfl rfl
 refine cSk ?_
 refine cSq ?_
 refine cRs ?_
 refine xAs rfl ?_
 refine oNl ?_
 refine cLp h [(4, 5), (11, 26)] [] (fun v5_2 => ([(5, I64 v5_2)], [])) (fun q => match q with | .inl v4_3 => (.r, [(4, Bo v4_3)], []) | .inr (v5_4, v14_5) => (.e 0, [(5, I64 v5_4), (14, Bo v14_5)], [])) rfl (fun v5_2 _ h => ?_) (fun q h => ?_)
 unfold p_laws_eqEntryS_b1 at h
 refine cSq ?_
 refine cRs ?_
 refine xMv rfl ?_
 refine xMv rfl ?_
 refine xLn rfl ?_
 refine xLt rfl ?_
 refine oNl ?_
 refine cIf h rfl (fun q6 h => ?_) (fun q6 h => ?_)
 refine cSk ?_
 refine cSq ?_
 refine cBk ?_
 refine cRs ?_
 refine xMv rfl ?_
 refine xMv rfl ?_
 refine xIx h rS_impl_Entry_eq rfl (fun e19_7 h => ?_)
 refine xLd rfl ?_
 refine xMv rfl ?_
 refine xMv rfl ?_
 refine xIx h rS_impl_Entry_eq rfl (fun e23_8 h => ?_)
 refine xLd rfl ?_
 refine xC0 h (big_laws_eqEntry ·) rfl (fun c25_9 h => ?_)
 refine xNot rfl ?_
 refine oNl ?_
 refine cIf h rfl (fun q10 h => ?_) (fun q10 h => ?_)
 refine cRs ?_
 refine xAs rfl ?_
 refine oNl ?_
 refine cRt ?_
 exact eXr h rfl
 refine cSk ?_
 refine cRg ?_
 refine xMv rfl ?_
 refine xAdd rfl ?_
 refine xAs rfl ?_
 refine oNl ?_
 exact eL h rfl
 refine cEx ?_
 exact eX h rfl
 rcases q with v4_3 | ⟨v5_4, v14_5⟩
 cases h
 exact eR rfl rfl rfl rfl
 refine cRs ?_
 refine xAs rfl ?_
 refine oNl ?_
 refine cRt ?_
 cases h
 exact eR rfl rfl rfl rfl
abbrev B_laws_FnExactNewestOf (p : (List S_laws_Entry) → (List UInt8) → Option (Bool)) : Prop := ∀ {t0_0 : List S_laws_Entry} {t1_0 : List UInt8} {r : Bool}, p t0_0 t1_0 = some r → Big Try.prog τ An (.fn 8 [.one (.c (.sl (t0_0.map rS_laws_Entry))), .one (.c (.str t1_0))] [] (.one (.c (.bool r))) none [] none)
def p_laws_FnExactNewestOf (n : Nat) (t0_0 : List S_laws_Entry) (t1_0 : List UInt8) : Option (Bool) :=
  bif decide ((1048576 : Int) < (t1_0.length : Int)) then some true else (p_laws_szEntryS n t0_0 (1048576 : Int)).bind fun c14_2 => bif decide (c14_2 < (0 : Int)) then some true else (p_laws_toEntryS n t0_0).bind fun c18_4 => (p_spec_NewestOf n c18_4 t1_0).bind fun c20_5 => (p_laws_toEntryS n t0_0).bind fun c22_6 => (p_impl_NewestOf n c22_6 t1_0).bind fun c25_7 => bif !decide (c25_7 = c20_5) then some false else (p_laws_toEntryS n t0_0).bind fun c31_9 => (p_laws_eqEntryS n c22_6 c31_9).bind fun c32_10 => bif !c32_10 then some false else some true
theorem big_laws_FnExactNewestOf {n : Nat} : B_laws_FnExactNewestOf (p_laws_FnExactNewestOf n) := by
 intro t0_0 t1_0 r h
 unfold p_laws_FnExactNewestOf at h
 refine bF Try.func8 rfl rfl ?_
 refine cRs ?_
 refine xAs rfl ?_
 refine oNl ?_
 refine cSq ?_
 refine cRs ?_
 refine xMv rfl ?_
 refine xLs rfl ?_
 refine xGt rfl ?_
 refine oNl ?_
 refine cIf h rfl (fun q1 h => ?_) (fun q1 h => ?_)
 refine cRs ?_
 refine xAs rfl ?_
 refine oNl ?_
 refine cRt ?_
 cases h
 exact eR rfl rfl rfl rfl
 refine cSk ?_
 refine cRs ?_
 refine xAs rfl ?_
 refine oRs ?_
 refine xMv rfl ?_
 refine xMv rfl ?_
 refine xC0 h (big_laws_szEntryS ·) rfl (fun c14_2 h => ?_)
 refine xAs rfl ?_
 refine oNl ?_
 refine cSq ?_
 refine cRs ?_
 refine xMv rfl ?_
 refine xLt rfl ?_
 refine oNl ?_
 refine cIf h rfl (fun q3 h => ?_) (fun q3 h => ?_)
 refine cRs ?_
 refine xAs rfl ?_
 refine oNl ?_
 refine cRt ?_
 cases h
 exact eR rfl rfl rfl rfl
 refine cSk ?_
 refine cRs ?_
 refine xMv rfl ?_
 refine xC0 h (big_laws_toEntryS ·) rfl (fun c18_4 h => ?_)
 refine xMv rfl ?_
 refine xC0 h (big_spec_NewestOf ·) rfl (fun c20_5 h => ?_)
 refine xAs rfl ?_
 refine oRs ?_
 refine xMv rfl ?_
 refine xC0 h (big_laws_toEntryS ·) rfl (fun c22_6 h => ?_)
 refine xAs rfl ?_
 refine oRs ?_
 refine xMv rfl ?_
 refine xMv rfl ?_
 refine xC0 h (big_impl_NewestOf ·) rfl (fun c25_7 h => ?_)
 refine xAs rfl ?_
 refine oNl ?_
 refine cSq ?_
 refine cRs ?_
 refine xMv rfl ?_
 refine xMv rfl ?_
 refine xNe rfl ?_
 refine oNl ?_
 refine cIf h rfl (fun q8 h => ?_) (fun q8 h => ?_)
 refine cRs ?_
 refine xAs rfl ?_
 refine oNl ?_
 refine cRt ?_
 cases h
 exact eR rfl rfl rfl rfl
 refine cSk ?_
 refine cSq ?_
 refine cRs ?_
 refine xMv rfl ?_
 refine xMv rfl ?_
 refine xC0 h (big_laws_toEntryS ·) rfl (fun c31_9 h => ?_)
 refine xC0 h (big_laws_eqEntryS ·) rfl (fun c32_10 h => ?_)
 refine xNot rfl ?_
 refine oNl ?_
 refine cIf h rfl (fun q11 h => ?_) (fun q11 h => ?_)
 refine cRs ?_
 refine xAs rfl ?_
 refine oNl ?_
 refine cRt ?_
 cases h
 exact eR rfl rfl rfl rfl
 refine cSk ?_
 refine cRs ?_
 refine xAs rfl ?_
 refine oNl ?_
 refine cRt ?_
 cases h
 exact eR rfl rfl rfl rfl
end Go.Own
