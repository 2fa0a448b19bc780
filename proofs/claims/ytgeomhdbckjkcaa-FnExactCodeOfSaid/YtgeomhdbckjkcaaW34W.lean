/- Each function on plain data, and its walk. No conditions. -/
import Derived.Test.YtgeomhdbckjkcaaW34A
set_option linter.unusedVariables false
set_option linter.unusedSimpArgs false
set_option linter.unnecessarySimpa false
namespace Go.Own
open Go Go.Proofs
def rI_u8 (a : Int) : List T := [.int .u8 a]
theorem rI_u8_eq (a : Int) : rI_u8 a = [.int .u8 a] := rfl
def rI_i64 (a : Int) : List T := [.int .i64 a]
theorem rI_i64_eq (a : Int) : rI_i64 a = [.int .i64 a] := rfl
structure S_impl_Ins where
  f0 : Int
  f1 : Int
  f2 : List UInt8
  f3 : Int
  deriving DecidableEq
def rS_impl_Ins (a : S_impl_Ins) : List T := [.int .i64 a.f0, .int .i64 a.f1, .str a.f2, .int .i64 a.f3]
theorem rS_impl_Ins_eq (a : S_impl_Ins) : rS_impl_Ins a = [.int .i64 a.f0, .int .i64 a.f1, .str a.f2, .int .i64 a.f3] := rfl
structure S_laws_Fn where
  f0 : List UInt8
  f1 : Int
  f2 : Int
  f3 : List S_impl_Ins
  deriving DecidableEq
def rS_laws_Fn (a : S_laws_Fn) : List T := [.str a.f0, .int .i64 a.f1, .int .i64 a.f2, .sl (a.f3.map rS_impl_Ins)]
theorem rS_laws_Fn_eq (a : S_laws_Fn) : rS_laws_Fn a = [.str a.f0, .int .i64 a.f1, .int .i64 a.f2, .sl (a.f3.map rS_impl_Ins)] := rfl
inductive S_laws_Pat where
  | mk (f0 : Int) (f1 : Int) (f2 : List UInt8) (f3 : List S_laws_Pat)
def S_laws_Pat.f0 : S_laws_Pat → Int
  | .mk a _ _ _ => a
def S_laws_Pat.f1 : S_laws_Pat → Int
  | .mk _ a _ _ => a
def S_laws_Pat.f2 : S_laws_Pat → List UInt8
  | .mk _ _ a _ => a
def S_laws_Pat.f3 : S_laws_Pat → List S_laws_Pat
  | .mk _ _ _ a => a
mutual
def rS_laws_Pat : S_laws_Pat → List T
  | .mk a0 a1 a2 a3 => [.int .i64 a0, .int .i64 a1, .str a2, .sl (rS_laws_Pats a3)]
def rS_laws_Pats : List S_laws_Pat → List (List T)
  | [] => []
  | x :: r => rS_laws_Pat x :: rS_laws_Pats r
end
theorem rS_laws_Pats_map : ∀ l : List S_laws_Pat, rS_laws_Pats l = l.map rS_laws_Pat
  | [] => by simp [rS_laws_Pats]
  | x :: r => by simp [rS_laws_Pats, rS_laws_Pats_map r]
theorem rS_laws_Pat_eq (a : S_laws_Pat) : rS_laws_Pat a = [.int .i64 a.f0, .int .i64 a.f1, .str a.f2, .sl (a.f3.map rS_laws_Pat)] := by
  cases a
  simp [rS_laws_Pat, rS_laws_Pats_map, S_laws_Pat.f0, S_laws_Pat.f1, S_laws_Pat.f2, S_laws_Pat.f3]
theorem rS_laws_Pat_mk (a0 : Int) (a1 : Int) (a2 : List UInt8) (a3 : List S_laws_Pat) : rS_laws_Pat (.mk a0 a1 a2 a3) = [.int .i64 a0, .int .i64 a1, .str a2, .sl (a3.map rS_laws_Pat)] := by simp [rS_laws_Pat, rS_laws_Pats_map]
structure S_laws_Entry where
  f0 : List UInt8
  f1 : Int
  f2 : List S_laws_Fn
  f3 : List S_laws_Pat
  f4 : Bool
  f5 : List S_laws_Fn
  f6 : List S_laws_Pat
def rS_laws_Entry (a : S_laws_Entry) : List T := [.str a.f0, .int .i64 a.f1, .sl (a.f2.map rS_laws_Fn), .sl (a.f3.map rS_laws_Pat), .bool a.f4, .sl (a.f5.map rS_laws_Fn), .sl (a.f6.map rS_laws_Pat)]
theorem rS_laws_Entry_eq (a : S_laws_Entry) : rS_laws_Entry a = [.str a.f0, .int .i64 a.f1, .sl (a.f2.map rS_laws_Fn), .sl (a.f3.map rS_laws_Pat), .bool a.f4, .sl (a.f5.map rS_laws_Fn), .sl (a.f6.map rS_laws_Pat)] := rfl
structure S_impl_Fn where
  f0 : List UInt8
  f1 : Int
  f2 : Int
  f3 : List S_impl_Ins
  deriving DecidableEq
def rS_impl_Fn (a : S_impl_Fn) : List T := [.str a.f0, .int .i64 a.f1, .int .i64 a.f2, .sl (a.f3.map rS_impl_Ins)]
theorem rS_impl_Fn_eq (a : S_impl_Fn) : rS_impl_Fn a = [.str a.f0, .int .i64 a.f1, .int .i64 a.f2, .sl (a.f3.map rS_impl_Ins)] := rfl
inductive S_impl_Pat where
  | mk (f0 : Int) (f1 : Int) (f2 : List UInt8) (f3 : List S_impl_Pat)
def S_impl_Pat.f0 : S_impl_Pat → Int
  | .mk a _ _ _ => a
def S_impl_Pat.f1 : S_impl_Pat → Int
  | .mk _ a _ _ => a
def S_impl_Pat.f2 : S_impl_Pat → List UInt8
  | .mk _ _ a _ => a
def S_impl_Pat.f3 : S_impl_Pat → List S_impl_Pat
  | .mk _ _ _ a => a
mutual
def rS_impl_Pat : S_impl_Pat → List T
  | .mk a0 a1 a2 a3 => [.int .i64 a0, .int .i64 a1, .str a2, .sl (rS_impl_Pats a3)]
def rS_impl_Pats : List S_impl_Pat → List (List T)
  | [] => []
  | x :: r => rS_impl_Pat x :: rS_impl_Pats r
end
theorem rS_impl_Pats_map : ∀ l : List S_impl_Pat, rS_impl_Pats l = l.map rS_impl_Pat
  | [] => by simp [rS_impl_Pats]
  | x :: r => by simp [rS_impl_Pats, rS_impl_Pats_map r]
theorem rS_impl_Pat_eq (a : S_impl_Pat) : rS_impl_Pat a = [.int .i64 a.f0, .int .i64 a.f1, .str a.f2, .sl (a.f3.map rS_impl_Pat)] := by
  cases a
  simp [rS_impl_Pat, rS_impl_Pats_map, S_impl_Pat.f0, S_impl_Pat.f1, S_impl_Pat.f2, S_impl_Pat.f3]
theorem rS_impl_Pat_mk (a0 : Int) (a1 : Int) (a2 : List UInt8) (a3 : List S_impl_Pat) : rS_impl_Pat (.mk a0 a1 a2 a3) = [.int .i64 a0, .int .i64 a1, .str a2, .sl (a3.map rS_impl_Pat)] := by simp [rS_impl_Pat, rS_impl_Pats_map]
structure S_impl_Entry where
  f0 : List UInt8
  f1 : Int
  f2 : List S_impl_Fn
  f3 : List S_impl_Pat
  f4 : Bool
  f5 : List S_impl_Fn
  f6 : List S_impl_Pat
def rS_impl_Entry (a : S_impl_Entry) : List T := [.str a.f0, .int .i64 a.f1, .sl (a.f2.map rS_impl_Fn), .sl (a.f3.map rS_impl_Pat), .bool a.f4, .sl (a.f5.map rS_impl_Fn), .sl (a.f6.map rS_impl_Pat)]
theorem rS_impl_Entry_eq (a : S_impl_Entry) : rS_impl_Entry a = [.str a.f0, .int .i64 a.f1, .sl (a.f2.map rS_impl_Fn), .sl (a.f3.map rS_impl_Pat), .bool a.f4, .sl (a.f5.map rS_impl_Fn), .sl (a.f6.map rS_impl_Pat)] := rfl
structure S_impl_Code where
  f0 : List S_impl_Fn
  f1 : List S_impl_Pat
def rS_impl_Code (a : S_impl_Code) : List T := [.sl (a.f0.map rS_impl_Fn), .sl (a.f1.map rS_impl_Pat)]
theorem rS_impl_Code_eq (a : S_impl_Code) : rS_impl_Code a = [.sl (a.f0.map rS_impl_Fn), .sl (a.f1.map rS_impl_Pat)] := rfl
theorem marks_24 : Marks Try.prog 24 true 2 [(0, 89), (1, 90)] := by
  refine Marks.of (S := 34) Try.func24 rfl rfl (by decide) (by decide) (fun cs k w Bx R a hl hsz hdf h0 h1 hbs hq => ?_)
  refine mk_start rfl hsz hdf h0 h1 hbs hq (fun a w b Bx hst hq => ?_)
  refine mk_step tables [(1, 90)] rfl rfl rfl (fun _ => rfl) (Marks.slice _ 89) (by rw [hl]; decide) rfl rfl rfl hst hq (fun k a w hst hq => ?_)
  refine mk_step tables [] rfl rfl rfl (fun _ => rfl) (Marks.slice _ 90) (by rw [hl]; decide) rfl rfl rfl hst hq (fun k a w hst hq => ?_)
  exact mk_tail rfl rfl hst hq
abbrev B_laws_szIns (p : Int → Int → (List UInt8) → Int → Int → Option (Int)) : Prop := ∀ {t0_0 t0_1 : Int} {t0_2 : List UInt8} {t0_3 t1_0 : Int} {r : Int}, p t0_0 t0_1 t0_2 t0_3 t1_0 = some r → Big Try.prog τ An (.fn 281 [.one (.ag [.int .i64 t0_0, .int .i64 t0_1, .str t0_2, .int .i64 t0_3]), .one (.c (.int .i64 t1_0))] [] (.one (.c (.int .i64 r))) none [] none)
def p_laws_szIns (n : Nat) (t0_0 : Int) (t0_1 : Int) (t0_2 : List UInt8) (t0_3 : Int) (t1_0 : Int) : Option (Int) :=
  bif decide ((IntKind.wrap .i64 (t1_0 - (t0_2.length : Int))) < (0 : Int)) then some ((-1) : Int) else some (IntKind.wrap .i64 (t1_0 - (t0_2.length : Int)))
theorem big_laws_szIns {n : Nat} : B_laws_szIns (p_laws_szIns n) := by
 intro t0_0 t0_1 t0_2 t0_3 t1_0 r h
 unfold p_laws_szIns at h
 refine bF Try.func281 rfl rfl <| cRs <| xBx rfl <| xAs rfl <| oRs <| xMv rfl <| xFd rfl <| xLd rfl <| xLs rfl <| xSub rfl <| xAs rfl <| oNl <| cSq <| cRs ?_
 refine xMv rfl <| xLt rfl <| oNl <| cIf h rfl (fun q1 h => ?_) (fun q1 h => ?_)
 refine cRs <| xAs rfl <| oNl <| cRt ?_
 cases h
 exact eR rfl rfl rfl rfl
 refine cSk <| cRs <| xMv rfl <| xAs rfl <| oNl <| cRt ?_
 cases h
 exact eR rfl rfl rfl rfl
abbrev B_laws_szInsS (p : (List S_impl_Ins) → Int → Option (Int)) : Prop := ∀ {t0_0 : List S_impl_Ins} {t1_0 : Int} {r : Int}, p t0_0 t1_0 = some r → Big Try.prog τ An (.fn 272 [.one (.c (.sl (t0_0.map rS_impl_Ins))), .one (.c (.int .i64 t1_0))] [] (.one (.c (.int .i64 r))) none [] none)
def p_laws_szInsS_b1 (n : Nat) (t0_0 : List S_impl_Ins) : (Int × Int) → Option ((Int × Int) ⊕ ((Int) ⊕ (Int × Int × Bool)))
  | (v1_2, v5_3) => bif decide (v5_3 < (t0_0.length : Int)) then (ix t0_0 v5_3).bind fun e20_9 => (p_laws_szIns n e20_9.f0 e20_9.f1 e20_9.f2 e20_9.f3 v1_2).bind fun c23_10 => bif decide (c23_10 < (0 : Int)) then some (.inr (.inl ((-1) : Int))) else some (.inl (c23_10, (IntKind.wrap .i64 (v5_3 + (1 : Int))))) else some (.inr (.inr (v1_2, v5_3, false)))
def p_laws_szInsS (n : Nat) (t0_0 : List S_impl_Ins) (t1_0 : Int) : Option (Int) :=
  bif decide ((IntKind.wrap .i64 (t1_0 - (t0_0.length : Int))) < (0 : Int)) then some ((-1) : Int) else (loopN (p_laws_szInsS_b1 n t0_0) n ((IntKind.wrap .i64 (t1_0 - (t0_0.length : Int))), (0 : Int))).bind fun q => (match q with | .inl v4_4 => some v4_4 | .inr (v1_5, v5_6, v15_7) => some v1_5)
theorem big_laws_szInsS {n : Nat} : B_laws_szInsS (p_laws_szInsS n) := by
 intro t0_0 t1_0 r h
 unfold p_laws_szInsS at h
 refine bF Try.func272 rfl rfl <| cRs <| xAs rfl <| oRs <| xMv rfl <| xMv rfl <| xLn rfl <| xSub rfl <| xAs rfl <| oNl <| cSq <| cRs <| xMv rfl <| xLt rfl ?_
 refine oNl <| cIf h rfl (fun q1 h => ?_) (fun q1 h => ?_)
 refine cRs <| xAs rfl <| oNl <| cRt ?_
 cases h
 exact eR rfl rfl rfl rfl
 refine cSk <| cSq <| cRs <| xAs rfl <| oNl <| cLp h [(1, 1), (4, 5), (12, 25)] [] (fun (v1_2, v5_3) => ([(1, I64 v1_2), (5, I64 v5_3)], [])) (fun q => match q with | .inl v4_4 => (.r, [(4, I64 v4_4)], []) | .inr (v1_5, v5_6, v15_7) => (.e 0, [(1, I64 v1_5), (5, I64 v5_6), (15, Bo v15_7)], [])) rfl (fun st _ h => ?_) (fun q h => ?_)
 obtain ⟨v1_2, v5_3⟩ := st
 unfold p_laws_szInsS_b1 at h
 refine cSq <| cRs <| xMv rfl <| xMv rfl <| xLn rfl <| xLt rfl <| oNl <| cIf h rfl (fun q8 h => ?_) (fun q8 h => ?_)
 refine cSk <| cSq <| cBk <| cRs <| xMv rfl <| xMv rfl <| xIx h rS_impl_Ins_eq rfl (fun e20_9 h => ?_)
 refine xLd rfl <| xMv rfl <| xC0 h (big_laws_szIns ·) rfl (fun c23_10 h => ?_)
 refine xAs rfl <| oRs <| xMv rfl <| xLt rfl <| oNl <| cIf h rfl (fun q11 h => ?_) (fun q11 h => ?_)
 exact cRs <| xAs rfl <| oNl <| cRt <| eXr h rfl
 exact cSk <| cRg <| xMv rfl <| xAdd rfl <| xAs rfl <| oNl <| eL h rfl
 exact cEx <| eX h rfl
 rcases q with v4_4 | ⟨v1_5, v5_6, v15_7⟩
 cases h
 exact eR rfl rfl rfl rfl
 refine cRs <| xMv rfl <| xAs rfl <| oNl <| cRt ?_
 cases h
 exact eR rfl rfl rfl rfl
abbrev B_laws_szFn (p : (List UInt8) → Int → Int → (List S_impl_Ins) → Int → Option (Int)) : Prop := ∀ {t0_0 : List UInt8} {t0_1 t0_2 : Int} {t0_3 : List S_impl_Ins} {t1_0 : Int} {r : Int}, p t0_0 t0_1 t0_2 t0_3 t1_0 = some r → Big Try.prog τ An (.fn 248 [.one (.ag [.str t0_0, .int .i64 t0_1, .int .i64 t0_2, .sl (t0_3.map rS_impl_Ins)]), .one (.c (.int .i64 t1_0))] [] (.one (.c (.int .i64 r))) none [] none)
def p_laws_szFn (n : Nat) (t0_0 : List UInt8) (t0_1 : Int) (t0_2 : Int) (t0_3 : List S_impl_Ins) (t1_0 : Int) : Option (Int) :=
  bif decide ((IntKind.wrap .i64 (t1_0 - (t0_0.length : Int))) < (0 : Int)) then some ((-1) : Int) else (p_laws_szInsS n t0_3 (IntKind.wrap .i64 (t1_0 - (t0_0.length : Int)))).bind fun c15_2 => bif decide (c15_2 < (0 : Int)) then some ((-1) : Int) else some c15_2
theorem big_laws_szFn {n : Nat} : B_laws_szFn (p_laws_szFn n) := by
 intro t0_0 t0_1 t0_2 t0_3 t1_0 r h
 unfold p_laws_szFn at h
 refine bF Try.func248 rfl rfl <| cRs <| xBx rfl <| xAs rfl <| oRs <| xMv rfl <| xFd rfl <| xLd rfl <| xLs rfl <| xSub rfl <| xAs rfl <| oNl <| cSq <| cRs ?_
 refine xMv rfl <| xLt rfl <| oNl <| cIf h rfl (fun q1 h => ?_) (fun q1 h => ?_)
 refine cRs <| xAs rfl <| oNl <| cRt ?_
 cases h
 exact eR rfl rfl rfl rfl
 refine cSk <| cRs <| xFd rfl <| xLd rfl <| xMv rfl <| xC0 h (big_laws_szInsS ·) rfl (fun c15_2 h => ?_)
 refine xAs rfl <| oNl <| cSq <| cRs <| xMv rfl <| xLt rfl <| oNl <| cIf h rfl (fun q3 h => ?_) (fun q3 h => ?_)
 refine cRs <| xAs rfl <| oNl <| cRt ?_
 cases h
 exact eR rfl rfl rfl rfl
 refine cSk <| cRs <| xMv rfl <| xAs rfl <| oNl <| cRt ?_
 cases h
 exact eR rfl rfl rfl rfl
abbrev B_laws_szFnS (p : (List S_laws_Fn) → Int → Option (Int)) : Prop := ∀ {t0_0 : List S_laws_Fn} {t1_0 : Int} {r : Int}, p t0_0 t1_0 = some r → Big Try.prog τ An (.fn 215 [.one (.c (.sl (t0_0.map rS_laws_Fn))), .one (.c (.int .i64 t1_0))] [] (.one (.c (.int .i64 r))) none [] none)
def p_laws_szFnS_b1 (n : Nat) (t0_0 : List S_laws_Fn) : (Int × Int) → Option ((Int × Int) ⊕ ((Int) ⊕ (Int × Int × Bool)))
  | (v1_2, v5_3) => bif decide (v5_3 < (t0_0.length : Int)) then (ix t0_0 v5_3).bind fun e20_9 => (p_laws_szFn n e20_9.f0 e20_9.f1 e20_9.f2 e20_9.f3 v1_2).bind fun c23_10 => bif decide (c23_10 < (0 : Int)) then some (.inr (.inl ((-1) : Int))) else some (.inl (c23_10, (IntKind.wrap .i64 (v5_3 + (1 : Int))))) else some (.inr (.inr (v1_2, v5_3, false)))
def p_laws_szFnS (n : Nat) (t0_0 : List S_laws_Fn) (t1_0 : Int) : Option (Int) :=
  bif decide ((IntKind.wrap .i64 (t1_0 - (t0_0.length : Int))) < (0 : Int)) then some ((-1) : Int) else (loopN (p_laws_szFnS_b1 n t0_0) n ((IntKind.wrap .i64 (t1_0 - (t0_0.length : Int))), (0 : Int))).bind fun q => (match q with | .inl v4_4 => some v4_4 | .inr (v1_5, v5_6, v15_7) => some v1_5)
theorem big_laws_szFnS {n : Nat} : B_laws_szFnS (p_laws_szFnS n) := by
 intro t0_0 t1_0 r h
 unfold p_laws_szFnS at h
 refine bF Try.func215 rfl rfl <| cRs <| xAs rfl <| oRs <| xMv rfl <| xMv rfl <| xLn rfl <| xSub rfl <| xAs rfl <| oNl <| cSq <| cRs <| xMv rfl <| xLt rfl ?_
 refine oNl <| cIf h rfl (fun q1 h => ?_) (fun q1 h => ?_)
 refine cRs <| xAs rfl <| oNl <| cRt ?_
 cases h
 exact eR rfl rfl rfl rfl
 refine cSk <| cSq <| cRs <| xAs rfl <| oNl <| cLp h [(1, 1), (4, 5), (12, 25)] [] (fun (v1_2, v5_3) => ([(1, I64 v1_2), (5, I64 v5_3)], [])) (fun q => match q with | .inl v4_4 => (.r, [(4, I64 v4_4)], []) | .inr (v1_5, v5_6, v15_7) => (.e 0, [(1, I64 v1_5), (5, I64 v5_6), (15, Bo v15_7)], [])) rfl (fun st _ h => ?_) (fun q h => ?_)
 obtain ⟨v1_2, v5_3⟩ := st
 unfold p_laws_szFnS_b1 at h
 refine cSq <| cRs <| xMv rfl <| xMv rfl <| xLn rfl <| xLt rfl <| oNl <| cIf h rfl (fun q8 h => ?_) (fun q8 h => ?_)
 refine cSk <| cSq <| cBk <| cRs <| xMv rfl <| xMv rfl <| xIx h rS_laws_Fn_eq rfl (fun e20_9 h => ?_)
 refine xLd rfl <| xMv rfl <| xC0 h (big_laws_szFn ·) rfl (fun c23_10 h => ?_)
 refine xAs rfl <| oRs <| xMv rfl <| xLt rfl <| oNl <| cIf h rfl (fun q11 h => ?_) (fun q11 h => ?_)
 exact cRs <| xAs rfl <| oNl <| cRt <| eXr h rfl
 exact cSk <| cRg <| xMv rfl <| xAdd rfl <| xAs rfl <| oNl <| eL h rfl
 exact cEx <| eX h rfl
 rcases q with v4_4 | ⟨v1_5, v5_6, v15_7⟩
 cases h
 exact eR rfl rfl rfl rfl
 refine cRs <| xMv rfl <| xAs rfl <| oNl <| cRt ?_
 cases h
 exact eR rfl rfl rfl rfl
abbrev Y_laws_szPat : Type := Int → Int → (List UInt8) → (List S_laws_Pat) → Int → Option (Int)
abbrev B_laws_szPat (p : Y_laws_szPat) : Prop := ∀ {t0_0 t0_1 : Int} {t0_2 : List UInt8} {t0_3 : List S_laws_Pat} {t1_0 : Int} {r : Int}, p t0_0 t0_1 t0_2 t0_3 t1_0 = some r → Big Try.prog τ An (.fn 249 [.one (.ag [.int .i64 t0_0, .int .i64 t0_1, .str t0_2, .sl (t0_3.map rS_laws_Pat)]), .one (.c (.int .i64 t1_0))] [] (.one (.c (.int .i64 r))) none [] none)
abbrev Y_laws_szPatS : Type := (List S_laws_Pat) → Int → Option (Int)
abbrev B_laws_szPatS (p : Y_laws_szPatS) : Prop := ∀ {t0_0 : List S_laws_Pat} {t1_0 : Int} {r : Int}, p t0_0 t1_0 = some r → Big Try.prog τ An (.fn 216 [.one (.c (.sl (t0_0.map rS_laws_Pat))), .one (.c (.int .i64 t1_0))] [] (.one (.c (.int .i64 r))) none [] none)
def s_laws_szPat (n : Nat) (r_laws_szPatS : Y_laws_szPatS) (r_laws_szPat : Y_laws_szPat) (t0_0 : Int) (t0_1 : Int) (t0_2 : List UInt8) (t0_3 : List S_laws_Pat) (t1_0 : Int) : Option (Int) :=
  bif decide ((IntKind.wrap .i64 (t1_0 - (t0_2.length : Int))) < (0 : Int)) then some ((-1) : Int) else (r_laws_szPatS t0_3 (IntKind.wrap .i64 (t1_0 - (t0_2.length : Int)))).bind fun c15_2 => bif decide (c15_2 < (0 : Int)) then some ((-1) : Int) else some c15_2
theorem step_laws_szPat {n : Nat} {r_laws_szPatS : Y_laws_szPatS} (ih_laws_szPatS : B_laws_szPatS r_laws_szPatS) {r_laws_szPat : Y_laws_szPat} (ih_laws_szPat : B_laws_szPat r_laws_szPat) : B_laws_szPat (s_laws_szPat n r_laws_szPatS r_laws_szPat) := by
 intro t0_0 t0_1 t0_2 t0_3 t1_0 r h
 unfold s_laws_szPat at h
 refine bF Try.func249 rfl rfl <| cRs <| xBx rfl <| xAs rfl <| oRs <| xMv rfl <| xFd rfl <| xLd rfl <| xLs rfl <| xSub rfl <| xAs rfl <| oNl <| cSq <| cRs ?_
 refine xMv rfl <| xLt rfl <| oNl <| cIf h rfl (fun q1 h => ?_) (fun q1 h => ?_)
 refine cRs <| xAs rfl <| oNl <| cRt ?_
 cases h
 exact eR rfl rfl rfl rfl
 refine cSk <| cRs <| xFd rfl <| xLd rfl <| xMv rfl <| xC0 h (ih_laws_szPatS ·) rfl (fun c15_2 h => ?_)
 refine xAs rfl <| oNl <| cSq <| cRs <| xMv rfl <| xLt rfl <| oNl <| cIf h rfl (fun q3 h => ?_) (fun q3 h => ?_)
 refine cRs <| xAs rfl <| oNl <| cRt ?_
 cases h
 exact eR rfl rfl rfl rfl
 refine cSk <| cRs <| xMv rfl <| xAs rfl <| oNl <| cRt ?_
 cases h
 exact eR rfl rfl rfl rfl
def p_laws_szPatS_b1 (n : Nat) (r_laws_szPat : Y_laws_szPat) (t0_0 : List S_laws_Pat) : (Int × Int) → Option ((Int × Int) ⊕ ((Int) ⊕ (Int × Int × Bool)))
  | (v1_2, v5_3) => bif decide (v5_3 < (t0_0.length : Int)) then (ix t0_0 v5_3).bind fun e20_9 => (r_laws_szPat e20_9.f0 e20_9.f1 e20_9.f2 e20_9.f3 v1_2).bind fun c23_10 => bif decide (c23_10 < (0 : Int)) then some (.inr (.inl ((-1) : Int))) else some (.inl (c23_10, (IntKind.wrap .i64 (v5_3 + (1 : Int))))) else some (.inr (.inr (v1_2, v5_3, false)))
def s_laws_szPatS (n : Nat) (r_laws_szPatS : Y_laws_szPatS) (r_laws_szPat : Y_laws_szPat) (t0_0 : List S_laws_Pat) (t1_0 : Int) : Option (Int) :=
  bif decide ((IntKind.wrap .i64 (t1_0 - (t0_0.length : Int))) < (0 : Int)) then some ((-1) : Int) else (loopN (p_laws_szPatS_b1 n r_laws_szPat t0_0) n ((IntKind.wrap .i64 (t1_0 - (t0_0.length : Int))), (0 : Int))).bind fun q => (match q with | .inl v4_4 => some v4_4 | .inr (v1_5, v5_6, v15_7) => some v1_5)
theorem step_laws_szPatS {n : Nat} {r_laws_szPatS : Y_laws_szPatS} (ih_laws_szPatS : B_laws_szPatS r_laws_szPatS) {r_laws_szPat : Y_laws_szPat} (ih_laws_szPat : B_laws_szPat r_laws_szPat) : B_laws_szPatS (s_laws_szPatS n r_laws_szPatS r_laws_szPat) := by
 intro t0_0 t1_0 r h
 unfold s_laws_szPatS at h
 refine bF Try.func216 rfl rfl <| cRs <| xAs rfl <| oRs <| xMv rfl <| xMv rfl <| xLn rfl <| xSub rfl <| xAs rfl <| oNl <| cSq <| cRs <| xMv rfl <| xLt rfl ?_
 refine oNl <| cIf h rfl (fun q1 h => ?_) (fun q1 h => ?_)
 refine cRs <| xAs rfl <| oNl <| cRt ?_
 cases h
 exact eR rfl rfl rfl rfl
 refine cSk <| cSq <| cRs <| xAs rfl <| oNl <| cLp h [(1, 1), (4, 5), (12, 25)] [] (fun (v1_2, v5_3) => ([(1, I64 v1_2), (5, I64 v5_3)], [])) (fun q => match q with | .inl v4_4 => (.r, [(4, I64 v4_4)], []) | .inr (v1_5, v5_6, v15_7) => (.e 0, [(1, I64 v1_5), (5, I64 v5_6), (15, Bo v15_7)], [])) rfl (fun st _ h => ?_) (fun q h => ?_)
 obtain ⟨v1_2, v5_3⟩ := st
 unfold p_laws_szPatS_b1 at h
 refine cSq <| cRs <| xMv rfl <| xMv rfl <| xLn rfl <| xLt rfl <| oNl <| cIf h rfl (fun q8 h => ?_) (fun q8 h => ?_)
 refine cSk <| cSq <| cBk <| cRs <| xMv rfl <| xMv rfl <| xIx h rS_laws_Pat_eq rfl (fun e20_9 h => ?_)
 refine xLd rfl <| xMv rfl <| xC0 h (ih_laws_szPat ·) rfl (fun c23_10 h => ?_)
 refine xAs rfl <| oRs <| xMv rfl <| xLt rfl <| oNl <| cIf h rfl (fun q11 h => ?_) (fun q11 h => ?_)
 exact cRs <| xAs rfl <| oNl <| cRt <| eXr h rfl
 exact cSk <| cRg <| xMv rfl <| xAdd rfl <| xAs rfl <| oNl <| eL h rfl
 exact cEx <| eX h rfl
 rcases q with v4_4 | ⟨v1_5, v5_6, v15_7⟩
 cases h
 exact eR rfl rfl rfl rfl
 refine cRs <| xMv rfl <| xAs rfl <| oNl <| cRt ?_
 cases h
 exact eR rfl rfl rfl rfl
def q_laws_szPatS : Nat → (Y_laws_szPatS) × (Y_laws_szPat)
  | 0 => ((fun _ _ => none), (fun _ _ _ _ _ => none))
  | n + 1 => (s_laws_szPatS n ((q_laws_szPatS n).1) ((q_laws_szPatS n).2), s_laws_szPat n ((q_laws_szPatS n).1) ((q_laws_szPatS n).2))
def p_laws_szPatS (n : Nat) : Y_laws_szPatS := (q_laws_szPatS n).1
def p_laws_szPat (n : Nat) : Y_laws_szPat := (q_laws_szPatS n).2
theorem bigs_laws_szPatS (n : Nat) : B_laws_szPatS (p_laws_szPatS n) ∧ B_laws_szPat (p_laws_szPat n) := by
  induction n with
  | zero => exact ⟨(fun h => nomatch h), (fun h => nomatch h)⟩
  | succ n ih => exact ⟨step_laws_szPatS (n := n) (ih.1) (ih.2), step_laws_szPat (n := n) (ih.1) (ih.2)⟩
theorem big_laws_szPatS {n : Nat} : B_laws_szPatS (p_laws_szPatS n) := (bigs_laws_szPatS n).1
theorem big_laws_szPat {n : Nat} : B_laws_szPat (p_laws_szPat n) := (bigs_laws_szPatS n).2
theorem p_laws_szPatS_succ (n : Nat) : p_laws_szPatS (n + 1) = s_laws_szPatS n (p_laws_szPatS n) (p_laws_szPat n) := rfl
theorem p_laws_szPat_succ (n : Nat) : p_laws_szPat (n + 1) = s_laws_szPat n (p_laws_szPatS n) (p_laws_szPat n) := rfl
abbrev B_laws_szCode (p : (List S_laws_Fn) → (List S_laws_Pat) → Int → Option (Int)) : Prop := ∀ {t0_0 : List S_laws_Fn} {t0_1 : List S_laws_Pat} {t1_0 : Int} {r : Int}, p t0_0 t0_1 t1_0 = some r → Big Try.prog τ An (.fn 159 [.one (.ag [.sl (t0_0.map rS_laws_Fn), .sl (t0_1.map rS_laws_Pat)]), .one (.c (.int .i64 t1_0))] [] (.one (.c (.int .i64 r))) none [] none)
def p_laws_szCode (n : Nat) (t0_0 : List S_laws_Fn) (t0_1 : List S_laws_Pat) (t1_0 : Int) : Option (Int) :=
  (p_laws_szFnS n t0_0 t1_0).bind fun c8_1 => bif decide (c8_1 < (0 : Int)) then some ((-1) : Int) else (p_laws_szPatS n t0_1 c8_1).bind fun c14_3 => bif decide (c14_3 < (0 : Int)) then some ((-1) : Int) else some c14_3
theorem big_laws_szCode {n : Nat} : B_laws_szCode (p_laws_szCode n) := by
 intro t0_0 t0_1 t1_0 r h
 unfold p_laws_szCode at h
 refine bF Try.func159 rfl rfl <| cRs <| xBx rfl <| xAs rfl <| oRs <| xFd rfl <| xLd rfl <| xMv rfl <| xC0 h (big_laws_szFnS ·) rfl (fun c8_1 h => ?_)
 refine xAs rfl <| oNl <| cSq <| cRs <| xMv rfl <| xLt rfl <| oNl <| cIf h rfl (fun q2 h => ?_) (fun q2 h => ?_)
 refine cRs <| xAs rfl <| oNl <| cRt ?_
 cases h
 exact eR rfl rfl rfl rfl
 refine cSk <| cRs <| xFd rfl <| xLd rfl <| xMv rfl <| xC0 h (big_laws_szPatS ·) rfl (fun c14_3 h => ?_)
 refine xAs rfl <| oNl <| cSq <| cRs <| xMv rfl <| xLt rfl <| oNl <| cIf h rfl (fun q4 h => ?_) (fun q4 h => ?_)
 refine cRs <| xAs rfl <| oNl <| cRt ?_
 cases h
 exact eR rfl rfl rfl rfl
 refine cSk <| cRs <| xMv rfl <| xAs rfl <| oNl <| cRt ?_
 cases h
 exact eR rfl rfl rfl rfl
abbrev B_laws_szEntry (p : (List UInt8) → Int → (List S_laws_Fn) → (List S_laws_Pat) → Bool → (List S_laws_Fn) → (List S_laws_Pat) → Int → Option (Int)) : Prop := ∀ {t0_0 : List UInt8} {t0_1 : Int} {t0_2 : List S_laws_Fn} {t0_3 : List S_laws_Pat} {t0_4 : Bool} {t0_5 : List S_laws_Fn} {t0_6 : List S_laws_Pat} {t1_0 : Int} {r : Int}, p t0_0 t0_1 t0_2 t0_3 t0_4 t0_5 t0_6 t1_0 = some r → Big Try.prog τ An (.fn 79 [.one (.ag [.str t0_0, .int .i64 t0_1, .sl (t0_2.map rS_laws_Fn), .sl (t0_3.map rS_laws_Pat), .bool t0_4, .sl (t0_5.map rS_laws_Fn), .sl (t0_6.map rS_laws_Pat)]), .one (.c (.int .i64 t1_0))] [] (.one (.c (.int .i64 r))) none [] none)
def p_laws_szEntry (n : Nat) (t0_0 : List UInt8) (t0_1 : Int) (t0_2 : List S_laws_Fn) (t0_3 : List S_laws_Pat) (t0_4 : Bool) (t0_5 : List S_laws_Fn) (t0_6 : List S_laws_Pat) (t1_0 : Int) : Option (Int) :=
  bif decide ((IntKind.wrap .i64 (t1_0 - (t0_0.length : Int))) < (0 : Int)) then some ((-1) : Int) else (p_laws_szCode n t0_2 t0_3 (IntKind.wrap .i64 (t1_0 - (t0_0.length : Int)))).bind fun c15_2 => bif decide (c15_2 < (0 : Int)) then some ((-1) : Int) else (p_laws_szCode n t0_5 t0_6 c15_2).bind fun c21_4 => bif decide (c21_4 < (0 : Int)) then some ((-1) : Int) else some c21_4
theorem big_laws_szEntry {n : Nat} : B_laws_szEntry (p_laws_szEntry n) := by
 intro t0_0 t0_1 t0_2 t0_3 t0_4 t0_5 t0_6 t1_0 r h
 unfold p_laws_szEntry at h
 refine bF Try.func79 rfl rfl <| cRs <| xBx rfl <| xAs rfl <| oRs <| xMv rfl <| xFd rfl <| xLd rfl <| xLs rfl <| xSub rfl <| xAs rfl <| oNl <| cSq <| cRs ?_
 refine xMv rfl <| xLt rfl <| oNl <| cIf h rfl (fun q1 h => ?_) (fun q1 h => ?_)
 refine cRs <| xAs rfl <| oNl <| cRt ?_
 cases h
 exact eR rfl rfl rfl rfl
 refine cSk <| cRs <| xFd rfl <| xLd rfl <| xMv rfl <| xC0 h (big_laws_szCode ·) rfl (fun c15_2 h => ?_)
 refine xAs rfl <| oNl <| cSq <| cRs <| xMv rfl <| xLt rfl <| oNl <| cIf h rfl (fun q3 h => ?_) (fun q3 h => ?_)
 refine cRs <| xAs rfl <| oNl <| cRt ?_
 cases h
 exact eR rfl rfl rfl rfl
 refine cSk <| cRs <| xFd rfl <| xLd rfl <| xMv rfl <| xC0 h (big_laws_szCode ·) rfl (fun c21_4 h => ?_)
 refine xAs rfl <| oNl <| cSq <| cRs <| xMv rfl <| xLt rfl <| oNl <| cIf h rfl (fun q5 h => ?_) (fun q5 h => ?_)
 refine cRs <| xAs rfl <| oNl <| cRt ?_
 cases h
 exact eR rfl rfl rfl rfl
 refine cSk <| cRs <| xMv rfl <| xAs rfl <| oNl <| cRt ?_
 cases h
 exact eR rfl rfl rfl rfl
abbrev B_laws_szEntryS (p : (List S_laws_Entry) → Int → Option (Int)) : Prop := ∀ {t0_0 : List S_laws_Entry} {t1_0 : Int} {r : Int}, p t0_0 t1_0 = some r → Big Try.prog τ An (.fn 17 [.one (.c (.sl (t0_0.map rS_laws_Entry))), .one (.c (.int .i64 t1_0))] [] (.one (.c (.int .i64 r))) none [] none)
def p_laws_szEntryS_b1 (n : Nat) (t0_0 : List S_laws_Entry) : (Int × Int) → Option ((Int × Int) ⊕ ((Int) ⊕ (Int × Int × Bool)))
  | (v1_2, v5_3) => bif decide (v5_3 < (t0_0.length : Int)) then (ix t0_0 v5_3).bind fun e20_9 => (p_laws_szEntry n e20_9.f0 e20_9.f1 e20_9.f2 e20_9.f3 e20_9.f4 e20_9.f5 e20_9.f6 v1_2).bind fun c23_10 => bif decide (c23_10 < (0 : Int)) then some (.inr (.inl ((-1) : Int))) else some (.inl (c23_10, (IntKind.wrap .i64 (v5_3 + (1 : Int))))) else some (.inr (.inr (v1_2, v5_3, false)))
def p_laws_szEntryS (n : Nat) (t0_0 : List S_laws_Entry) (t1_0 : Int) : Option (Int) :=
  bif decide ((IntKind.wrap .i64 (t1_0 - (t0_0.length : Int))) < (0 : Int)) then some ((-1) : Int) else (loopN (p_laws_szEntryS_b1 n t0_0) n ((IntKind.wrap .i64 (t1_0 - (t0_0.length : Int))), (0 : Int))).bind fun q => (match q with | .inl v4_4 => some v4_4 | .inr (v1_5, v5_6, v15_7) => some v1_5)
theorem big_laws_szEntryS {n : Nat} : B_laws_szEntryS (p_laws_szEntryS n) := by
 intro t0_0 t1_0 r h
 unfold p_laws_szEntryS at h
 refine bF Try.func17 rfl rfl <| cRs <| xAs rfl <| oRs <| xMv rfl <| xMv rfl <| xLn rfl <| xSub rfl <| xAs rfl <| oNl <| cSq <| cRs <| xMv rfl <| xLt rfl ?_
 refine oNl <| cIf h rfl (fun q1 h => ?_) (fun q1 h => ?_)
 refine cRs <| xAs rfl <| oNl <| cRt ?_
 cases h
 exact eR rfl rfl rfl rfl
 refine cSk <| cSq <| cRs <| xAs rfl <| oNl <| cLp h [(1, 1), (4, 5), (12, 25)] [] (fun (v1_2, v5_3) => ([(1, I64 v1_2), (5, I64 v5_3)], [])) (fun q => match q with | .inl v4_4 => (.r, [(4, I64 v4_4)], []) | .inr (v1_5, v5_6, v15_7) => (.e 0, [(1, I64 v1_5), (5, I64 v5_6), (15, Bo v15_7)], [])) rfl (fun st _ h => ?_) (fun q h => ?_)
 obtain ⟨v1_2, v5_3⟩ := st
 unfold p_laws_szEntryS_b1 at h
 refine cSq <| cRs <| xMv rfl <| xMv rfl <| xLn rfl <| xLt rfl <| oNl <| cIf h rfl (fun q8 h => ?_) (fun q8 h => ?_)
 refine cSk <| cSq <| cBk <| cRs <| xMv rfl <| xMv rfl <| xIx h rS_laws_Entry_eq rfl (fun e20_9 h => ?_)
 refine xLd rfl <| xMv rfl <| xC0 h (big_laws_szEntry ·) rfl (fun c23_10 h => ?_)
 refine xAs rfl <| oRs <| xMv rfl <| xLt rfl <| oNl <| cIf h rfl (fun q11 h => ?_) (fun q11 h => ?_)
 exact cRs <| xAs rfl <| oNl <| cRt <| eXr h rfl
 exact cSk <| cRg <| xMv rfl <| xAdd rfl <| xAs rfl <| oNl <| eL h rfl
 exact cEx <| eX h rfl
 rcases q with v4_4 | ⟨v1_5, v5_6, v15_7⟩
 cases h
 exact eR rfl rfl rfl rfl
 refine cRs <| xMv rfl <| xAs rfl <| oNl <| cRt ?_
 cases h
 exact eR rfl rfl rfl rfl
abbrev B_spec_l12At (p : (List S_impl_Entry) → (List UInt8) → Option (Int)) : Prop := ∀ {t0_0 : List S_impl_Entry} {t1_0 : List UInt8} {r : Int}, p t0_0 t1_0 = some r → Big Try.prog τ An (.fn 160 [.one (.c (.sl (t0_0.map rS_impl_Entry))), .one (.c (.str t1_0))] [] (.one (.c (.int .i64 r))) none [] none)
def p_spec_l12At_b1 (n : Nat) (t0_0 : List S_impl_Entry) (t1_0 : List UInt8) : (Int) → Option ((Int) ⊕ ((Int) ⊕ (Int × Bool)))
  | v5_1 => bif decide (v5_1 < (t0_0.length : Int)) then (ix t0_0 v5_1).bind fun e14_6 => bif decide (e14_6.f0 = t1_0) then some (.inr (.inl v5_1)) else some (.inl (IntKind.wrap .i64 (v5_1 + (1 : Int)))) else some (.inr (.inr (v5_1, false)))
def p_spec_l12At (n : Nat) (t0_0 : List S_impl_Entry) (t1_0 : List UInt8) : Option (Int) :=
  (loopN (p_spec_l12At_b1 n t0_0 t1_0) n (0 : Int)).bind fun q => (match q with | .inl v4_2 => some v4_2 | .inr (v5_3, v9_4) => some ((-1) : Int))
theorem big_spec_l12At {n : Nat} : B_spec_l12At (p_spec_l12At n) := by
 intro t0_0 t1_0 r h
 unfold p_spec_l12At at h
 refine bF Try.func160 rfl rfl <| cRs <| xAs rfl <| oNl <| cSq <| cRs <| xAs rfl <| oNl <| cLp h [(4, 19)] [] (fun v5_1 => ([(5, I64 v5_1)], [])) (fun q => match q with | .inl v4_2 => (.r, [(4, I64 v4_2)], []) | .inr (v5_3, v9_4) => (.e 0, [(5, I64 v5_3), (9, Bo v9_4)], [])) rfl (fun v5_1 _ h => ?_) (fun q h => ?_)
 unfold p_spec_l12At_b1 at h
 refine cSq <| cRs <| xMv rfl <| xMv rfl <| xLn rfl <| xLt rfl <| oNl <| cIf h rfl (fun q5 h => ?_) (fun q5 h => ?_)
 refine cSk <| cSq <| cBk <| cRs <| xMv rfl <| xMv rfl <| xIx h rS_impl_Entry_eq rfl (fun e14_6 h => ?_)
 refine xFd rfl <| xLd rfl <| xMv rfl <| xEs rfl <| oNl <| cIf h rfl (fun q7 h => ?_) (fun q7 h => ?_)
 exact cRs <| xMv rfl <| xAs rfl <| oNl <| cRt <| eXr h rfl
 exact cSk <| cRg <| xMv rfl <| xAdd rfl <| xAs rfl <| oNl <| eL h rfl
 exact cEx <| eX h rfl
 rcases q with v4_2 | ⟨v5_3, v9_4⟩
 cases h
 exact eR rfl rfl rfl rfl
 refine cRs <| xAs rfl <| oNl <| cRt ?_
 cases h
 exact eR rfl rfl rfl rfl
abbrev B_spec_l12Code (p : (List S_impl_Entry) → (List UInt8) → Int → Option ((List S_impl_Fn) × (List S_impl_Pat) × Bool)) : Prop := ∀ {t0_0 : List S_impl_Entry} {t1_0 : List UInt8} {t2_0 : Int} {r : (List S_impl_Fn) × (List S_impl_Pat) × Bool}, p t0_0 t1_0 t2_0 = some r → Big Try.prog τ An (.fn 80 [.one (.c (.sl (t0_0.map rS_impl_Entry))), .one (.c (.str t1_0)), .one (.c (.int .i64 t2_0))] [] (.tup [.ag [.sl (r.1.map rS_impl_Fn), .sl (r.2.1.map rS_impl_Pat)], .c (.bool r.2.2)]) none [] none)
def p_spec_l12Code (n : Nat) (t0_0 : List S_impl_Entry) (t1_0 : List UInt8) (t2_0 : Int) : Option ((List S_impl_Fn) × (List S_impl_Pat) × Bool) :=
  (p_spec_l12At n t0_0 t1_0).bind fun c11_1 => bif decide (c11_1 < (0 : Int)) then some (([] : List S_impl_Fn), ([] : List S_impl_Pat), false) else (ix t0_0 c11_1).bind fun e19_3 => bif decide (e19_3.f1 = t2_0) then (ix t0_0 c11_1).bind fun e26_5 => some (e26_5.f2, e26_5.f3, true) else ((ix t0_0 c11_1).bind fun e32_7 => bif e32_7.f4 then (ix t0_0 c11_1).bind fun e38_9 => some (decide ((IntKind.wrap .i64 (e38_9.f1 - (1 : Int))) = t2_0)) else some false).bind fun v29_6 => bif v29_6 then (ix t0_0 c11_1).bind fun e47_11 => some (e47_11.f5, e47_11.f6, true) else some (([] : List S_impl_Fn), ([] : List S_impl_Pat), false)
theorem big_spec_l12Code {n : Nat} : B_spec_l12Code (p_spec_l12Code n) := by
 intro t0_0 t1_0 t2_0 r h
 unfold p_spec_l12Code at h
 refine bF Try.func80 rfl rfl <| cRs <| xAz [.sl ([].map rS_impl_Fn), .sl ([].map rS_impl_Pat)] rfl <| xAs rfl <| oRs <| xMv rfl <| xMv rfl <| xC0 h (big_spec_l12At ·) rfl (fun c11_1 h => ?_)
 refine xAs rfl <| oNl <| cSq <| cBk <| cRs <| xMv rfl <| xLt rfl <| xAs rfl <| oNl <| cIf h rfl (fun q2 h => ?_) (fun q2 h => ?_)
 refine cRs <| wBd [.sl ([].map rS_impl_Fn), .sl ([].map rS_impl_Pat)] rfl rfl rfl rfl rfl rfl <| xSt rfl <| xAs rfl <| oNl <| cRt ?_
 cases h
 exact eR rfl rfl rfl rfl
 refine cRs <| xMv rfl <| xMv rfl <| xIx h rS_impl_Entry_eq rfl (fun e19_3 h => ?_)
 refine xFd rfl <| xLd rfl <| xMv rfl <| xEq rfl <| xAs rfl <| oNl <| cIf h rfl (fun q4 h => ?_) (fun q4 h => ?_)
 refine cRs <| xMv rfl <| xMv rfl <| xIx h rS_impl_Entry_eq rfl (fun e26_5 h => ?_)
 refine xFd rfl <| xLd rfl <| xSt rfl <| xAs rfl <| oNl <| cRt ?_
 cases h
 exact eR rfl rfl rfl rfl
 refine cRs <| oJn h [(29, 44)] [] (fun v29_6 => (.n, [(29, Bo v29_6)], [])) (fun _ h => ?_) (fun v29_6 h => ?_)
 refine xMv rfl <| xMv rfl <| xIx h rS_impl_Entry_eq rfl (fun e32_7 h => ?_)
 refine xFd rfl <| xLd rfl <| xMv rfl <| oIf 35 h rfl (fun q8 h => ?_) (fun q8 h => ?_)
 refine xMv rfl <| xMv rfl <| xIx h rS_impl_Entry_eq rfl (fun e38_9 h => ?_)
 exact xFd rfl <| xLd rfl <| xSub rfl <| xMv rfl <| xEq rfl <| xPk rfl <| xAs rfl <| oNl <| eJ h rfl
 exact wSk rfl <| wSk rfl <| wSk rfl <| wSk rfl <| wSk rfl <| wSk rfl <| wSk rfl <| wSk rfl <| xPk rfl <| xAs rfl <| oNl <| eJ h rfl
 refine cIf h rfl (fun q10 h => ?_) (fun q10 h => ?_)
 refine cRs <| xMv rfl <| xMv rfl <| xIx h rS_impl_Entry_eq rfl (fun e47_11 h => ?_)
 refine xFd rfl <| xLd rfl <| xSt rfl <| xAs rfl <| oNl <| cRt ?_
 cases h
 exact eR rfl rfl rfl rfl
 refine cSk <| cRs <| wBd [.sl ([].map rS_impl_Fn), .sl ([].map rS_impl_Pat)] rfl rfl rfl rfl rfl rfl <| xSt rfl <| xAs rfl <| oNl <| cRt ?_
 cases h
 exact eR rfl rfl rfl rfl
abbrev Y_spec_l9CopyPat : Type := Int → Int → (List UInt8) → (List S_impl_Pat) → Option (Int × Int × (List UInt8) × (List S_impl_Pat))
abbrev B_spec_l9CopyPat (p : Y_spec_l9CopyPat) : Prop := ∀ {t0_0 t0_1 : Int} {t0_2 : List UInt8} {t0_3 : List S_impl_Pat} {r : Int × Int × (List UInt8) × (List S_impl_Pat)}, p t0_0 t0_1 t0_2 t0_3 = some r → Big Try.prog τ An (.fn 161 [.one (.ag [.int .i64 t0_0, .int .i64 t0_1, .str t0_2, .sl (t0_3.map rS_impl_Pat)])] [] (.one (.ag [.int .i64 r.1, .int .i64 r.2.1, .str r.2.2.1, .sl (r.2.2.2.map rS_impl_Pat)])) none [] none)
def p_spec_l9CopyPat_b1 (n : Nat) (r_spec_l9CopyPat : Y_spec_l9CopyPat) (t0_3 : List S_impl_Pat) : (Int × Int × Int × (List UInt8) × (List S_impl_Pat)) → Option ((Int × Int × Int × (List UInt8) × (List S_impl_Pat)) ⊕ ((Int × Bool × Int × Int × (List UInt8) × (List S_impl_Pat))))
  | (v4_1, w3_2, w3_3, w3_4, w3_5) => bif decide (v4_1 < (t0_3.length : Int)) then (ix t0_3 v4_1).bind fun e20_13 => (r_spec_l9CopyPat e20_13.f0 e20_13.f1 e20_13.f2 e20_13.f3).bind fun c22_14 => (app2 56 w3_5 ([S_impl_Pat.mk c22_14.1 c22_14.2.1 c22_14.2.2.1 c22_14.2.2.2] : List S_impl_Pat)).bind fun v24_15 => some (.inl ((IntKind.wrap .i64 (v4_1 + (1 : Int))), w3_2, w3_3, w3_4, v24_15)) else some (.inr (v4_1, false, w3_2, w3_3, w3_4, w3_5))
def s_spec_l9CopyPat (n : Nat) (r_spec_l9CopyPat : Y_spec_l9CopyPat) (t0_0 : Int) (t0_1 : Int) (t0_2 : List UInt8) (t0_3 : List S_impl_Pat) : Option (Int × Int × (List UInt8) × (List S_impl_Pat)) :=
  (loopN (p_spec_l9CopyPat_b1 n r_spec_l9CopyPat t0_3) n ((0 : Int), t0_0, t0_1, t0_2, ([] : List S_impl_Pat))).bind fun (v4_6, v12_7, w3_8, w3_9, w3_10, w3_11) => some (w3_8, w3_9, w3_10, w3_11)
theorem step_spec_l9CopyPat {n : Nat} {r_spec_l9CopyPat : Y_spec_l9CopyPat} (ih_spec_l9CopyPat : B_spec_l9CopyPat r_spec_l9CopyPat) : B_spec_l9CopyPat (s_spec_l9CopyPat n r_spec_l9CopyPat) := by
 intro t0_0 t0_1 t0_2 t0_3 r h
 unfold s_spec_l9CopyPat at h
 refine bF Try.func161 rfl rfl <| cRs <| xBx rfl <| xAz [.int .i64 0, .int .i64 0, .str [], .sl ([].map rS_impl_Pat)] rfl <| oRs <| xLd rfl <| xAz [.int .i64 0, .int .i64 0, .str [], .sl ([].map rS_impl_Pat)] rfl <| xSt rfl <| oRs <| wLt' (L := ([] : List S_impl_Pat)) (f := rS_impl_Pat) rfl rfl rfl rfl rfl rfl rfl <| xFd rfl <| xSt rfl <| oNl <| cSq ?_
 refine cRs <| xAs rfl <| oNl <| cLp h [(4, 4), (8, 25)] [(3, 3)] (fun (v4_1, w3_2, w3_3, w3_4, w3_5) => ([(4, I64 v4_1)], [(3, [.int .i64 w3_2, .int .i64 w3_3, .str w3_4, .sl (w3_5.map rS_impl_Pat)])])) (fun (v4_6, v12_7, w3_8, w3_9, w3_10, w3_11) => (.e 0, [(4, I64 v4_6), (12, Bo v12_7)], [(3, [.int .i64 w3_8, .int .i64 w3_9, .str w3_10, .sl (w3_11.map rS_impl_Pat)])])) rfl (fun st _ h => ?_) (fun q h => ?_)
 obtain ⟨v4_1, w3_2, w3_3, w3_4, w3_5⟩ := st
 unfold p_spec_l9CopyPat_b1 at h
 refine cSq <| cRs <| xMv rfl <| xFd rfl <| xLd rfl <| xLn rfl <| xLt rfl <| oNl <| cIf h rfl (fun q12 h => ?_) (fun q12 h => ?_)
 refine cSk <| cSq <| cBk <| cRg <| xFd rfl <| xLd rfl <| xFd rfl <| xLd rfl <| xMv rfl <| xIx h rS_impl_Pat_eq rfl (fun e20_13 h => ?_)
 refine xLd rfl <| xC0 h (ih_spec_l9CopyPat ·) rfl (fun c22_14 h => ?_)
 refine wLt' (L := ([S_impl_Pat.mk c22_14.1 c22_14.2.1 c22_14.2.2.1 c22_14.2.2.2] : List S_impl_Pat)) (f := rS_impl_Pat) rfl rfl rfl rfl (by simp only [List.map, rS_impl_Pat_mk] <;> rfl) rfl rfl <| wAp (f := rS_impl_Pat) h rfl rfl rfl rfl rfl rfl rfl rfl rfl (fun a => by rw [rS_impl_Pat_eq]; rfl) rfl (fun v24_15 h => ?_)
 exact xFd rfl <| xSt rfl <| oNl <| cRg <| xMv rfl <| xAdd rfl <| xAs rfl <| oNl <| eL h rfl
 exact cEx <| eX h rfl
 obtain ⟨v4_6, v12_7, w3_8, w3_9, w3_10, w3_11⟩ := q
 refine cRs <| xLd rfl <| xSt rfl <| oNl <| cRt ?_
 cases h
 exact eR rfl rfl rfl rfl
def q_spec_l9CopyPat : Nat → (Y_spec_l9CopyPat)
  | 0 => (fun _ _ _ _ => none)
  | n + 1 => s_spec_l9CopyPat n (q_spec_l9CopyPat n)
def p_spec_l9CopyPat (n : Nat) : Y_spec_l9CopyPat := q_spec_l9CopyPat n
theorem bigs_spec_l9CopyPat (n : Nat) : B_spec_l9CopyPat (p_spec_l9CopyPat n) := by
  induction n with
  | zero => exact (fun h => nomatch h)
  | succ n ih => exact step_spec_l9CopyPat (n := n) ih
theorem big_spec_l9CopyPat {n : Nat} : B_spec_l9CopyPat (p_spec_l9CopyPat n) := (bigs_spec_l9CopyPat n)
theorem p_spec_l9CopyPat_succ (n : Nat) : p_spec_l9CopyPat (n + 1) = s_spec_l9CopyPat n (p_spec_l9CopyPat n) := rfl
abbrev B_spec_l9Copy (p : (List S_impl_Fn) → (List S_impl_Pat) → Option ((List S_impl_Fn) × (List S_impl_Pat))) : Prop := ∀ {t0_0 : List S_impl_Fn} {t0_1 : List S_impl_Pat} {r : (List S_impl_Fn) × (List S_impl_Pat)}, p t0_0 t0_1 = some r → Big Try.prog τ An (.fn 81 [.one (.ag [.sl (t0_0.map rS_impl_Fn), .sl (t0_1.map rS_impl_Pat)])] [] (.one (.ag [.sl (r.1.map rS_impl_Fn), .sl (r.2.map rS_impl_Pat)])) none [] none)
def p_spec_l9Copy_b1 (n : Nat) (t0_0 : List S_impl_Fn) : (Int × (List S_impl_Fn) × (List S_impl_Pat)) → Option ((Int × (List S_impl_Fn) × (List S_impl_Pat)) ⊕ ((Int × Bool × (List S_impl_Fn) × (List S_impl_Pat))))
  | (v4_1, w3_2, w3_3) => bif decide (v4_1 < (t0_0.length : Int)) then (ix t0_0 v4_1).bind fun e18_9 => (app2 40 ([] : List S_impl_Ins) e18_9.f3).bind fun v23_10 => (app2 56 w3_2 ([S_impl_Fn.mk e18_9.f0 e18_9.f1 e18_9.f2 v23_10] : List S_impl_Fn)).bind fun v29_11 => some (.inl ((IntKind.wrap .i64 (v4_1 + (1 : Int))), v29_11, w3_3)) else some (.inr (v4_1, false, w3_2, w3_3))
def p_spec_l9Copy_b2 (n : Nat) (t0_1 : List S_impl_Pat) : (Int × (List S_impl_Fn) × (List S_impl_Pat)) → Option ((Int × (List S_impl_Fn) × (List S_impl_Pat)) ⊕ ((Int × Bool × (List S_impl_Fn) × (List S_impl_Pat))))
  | (v6_12, w3_13, w3_14) => bif decide (v6_12 < (t0_1.length : Int)) then (ix t0_1 v6_12).bind fun e43_20 => (p_spec_l9CopyPat n e43_20.f0 e43_20.f1 e43_20.f2 e43_20.f3).bind fun c45_21 => (app2 56 w3_14 ([S_impl_Pat.mk c45_21.1 c45_21.2.1 c45_21.2.2.1 c45_21.2.2.2] : List S_impl_Pat)).bind fun v47_22 => some (.inl ((IntKind.wrap .i64 (v6_12 + (1 : Int))), w3_13, v47_22)) else some (.inr (v6_12, false, w3_13, w3_14))
def p_spec_l9Copy (n : Nat) (t0_0 : List S_impl_Fn) (t0_1 : List S_impl_Pat) : Option ((List S_impl_Fn) × (List S_impl_Pat)) :=
  (loopN (p_spec_l9Copy_b1 n t0_0) n ((0 : Int), ([] : List S_impl_Fn), ([] : List S_impl_Pat))).bind fun (v4_4, v12_5, w3_6, w3_7) => (loopN (p_spec_l9Copy_b2 n t0_1) n ((0 : Int), w3_6, w3_7)).bind fun (v6_15, v35_16, w3_17, w3_18) => some (w3_17, w3_18)
theorem big_spec_l9Copy {n : Nat} : B_spec_l9Copy (p_spec_l9Copy n) := by
 intro t0_0 t0_1 r h
 unfold p_spec_l9Copy at h
 refine bF Try.func81 rfl rfl <| cRs <| xBx rfl <| xAz [.sl ([].map rS_impl_Fn), .sl ([].map rS_impl_Pat)] rfl <| oRs <| wBd [.sl ([].map rS_impl_Fn), .sl ([].map rS_impl_Pat)] rfl rfl rfl rfl rfl rfl <| xAz [.sl ([].map rS_impl_Fn), .sl ([].map rS_impl_Pat)] rfl <| xSt rfl <| oNl <| cSq <| cRs <| xAs rfl <| oNl <| cLp h [(4, 5), (8, 30)] [(3, 3), (5, 5)] (fun (v4_1, w3_2, w3_3) => ([(4, I64 v4_1)], [(3, [.sl (w3_2.map rS_impl_Fn), .sl (w3_3.map rS_impl_Pat)])])) (fun (v4_4, v12_5, w3_6, w3_7) => (.e 0, [(4, I64 v4_4), (12, Bo v12_5)], [(3, [.sl (w3_6.map rS_impl_Fn), .sl (w3_7.map rS_impl_Pat)])])) rfl (fun st _ h => ?_) (fun q h => ?_)
 obtain ⟨v4_1, w3_2, w3_3⟩ := st
 unfold p_spec_l9Copy_b1 at h
 refine cSq <| cRs <| xMv rfl <| xFd rfl <| xLd rfl <| xLn rfl <| xLt rfl <| oNl <| cIf h rfl (fun q8 h => ?_) (fun q8 h => ?_)
 refine cSk <| cSq <| cBk <| cRs <| xFd rfl <| xLd rfl <| xMv rfl <| xIx h rS_impl_Fn_eq rfl (fun e18_9 h => ?_)
 refine xLd rfl <| xAz [.str [], .int .i64 0, .int .i64 0, .sl ([].map rS_impl_Ins)] rfl <| xSt rfl <| oRs <| wLt' (L := ([] : List S_impl_Ins)) (f := rS_impl_Ins) rfl rfl rfl rfl rfl rfl rfl <| xFd rfl <| xLd rfl <| wAp (f := rS_impl_Ins) h rfl rfl rfl rfl rfl rfl rfl rfl rfl (fun _ => rfl) rfl (fun v23_10 h => ?_)
 refine xFd rfl <| xSt rfl <| oNl <| cRg <| xFd rfl <| xLd rfl <| xLd rfl <| wLt' (L := ([S_impl_Fn.mk e18_9.f0 e18_9.f1 e18_9.f2 v23_10] : List S_impl_Fn)) (f := rS_impl_Fn) rfl rfl rfl rfl rfl rfl rfl <| wAp (f := rS_impl_Fn) h rfl rfl rfl rfl rfl rfl rfl rfl rfl (fun _ => rfl) rfl (fun v29_11 h => ?_)
 exact xFd rfl <| xSt rfl <| oNl <| cRg <| xMv rfl <| xAdd rfl <| xAs rfl <| oNl <| eL h rfl
 exact cEx <| eX h rfl
 obtain ⟨v4_4, v12_5, w3_6, w3_7⟩ := q
 refine cSq <| cRs <| xAs rfl <| oNl <| cLp h [(6, 6), (31, 48)] [(3, 3)] (fun (v6_12, w3_13, w3_14) => ([(6, I64 v6_12)], [(3, [.sl (w3_13.map rS_impl_Fn), .sl (w3_14.map rS_impl_Pat)])])) (fun (v6_15, v35_16, w3_17, w3_18) => (.e 2, [(6, I64 v6_15), (35, Bo v35_16)], [(3, [.sl (w3_17.map rS_impl_Fn), .sl (w3_18.map rS_impl_Pat)])])) rfl (fun st _ h => ?_) (fun q h => ?_)
 obtain ⟨v6_12, w3_13, w3_14⟩ := st
 unfold p_spec_l9Copy_b2 at h
 refine cSq <| cRs <| xMv rfl <| xFd rfl <| xLd rfl <| xLn rfl <| xLt rfl <| oNl <| cIf h rfl (fun q19 h => ?_) (fun q19 h => ?_)
 refine cSk <| cSq <| cBk <| cRg <| xFd rfl <| xLd rfl <| xFd rfl <| xLd rfl <| xMv rfl <| xIx h rS_impl_Pat_eq rfl (fun e43_20 h => ?_)
 refine xLd rfl <| xC0 h (big_spec_l9CopyPat ·) rfl (fun c45_21 h => ?_)
 refine wLt' (L := ([S_impl_Pat.mk c45_21.1 c45_21.2.1 c45_21.2.2.1 c45_21.2.2.2] : List S_impl_Pat)) (f := rS_impl_Pat) rfl rfl rfl rfl (by simp only [List.map, rS_impl_Pat_mk] <;> rfl) rfl rfl <| wAp (f := rS_impl_Pat) h rfl rfl rfl rfl rfl rfl rfl rfl rfl (fun a => by rw [rS_impl_Pat_eq]; rfl) rfl (fun v47_22 h => ?_)
 exact xFd rfl <| xSt rfl <| oNl <| cRg <| xMv rfl <| xAdd rfl <| xAs rfl <| oNl <| eL h rfl
 exact cEx <| eX h rfl
 obtain ⟨v6_15, v35_16, w3_17, w3_18⟩ := q
 refine cRs <| xLd rfl <| xSt rfl <| oNl <| cRt ?_
 cases h
 exact eR rfl rfl rfl rfl
abbrev B_spec_CodeOf (p : (List S_impl_Entry) → (List UInt8) → Int → Option ((List S_impl_Fn) × (List S_impl_Pat) × Bool)) : Prop := ∀ {t0_0 : List S_impl_Entry} {t1_0 : List UInt8} {t2_0 : Int} {r : (List S_impl_Fn) × (List S_impl_Pat) × Bool}, p t0_0 t1_0 t2_0 = some r → Big Try.prog τ An (.fn 18 [.one (.c (.sl (t0_0.map rS_impl_Entry))), .one (.c (.str t1_0)), .one (.c (.int .i64 t2_0))] [] (.tup [.ag [.sl (r.1.map rS_impl_Fn), .sl (r.2.1.map rS_impl_Pat)], .c (.bool r.2.2)]) none [] none)
def p_spec_CodeOf (n : Nat) (t0_0 : List S_impl_Entry) (t1_0 : List UInt8) (t2_0 : Int) : Option ((List S_impl_Fn) × (List S_impl_Pat) × Bool) :=
  (p_spec_l12Code n t0_0 t1_0 t2_0).bind fun c14_1 => (p_spec_l9Copy n c14_1.1 c14_1.2.1).bind fun c18_2 => some (c18_2.1, c18_2.2, c14_1.2.2)
theorem big_spec_CodeOf {n : Nat} : B_spec_CodeOf (p_spec_CodeOf n) := by
 intro t0_0 t1_0 t2_0 r h
 unfold p_spec_CodeOf at h
 refine bF Try.func18 rfl rfl <| cRs <| xAz [.sl ([].map rS_impl_Fn), .sl ([].map rS_impl_Pat)] rfl <| xAs rfl <| oRs <| xMv rfl <| xMv rfl <| xMv rfl <| xC0 h (big_spec_l12Code ·) rfl (fun c14_1 h => ?_)
 refine xMv rfl <| xEt rfl <| xEt rfl <| xAz [.sl ([].map rS_impl_Fn), .sl ([].map rS_impl_Pat)] rfl <| xSt rfl <| xAs rfl <| oRs <| xLd rfl <| xC0 h (big_spec_l9Copy ·) rfl (fun c18_2 h => ?_)
 refine xMv rfl <| xSt rfl <| xAs rfl <| oNl <| cRt ?_
 cases h
 exact eR rfl rfl rfl rfl
abbrev B_laws_toIns (p : Int → Int → (List UInt8) → Int → Option (Int × Int × (List UInt8) × Int)) : Prop := ∀ {t0_0 t0_1 : Int} {t0_2 : List UInt8} {t0_3 : Int} {r : Int × Int × (List UInt8) × Int}, p t0_0 t0_1 t0_2 t0_3 = some r → Big Try.prog τ An (.fn 282 [.one (.ag [.int .i64 t0_0, .int .i64 t0_1, .str t0_2, .int .i64 t0_3])] [] (.one (.ag [.int .i64 r.1, .int .i64 r.2.1, .str r.2.2.1, .int .i64 r.2.2.2])) none [] none)
def p_laws_toIns (n : Nat) (t0_0 : Int) (t0_1 : Int) (t0_2 : List UInt8) (t0_3 : Int) : Option (Int × Int × (List UInt8) × Int) :=
  some (t0_0, t0_1, t0_2, t0_3)
theorem big_laws_toIns {n : Nat} : B_laws_toIns (p_laws_toIns n) := by
 intro t0_0 t0_1 t0_2 t0_3 r h
 unfold p_laws_toIns at h
 refine bF Try.func282 rfl rfl <| cRs <| xBx rfl <| xAc rfl <| oRs <| xAc rfl <| oRs <| xFd rfl <| xLd rfl <| xFd rfl <| xSt rfl <| oRs <| xFd rfl <| xLd rfl ?_
 refine xFd rfl <| xSt rfl <| oRs <| xFd rfl <| xLd rfl <| xFd rfl <| xSt rfl <| oRs <| xFd rfl <| xLd rfl <| xFd rfl <| xSt rfl <| oRs <| xLd rfl ?_
 refine xSt rfl <| oNl <| cRt ?_
 cases h
 exact eR rfl rfl rfl rfl
abbrev B_laws_toInsS (p : (List S_impl_Ins) → Option ((List S_impl_Ins))) : Prop := ∀ {t0_0 : List S_impl_Ins} {r : (List S_impl_Ins)}, p t0_0 = some r → Big Try.prog τ An (.fn 273 [.one (.c (.sl (t0_0.map rS_impl_Ins)))] [] (.one (.c (.sl (r.map rS_impl_Ins)))) none [] none)
def p_laws_toInsS_b1 (n : Nat) (t0_0 : List S_impl_Ins) : ((List S_impl_Ins) × Int) → Option (((List S_impl_Ins) × Int) ⊕ (((List S_impl_Ins) × Int × Bool)))
  | (v3_2, v4_3) => bif decide (v4_3 < (t0_0.length : Int)) then (ix t0_0 v4_3).bind fun e18_8 => (p_laws_toIns n e18_8.f0 e18_8.f1 e18_8.f2 e18_8.f3).bind fun c20_9 => (ix v3_2 v4_3).bind fun e21_10 => (some (v3_2.set (Int.toNat v4_3) (S_impl_Ins.mk c20_9.1 c20_9.2.1 c20_9.2.2.1 c20_9.2.2.2))).bind fun u3_11 => some (.inl (u3_11, (IntKind.wrap .i64 (v4_3 + (1 : Int))))) else some (.inr (v3_2, v4_3, false))
def p_laws_toInsS (n : Nat) (t0_0 : List S_impl_Ins) : Option ((List S_impl_Ins)) :=
  (ck (decide (0 ≤ (t0_0.length : Int) ∧ (t0_0.length : Int) ≤ maxLen ∧ 40 * (t0_0.length : Int) ≤ 281474976710656))).bind fun _ => (loopN (p_laws_toInsS_b1 n t0_0) n ((List.replicate (Int.toNat (t0_0.length : Int)) (S_impl_Ins.mk (0 : Int) (0 : Int) ([] : List UInt8) (0 : Int))), (0 : Int))).bind fun (v3_4, v4_5, v11_6) => some v3_4
theorem big_laws_toInsS {n : Nat} : B_laws_toInsS (p_laws_toInsS n) := by
 intro t0_0 r h
 unfold p_laws_toInsS at h
 refine bF Try.func273 rfl rfl <| cRs <| wAe (Li rS_impl_Ins []) rfl rfl rfl rfl <| oRs <| xMv rfl <| xLn rfl <| oCk h (fun k7_0 h => ?_)
 refine wMk (z := S_impl_Ins.mk (0 : Int) (0 : Int) ([] : List UInt8) (0 : Int)) (f := rS_impl_Ins) k7_0 rfl rfl rfl rfl rfl rfl rfl <| xAs rfl <| oNl <| cSq <| cRs <| xAs rfl <| oNl <| cLp h [(3, 4), (8, 21)] [] (fun (v3_2, v4_3) => ([(3, Li rS_impl_Ins v3_2), (4, I64 v4_3)], [])) (fun (v3_4, v4_5, v11_6) => (.e 0, [(3, Li rS_impl_Ins v3_4), (4, I64 v4_5), (11, Bo v11_6)], [])) rfl (fun st _ h => ?_) (fun q h => ?_)
 obtain ⟨v3_2, v4_3⟩ := st
 unfold p_laws_toInsS_b1 at h
 refine cSq <| cRs <| xMv rfl <| xMv rfl <| xLn rfl <| xLt rfl <| oNl <| cIf h rfl (fun q7 h => ?_) (fun q7 h => ?_)
 refine cSk <| cSq <| cBk <| cRg <| wAl rfl rfl rfl rfl <| xMv rfl <| xMv rfl <| xMv rfl <| xIx h rS_impl_Ins_eq rfl (fun e18_8 h => ?_)
 refine xLd rfl <| xC0 h (big_laws_toIns ·) rfl (fun c20_9 h => ?_)
 refine wIp (f := rS_impl_Ins) h rfl rfl rfl rfl rfl rfl (fun _ => rfl) rfl (fun e21_10 ke21_10 h => ?_)
 refine wSpN (f := rS_impl_Ins) (v' := S_impl_Ins.mk c20_9.1 c20_9.2.1 c20_9.2.2.1 c20_9.2.2.2) h ke21_10 rfl rfl rfl rfl rfl rfl rfl rfl rfl (fun u3_11 h => ?_)
 exact oNl <| cRg <| xMv rfl <| xAdd rfl <| xAs rfl <| oNl <| eL h rfl
 exact cEx <| eX h rfl
 obtain ⟨v3_4, v4_5, v11_6⟩ := q
 refine cRs <| xMv rfl <| xAs rfl <| oNl <| cRt ?_
 cases h
 exact eR rfl rfl rfl rfl
abbrev B_laws_toFn (p : (List UInt8) → Int → Int → (List S_impl_Ins) → Option ((List UInt8) × Int × Int × (List S_impl_Ins))) : Prop := ∀ {t0_0 : List UInt8} {t0_1 t0_2 : Int} {t0_3 : List S_impl_Ins} {r : (List UInt8) × Int × Int × (List S_impl_Ins)}, p t0_0 t0_1 t0_2 t0_3 = some r → Big Try.prog τ An (.fn 250 [.one (.ag [.str t0_0, .int .i64 t0_1, .int .i64 t0_2, .sl (t0_3.map rS_impl_Ins)])] [] (.one (.ag [.str r.1, .int .i64 r.2.1, .int .i64 r.2.2.1, .sl (r.2.2.2.map rS_impl_Ins)])) none [] none)
def p_laws_toFn (n : Nat) (t0_0 : List UInt8) (t0_1 : Int) (t0_2 : Int) (t0_3 : List S_impl_Ins) : Option ((List UInt8) × Int × Int × (List S_impl_Ins)) :=
  (p_laws_toInsS n t0_3).bind fun c15_1 => some (t0_0, t0_1, t0_2, c15_1)
theorem big_laws_toFn {n : Nat} : B_laws_toFn (p_laws_toFn n) := by
 intro t0_0 t0_1 t0_2 t0_3 r h
 unfold p_laws_toFn at h
 refine bF Try.func250 rfl rfl <| cRs <| xBx rfl <| xAz [.str [], .int .i64 0, .int .i64 0, .sl ([].map rS_impl_Ins)] rfl <| oRs <| xAz [.str [], .int .i64 0, .int .i64 0, .sl ([].map rS_impl_Ins)] rfl <| oRs <| xFd rfl <| xLd rfl <| xFd rfl <| xSt rfl <| oRs <| xFd rfl <| xLd rfl ?_
 refine xFd rfl <| xSt rfl <| oRs <| xFd rfl <| xLd rfl <| xFd rfl <| xSt rfl <| oRs <| xFd rfl <| xLd rfl <| xC0 h (big_laws_toInsS ·) rfl (fun c15_1 h => ?_)
 refine xFd rfl <| xSt rfl <| oRs <| xLd rfl <| xSt rfl <| oNl <| cRt ?_
 cases h
 exact eR rfl rfl rfl rfl
abbrev B_laws_toFnS (p : (List S_laws_Fn) → Option ((List S_impl_Fn))) : Prop := ∀ {t0_0 : List S_laws_Fn} {r : (List S_impl_Fn)}, p t0_0 = some r → Big Try.prog τ An (.fn 217 [.one (.c (.sl (t0_0.map rS_laws_Fn)))] [] (.one (.c (.sl (r.map rS_impl_Fn)))) none [] none)
def p_laws_toFnS_b1 (n : Nat) (t0_0 : List S_laws_Fn) : ((List S_impl_Fn) × Int) → Option (((List S_impl_Fn) × Int) ⊕ (((List S_impl_Fn) × Int × Bool)))
  | (v3_2, v4_3) => bif decide (v4_3 < (t0_0.length : Int)) then (ix t0_0 v4_3).bind fun e18_8 => (p_laws_toFn n e18_8.f0 e18_8.f1 e18_8.f2 e18_8.f3).bind fun c20_9 => (ix v3_2 v4_3).bind fun e21_10 => (some (v3_2.set (Int.toNat v4_3) (S_impl_Fn.mk c20_9.1 c20_9.2.1 c20_9.2.2.1 c20_9.2.2.2))).bind fun u3_11 => some (.inl (u3_11, (IntKind.wrap .i64 (v4_3 + (1 : Int))))) else some (.inr (v3_2, v4_3, false))
def p_laws_toFnS (n : Nat) (t0_0 : List S_laws_Fn) : Option ((List S_impl_Fn)) :=
  (ck (decide (0 ≤ (t0_0.length : Int) ∧ (t0_0.length : Int) ≤ maxLen ∧ 56 * (t0_0.length : Int) ≤ 281474976710656))).bind fun _ => (loopN (p_laws_toFnS_b1 n t0_0) n ((List.replicate (Int.toNat (t0_0.length : Int)) (S_impl_Fn.mk ([] : List UInt8) (0 : Int) (0 : Int) ([] : List S_impl_Ins))), (0 : Int))).bind fun (v3_4, v4_5, v11_6) => some v3_4
theorem big_laws_toFnS {n : Nat} : B_laws_toFnS (p_laws_toFnS n) := by
 intro t0_0 r h
 unfold p_laws_toFnS at h
 refine bF Try.func217 rfl rfl <| cRs <| wAe (Li rS_impl_Fn []) rfl rfl rfl rfl <| oRs <| xMv rfl <| xLn rfl <| oCk h (fun k7_0 h => ?_)
 refine wMk (z := S_impl_Fn.mk ([] : List UInt8) (0 : Int) (0 : Int) ([] : List S_impl_Ins)) (f := rS_impl_Fn) k7_0 rfl rfl rfl rfl rfl rfl rfl <| xAs rfl <| oNl <| cSq <| cRs <| xAs rfl <| oNl <| cLp h [(3, 4), (8, 21)] [] (fun (v3_2, v4_3) => ([(3, Li rS_impl_Fn v3_2), (4, I64 v4_3)], [])) (fun (v3_4, v4_5, v11_6) => (.e 0, [(3, Li rS_impl_Fn v3_4), (4, I64 v4_5), (11, Bo v11_6)], [])) rfl (fun st _ h => ?_) (fun q h => ?_)
 obtain ⟨v3_2, v4_3⟩ := st
 unfold p_laws_toFnS_b1 at h
 refine cSq <| cRs <| xMv rfl <| xMv rfl <| xLn rfl <| xLt rfl <| oNl <| cIf h rfl (fun q7 h => ?_) (fun q7 h => ?_)
 refine cSk <| cSq <| cBk <| cRg <| wAl rfl rfl rfl rfl <| xMv rfl <| xMv rfl <| xMv rfl <| xIx h rS_laws_Fn_eq rfl (fun e18_8 h => ?_)
 refine xLd rfl <| xC0 h (big_laws_toFn ·) rfl (fun c20_9 h => ?_)
 refine wIp (f := rS_impl_Fn) h rfl rfl rfl rfl rfl rfl (fun _ => rfl) rfl (fun e21_10 ke21_10 h => ?_)
 refine wSpN (f := rS_impl_Fn) (v' := S_impl_Fn.mk c20_9.1 c20_9.2.1 c20_9.2.2.1 c20_9.2.2.2) h ke21_10 rfl rfl rfl rfl rfl rfl rfl rfl rfl (fun u3_11 h => ?_)
 exact oNl <| cRg <| xMv rfl <| xAdd rfl <| xAs rfl <| oNl <| eL h rfl
 exact cEx <| eX h rfl
 obtain ⟨v3_4, v4_5, v11_6⟩ := q
 refine cRs <| xMv rfl <| xAs rfl <| oNl <| cRt ?_
 cases h
 exact eR rfl rfl rfl rfl
abbrev Y_laws_toPat : Type := Int → Int → (List UInt8) → (List S_laws_Pat) → Option (Int × Int × (List UInt8) × (List S_impl_Pat))
abbrev B_laws_toPat (p : Y_laws_toPat) : Prop := ∀ {t0_0 t0_1 : Int} {t0_2 : List UInt8} {t0_3 : List S_laws_Pat} {r : Int × Int × (List UInt8) × (List S_impl_Pat)}, p t0_0 t0_1 t0_2 t0_3 = some r → Big Try.prog τ An (.fn 251 [.one (.ag [.int .i64 t0_0, .int .i64 t0_1, .str t0_2, .sl (t0_3.map rS_laws_Pat)])] [] (.one (.ag [.int .i64 r.1, .int .i64 r.2.1, .str r.2.2.1, .sl (r.2.2.2.map rS_impl_Pat)])) none [] none)
abbrev Y_laws_toPatS : Type := (List S_laws_Pat) → Option ((List S_impl_Pat))
abbrev B_laws_toPatS (p : Y_laws_toPatS) : Prop := ∀ {t0_0 : List S_laws_Pat} {r : (List S_impl_Pat)}, p t0_0 = some r → Big Try.prog τ An (.fn 218 [.one (.c (.sl (t0_0.map rS_laws_Pat)))] [] (.one (.c (.sl (r.map rS_impl_Pat)))) none [] none)
def s_laws_toPat (n : Nat) (r_laws_toPatS : Y_laws_toPatS) (r_laws_toPat : Y_laws_toPat) (t0_0 : Int) (t0_1 : Int) (t0_2 : List UInt8) (t0_3 : List S_laws_Pat) : Option (Int × Int × (List UInt8) × (List S_impl_Pat)) :=
  (r_laws_toPatS t0_3).bind fun c15_1 => some (t0_0, t0_1, t0_2, c15_1)
theorem step_laws_toPat {n : Nat} {r_laws_toPatS : Y_laws_toPatS} (ih_laws_toPatS : B_laws_toPatS r_laws_toPatS) {r_laws_toPat : Y_laws_toPat} (ih_laws_toPat : B_laws_toPat r_laws_toPat) : B_laws_toPat (s_laws_toPat n r_laws_toPatS r_laws_toPat) := by
 intro t0_0 t0_1 t0_2 t0_3 r h
 unfold s_laws_toPat at h
 refine bF Try.func251 rfl rfl <| cRs <| xBx rfl <| xAz [.int .i64 0, .int .i64 0, .str [], .sl ([].map rS_impl_Pat)] rfl <| oRs <| xAz [.int .i64 0, .int .i64 0, .str [], .sl ([].map rS_impl_Pat)] rfl <| oRs <| xFd rfl <| xLd rfl <| xFd rfl <| xSt rfl <| oRs <| xFd rfl <| xLd rfl ?_
 refine xFd rfl <| xSt rfl <| oRs <| xFd rfl <| xLd rfl <| xFd rfl <| xSt rfl <| oRs <| xFd rfl <| xLd rfl <| xC0 h (ih_laws_toPatS ·) rfl (fun c15_1 h => ?_)
 refine xFd rfl <| xSt rfl <| oRs <| xLd rfl <| xSt rfl <| oNl <| cRt ?_
 cases h
 exact eR rfl rfl rfl rfl
def p_laws_toPatS_b1 (n : Nat) (r_laws_toPat : Y_laws_toPat) (t0_0 : List S_laws_Pat) : ((List S_impl_Pat) × Int) → Option (((List S_impl_Pat) × Int) ⊕ (((List S_impl_Pat) × Int × Bool)))
  | (v3_2, v4_3) => bif decide (v4_3 < (t0_0.length : Int)) then (ix t0_0 v4_3).bind fun e18_8 => (r_laws_toPat e18_8.f0 e18_8.f1 e18_8.f2 e18_8.f3).bind fun c20_9 => (ix v3_2 v4_3).bind fun e21_10 => (some (v3_2.set (Int.toNat v4_3) (S_impl_Pat.mk c20_9.1 c20_9.2.1 c20_9.2.2.1 c20_9.2.2.2))).bind fun u3_11 => some (.inl (u3_11, (IntKind.wrap .i64 (v4_3 + (1 : Int))))) else some (.inr (v3_2, v4_3, false))
def s_laws_toPatS (n : Nat) (r_laws_toPatS : Y_laws_toPatS) (r_laws_toPat : Y_laws_toPat) (t0_0 : List S_laws_Pat) : Option ((List S_impl_Pat)) :=
  (ck (decide (0 ≤ (t0_0.length : Int) ∧ (t0_0.length : Int) ≤ maxLen ∧ 56 * (t0_0.length : Int) ≤ 281474976710656))).bind fun _ => (loopN (p_laws_toPatS_b1 n r_laws_toPat t0_0) n ((List.replicate (Int.toNat (t0_0.length : Int)) (S_impl_Pat.mk (0 : Int) (0 : Int) ([] : List UInt8) ([] : List S_impl_Pat))), (0 : Int))).bind fun (v3_4, v4_5, v11_6) => some v3_4
theorem step_laws_toPatS {n : Nat} {r_laws_toPatS : Y_laws_toPatS} (ih_laws_toPatS : B_laws_toPatS r_laws_toPatS) {r_laws_toPat : Y_laws_toPat} (ih_laws_toPat : B_laws_toPat r_laws_toPat) : B_laws_toPatS (s_laws_toPatS n r_laws_toPatS r_laws_toPat) := by
 intro t0_0 r h
 unfold s_laws_toPatS at h
 refine bF Try.func218 rfl rfl <| cRs <| wAe (Li rS_impl_Pat []) rfl rfl rfl rfl <| oRs <| xMv rfl <| xLn rfl <| oCk h (fun k7_0 h => ?_)
 refine wMk (z := S_impl_Pat.mk (0 : Int) (0 : Int) ([] : List UInt8) ([] : List S_impl_Pat)) (f := rS_impl_Pat) k7_0 rfl rfl rfl rfl rfl rfl rfl <| xAs rfl <| oNl <| cSq <| cRs <| xAs rfl <| oNl <| cLp h [(3, 4), (8, 21)] [] (fun (v3_2, v4_3) => ([(3, Li rS_impl_Pat v3_2), (4, I64 v4_3)], [])) (fun (v3_4, v4_5, v11_6) => (.e 0, [(3, Li rS_impl_Pat v3_4), (4, I64 v4_5), (11, Bo v11_6)], [])) rfl (fun st _ h => ?_) (fun q h => ?_)
 obtain ⟨v3_2, v4_3⟩ := st
 unfold p_laws_toPatS_b1 at h
 refine cSq <| cRs <| xMv rfl <| xMv rfl <| xLn rfl <| xLt rfl <| oNl <| cIf h rfl (fun q7 h => ?_) (fun q7 h => ?_)
 refine cSk <| cSq <| cBk <| cRg <| wAl rfl rfl rfl rfl <| xMv rfl <| xMv rfl <| xMv rfl <| xIx h rS_laws_Pat_eq rfl (fun e18_8 h => ?_)
 refine xLd rfl <| xC0 h (ih_laws_toPat ·) rfl (fun c20_9 h => ?_)
 refine wIp (f := rS_impl_Pat) h rfl rfl rfl rfl rfl rfl (fun a => by rw [rS_impl_Pat_eq]; rfl) rfl (fun e21_10 ke21_10 h => ?_)
 refine wSpN (f := rS_impl_Pat) (v' := S_impl_Pat.mk c20_9.1 c20_9.2.1 c20_9.2.2.1 c20_9.2.2.2) h ke21_10 rfl rfl rfl rfl rfl rfl rfl (by rw [rS_impl_Pat_eq]; rfl) (by rw [rS_impl_Pat_eq, rS_impl_Pat_mk]; rfl) (fun u3_11 h => ?_)
 exact oNl <| cRg <| xMv rfl <| xAdd rfl <| xAs rfl <| oNl <| eL h rfl
 exact cEx <| eX h rfl
 obtain ⟨v3_4, v4_5, v11_6⟩ := q
 refine cRs <| xMv rfl <| xAs rfl <| oNl <| cRt ?_
 cases h
 exact eR rfl rfl rfl rfl
def q_laws_toPatS : Nat → (Y_laws_toPatS) × (Y_laws_toPat)
  | 0 => ((fun _ => none), (fun _ _ _ _ => none))
  | n + 1 => (s_laws_toPatS n ((q_laws_toPatS n).1) ((q_laws_toPatS n).2), s_laws_toPat n ((q_laws_toPatS n).1) ((q_laws_toPatS n).2))
def p_laws_toPatS (n : Nat) : Y_laws_toPatS := (q_laws_toPatS n).1
def p_laws_toPat (n : Nat) : Y_laws_toPat := (q_laws_toPatS n).2
theorem bigs_laws_toPatS (n : Nat) : B_laws_toPatS (p_laws_toPatS n) ∧ B_laws_toPat (p_laws_toPat n) := by
  induction n with
  | zero => exact ⟨(fun h => nomatch h), (fun h => nomatch h)⟩
  | succ n ih => exact ⟨step_laws_toPatS (n := n) (ih.1) (ih.2), step_laws_toPat (n := n) (ih.1) (ih.2)⟩
theorem big_laws_toPatS {n : Nat} : B_laws_toPatS (p_laws_toPatS n) := (bigs_laws_toPatS n).1
theorem big_laws_toPat {n : Nat} : B_laws_toPat (p_laws_toPat n) := (bigs_laws_toPatS n).2
theorem p_laws_toPatS_succ (n : Nat) : p_laws_toPatS (n + 1) = s_laws_toPatS n (p_laws_toPatS n) (p_laws_toPat n) := rfl
theorem p_laws_toPat_succ (n : Nat) : p_laws_toPat (n + 1) = s_laws_toPat n (p_laws_toPatS n) (p_laws_toPat n) := rfl
abbrev B_laws_toCode (p : (List S_laws_Fn) → (List S_laws_Pat) → Option ((List S_impl_Fn) × (List S_impl_Pat))) : Prop := ∀ {t0_0 : List S_laws_Fn} {t0_1 : List S_laws_Pat} {r : (List S_impl_Fn) × (List S_impl_Pat)}, p t0_0 t0_1 = some r → Big Try.prog τ An (.fn 162 [.one (.ag [.sl (t0_0.map rS_laws_Fn), .sl (t0_1.map rS_laws_Pat)])] [] (.one (.ag [.sl (r.1.map rS_impl_Fn), .sl (r.2.map rS_impl_Pat)])) none [] none)
def p_laws_toCode (n : Nat) (t0_0 : List S_laws_Fn) (t0_1 : List S_laws_Pat) : Option ((List S_impl_Fn) × (List S_impl_Pat)) :=
  (p_laws_toFnS n t0_0).bind fun c6_1 => (p_laws_toPatS n t0_1).bind fun c10_2 => some (c6_1, c10_2)
theorem big_laws_toCode {n : Nat} : B_laws_toCode (p_laws_toCode n) := by
 intro t0_0 t0_1 r h
 unfold p_laws_toCode at h
 refine bF Try.func162 rfl rfl <| cRs <| xBx rfl <| xAz [.sl ([].map rS_impl_Fn), .sl ([].map rS_impl_Pat)] rfl <| oRs <| xAz [.sl ([].map rS_impl_Fn), .sl ([].map rS_impl_Pat)] rfl <| oRs <| xFd rfl <| xLd rfl <| xC0 h (big_laws_toFnS ·) rfl (fun c6_1 h => ?_)
 refine xFd rfl <| xSt rfl <| oRs <| xFd rfl <| xLd rfl <| xC0 h (big_laws_toPatS ·) rfl (fun c10_2 h => ?_)
 refine xFd rfl <| xSt rfl <| oRs <| xLd rfl <| xSt rfl <| oNl <| cRt ?_
 cases h
 exact eR rfl rfl rfl rfl
abbrev B_laws_toEntry (p : (List UInt8) → Int → (List S_laws_Fn) → (List S_laws_Pat) → Bool → (List S_laws_Fn) → (List S_laws_Pat) → Option ((List UInt8) × Int × (List S_impl_Fn) × (List S_impl_Pat) × Bool × (List S_impl_Fn) × (List S_impl_Pat))) : Prop := ∀ {t0_0 : List UInt8} {t0_1 : Int} {t0_2 : List S_laws_Fn} {t0_3 : List S_laws_Pat} {t0_4 : Bool} {t0_5 : List S_laws_Fn} {t0_6 : List S_laws_Pat} {r : (List UInt8) × Int × (List S_impl_Fn) × (List S_impl_Pat) × Bool × (List S_impl_Fn) × (List S_impl_Pat)}, p t0_0 t0_1 t0_2 t0_3 t0_4 t0_5 t0_6 = some r → Big Try.prog τ An (.fn 82 [.one (.ag [.str t0_0, .int .i64 t0_1, .sl (t0_2.map rS_laws_Fn), .sl (t0_3.map rS_laws_Pat), .bool t0_4, .sl (t0_5.map rS_laws_Fn), .sl (t0_6.map rS_laws_Pat)])] [] (.one (.ag [.str r.1, .int .i64 r.2.1, .sl (r.2.2.1.map rS_impl_Fn), .sl (r.2.2.2.1.map rS_impl_Pat), .bool r.2.2.2.2.1, .sl (r.2.2.2.2.2.1.map rS_impl_Fn), .sl (r.2.2.2.2.2.2.map rS_impl_Pat)])) none [] none)
def p_laws_toEntry (n : Nat) (t0_0 : List UInt8) (t0_1 : Int) (t0_2 : List S_laws_Fn) (t0_3 : List S_laws_Pat) (t0_4 : Bool) (t0_5 : List S_laws_Fn) (t0_6 : List S_laws_Pat) : Option ((List UInt8) × Int × (List S_impl_Fn) × (List S_impl_Pat) × Bool × (List S_impl_Fn) × (List S_impl_Pat)) :=
  (p_laws_toCode n t0_2 t0_3).bind fun c12_1 => (p_laws_toCode n t0_5 t0_6).bind fun c19_2 => some (t0_0, t0_1, c12_1.1, c12_1.2, t0_4, c19_2.1, c19_2.2)
theorem big_laws_toEntry {n : Nat} : B_laws_toEntry (p_laws_toEntry n) := by
 intro t0_0 t0_1 t0_2 t0_3 t0_4 t0_5 t0_6 r h
 unfold p_laws_toEntry at h
 refine bF Try.func82 rfl rfl <| cRs <| xBx rfl <| xAz [.str [], .int .i64 0, .sl ([].map rS_impl_Fn), .sl ([].map rS_impl_Pat), .bool false, .sl ([].map rS_impl_Fn), .sl ([].map rS_impl_Pat)] rfl <| oRs <| xAz [.str [], .int .i64 0, .sl ([].map rS_impl_Fn), .sl ([].map rS_impl_Pat), .bool false, .sl ([].map rS_impl_Fn), .sl ([].map rS_impl_Pat)] rfl <| oRs <| xFd rfl <| xLd rfl <| xFd rfl <| xSt rfl <| oRs <| xFd rfl <| xLd rfl ?_
 refine xFd rfl <| xSt rfl <| oRs <| xFd rfl <| xLd rfl <| xC0 h (big_laws_toCode ·) rfl (fun c12_1 h => ?_)
 refine xFd rfl <| xSt rfl <| oRs <| xFd rfl <| xLd rfl <| xFd rfl <| xSt rfl <| oRs <| xFd rfl <| xLd rfl <| xC0 h (big_laws_toCode ·) rfl (fun c19_2 h => ?_)
 refine xFd rfl <| xSt rfl <| oRs <| xLd rfl <| xSt rfl <| oNl <| cRt ?_
 cases h
 exact eR rfl rfl rfl rfl
abbrev B_laws_toEntryS (p : (List S_laws_Entry) → Option ((List S_impl_Entry))) : Prop := ∀ {t0_0 : List S_laws_Entry} {r : (List S_impl_Entry)}, p t0_0 = some r → Big Try.prog τ An (.fn 19 [.one (.c (.sl (t0_0.map rS_laws_Entry)))] [] (.one (.c (.sl (r.map rS_impl_Entry)))) none [] none)
def p_laws_toEntryS_b1 (n : Nat) (t0_0 : List S_laws_Entry) : ((List S_impl_Entry) × Int) → Option (((List S_impl_Entry) × Int) ⊕ (((List S_impl_Entry) × Int × Bool)))
  | (v3_2, v4_3) => bif decide (v4_3 < (t0_0.length : Int)) then (ix t0_0 v4_3).bind fun e18_8 => (p_laws_toEntry n e18_8.f0 e18_8.f1 e18_8.f2 e18_8.f3 e18_8.f4 e18_8.f5 e18_8.f6).bind fun c20_9 => (ix v3_2 v4_3).bind fun e21_10 => (some (v3_2.set (Int.toNat v4_3) (S_impl_Entry.mk c20_9.1 c20_9.2.1 c20_9.2.2.1 c20_9.2.2.2.1 c20_9.2.2.2.2.1 c20_9.2.2.2.2.2.1 c20_9.2.2.2.2.2.2))).bind fun u3_11 => some (.inl (u3_11, (IntKind.wrap .i64 (v4_3 + (1 : Int))))) else some (.inr (v3_2, v4_3, false))
def p_laws_toEntryS (n : Nat) (t0_0 : List S_laws_Entry) : Option ((List S_impl_Entry)) :=
  (ck (decide (0 ≤ (t0_0.length : Int) ∧ (t0_0.length : Int) ≤ maxLen ∧ 128 * (t0_0.length : Int) ≤ 281474976710656))).bind fun _ => (loopN (p_laws_toEntryS_b1 n t0_0) n ((List.replicate (Int.toNat (t0_0.length : Int)) (S_impl_Entry.mk ([] : List UInt8) (0 : Int) ([] : List S_impl_Fn) ([] : List S_impl_Pat) false ([] : List S_impl_Fn) ([] : List S_impl_Pat))), (0 : Int))).bind fun (v3_4, v4_5, v11_6) => some v3_4
theorem big_laws_toEntryS {n : Nat} : B_laws_toEntryS (p_laws_toEntryS n) := by
 intro t0_0 r h
 unfold p_laws_toEntryS at h
 refine bF Try.func19 rfl rfl <| cRs <| wAe (Li rS_impl_Entry []) rfl rfl rfl rfl <| oRs <| xMv rfl <| xLn rfl <| oCk h (fun k7_0 h => ?_)
 refine wMk (z := S_impl_Entry.mk ([] : List UInt8) (0 : Int) ([] : List S_impl_Fn) ([] : List S_impl_Pat) false ([] : List S_impl_Fn) ([] : List S_impl_Pat)) (f := rS_impl_Entry) k7_0 rfl rfl rfl rfl rfl rfl rfl <| xAs rfl <| oNl <| cSq <| cRs <| xAs rfl <| oNl <| cLp h [(3, 4), (8, 21)] [] (fun (v3_2, v4_3) => ([(3, Li rS_impl_Entry v3_2), (4, I64 v4_3)], [])) (fun (v3_4, v4_5, v11_6) => (.e 0, [(3, Li rS_impl_Entry v3_4), (4, I64 v4_5), (11, Bo v11_6)], [])) rfl (fun st _ h => ?_) (fun q h => ?_)
 obtain ⟨v3_2, v4_3⟩ := st
 unfold p_laws_toEntryS_b1 at h
 refine cSq <| cRs <| xMv rfl <| xMv rfl <| xLn rfl <| xLt rfl <| oNl <| cIf h rfl (fun q7 h => ?_) (fun q7 h => ?_)
 refine cSk <| cSq <| cBk <| cRg <| wAl rfl rfl rfl rfl <| xMv rfl <| xMv rfl <| xMv rfl <| xIx h rS_laws_Entry_eq rfl (fun e18_8 h => ?_)
 refine xLd rfl <| xC0 h (big_laws_toEntry ·) rfl (fun c20_9 h => ?_)
 refine wIp (f := rS_impl_Entry) h rfl rfl rfl rfl rfl rfl (fun _ => rfl) rfl (fun e21_10 ke21_10 h => ?_)
 refine wSpN (f := rS_impl_Entry) (v' := S_impl_Entry.mk c20_9.1 c20_9.2.1 c20_9.2.2.1 c20_9.2.2.2.1 c20_9.2.2.2.2.1 c20_9.2.2.2.2.2.1 c20_9.2.2.2.2.2.2) h ke21_10 rfl rfl rfl rfl rfl rfl rfl rfl rfl (fun u3_11 h => ?_)
 exact oNl <| cRg <| xMv rfl <| xAdd rfl <| xAs rfl <| oNl <| eL h rfl
 exact cEx <| eX h rfl
 obtain ⟨v3_4, v4_5, v11_6⟩ := q
 refine cRs <| xMv rfl <| xAs rfl <| oNl <| cRt ?_
 cases h
 exact eR rfl rfl rfl rfl
abbrev B_impl_entryAt_1 (p : (List UInt8) → Int → (List S_impl_Fn) → (List S_impl_Pat) → Bool → (List S_impl_Fn) → (List S_impl_Pat) → (List UInt8) → Option (Bool × (List UInt8))) : Prop := ∀ {t0_0 : List UInt8} {t0_1 : Int} {t0_2 : List S_impl_Fn} {t0_3 : List S_impl_Pat} {t0_4 : Bool} {t0_5 : List S_impl_Fn} {t0_6 : List S_impl_Pat} {o0_0 : List UInt8} {r : Bool × (List UInt8)}, p t0_0 t0_1 t0_2 t0_3 t0_4 t0_5 t0_6 o0_0 = some r → Big Try.prog τ An (.fn 220 [.one (.ag [.str t0_0, .int .i64 t0_1, .sl (t0_2.map rS_impl_Fn), .sl (t0_3.map rS_impl_Pat), .bool t0_4, .sl (t0_5.map rS_impl_Fn), .sl (t0_6.map rS_impl_Pat)]), .one (.ptr 1000000 0)] [[.str o0_0]] (.one (.c (.bool r.1))) none [[.str r.2]] none)
def p_impl_entryAt_1 (n : Nat) (t0_0 : List UInt8) (t0_1 : Int) (t0_2 : List S_impl_Fn) (t0_3 : List S_impl_Pat) (t0_4 : Bool) (t0_5 : List S_impl_Fn) (t0_6 : List S_impl_Pat) (o0_0 : List UInt8) : Option (Bool × (List UInt8)) :=
  some ((decide (t0_0 = o0_0)), o0_0)
theorem big_impl_entryAt_1 {n : Nat} : B_impl_entryAt_1 (p_impl_entryAt_1 n) := by
 intro t0_0 t0_1 t0_2 t0_3 t0_4 t0_5 t0_6 o0_0 r h
 unfold p_impl_entryAt_1 at h
 refine bF Try.func220 rfl rfl <| cRs <| xBx rfl <| xAs rfl <| oRs <| xFd rfl <| xLd rfl <| xLd rfl <| xEs rfl <| xAs rfl <| oNl <| cRt ?_
 cases h
 exact eR rfl rfl rfl rfl
abbrev B_slices_IndexFunc_e4d6 (p : (List S_impl_Entry) → (List UInt8) → Option (Int × (List UInt8))) : Prop := ∀ {t0_0 : List S_impl_Entry} {o0_0 : List UInt8} {r : Int × (List UInt8)}, p t0_0 o0_0 = some r → Big Try.prog τ An (.fn 219 [.one (.c (.sl (t0_0.map rS_impl_Entry))), .one (.fn 220 [(1000000, 0)])] [[.str o0_0]] (.one (.c (.int .i64 r.1))) none [[.str r.2]] none)
def p_slices_IndexFunc_e4d6_b1 (n : Nat) (t0_0 : List S_impl_Entry) : (Int × (List UInt8)) → Option ((Int × (List UInt8)) ⊕ ((Int × (List UInt8)) ⊕ (Int × Bool × (List UInt8))))
  | (v8_1, w1000000_2) => bif decide (v8_1 < (t0_0.length : Int)) then (ix t0_0 v8_1).bind fun e14_9 => (p_impl_entryAt_1 n e14_9.f0 e14_9.f1 e14_9.f2 e14_9.f3 e14_9.f4 e14_9.f5 e14_9.f6 w1000000_2).bind fun c16_10 => bif c16_10.1 then some (.inr (.inl (v8_1, c16_10.2))) else some (.inl ((IntKind.wrap .i64 (v8_1 + (1 : Int))), c16_10.2)) else some (.inr (.inr (v8_1, false, w1000000_2)))
def p_slices_IndexFunc_e4d6 (n : Nat) (t0_0 : List S_impl_Entry) (o0_0 : List UInt8) : Option (Int × (List UInt8)) :=
  (loopN (p_slices_IndexFunc_e4d6_b1 n t0_0) n ((0 : Int), o0_0)).bind fun q => (match q with | .inl (v4_3, w1000000_4) => some (v4_3, w1000000_4) | .inr (v8_5, v9_6, w1000000_7) => some (((-1) : Int), w1000000_7))
theorem big_slices_IndexFunc_e4d6 {n : Nat} : B_slices_IndexFunc_e4d6 (p_slices_IndexFunc_e4d6 n) := by
 intro t0_0 o0_0 r h
 unfold p_slices_IndexFunc_e4d6 at h
 refine bF Try.func219 rfl rfl <| cRs <| xAs rfl <| oNl <| cSq <| cRs <| xMv rfl <| xLn rfl <| xMv rfl <| oNl <| cLp h [(4, 5), (8, 18)] [(1000000, 1000000)] (fun (v8_1, w1000000_2) => ([(8, I64 v8_1)], [(1000000, [.str w1000000_2])])) (fun q => match q with | .inl (v4_3, w1000000_4) => (.r, [(4, I64 v4_3)], [(1000000, [.str w1000000_4])]) | .inr (v8_5, v9_6, w1000000_7) => (.e 0, [(8, I64 v8_5), (9, Bo v9_6)], [(1000000, [.str w1000000_7])])) rfl (fun st _ h => ?_) (fun q h => ?_)
 obtain ⟨v8_1, w1000000_2⟩ := st
 unfold p_slices_IndexFunc_e4d6_b1 at h
 refine cRs <| xLt rfl <| oNl <| cSq <| cIf h rfl (fun q8 h => ?_) (fun q8 h => ?_)
 refine cSk <| cSq <| cBk <| cRs <| xMv rfl <| xAs rfl <| oRs <| xMv rfl <| xMv rfl <| xMv rfl <| xIx h rS_impl_Entry_eq rfl (fun e14_9 h => ?_)
 refine xLd rfl <| xC1 h (big_impl_entryAt_1 ·) rfl (fun c16_10 h => ?_)
 refine oNl <| cIf h rfl (fun q11 h => ?_) (fun q11 h => ?_)
 exact cRs <| xMv rfl <| xAs rfl <| oNl <| cRt <| eXr h rfl
 exact cSk <| cRg <| xAdd rfl <| xMv rfl <| oNl <| eL h rfl
 exact cEx <| eX h rfl
 rcases q with ⟨v4_3, w1000000_4⟩ | ⟨v8_5, v9_6, w1000000_7⟩
 cases h
 exact eR rfl rfl rfl rfl
 refine cRs <| xAs rfl <| oNl <| cRt ?_
 cases h
 exact eR rfl rfl rfl rfl
abbrev B_impl_entryAt (p : (List S_impl_Entry) → (List UInt8) → Option (Int)) : Prop := ∀ {t0_0 : List S_impl_Entry} {t1_0 : List UInt8} {r : Int}, p t0_0 t1_0 = some r → Big Try.prog τ An (.fn 163 [.one (.c (.sl (t0_0.map rS_impl_Entry))), .one (.c (.str t1_0))] [] (.one (.c (.int .i64 r))) none [] none)
def p_impl_entryAt (n : Nat) (t0_0 : List S_impl_Entry) (t1_0 : List UInt8) : Option (Int) :=
  (p_slices_IndexFunc_e4d6 n t0_0 t1_0).bind fun c7_1 => some c7_1.1
theorem big_impl_entryAt {n : Nat} : B_impl_entryAt (p_impl_entryAt n) := by
 intro t0_0 t1_0 r h
 unfold p_impl_entryAt at h
 refine bF Try.func163 rfl rfl <| cRs <| xBx rfl <| xAs rfl <| oRs <| xMv rfl <| wFn rfl rfl rfl <| xC1 h (big_slices_IndexFunc_e4d6 ·) rfl (fun c7_1 h => ?_)
 refine xAs rfl <| oNl <| cRt ?_
 cases h
 exact eR rfl rfl rfl rfl
abbrev B_impl_codeOf (p : (List S_impl_Entry) → (List UInt8) → Int → Option ((Option S_impl_Code))) : Prop := ∀ {t0_0 : List S_impl_Entry} {t1_0 : List UInt8} {t2_0 : Int} {r : (Option S_impl_Code)}, p t0_0 t1_0 t2_0 = some r → Big Try.prog τ An (.fn 83 [.one (.c (.sl (t0_0.map rS_impl_Entry))), .one (.c (.str t1_0)), .one (.c (.int .i64 t2_0))] [] (.one (optP rS_impl_Code r)) none [] none)
def p_impl_codeOf (n : Nat) (t0_0 : List S_impl_Entry) (t1_0 : List UInt8) (t2_0 : Int) : Option ((Option S_impl_Code)) :=
  (p_impl_entryAt n t0_0 t1_0).bind fun c10_1 => bif decide (c10_1 < (0 : Int)) then some none else (ix t0_0 c10_1).bind fun e17_3 => bif decide (e17_3.f1 = t2_0) then (ix t0_0 c10_1).bind fun e24_5 => some (some (S_impl_Code.mk e24_5.f2 e24_5.f3)) else ((ix t0_0 c10_1).bind fun e29_7 => bif e29_7.f4 then (ix t0_0 c10_1).bind fun e35_9 => some (decide ((IntKind.wrap .i64 (e35_9.f1 - (1 : Int))) = t2_0)) else some false).bind fun v26_6 => bif v26_6 then (ix t0_0 c10_1).bind fun e44_11 => some (some (S_impl_Code.mk e44_11.f5 e44_11.f6)) else some none
theorem big_impl_codeOf {n : Nat} : B_impl_codeOf (p_impl_codeOf n) := by
 intro t0_0 t1_0 t2_0 r h
 unfold p_impl_codeOf at h
 refine bF Try.func83 rfl rfl <| cRs <| xAs rfl <| oRs <| xMv rfl <| xMv rfl <| xC0 h (big_impl_entryAt ·) rfl (fun c10_1 h => ?_)
 refine xAs rfl <| oNl <| cSq <| cBk <| cRs <| xMv rfl <| xLt rfl <| xAs rfl <| oNl <| cIf h rfl (fun q2 h => ?_) (fun q2 h => ?_)
 refine cRs <| xAs rfl <| oNl <| cRt ?_
 cases h
 exact eR rfl rfl rfl rfl
 refine cRs <| xMv rfl <| xMv rfl <| xIx h rS_impl_Entry_eq rfl (fun e17_3 h => ?_)
 refine xFd rfl <| xLd rfl <| xMv rfl <| xEq rfl <| xAs rfl <| oNl <| cIf h rfl (fun q4 h => ?_) (fun q4 h => ?_)
 refine cRs <| xMv rfl <| xMv rfl <| xIx h rS_impl_Entry_eq rfl (fun e24_5 h => ?_)
 refine xFd rfl <| xAs rfl <| oNl <| cRt ?_
 cases h
 exact eR rfl rfl rfl rfl
 refine cRs <| oJn h [(26, 41)] [] (fun v26_6 => (.n, [(26, Bo v26_6)], [])) (fun _ h => ?_) (fun v26_6 h => ?_)
 refine xMv rfl <| xMv rfl <| xIx h rS_impl_Entry_eq rfl (fun e29_7 h => ?_)
 refine xFd rfl <| xLd rfl <| xMv rfl <| oIf 32 h rfl (fun q8 h => ?_) (fun q8 h => ?_)
 refine xMv rfl <| xMv rfl <| xIx h rS_impl_Entry_eq rfl (fun e35_9 h => ?_)
 exact xFd rfl <| xLd rfl <| xSub rfl <| xMv rfl <| xEq rfl <| xPk rfl <| xAs rfl <| oNl <| eJ h rfl
 exact wSk rfl <| wSk rfl <| wSk rfl <| wSk rfl <| wSk rfl <| wSk rfl <| wSk rfl <| wSk rfl <| xPk rfl <| xAs rfl <| oNl <| eJ h rfl
 refine cIf h rfl (fun q10 h => ?_) (fun q10 h => ?_)
 refine cRs <| xMv rfl <| xMv rfl <| xIx h rS_impl_Entry_eq rfl (fun e44_11 h => ?_)
 refine xFd rfl <| xAs rfl <| oNl <| cRt ?_
 cases h
 exact eR rfl rfl rfl rfl
 refine cSk <| cRs <| xAs rfl <| oNl <| cRt ?_
 cases h
 exact eR rfl rfl rfl rfl
abbrev B_slices_Clone_d80c (p : (List S_impl_Ins) → Option ((List S_impl_Ins))) : Prop := ∀ {t0_0 : List S_impl_Ins} {r : (List S_impl_Ins)}, p t0_0 = some r → Big Try.prog τ An (.fn 164 [.one (.c (.sl (t0_0.map rS_impl_Ins)))] [] (.one (.c (.sl (r.map rS_impl_Ins)))) none [] none)
def p_slices_Clone_d80c (n : Nat) (t0_0 : List S_impl_Ins) : Option (List S_impl_Ins) := bif decide (t0_0.length * 40 ≤ 140737488355328) then some t0_0 else none
set_option maxRecDepth 100000 in
theorem big_slices_Clone_d80c {n : Nat} : B_slices_Clone_d80c (p_slices_Clone_d80c n) := by
 intro t0_0 r h
 unfold p_slices_Clone_d80c at h
 cases hc : decide (t0_0.length * 40 ≤ 140737488355328) with
 | false => rw [hc] at h; cases h
 | true =>
  rw [hc] at h
  cases h
  have hc := of_decide_eq_true hc
  exact Big.lib Try.func164 rfl rfl (clone164 tables rfl rfl rfl rfl (by decide) (fun e he => by obtain ⟨a, _, rfl⟩ := List.mem_map.1 he; exact ⟨rfl, rfl⟩) (by rw [List.length_map]; exact hc) (by rw [List.length_map]; omega))

abbrev Y_impl_copyPat : Type := Int → Int → (List UInt8) → (List S_impl_Pat) → Option (Int × Int × (List UInt8) × (List S_impl_Pat))
abbrev B_impl_copyPat (p : Y_impl_copyPat) : Prop := ∀ {t0_0 t0_1 : Int} {t0_2 : List UInt8} {t0_3 : List S_impl_Pat} {r : Int × Int × (List UInt8) × (List S_impl_Pat)}, p t0_0 t0_1 t0_2 t0_3 = some r → Big Try.prog τ An (.fn 165 [.one (.ag [.int .i64 t0_0, .int .i64 t0_1, .str t0_2, .sl (t0_3.map rS_impl_Pat)])] [] (.one (.ag [.int .i64 r.1, .int .i64 r.2.1, .str r.2.2.1, .sl (r.2.2.2.map rS_impl_Pat)])) none [] none)
def p_impl_copyPat_b1 (n : Nat) (r_impl_copyPat : Y_impl_copyPat) (t0_3 : List S_impl_Pat) : (Int × Int × Int × (List UInt8) × (List S_impl_Pat)) → Option ((Int × Int × Int × (List UInt8) × (List S_impl_Pat)) ⊕ ((Int × Bool × Int × Int × (List UInt8) × (List S_impl_Pat))))
  | (v16_1, w3_2, w3_3, w3_4, w3_5) => bif decide (v16_1 < (t0_3.length : Int)) then (ix t0_3 v16_1).bind fun e18_13 => (r_impl_copyPat e18_13.f0 e18_13.f1 e18_13.f2 e18_13.f3).bind fun c23_14 => (app2 56 w3_5 ([S_impl_Pat.mk c23_14.1 c23_14.2.1 c23_14.2.2.1 c23_14.2.2.2] : List S_impl_Pat)).bind fun v25_15 => some (.inl ((IntKind.wrap .i64 (v16_1 + (1 : Int))), w3_2, w3_3, w3_4, v25_15)) else some (.inr (v16_1, false, w3_2, w3_3, w3_4, w3_5))
def s_impl_copyPat (n : Nat) (r_impl_copyPat : Y_impl_copyPat) (t0_0 : Int) (t0_1 : Int) (t0_2 : List UInt8) (t0_3 : List S_impl_Pat) : Option (Int × Int × (List UInt8) × (List S_impl_Pat)) :=
  (loopN (p_impl_copyPat_b1 n r_impl_copyPat t0_3) n ((0 : Int), t0_0, t0_1, t0_2, ([] : List S_impl_Pat))).bind fun (v16_6, v17_7, w3_8, w3_9, w3_10, w3_11) => some (w3_8, w3_9, w3_10, w3_11)
theorem step_impl_copyPat {n : Nat} {r_impl_copyPat : Y_impl_copyPat} (ih_impl_copyPat : B_impl_copyPat r_impl_copyPat) : B_impl_copyPat (s_impl_copyPat n r_impl_copyPat) := by
 intro t0_0 t0_1 t0_2 t0_3 r h
 unfold s_impl_copyPat at h
 refine bF Try.func165 rfl rfl <| cRs <| xBx rfl <| xAz [.int .i64 0, .int .i64 0, .str [], .sl ([].map rS_impl_Pat)] rfl <| oRs <| xFd rfl <| xLd rfl <| xFd rfl <| xLd rfl <| xFd rfl <| xLd rfl <| wBd [.int .i64 t0_0, .int .i64 t0_1, .str t0_2, .sl ([].map rS_impl_Pat)] rfl rfl rfl rfl rfl rfl <| xAz [.int .i64 0, .int .i64 0, .str [], .sl ([].map rS_impl_Pat)] rfl <| xSt rfl ?_
 refine oNl <| cSq <| cRs <| xFd rfl <| xLd rfl <| xLn rfl <| xMv rfl <| oNl <| cLp h [(5, 5), (16, 27)] [(3, 3), (5, 5)] (fun (v16_1, w3_2, w3_3, w3_4, w3_5) => ([(16, I64 v16_1)], [(3, [.int .i64 w3_2, .int .i64 w3_3, .str w3_4, .sl (w3_5.map rS_impl_Pat)])])) (fun (v16_6, v17_7, w3_8, w3_9, w3_10, w3_11) => (.e 0, [(16, I64 v16_6), (17, Bo v17_7)], [(3, [.int .i64 w3_8, .int .i64 w3_9, .str w3_10, .sl (w3_11.map rS_impl_Pat)])])) rfl (fun st _ h => ?_) (fun q h => ?_)
 obtain ⟨v16_1, w3_2, w3_3, w3_4, w3_5⟩ := st
 unfold p_impl_copyPat_b1 at h
 refine cRs <| xLt rfl <| oNl <| cSq <| cIf h rfl (fun q12 h => ?_) (fun q12 h => ?_)
 refine cSk <| cSq <| cBk <| cRs <| xIx h rS_impl_Pat_eq rfl (fun e18_13 h => ?_)
 refine xLd rfl <| xAz [.int .i64 0, .int .i64 0, .str [], .sl ([].map rS_impl_Pat)] rfl <| xSt rfl <| oNl <| cRg <| xFd rfl <| xLd rfl <| xLd rfl <| xC0 h (ih_impl_copyPat ·) rfl (fun c23_14 h => ?_)
 refine wLt' (L := ([S_impl_Pat.mk c23_14.1 c23_14.2.1 c23_14.2.2.1 c23_14.2.2.2] : List S_impl_Pat)) (f := rS_impl_Pat) rfl rfl rfl rfl (by simp only [List.map, rS_impl_Pat_mk] <;> rfl) rfl rfl <| wAp (f := rS_impl_Pat) h rfl rfl rfl rfl rfl rfl rfl rfl rfl (fun a => by rw [rS_impl_Pat_eq]; rfl) rfl (fun v25_15 h => ?_)
 exact xFd rfl <| xSt rfl <| oNl <| cRg <| xAdd rfl <| xMv rfl <| oNl <| eL h rfl
 exact cEx <| eX h rfl
 obtain ⟨v16_6, v17_7, w3_8, w3_9, w3_10, w3_11⟩ := q
 refine cRs <| xLd rfl <| xSt rfl <| oNl <| cRt ?_
 cases h
 exact eR rfl rfl rfl rfl
def q_impl_copyPat : Nat → (Y_impl_copyPat)
  | 0 => (fun _ _ _ _ => none)
  | n + 1 => s_impl_copyPat n (q_impl_copyPat n)
def p_impl_copyPat (n : Nat) : Y_impl_copyPat := q_impl_copyPat n
theorem bigs_impl_copyPat (n : Nat) : B_impl_copyPat (p_impl_copyPat n) := by
  induction n with
  | zero => exact (fun h => nomatch h)
  | succ n ih => exact step_impl_copyPat (n := n) ih
theorem big_impl_copyPat {n : Nat} : B_impl_copyPat (p_impl_copyPat n) := (bigs_impl_copyPat n)
theorem p_impl_copyPat_succ (n : Nat) : p_impl_copyPat (n + 1) = s_impl_copyPat n (p_impl_copyPat n) := rfl
abbrev B_impl_copyCode (p : (List S_impl_Fn) → (List S_impl_Pat) → Option ((List S_impl_Fn) × (List S_impl_Pat))) : Prop := ∀ {t0_0 : List S_impl_Fn} {t0_1 : List S_impl_Pat} {r : (List S_impl_Fn) × (List S_impl_Pat)}, p t0_0 t0_1 = some r → Big Try.prog τ An (.fn 84 [.one (.ag [.sl (t0_0.map rS_impl_Fn), .sl (t0_1.map rS_impl_Pat)])] [] (.one (.ag [.sl (r.1.map rS_impl_Fn), .sl (r.2.map rS_impl_Pat)])) none [] none)
def p_impl_copyCode_b1 (n : Nat) (t0_0 : List S_impl_Fn) : (Int × (List S_impl_Fn) × (List S_impl_Pat)) → Option ((Int × (List S_impl_Fn) × (List S_impl_Pat)) ⊕ ((Int × Bool × (List S_impl_Fn) × (List S_impl_Pat))))
  | (v11_1, w3_2, w3_3) => bif decide (v11_1 < (t0_0.length : Int)) then (ix t0_0 v11_1).bind fun e13_9 => (p_slices_Clone_d80c n e13_9.f3).bind fun c17_10 => (app2 56 w3_2 ([S_impl_Fn.mk e13_9.f0 e13_9.f1 e13_9.f2 c17_10] : List S_impl_Fn)).bind fun v23_11 => some (.inl ((IntKind.wrap .i64 (v11_1 + (1 : Int))), v23_11, w3_3)) else some (.inr (v11_1, false, w3_2, w3_3))
def p_impl_copyCode_b2 (n : Nat) (t0_1 : List S_impl_Pat) : (Int × (List S_impl_Fn) × (List S_impl_Pat)) → Option ((Int × (List S_impl_Fn) × (List S_impl_Pat)) ⊕ ((Int × Bool × (List S_impl_Fn) × (List S_impl_Pat))))
  | (v29_12, w3_13, w3_14) => bif decide (v29_12 < (t0_1.length : Int)) then (ix t0_1 v29_12).bind fun e31_20 => (p_impl_copyPat n e31_20.f0 e31_20.f1 e31_20.f2 e31_20.f3).bind fun c36_21 => (app2 56 w3_14 ([S_impl_Pat.mk c36_21.1 c36_21.2.1 c36_21.2.2.1 c36_21.2.2.2] : List S_impl_Pat)).bind fun v38_22 => some (.inl ((IntKind.wrap .i64 (v29_12 + (1 : Int))), w3_13, v38_22)) else some (.inr (v29_12, false, w3_13, w3_14))
def p_impl_copyCode (n : Nat) (t0_0 : List S_impl_Fn) (t0_1 : List S_impl_Pat) : Option ((List S_impl_Fn) × (List S_impl_Pat)) :=
  (loopN (p_impl_copyCode_b1 n t0_0) n ((0 : Int), ([] : List S_impl_Fn), ([] : List S_impl_Pat))).bind fun (v11_4, v12_5, w3_6, w3_7) => (loopN (p_impl_copyCode_b2 n t0_1) n ((0 : Int), w3_6, w3_7)).bind fun (v29_15, v30_16, w3_17, w3_18) => some (w3_17, w3_18)
theorem big_impl_copyCode {n : Nat} : B_impl_copyCode (p_impl_copyCode n) := by
 intro t0_0 t0_1 r h
 unfold p_impl_copyCode at h
 refine bF Try.func84 rfl rfl <| cRs <| xBx rfl <| xAz [.sl ([].map rS_impl_Fn), .sl ([].map rS_impl_Pat)] rfl <| oRs <| xAz [.sl ([].map rS_impl_Fn), .sl ([].map rS_impl_Pat)] rfl <| oNl <| cSq <| cRs <| xFd rfl <| xLd rfl <| xLn rfl <| xMv rfl <| oNl <| cLp h [(5, 5), (11, 25)] [(3, 3), (5, 5)] (fun (v11_1, w3_2, w3_3) => ([(11, I64 v11_1)], [(3, [.sl (w3_2.map rS_impl_Fn), .sl (w3_3.map rS_impl_Pat)])])) (fun (v11_4, v12_5, w3_6, w3_7) => (.e 0, [(11, I64 v11_4), (12, Bo v12_5)], [(3, [.sl (w3_6.map rS_impl_Fn), .sl (w3_7.map rS_impl_Pat)])])) rfl (fun st _ h => ?_) (fun q h => ?_)
 obtain ⟨v11_1, w3_2, w3_3⟩ := st
 unfold p_impl_copyCode_b1 at h
 refine cRs <| xLt rfl <| oNl <| cSq <| cIf h rfl (fun q8 h => ?_) (fun q8 h => ?_)
 refine cSk <| cSq <| cBk <| cRs <| xIx h rS_impl_Fn_eq rfl (fun e13_9 h => ?_)
 refine xLd rfl <| xAz [.str [], .int .i64 0, .int .i64 0, .sl ([].map rS_impl_Ins)] rfl <| xSt rfl <| oRs <| xFd rfl <| xLd rfl <| xC0 h (big_slices_Clone_d80c ·) rfl (fun c17_10 h => ?_)
 refine xFd rfl <| xSt rfl <| oNl <| cRg <| xFd rfl <| xLd rfl <| xLd rfl <| wLt' (L := ([S_impl_Fn.mk e13_9.f0 e13_9.f1 e13_9.f2 c17_10] : List S_impl_Fn)) (f := rS_impl_Fn) rfl rfl rfl rfl rfl rfl rfl <| wAp (f := rS_impl_Fn) h rfl rfl rfl rfl rfl rfl rfl rfl rfl (fun _ => rfl) rfl (fun v23_11 h => ?_)
 exact xFd rfl <| xSt rfl <| oNl <| cRg <| xAdd rfl <| xMv rfl <| oNl <| eL h rfl
 exact cEx <| eX h rfl
 obtain ⟨v11_4, v12_5, w3_6, w3_7⟩ := q
 refine cSq <| cRs <| xFd rfl <| xLd rfl <| xLn rfl <| xMv rfl <| oNl <| cLp h [(7, 7), (29, 40)] [(3, 3), (7, 7)] (fun (v29_12, w3_13, w3_14) => ([(29, I64 v29_12)], [(3, [.sl (w3_13.map rS_impl_Fn), .sl (w3_14.map rS_impl_Pat)])])) (fun (v29_15, v30_16, w3_17, w3_18) => (.e 2, [(29, I64 v29_15), (30, Bo v30_16)], [(3, [.sl (w3_17.map rS_impl_Fn), .sl (w3_18.map rS_impl_Pat)])])) rfl (fun st _ h => ?_) (fun q h => ?_)
 obtain ⟨v29_12, w3_13, w3_14⟩ := st
 unfold p_impl_copyCode_b2 at h
 refine cRs <| xLt rfl <| oNl <| cSq <| cIf h rfl (fun q19 h => ?_) (fun q19 h => ?_)
 refine cSk <| cSq <| cBk <| cRs <| xIx h rS_impl_Pat_eq rfl (fun e31_20 h => ?_)
 refine xLd rfl <| xAz [.int .i64 0, .int .i64 0, .str [], .sl ([].map rS_impl_Pat)] rfl <| xSt rfl <| oNl <| cRg <| xFd rfl <| xLd rfl <| xLd rfl <| xC0 h (big_impl_copyPat ·) rfl (fun c36_21 h => ?_)
 refine wLt' (L := ([S_impl_Pat.mk c36_21.1 c36_21.2.1 c36_21.2.2.1 c36_21.2.2.2] : List S_impl_Pat)) (f := rS_impl_Pat) rfl rfl rfl rfl (by simp only [List.map, rS_impl_Pat_mk] <;> rfl) rfl rfl <| wAp (f := rS_impl_Pat) h rfl rfl rfl rfl rfl rfl rfl rfl rfl (fun a => by rw [rS_impl_Pat_eq]; rfl) rfl (fun v38_22 h => ?_)
 exact xFd rfl <| xSt rfl <| oNl <| cRg <| xAdd rfl <| xMv rfl <| oNl <| eL h rfl
 exact cEx <| eX h rfl
 obtain ⟨v29_15, v30_16, w3_17, w3_18⟩ := q
 refine cRs <| xLd rfl <| xSt rfl <| oNl <| cRt ?_
 cases h
 exact eR rfl rfl rfl rfl
abbrev B_impl_CodeOf (p : (List S_impl_Entry) → (List UInt8) → Int → Option ((List S_impl_Fn) × (List S_impl_Pat) × Bool)) : Prop := ∀ {t0_0 : List S_impl_Entry} {t1_0 : List UInt8} {t2_0 : Int} {r : (List S_impl_Fn) × (List S_impl_Pat) × Bool}, p t0_0 t1_0 t2_0 = some r → Big Try.prog τ An (.fn 20 [.one (.c (.sl (t0_0.map rS_impl_Entry))), .one (.c (.str t1_0)), .one (.c (.int .i64 t2_0))] [] (.tup [.ag [.sl (r.1.map rS_impl_Fn), .sl (r.2.1.map rS_impl_Pat)], .c (.bool r.2.2)]) none [] none)
def p_impl_CodeOf (n : Nat) (t0_0 : List S_impl_Entry) (t1_0 : List UInt8) (t2_0 : Int) : Option ((List S_impl_Fn) × (List S_impl_Pat) × Bool) :=
  (p_impl_codeOf n t0_0 t1_0 t2_0).bind fun c12_1 => (match c12_1 with | none => some (([] : List S_impl_Fn), ([] : List S_impl_Pat), false) | some v12_2 => (p_impl_copyCode n v12_2.f0 v12_2.f1).bind fun c19_3 => some (c19_3.1, c19_3.2, true))
theorem big_impl_CodeOf {n : Nat} : B_impl_CodeOf (p_impl_CodeOf n) := by
 intro t0_0 t1_0 t2_0 r h
 unfold p_impl_CodeOf at h
 refine bF Try.func20 rfl rfl <| cRs <| xAz [.sl ([].map rS_impl_Fn), .sl ([].map rS_impl_Pat)] rfl <| xAs rfl <| oRs <| xMv rfl <| xMv rfl <| xMv rfl <| xC0 h (big_impl_codeOf ·) rfl (hf := fun q => by cases q <;> rfl) (fun c12_1 h => ?_)
 rcases c12_1 with _ | v12_2
 refine xAs rfl <| oNl <| cSq <| cRs <| xMv rfl <| wBi (.bool true) rfl rfl rfl rfl rfl <| oNl <| cT rfl <| cRs <| wBd [.sl ([].map rS_impl_Fn), .sl ([].map rS_impl_Pat)] rfl rfl rfl rfl rfl rfl <| xSt rfl <| xAs rfl <| oNl <| cRt ?_
 cases h
 exact eR rfl rfl rfl rfl
 refine xAs rfl <| oNl <| cSq <| cRs <| xMv rfl <| wBi (.bool false) rfl rfl rfl rfl rfl <| oNl <| cF rfl <| cSk <| cRs <| xMv rfl <| xNc rfl <| xLd rfl <| xC0 h (big_impl_copyCode ·) rfl (fun c19_3 h => ?_)
 refine xSt rfl <| xAs rfl <| oNl <| cRt ?_
 cases h
 exact eR rfl rfl rfl rfl
abbrev B_laws_eqIns (p : Int → Int → (List UInt8) → Int → Int → Int → (List UInt8) → Int → Option (Bool)) : Prop := ∀ {t0_0 t0_1 : Int} {t0_2 : List UInt8} {t0_3 t1_0 t1_1 : Int} {t1_2 : List UInt8} {t1_3 : Int} {r : Bool}, p t0_0 t0_1 t0_2 t0_3 t1_0 t1_1 t1_2 t1_3 = some r → Big Try.prog τ An (.fn 252 [.one (.ag [.int .i64 t0_0, .int .i64 t0_1, .str t0_2, .int .i64 t0_3]), .one (.ag [.int .i64 t1_0, .int .i64 t1_1, .str t1_2, .int .i64 t1_3])] [] (.one (.c (.bool r))) none [] none)
def p_laws_eqIns (n : Nat) (t0_0 : Int) (t0_1 : Int) (t0_2 : List UInt8) (t0_3 : Int) (t1_0 : Int) (t1_1 : Int) (t1_2 : List UInt8) (t1_3 : Int) : Option (Bool) :=
  bif !decide (t0_0 = t1_0) then some false else bif !decide (t0_1 = t1_1) then some false else bif !decide (t0_2 = t1_2) then some false else bif !decide (t0_3 = t1_3) then some false else some true
theorem big_laws_eqIns {n : Nat} : B_laws_eqIns (p_laws_eqIns n) := by
 intro t0_0 t0_1 t0_2 t0_3 t1_0 t1_1 t1_2 t1_3 r h
 unfold p_laws_eqIns at h
 refine bF Try.func252 rfl rfl <| cRs <| xBx rfl <| xBx rfl <| xAs rfl <| oNl <| cSq <| cRs <| xFd rfl <| xLd rfl <| xFd rfl <| xLd rfl <| xNe rfl <| oNl <| cIf h rfl (fun q1 h => ?_) (fun q1 h => ?_)
 refine cRs <| xAs rfl <| oNl <| cRt ?_
 cases h
 exact eR rfl rfl rfl rfl
 refine cSk <| cSq <| cRs <| xFd rfl <| xLd rfl <| xFd rfl <| xLd rfl <| xNe rfl <| oNl <| cIf h rfl (fun q2 h => ?_) (fun q2 h => ?_)
 refine cRs <| xAs rfl <| oNl <| cRt ?_
 cases h
 exact eR rfl rfl rfl rfl
 refine cSk <| cSq <| cRs <| xFd rfl <| xLd rfl <| xFd rfl <| xLd rfl <| xNs rfl <| oNl <| cIf h rfl (fun q3 h => ?_) (fun q3 h => ?_)
 refine cRs <| xAs rfl <| oNl <| cRt ?_
 cases h
 exact eR rfl rfl rfl rfl
 refine cSk <| cSq <| cRs <| xFd rfl <| xLd rfl <| xFd rfl <| xLd rfl <| xNe rfl <| oNl <| cIf h rfl (fun q4 h => ?_) (fun q4 h => ?_)
 refine cRs <| xAs rfl <| oNl <| cRt ?_
 cases h
 exact eR rfl rfl rfl rfl
 refine cSk <| cRs <| xAs rfl <| oNl <| cRt ?_
 cases h
 exact eR rfl rfl rfl rfl
abbrev B_laws_eqInsS (p : (List S_impl_Ins) → (List S_impl_Ins) → Option (Bool)) : Prop := ∀ {t0_0 t1_0 : List S_impl_Ins} {r : Bool}, p t0_0 t1_0 = some r → Big Try.prog τ An (.fn 221 [.one (.c (.sl (t0_0.map rS_impl_Ins))), .one (.c (.sl (t1_0.map rS_impl_Ins)))] [] (.one (.c (.bool r))) none [] none)
def p_laws_eqInsS_b1 (n : Nat) (t0_0 : List S_impl_Ins) (t1_0 : List S_impl_Ins) : (Int) → Option ((Int) ⊕ ((Bool) ⊕ (Int × Bool)))
  | v5_2 => bif decide (v5_2 < (t0_0.length : Int)) then (ix t0_0 v5_2).bind fun e19_7 => (ix t1_0 v5_2).bind fun e23_8 => (p_laws_eqIns n e19_7.f0 e19_7.f1 e19_7.f2 e19_7.f3 e23_8.f0 e23_8.f1 e23_8.f2 e23_8.f3).bind fun c25_9 => bif !c25_9 then some (.inr (.inl false)) else some (.inl (IntKind.wrap .i64 (v5_2 + (1 : Int)))) else some (.inr (.inr (v5_2, false)))
def p_laws_eqInsS (n : Nat) (t0_0 : List S_impl_Ins) (t1_0 : List S_impl_Ins) : Option (Bool) :=
  bif !decide ((t0_0.length : Int) = (t1_0.length : Int)) then some false else (loopN (p_laws_eqInsS_b1 n t0_0 t1_0) n (0 : Int)).bind fun q => (match q with | .inl v4_3 => some v4_3 | .inr (v5_4, v14_5) => some true)
theorem big_laws_eqInsS {n : Nat} : B_laws_eqInsS (p_laws_eqInsS n) := by
 intro t0_0 t1_0 r h
 unfold p_laws_eqInsS at h
 refine bF Try.func221 rfl rfl <| cRs <| xAs rfl <| oNl <| cSq <| cRs <| xMv rfl <| xLn rfl <| xMv rfl <| xLn rfl <| xNe rfl <| oNl <| cIf h rfl (fun q1 h => ?_) (fun q1 h => ?_)
 refine cRs <| xAs rfl <| oNl <| cRt ?_
 cases h
 exact eR rfl rfl rfl rfl
 refine cSk <| cSq <| cRs <| xAs rfl <| oNl <| cLp h [(4, 5), (11, 26)] [] (fun v5_2 => ([(5, I64 v5_2)], [])) (fun q => match q with | .inl v4_3 => (.r, [(4, Bo v4_3)], []) | .inr (v5_4, v14_5) => (.e 0, [(5, I64 v5_4), (14, Bo v14_5)], [])) rfl (fun v5_2 _ h => ?_) (fun q h => ?_)
 unfold p_laws_eqInsS_b1 at h
 refine cSq <| cRs <| xMv rfl <| xMv rfl <| xLn rfl <| xLt rfl <| oNl <| cIf h rfl (fun q6 h => ?_) (fun q6 h => ?_)
 refine cSk <| cSq <| cBk <| cRs <| xMv rfl <| xMv rfl <| xIx h rS_impl_Ins_eq rfl (fun e19_7 h => ?_)
 refine xLd rfl <| xMv rfl <| xMv rfl <| xIx h rS_impl_Ins_eq rfl (fun e23_8 h => ?_)
 refine xLd rfl <| xC0 h (big_laws_eqIns ·) rfl (fun c25_9 h => ?_)
 refine xNot rfl <| oNl <| cIf h rfl (fun q10 h => ?_) (fun q10 h => ?_)
 exact cRs <| xAs rfl <| oNl <| cRt <| eXr h rfl
 exact cSk <| cRg <| xMv rfl <| xAdd rfl <| xAs rfl <| oNl <| eL h rfl
 exact cEx <| eX h rfl
 rcases q with v4_3 | ⟨v5_4, v14_5⟩
 cases h
 exact eR rfl rfl rfl rfl
 refine cRs <| xAs rfl <| oNl <| cRt ?_
 cases h
 exact eR rfl rfl rfl rfl
abbrev B_laws_eqFn (p : (List UInt8) → Int → Int → (List S_impl_Ins) → (List UInt8) → Int → Int → (List S_impl_Ins) → Option (Bool)) : Prop := ∀ {t0_0 : List UInt8} {t0_1 t0_2 : Int} {t0_3 : List S_impl_Ins} {t1_0 : List UInt8} {t1_1 t1_2 : Int} {t1_3 : List S_impl_Ins} {r : Bool}, p t0_0 t0_1 t0_2 t0_3 t1_0 t1_1 t1_2 t1_3 = some r → Big Try.prog τ An (.fn 166 [.one (.ag [.str t0_0, .int .i64 t0_1, .int .i64 t0_2, .sl (t0_3.map rS_impl_Ins)]), .one (.ag [.str t1_0, .int .i64 t1_1, .int .i64 t1_2, .sl (t1_3.map rS_impl_Ins)])] [] (.one (.c (.bool r))) none [] none)
def p_laws_eqFn (n : Nat) (t0_0 : List UInt8) (t0_1 : Int) (t0_2 : Int) (t0_3 : List S_impl_Ins) (t1_0 : List UInt8) (t1_1 : Int) (t1_2 : Int) (t1_3 : List S_impl_Ins) : Option (Bool) :=
  bif !decide (t0_0 = t1_0) then some false else bif !decide (t0_1 = t1_1) then some false else bif !decide (t0_2 = t1_2) then some false else (p_laws_eqInsS n t0_3 t1_3).bind fun c24_4 => bif !c24_4 then some false else some true
theorem big_laws_eqFn {n : Nat} : B_laws_eqFn (p_laws_eqFn n) := by
 intro t0_0 t0_1 t0_2 t0_3 t1_0 t1_1 t1_2 t1_3 r h
 unfold p_laws_eqFn at h
 refine bF Try.func166 rfl rfl <| cRs <| xBx rfl <| xBx rfl <| xAs rfl <| oNl <| cSq <| cRs <| xFd rfl <| xLd rfl <| xFd rfl <| xLd rfl <| xNs rfl <| oNl <| cIf h rfl (fun q1 h => ?_) (fun q1 h => ?_)
 refine cRs <| xAs rfl <| oNl <| cRt ?_
 cases h
 exact eR rfl rfl rfl rfl
 refine cSk <| cSq <| cRs <| xFd rfl <| xLd rfl <| xFd rfl <| xLd rfl <| xNe rfl <| oNl <| cIf h rfl (fun q2 h => ?_) (fun q2 h => ?_)
 refine cRs <| xAs rfl <| oNl <| cRt ?_
 cases h
 exact eR rfl rfl rfl rfl
 refine cSk <| cSq <| cRs <| xFd rfl <| xLd rfl <| xFd rfl <| xLd rfl <| xNe rfl <| oNl <| cIf h rfl (fun q3 h => ?_) (fun q3 h => ?_)
 refine cRs <| xAs rfl <| oNl <| cRt ?_
 cases h
 exact eR rfl rfl rfl rfl
 refine cSk <| cSq <| cRs <| xFd rfl <| xLd rfl <| xFd rfl <| xLd rfl <| xC0 h (big_laws_eqInsS ·) rfl (fun c24_4 h => ?_)
 refine xNot rfl <| oNl <| cIf h rfl (fun q5 h => ?_) (fun q5 h => ?_)
 refine cRs <| xAs rfl <| oNl <| cRt ?_
 cases h
 exact eR rfl rfl rfl rfl
 refine cSk <| cRs <| xAs rfl <| oNl <| cRt ?_
 cases h
 exact eR rfl rfl rfl rfl
abbrev B_laws_eqFnS (p : (List S_impl_Fn) → (List S_impl_Fn) → Option (Bool)) : Prop := ∀ {t0_0 t1_0 : List S_impl_Fn} {r : Bool}, p t0_0 t1_0 = some r → Big Try.prog τ An (.fn 85 [.one (.c (.sl (t0_0.map rS_impl_Fn))), .one (.c (.sl (t1_0.map rS_impl_Fn)))] [] (.one (.c (.bool r))) none [] none)
def p_laws_eqFnS_b1 (n : Nat) (t0_0 : List S_impl_Fn) (t1_0 : List S_impl_Fn) : (Int) → Option ((Int) ⊕ ((Bool) ⊕ (Int × Bool)))
  | v5_2 => bif decide (v5_2 < (t0_0.length : Int)) then (ix t0_0 v5_2).bind fun e19_7 => (ix t1_0 v5_2).bind fun e23_8 => (p_laws_eqFn n e19_7.f0 e19_7.f1 e19_7.f2 e19_7.f3 e23_8.f0 e23_8.f1 e23_8.f2 e23_8.f3).bind fun c25_9 => bif !c25_9 then some (.inr (.inl false)) else some (.inl (IntKind.wrap .i64 (v5_2 + (1 : Int)))) else some (.inr (.inr (v5_2, false)))
def p_laws_eqFnS (n : Nat) (t0_0 : List S_impl_Fn) (t1_0 : List S_impl_Fn) : Option (Bool) :=
  bif !decide ((t0_0.length : Int) = (t1_0.length : Int)) then some false else (loopN (p_laws_eqFnS_b1 n t0_0 t1_0) n (0 : Int)).bind fun q => (match q with | .inl v4_3 => some v4_3 | .inr (v5_4, v14_5) => some true)
theorem big_laws_eqFnS {n : Nat} : B_laws_eqFnS (p_laws_eqFnS n) := by
 intro t0_0 t1_0 r h
 unfold p_laws_eqFnS at h
 refine bF Try.func85 rfl rfl <| cRs <| xAs rfl <| oNl <| cSq <| cRs <| xMv rfl <| xLn rfl <| xMv rfl <| xLn rfl <| xNe rfl <| oNl <| cIf h rfl (fun q1 h => ?_) (fun q1 h => ?_)
 refine cRs <| xAs rfl <| oNl <| cRt ?_
 cases h
 exact eR rfl rfl rfl rfl
 refine cSk <| cSq <| cRs <| xAs rfl <| oNl <| cLp h [(4, 5), (11, 26)] [] (fun v5_2 => ([(5, I64 v5_2)], [])) (fun q => match q with | .inl v4_3 => (.r, [(4, Bo v4_3)], []) | .inr (v5_4, v14_5) => (.e 0, [(5, I64 v5_4), (14, Bo v14_5)], [])) rfl (fun v5_2 _ h => ?_) (fun q h => ?_)
 unfold p_laws_eqFnS_b1 at h
 refine cSq <| cRs <| xMv rfl <| xMv rfl <| xLn rfl <| xLt rfl <| oNl <| cIf h rfl (fun q6 h => ?_) (fun q6 h => ?_)
 refine cSk <| cSq <| cBk <| cRs <| xMv rfl <| xMv rfl <| xIx h rS_impl_Fn_eq rfl (fun e19_7 h => ?_)
 refine xLd rfl <| xMv rfl <| xMv rfl <| xIx h rS_impl_Fn_eq rfl (fun e23_8 h => ?_)
 refine xLd rfl <| xC0 h (big_laws_eqFn ·) rfl (fun c25_9 h => ?_)
 refine xNot rfl <| oNl <| cIf h rfl (fun q10 h => ?_) (fun q10 h => ?_)
 exact cRs <| xAs rfl <| oNl <| cRt <| eXr h rfl
 exact cSk <| cRg <| xMv rfl <| xAdd rfl <| xAs rfl <| oNl <| eL h rfl
 exact cEx <| eX h rfl
 rcases q with v4_3 | ⟨v5_4, v14_5⟩
 cases h
 exact eR rfl rfl rfl rfl
 refine cRs <| xAs rfl <| oNl <| cRt ?_
 cases h
 exact eR rfl rfl rfl rfl
abbrev Y_laws_eqPat : Type := Int → Int → (List UInt8) → (List S_impl_Pat) → Int → Int → (List UInt8) → (List S_impl_Pat) → Option (Bool)
abbrev B_laws_eqPat (p : Y_laws_eqPat) : Prop := ∀ {t0_0 t0_1 : Int} {t0_2 : List UInt8} {t0_3 : List S_impl_Pat} {t1_0 t1_1 : Int} {t1_2 : List UInt8} {t1_3 : List S_impl_Pat} {r : Bool}, p t0_0 t0_1 t0_2 t0_3 t1_0 t1_1 t1_2 t1_3 = some r → Big Try.prog τ An (.fn 167 [.one (.ag [.int .i64 t0_0, .int .i64 t0_1, .str t0_2, .sl (t0_3.map rS_impl_Pat)]), .one (.ag [.int .i64 t1_0, .int .i64 t1_1, .str t1_2, .sl (t1_3.map rS_impl_Pat)])] [] (.one (.c (.bool r))) none [] none)
abbrev Y_laws_eqPatS : Type := (List S_impl_Pat) → (List S_impl_Pat) → Option (Bool)
abbrev B_laws_eqPatS (p : Y_laws_eqPatS) : Prop := ∀ {t0_0 t1_0 : List S_impl_Pat} {r : Bool}, p t0_0 t1_0 = some r → Big Try.prog τ An (.fn 86 [.one (.c (.sl (t0_0.map rS_impl_Pat))), .one (.c (.sl (t1_0.map rS_impl_Pat)))] [] (.one (.c (.bool r))) none [] none)
def s_laws_eqPat (n : Nat) (r_laws_eqPatS : Y_laws_eqPatS) (r_laws_eqPat : Y_laws_eqPat) (t0_0 : Int) (t0_1 : Int) (t0_2 : List UInt8) (t0_3 : List S_impl_Pat) (t1_0 : Int) (t1_1 : Int) (t1_2 : List UInt8) (t1_3 : List S_impl_Pat) : Option (Bool) :=
  bif !decide (t0_0 = t1_0) then some false else bif !decide (t0_1 = t1_1) then some false else bif !decide (t0_2 = t1_2) then some false else (r_laws_eqPatS t0_3 t1_3).bind fun c24_4 => bif !c24_4 then some false else some true
theorem step_laws_eqPat {n : Nat} {r_laws_eqPatS : Y_laws_eqPatS} (ih_laws_eqPatS : B_laws_eqPatS r_laws_eqPatS) {r_laws_eqPat : Y_laws_eqPat} (ih_laws_eqPat : B_laws_eqPat r_laws_eqPat) : B_laws_eqPat (s_laws_eqPat n r_laws_eqPatS r_laws_eqPat) := by
 intro t0_0 t0_1 t0_2 t0_3 t1_0 t1_1 t1_2 t1_3 r h
 unfold s_laws_eqPat at h
 refine bF Try.func167 rfl rfl <| cRs <| xBx rfl <| xBx rfl <| xAs rfl <| oNl <| cSq <| cRs <| xFd rfl <| xLd rfl <| xFd rfl <| xLd rfl <| xNe rfl <| oNl <| cIf h rfl (fun q1 h => ?_) (fun q1 h => ?_)
 refine cRs <| xAs rfl <| oNl <| cRt ?_
 cases h
 exact eR rfl rfl rfl rfl
 refine cSk <| cSq <| cRs <| xFd rfl <| xLd rfl <| xFd rfl <| xLd rfl <| xNe rfl <| oNl <| cIf h rfl (fun q2 h => ?_) (fun q2 h => ?_)
 refine cRs <| xAs rfl <| oNl <| cRt ?_
 cases h
 exact eR rfl rfl rfl rfl
 refine cSk <| cSq <| cRs <| xFd rfl <| xLd rfl <| xFd rfl <| xLd rfl <| xNs rfl <| oNl <| cIf h rfl (fun q3 h => ?_) (fun q3 h => ?_)
 refine cRs <| xAs rfl <| oNl <| cRt ?_
 cases h
 exact eR rfl rfl rfl rfl
 refine cSk <| cSq <| cRs <| xFd rfl <| xLd rfl <| xFd rfl <| xLd rfl <| xC0 h (ih_laws_eqPatS ·) rfl (fun c24_4 h => ?_)
 refine xNot rfl <| oNl <| cIf h rfl (fun q5 h => ?_) (fun q5 h => ?_)
 refine cRs <| xAs rfl <| oNl <| cRt ?_
 cases h
 exact eR rfl rfl rfl rfl
 refine cSk <| cRs <| xAs rfl <| oNl <| cRt ?_
 cases h
 exact eR rfl rfl rfl rfl
def p_laws_eqPatS_b1 (n : Nat) (r_laws_eqPat : Y_laws_eqPat) (t0_0 : List S_impl_Pat) (t1_0 : List S_impl_Pat) : (Int) → Option ((Int) ⊕ ((Bool) ⊕ (Int × Bool)))
  | v5_2 => bif decide (v5_2 < (t0_0.length : Int)) then (ix t0_0 v5_2).bind fun e19_7 => (ix t1_0 v5_2).bind fun e23_8 => (r_laws_eqPat e19_7.f0 e19_7.f1 e19_7.f2 e19_7.f3 e23_8.f0 e23_8.f1 e23_8.f2 e23_8.f3).bind fun c25_9 => bif !c25_9 then some (.inr (.inl false)) else some (.inl (IntKind.wrap .i64 (v5_2 + (1 : Int)))) else some (.inr (.inr (v5_2, false)))
def s_laws_eqPatS (n : Nat) (r_laws_eqPatS : Y_laws_eqPatS) (r_laws_eqPat : Y_laws_eqPat) (t0_0 : List S_impl_Pat) (t1_0 : List S_impl_Pat) : Option (Bool) :=
  bif !decide ((t0_0.length : Int) = (t1_0.length : Int)) then some false else (loopN (p_laws_eqPatS_b1 n r_laws_eqPat t0_0 t1_0) n (0 : Int)).bind fun q => (match q with | .inl v4_3 => some v4_3 | .inr (v5_4, v14_5) => some true)
theorem step_laws_eqPatS {n : Nat} {r_laws_eqPatS : Y_laws_eqPatS} (ih_laws_eqPatS : B_laws_eqPatS r_laws_eqPatS) {r_laws_eqPat : Y_laws_eqPat} (ih_laws_eqPat : B_laws_eqPat r_laws_eqPat) : B_laws_eqPatS (s_laws_eqPatS n r_laws_eqPatS r_laws_eqPat) := by
 intro t0_0 t1_0 r h
 unfold s_laws_eqPatS at h
 refine bF Try.func86 rfl rfl <| cRs <| xAs rfl <| oNl <| cSq <| cRs <| xMv rfl <| xLn rfl <| xMv rfl <| xLn rfl <| xNe rfl <| oNl <| cIf h rfl (fun q1 h => ?_) (fun q1 h => ?_)
 refine cRs <| xAs rfl <| oNl <| cRt ?_
 cases h
 exact eR rfl rfl rfl rfl
 refine cSk <| cSq <| cRs <| xAs rfl <| oNl <| cLp h [(4, 5), (11, 26)] [] (fun v5_2 => ([(5, I64 v5_2)], [])) (fun q => match q with | .inl v4_3 => (.r, [(4, Bo v4_3)], []) | .inr (v5_4, v14_5) => (.e 0, [(5, I64 v5_4), (14, Bo v14_5)], [])) rfl (fun v5_2 _ h => ?_) (fun q h => ?_)
 unfold p_laws_eqPatS_b1 at h
 refine cSq <| cRs <| xMv rfl <| xMv rfl <| xLn rfl <| xLt rfl <| oNl <| cIf h rfl (fun q6 h => ?_) (fun q6 h => ?_)
 refine cSk <| cSq <| cBk <| cRs <| xMv rfl <| xMv rfl <| xIx h rS_impl_Pat_eq rfl (fun e19_7 h => ?_)
 refine xLd rfl <| xMv rfl <| xMv rfl <| xIx h rS_impl_Pat_eq rfl (fun e23_8 h => ?_)
 refine xLd rfl <| xC0 h (ih_laws_eqPat ·) rfl (fun c25_9 h => ?_)
 refine xNot rfl <| oNl <| cIf h rfl (fun q10 h => ?_) (fun q10 h => ?_)
 exact cRs <| xAs rfl <| oNl <| cRt <| eXr h rfl
 exact cSk <| cRg <| xMv rfl <| xAdd rfl <| xAs rfl <| oNl <| eL h rfl
 exact cEx <| eX h rfl
 rcases q with v4_3 | ⟨v5_4, v14_5⟩
 cases h
 exact eR rfl rfl rfl rfl
 refine cRs <| xAs rfl <| oNl <| cRt ?_
 cases h
 exact eR rfl rfl rfl rfl
def q_laws_eqPatS : Nat → (Y_laws_eqPatS) × (Y_laws_eqPat)
  | 0 => ((fun _ _ => none), (fun _ _ _ _ _ _ _ _ => none))
  | n + 1 => (s_laws_eqPatS n ((q_laws_eqPatS n).1) ((q_laws_eqPatS n).2), s_laws_eqPat n ((q_laws_eqPatS n).1) ((q_laws_eqPatS n).2))
def p_laws_eqPatS (n : Nat) : Y_laws_eqPatS := (q_laws_eqPatS n).1
def p_laws_eqPat (n : Nat) : Y_laws_eqPat := (q_laws_eqPatS n).2
theorem bigs_laws_eqPatS (n : Nat) : B_laws_eqPatS (p_laws_eqPatS n) ∧ B_laws_eqPat (p_laws_eqPat n) := by
  induction n with
  | zero => exact ⟨(fun h => nomatch h), (fun h => nomatch h)⟩
  | succ n ih => exact ⟨step_laws_eqPatS (n := n) (ih.1) (ih.2), step_laws_eqPat (n := n) (ih.1) (ih.2)⟩
theorem big_laws_eqPatS {n : Nat} : B_laws_eqPatS (p_laws_eqPatS n) := (bigs_laws_eqPatS n).1
theorem big_laws_eqPat {n : Nat} : B_laws_eqPat (p_laws_eqPat n) := (bigs_laws_eqPatS n).2
theorem p_laws_eqPatS_succ (n : Nat) : p_laws_eqPatS (n + 1) = s_laws_eqPatS n (p_laws_eqPatS n) (p_laws_eqPat n) := rfl
theorem p_laws_eqPat_succ (n : Nat) : p_laws_eqPat (n + 1) = s_laws_eqPat n (p_laws_eqPatS n) (p_laws_eqPat n) := rfl
abbrev B_laws_eqCode (p : (List S_impl_Fn) → (List S_impl_Pat) → (List S_impl_Fn) → (List S_impl_Pat) → Option (Bool)) : Prop := ∀ {t0_0 : List S_impl_Fn} {t0_1 : List S_impl_Pat} {t1_0 : List S_impl_Fn} {t1_1 : List S_impl_Pat} {r : Bool}, p t0_0 t0_1 t1_0 t1_1 = some r → Big Try.prog τ An (.fn 21 [.one (.ag [.sl (t0_0.map rS_impl_Fn), .sl (t0_1.map rS_impl_Pat)]), .one (.ag [.sl (t1_0.map rS_impl_Fn), .sl (t1_1.map rS_impl_Pat)])] [] (.one (.c (.bool r))) none [] none)
def p_laws_eqCode (n : Nat) (t0_0 : List S_impl_Fn) (t0_1 : List S_impl_Pat) (t1_0 : List S_impl_Fn) (t1_1 : List S_impl_Pat) : Option (Bool) :=
  (p_laws_eqFnS n t0_0 t1_0).bind fun c9_1 => bif !c9_1 then some false else (p_laws_eqPatS n t0_1 t1_1).bind fun c15_3 => bif !c15_3 then some false else some true
theorem big_laws_eqCode {n : Nat} : B_laws_eqCode (p_laws_eqCode n) := by
 intro t0_0 t0_1 t1_0 t1_1 r h
 unfold p_laws_eqCode at h
 refine bF Try.func21 rfl rfl <| cRs <| xBx rfl <| xBx rfl <| xAs rfl <| oNl <| cSq <| cRs <| xFd rfl <| xLd rfl <| xFd rfl <| xLd rfl <| xC0 h (big_laws_eqFnS ·) rfl (fun c9_1 h => ?_)
 refine xNot rfl <| oNl <| cIf h rfl (fun q2 h => ?_) (fun q2 h => ?_)
 refine cRs <| xAs rfl <| oNl <| cRt ?_
 cases h
 exact eR rfl rfl rfl rfl
 refine cSk <| cSq <| cRs <| xFd rfl <| xLd rfl <| xFd rfl <| xLd rfl <| xC0 h (big_laws_eqPatS ·) rfl (fun c15_3 h => ?_)
 refine xNot rfl <| oNl <| cIf h rfl (fun q4 h => ?_) (fun q4 h => ?_)
 refine cRs <| xAs rfl <| oNl <| cRt ?_
 cases h
 exact eR rfl rfl rfl rfl
 refine cSk <| cRs <| xAs rfl <| oNl <| cRt ?_
 cases h
 exact eR rfl rfl rfl rfl
abbrev B_laws_eqEntry (p : (List UInt8) → Int → (List S_impl_Fn) → (List S_impl_Pat) → Bool → (List S_impl_Fn) → (List S_impl_Pat) → (List UInt8) → Int → (List S_impl_Fn) → (List S_impl_Pat) → Bool → (List S_impl_Fn) → (List S_impl_Pat) → Option (Bool)) : Prop := ∀ {t0_0 : List UInt8} {t0_1 : Int} {t0_2 : List S_impl_Fn} {t0_3 : List S_impl_Pat} {t0_4 : Bool} {t0_5 : List S_impl_Fn} {t0_6 : List S_impl_Pat} {t1_0 : List UInt8} {t1_1 : Int} {t1_2 : List S_impl_Fn} {t1_3 : List S_impl_Pat} {t1_4 : Bool} {t1_5 : List S_impl_Fn} {t1_6 : List S_impl_Pat} {r : Bool}, p t0_0 t0_1 t0_2 t0_3 t0_4 t0_5 t0_6 t1_0 t1_1 t1_2 t1_3 t1_4 t1_5 t1_6 = some r → Big Try.prog τ An (.fn 87 [.one (.ag [.str t0_0, .int .i64 t0_1, .sl (t0_2.map rS_impl_Fn), .sl (t0_3.map rS_impl_Pat), .bool t0_4, .sl (t0_5.map rS_impl_Fn), .sl (t0_6.map rS_impl_Pat)]), .one (.ag [.str t1_0, .int .i64 t1_1, .sl (t1_2.map rS_impl_Fn), .sl (t1_3.map rS_impl_Pat), .bool t1_4, .sl (t1_5.map rS_impl_Fn), .sl (t1_6.map rS_impl_Pat)])] [] (.one (.c (.bool r))) none [] none)
def p_laws_eqEntry (n : Nat) (t0_0 : List UInt8) (t0_1 : Int) (t0_2 : List S_impl_Fn) (t0_3 : List S_impl_Pat) (t0_4 : Bool) (t0_5 : List S_impl_Fn) (t0_6 : List S_impl_Pat) (t1_0 : List UInt8) (t1_1 : Int) (t1_2 : List S_impl_Fn) (t1_3 : List S_impl_Pat) (t1_4 : Bool) (t1_5 : List S_impl_Fn) (t1_6 : List S_impl_Pat) : Option (Bool) :=
  bif !decide (t0_0 = t1_0) then some false else bif !decide (t0_1 = t1_1) then some false else (p_laws_eqCode n t0_2 t0_3 t1_2 t1_3).bind fun c19_3 => bif !c19_3 then some false else bif !(t0_4 == t1_4) then some false else (p_laws_eqCode n t0_5 t0_6 t1_5 t1_6).bind fun c30_6 => bif !c30_6 then some false else some true
theorem big_laws_eqEntry {n : Nat} : B_laws_eqEntry (p_laws_eqEntry n) := by
 intro t0_0 t0_1 t0_2 t0_3 t0_4 t0_5 t0_6 t1_0 t1_1 t1_2 t1_3 t1_4 t1_5 t1_6 r h
 unfold p_laws_eqEntry at h
 refine bF Try.func87 rfl rfl <| cRs <| xBx rfl <| xBx rfl <| xAs rfl <| oNl <| cSq <| cRs <| xFd rfl <| xLd rfl <| xFd rfl <| xLd rfl <| xNs rfl <| oNl <| cIf h rfl (fun q1 h => ?_) (fun q1 h => ?_)
 refine cRs <| xAs rfl <| oNl <| cRt ?_
 cases h
 exact eR rfl rfl rfl rfl
 refine cSk <| cSq <| cRs <| xFd rfl <| xLd rfl <| xFd rfl <| xLd rfl <| xNe rfl <| oNl <| cIf h rfl (fun q2 h => ?_) (fun q2 h => ?_)
 refine cRs <| xAs rfl <| oNl <| cRt ?_
 cases h
 exact eR rfl rfl rfl rfl
 refine cSk <| cSq <| cRs <| xFd rfl <| xLd rfl <| xFd rfl <| xLd rfl <| xC0 h (big_laws_eqCode ·) rfl (fun c19_3 h => ?_)
 refine xNot rfl <| oNl <| cIf h rfl (fun q4 h => ?_) (fun q4 h => ?_)
 refine cRs <| xAs rfl <| oNl <| cRt ?_
 cases h
 exact eR rfl rfl rfl rfl
 refine cSk <| cSq <| cRs <| xFd rfl <| xLd rfl <| xFd rfl <| xLd rfl <| wBi (.bool (!(t0_4 == t1_4))) rfl rfl rfl rfl rfl <| oNl <| cIf h rfl (fun q5 h => ?_) (fun q5 h => ?_)
 refine cRs <| xAs rfl <| oNl <| cRt ?_
 cases h
 exact eR rfl rfl rfl rfl
 refine cSk <| cSq <| cRs <| xFd rfl <| xLd rfl <| xFd rfl <| xLd rfl <| xC0 h (big_laws_eqCode ·) rfl (fun c30_6 h => ?_)
 refine xNot rfl <| oNl <| cIf h rfl (fun q7 h => ?_) (fun q7 h => ?_)
 refine cRs <| xAs rfl <| oNl <| cRt ?_
 cases h
 exact eR rfl rfl rfl rfl
 refine cSk <| cRs <| xAs rfl <| oNl <| cRt ?_
 cases h
 exact eR rfl rfl rfl rfl
abbrev B_laws_eqEntryS (p : (List S_impl_Entry) → (List S_impl_Entry) → Option (Bool)) : Prop := ∀ {t0_0 t1_0 : List S_impl_Entry} {r : Bool}, p t0_0 t1_0 = some r → Big Try.prog τ An (.fn 22 [.one (.c (.sl (t0_0.map rS_impl_Entry))), .one (.c (.sl (t1_0.map rS_impl_Entry)))] [] (.one (.c (.bool r))) none [] none)
def p_laws_eqEntryS_b1 (n : Nat) (t0_0 : List S_impl_Entry) (t1_0 : List S_impl_Entry) : (Int) → Option ((Int) ⊕ ((Bool) ⊕ (Int × Bool)))
  | v5_2 => bif decide (v5_2 < (t0_0.length : Int)) then (ix t0_0 v5_2).bind fun e19_7 => (ix t1_0 v5_2).bind fun e23_8 => (p_laws_eqEntry n e19_7.f0 e19_7.f1 e19_7.f2 e19_7.f3 e19_7.f4 e19_7.f5 e19_7.f6 e23_8.f0 e23_8.f1 e23_8.f2 e23_8.f3 e23_8.f4 e23_8.f5 e23_8.f6).bind fun c25_9 => bif !c25_9 then some (.inr (.inl false)) else some (.inl (IntKind.wrap .i64 (v5_2 + (1 : Int)))) else some (.inr (.inr (v5_2, false)))
def p_laws_eqEntryS (n : Nat) (t0_0 : List S_impl_Entry) (t1_0 : List S_impl_Entry) : Option (Bool) :=
  bif !decide ((t0_0.length : Int) = (t1_0.length : Int)) then some false else (loopN (p_laws_eqEntryS_b1 n t0_0 t1_0) n (0 : Int)).bind fun q => (match q with | .inl v4_3 => some v4_3 | .inr (v5_4, v14_5) => some true)
theorem big_laws_eqEntryS {n : Nat} : B_laws_eqEntryS (p_laws_eqEntryS n) := by
 intro t0_0 t1_0 r h
 unfold p_laws_eqEntryS at h
 refine bF Try.func22 rfl rfl <| cRs <| xAs rfl <| oNl <| cSq <| cRs <| xMv rfl <| xLn rfl <| xMv rfl <| xLn rfl <| xNe rfl <| oNl <| cIf h rfl (fun q1 h => ?_) (fun q1 h => ?_)
 refine cRs <| xAs rfl <| oNl <| cRt ?_
 cases h
 exact eR rfl rfl rfl rfl
 refine cSk <| cSq <| cRs <| xAs rfl <| oNl <| cLp h [(4, 5), (11, 26)] [] (fun v5_2 => ([(5, I64 v5_2)], [])) (fun q => match q with | .inl v4_3 => (.r, [(4, Bo v4_3)], []) | .inr (v5_4, v14_5) => (.e 0, [(5, I64 v5_4), (14, Bo v14_5)], [])) rfl (fun v5_2 _ h => ?_) (fun q h => ?_)
 unfold p_laws_eqEntryS_b1 at h
 refine cSq <| cRs <| xMv rfl <| xMv rfl <| xLn rfl <| xLt rfl <| oNl <| cIf h rfl (fun q6 h => ?_) (fun q6 h => ?_)
 refine cSk <| cSq <| cBk <| cRs <| xMv rfl <| xMv rfl <| xIx h rS_impl_Entry_eq rfl (fun e19_7 h => ?_)
 refine xLd rfl <| xMv rfl <| xMv rfl <| xIx h rS_impl_Entry_eq rfl (fun e23_8 h => ?_)
 refine xLd rfl <| xC0 h (big_laws_eqEntry ·) rfl (fun c25_9 h => ?_)
 refine xNot rfl <| oNl <| cIf h rfl (fun q10 h => ?_) (fun q10 h => ?_)
 exact cRs <| xAs rfl <| oNl <| cRt <| eXr h rfl
 exact cSk <| cRg <| xMv rfl <| xAdd rfl <| xAs rfl <| oNl <| eL h rfl
 exact cEx <| eX h rfl
 rcases q with v4_3 | ⟨v5_4, v14_5⟩
 cases h
 exact eR rfl rfl rfl rfl
 refine cRs <| xAs rfl <| oNl <| cRt ?_
 cases h
 exact eR rfl rfl rfl rfl
abbrev B_laws_markText (p : Int → Option ((List UInt8))) : Prop := ∀ {t0_0 : Int} {r : (List UInt8)}, p t0_0 = some r → Big Try.prog τ An (.fn 88 [.one (.c (.int .i64 t0_0))] [] (.one (.c (.str r))) none [] none)
def p_laws_markText_b1 (n : Nat) : (Int × (List UInt8)) → Option ((Int × (List UInt8)) ⊕ ((Int × (List UInt8) × Bool)))
  | (v0_2, v3_3) => bif decide ((0 : Int) < v0_2) then (toStr ([(IntKind.wrap .u8 (IntKind.wrap .i64 ((48 : Int) + (Int.tmod v0_2 (10 : Int)))))] : List Int)).bind fun v13_8 => (ck (decide (v13_8.length + v3_3.length ≤ 9223372036854775807))).bind fun _ => some (.inl ((IntKind.wrap .i64 (Int.tdiv v0_2 (10 : Int))), (v13_8 ++ v3_3))) else some (.inr (v0_2, v3_3, false))
def p_laws_markText (n : Nat) (t0_0 : Int) : Option ((List UInt8)) :=
  bif decide (t0_0 ≤ (0 : Int)) then some ([109, 48] : List UInt8) else (loopN (p_laws_markText_b1 n) n (t0_0, ([] : List UInt8))).bind fun (v0_4, v3_5, v7_6) => (ck (decide (([109] : List UInt8).length + v3_5.length ≤ 9223372036854775807))).bind fun _ => some (([109] : List UInt8) ++ v3_5)
theorem big_laws_markText {n : Nat} : B_laws_markText (p_laws_markText n) := by
 intro t0_0 r h
 unfold p_laws_markText at h
 refine bF Try.func88 rfl rfl <| cRs <| xAs rfl <| oNl <| cSq <| cRs <| xMv rfl <| xLe rfl <| oNl <| cIf h rfl (fun q1 h => ?_) (fun q1 h => ?_)
 refine cRs <| xAs rfl <| oNl <| cRt ?_
 cases h
 exact eR rfl rfl rfl rfl
 refine cSk <| cRs <| xAs rfl <| oNl <| cSq <| cLp h [(0, 0), (3, 3), (6, 17)] [] (fun (v0_2, v3_3) => ([(0, I64 v0_2), (3, St' v3_3)], [])) (fun (v0_4, v3_5, v7_6) => (.e 0, [(0, I64 v0_4), (3, St' v3_5), (7, Bo v7_6)], [])) rfl (fun st _ h => ?_) (fun q h => ?_)
 obtain ⟨v0_2, v3_3⟩ := st
 unfold p_laws_markText_b1 at h
 refine cSq <| cRs <| xMv rfl <| xGt rfl <| oNl <| cIf h rfl (fun q7 h => ?_) (fun q7 h => ?_)
 refine cSk <| cBk <| cRs <| xMv rfl <| wBi (.int .i64 (Int.tmod v0_2 (10 : Int))) rfl rfl rfl rfl rfl <| xAdd rfl <| wCv rfl rfl rfl rfl rfl <| wLt' (L := ([(IntKind.wrap .u8 (IntKind.wrap .i64 ((48 : Int) + (Int.tmod v0_2 (10 : Int)))))] : List Int)) (f := rI_u8) rfl rfl rfl rfl rfl rfl rfl <| wTs h rfl rfl ⟨rfl, rfl⟩ rfl rI_u8_eq rfl (fun v13_8 h => ?_)
 refine xMv rfl <| oCk h (fun k15_8 h => ?_)
 exact wCat k15_8 rfl rfl rfl rfl <| xAs rfl <| oNl <| cRg <| xMv rfl <| wBi (.int .i64 (IntKind.wrap .i64 (Int.tdiv v0_2 (10 : Int)))) rfl rfl rfl rfl rfl <| xAs rfl <| oNl <| eL h rfl
 exact cEx <| eX h rfl
 obtain ⟨v0_4, v3_5, v7_6⟩ := q
 refine cRs <| xMv rfl <| oCk h (fun k19_9 h => ?_)
 refine wCat k19_9 rfl rfl rfl rfl <| xAs rfl <| oNl <| cRt ?_
 cases h
 exact eR rfl rfl rfl rfl
abbrev B_laws_markInsS (p : (List S_impl_Ins) → Int → Option (Int × (List S_impl_Ins))) : Prop := ∀ {t0_0 : List S_impl_Ins} {t1_0 : Int} {r : Int × (List S_impl_Ins)}, p t0_0 t1_0 = some r → Big Try.prog τ An (.fn 168 [.one (.c (.sl (t0_0.map rS_impl_Ins))), .one (.c (.int .i64 t1_0))] [] (.one (.c (.int .i64 r.1))) (some (.sl (r.2.map rS_impl_Ins))) [] none)
def p_laws_markInsS_b1 (n : Nat) : ((List S_impl_Ins) × Int × Int) → Option (((List S_impl_Ins) × Int × Int) ⊕ (((List S_impl_Ins) × Int × Int × Bool)))
  | (v0_1, v1_2, v5_3) => bif decide (v5_3 < (v0_1.length : Int)) then (ix v0_1 v5_3).bind fun e15_9 => (some (v0_1.set (Int.toNat v5_3) (S_impl_Ins.mk v1_2 e15_9.f1 e15_9.f2 e15_9.f3))).bind fun u0_10 => (ix u0_10 v5_3).bind fun e22_11 => (some (u0_10.set (Int.toNat v5_3) (S_impl_Ins.mk e22_11.f0 (IntKind.wrap .i64 (v1_2 + (1 : Int))) e22_11.f2 e22_11.f3))).bind fun u0_12 => (p_laws_markText n (IntKind.wrap .i64 ((IntKind.wrap .i64 (v1_2 + (1 : Int))) + (1 : Int)))).bind fun c29_13 => (ix u0_12 v5_3).bind fun e30_14 => (some (u0_12.set (Int.toNat v5_3) (S_impl_Ins.mk e30_14.f0 e30_14.f1 c29_13 e30_14.f3))).bind fun u0_15 => (ix u0_15 v5_3).bind fun e37_16 => (some (u0_15.set (Int.toNat v5_3) (S_impl_Ins.mk e37_16.f0 e37_16.f1 e37_16.f2 (IntKind.wrap .i64 ((IntKind.wrap .i64 ((IntKind.wrap .i64 (v1_2 + (1 : Int))) + (1 : Int))) + (1 : Int)))))).bind fun u0_17 => some (.inl (u0_17, (IntKind.wrap .i64 ((IntKind.wrap .i64 ((IntKind.wrap .i64 ((IntKind.wrap .i64 (v1_2 + (1 : Int))) + (1 : Int))) + (1 : Int))) + (1 : Int))), (IntKind.wrap .i64 (v5_3 + (1 : Int))))) else some (.inr (v0_1, v1_2, v5_3, false))
def p_laws_markInsS (n : Nat) (t0_0 : List S_impl_Ins) (t1_0 : Int) : Option (Int × (List S_impl_Ins)) :=
  (loopN (p_laws_markInsS_b1 n) n (t0_0, t1_0, (0 : Int))).bind fun (v0_4, v1_5, v5_6, v9_7) => some (v1_5, v0_4)
theorem big_laws_markInsS {n : Nat} : B_laws_markInsS (p_laws_markInsS n) := by
 intro t0_0 t1_0 r h
 unfold p_laws_markInsS at h
 refine bFi Try.func168 rfl rfl <| cRs <| xAs rfl <| oNl <| cSq <| cRs <| xAs rfl <| oNl <| cLp h [(0, 1), (5, 40)] [] (fun (v0_1, v1_2, v5_3) => ([(0, Li rS_impl_Ins v0_1), (1, I64 v1_2), (5, I64 v5_3)], [])) (fun (v0_4, v1_5, v5_6, v9_7) => (.e 0, [(0, Li rS_impl_Ins v0_4), (1, I64 v1_5), (5, I64 v5_6), (9, Bo v9_7)], [])) rfl (fun st _ h => ?_) (fun q h => ?_)
 obtain ⟨v0_1, v1_2, v5_3⟩ := st
 unfold p_laws_markInsS_b1 at h
 refine cSq <| cRs <| xMv rfl <| xMv rfl <| xLn rfl <| xLt rfl <| oNl <| cIf h rfl (fun q8 h => ?_) (fun q8 h => ?_)
 refine cSk <| cSq <| cBk <| cRs <| wAl rfl rfl rfl rfl <| xMv rfl <| xMv rfl <| wIp (f := rS_impl_Ins) h rfl rfl rfl rfl rfl rfl (fun _ => rfl) rfl (fun e15_9 ke15_9 h => ?_)
 refine xFd rfl <| wSpN (f := rS_impl_Ins) (v' := S_impl_Ins.mk v1_2 e15_9.f1 e15_9.f2 e15_9.f3) h ke15_9 rfl rfl rfl rfl rfl rfl rfl rfl rfl (fun u0_10 h => ?_)
 refine oRs <| xMv rfl <| xAdd rfl <| xAs rfl <| oRs <| wAl rfl rfl rfl rfl <| xMv rfl <| xMv rfl <| wIp (f := rS_impl_Ins) h rfl rfl rfl rfl rfl rfl (fun _ => rfl) rfl (fun e22_11 ke22_11 h => ?_)
 refine xFd rfl <| wSpN (f := rS_impl_Ins) (v' := S_impl_Ins.mk e22_11.f0 (IntKind.wrap .i64 (v1_2 + (1 : Int))) e22_11.f2 e22_11.f3) h ke22_11 rfl rfl rfl rfl rfl rfl rfl rfl rfl (fun u0_12 h => ?_)
 refine oRs <| xMv rfl <| xAdd rfl <| xAs rfl <| oRs <| wAl rfl rfl rfl rfl <| xMv rfl <| xMv rfl <| xC0 h (big_laws_markText ·) rfl (fun c29_13 h => ?_)
 refine wIp (f := rS_impl_Ins) h rfl rfl rfl rfl rfl rfl (fun _ => rfl) rfl (fun e30_14 ke30_14 h => ?_)
 refine xFd rfl <| wSpN (f := rS_impl_Ins) (v' := S_impl_Ins.mk e30_14.f0 e30_14.f1 c29_13 e30_14.f3) h ke30_14 rfl rfl rfl rfl rfl rfl rfl rfl rfl (fun u0_15 h => ?_)
 refine oRs <| xMv rfl <| xAdd rfl <| xAs rfl <| oRs <| wAl rfl rfl rfl rfl <| xMv rfl <| xMv rfl <| wIp (f := rS_impl_Ins) h rfl rfl rfl rfl rfl rfl (fun _ => rfl) rfl (fun e37_16 ke37_16 h => ?_)
 refine xFd rfl <| wSpN (f := rS_impl_Ins) (v' := S_impl_Ins.mk e37_16.f0 e37_16.f1 e37_16.f2 (IntKind.wrap .i64 ((IntKind.wrap .i64 ((IntKind.wrap .i64 (v1_2 + (1 : Int))) + (1 : Int))) + (1 : Int)))) h ke37_16 rfl rfl rfl rfl rfl rfl rfl rfl rfl (fun u0_17 h => ?_)
 exact oNl <| cRg <| xMv rfl <| xAdd rfl <| xAs rfl <| oNl <| cRg <| xMv rfl <| xAdd rfl <| xAs rfl <| oNl <| eL h rfl
 exact cEx <| eX h rfl
 obtain ⟨v0_4, v1_5, v5_6, v9_7⟩ := q
 refine cRs <| xMv rfl <| xAs rfl <| oNl <| cRt ?_
 cases h
 exact eRi rfl rfl rfl rfl rfl
abbrev B_laws_markFnS (p : (List S_impl_Fn) → Int → Option (Int × (List S_impl_Fn))) : Prop := ∀ {t0_0 : List S_impl_Fn} {t1_0 : Int} {r : Int × (List S_impl_Fn)}, p t0_0 t1_0 = some r → Big Try.prog τ An (.fn 89 [.one (.c (.sl (t0_0.map rS_impl_Fn))), .one (.c (.int .i64 t1_0))] [] (.one (.c (.int .i64 r.1))) (some (.sl (r.2.map rS_impl_Fn))) [] none)
def p_laws_markFnS_b1 (n : Nat) : ((List S_impl_Fn) × Int × Int) → Option (((List S_impl_Fn) × Int × Int) ⊕ (((List S_impl_Fn) × Int × Int × Bool)))
  | (v0_1, v1_2, v5_3) => bif decide (v5_3 < (v0_1.length : Int)) then (p_laws_markText n v1_2).bind fun c15_9 => (ix v0_1 v5_3).bind fun e16_10 => (some (v0_1.set (Int.toNat v5_3) (S_impl_Fn.mk c15_9 e16_10.f1 e16_10.f2 e16_10.f3))).bind fun u0_11 => (ix u0_11 v5_3).bind fun e23_12 => (some (u0_11.set (Int.toNat v5_3) (S_impl_Fn.mk e23_12.f0 (IntKind.wrap .i64 (v1_2 + (1 : Int))) e23_12.f2 e23_12.f3))).bind fun u0_13 => (ix u0_13 v5_3).bind fun e30_14 => (some (u0_13.set (Int.toNat v5_3) (S_impl_Fn.mk e30_14.f0 e30_14.f1 (IntKind.wrap .i64 ((IntKind.wrap .i64 (v1_2 + (1 : Int))) + (1 : Int))) e30_14.f3))).bind fun u0_15 => (ix u0_15 v5_3).bind fun e36_16 => (p_laws_markInsS n e36_16.f3 (IntKind.wrap .i64 ((IntKind.wrap .i64 ((IntKind.wrap .i64 (v1_2 + (1 : Int))) + (1 : Int))) + (1 : Int)))).bind fun c40_17 => (some (u0_15.set (Int.toNat v5_3) (S_impl_Fn.mk e36_16.f0 e36_16.f1 e36_16.f2 c40_17.2))).bind fun u0_18 => some (.inl (u0_18, c40_17.1, (IntKind.wrap .i64 (v5_3 + (1 : Int))))) else some (.inr (v0_1, v1_2, v5_3, false))
def p_laws_markFnS (n : Nat) (t0_0 : List S_impl_Fn) (t1_0 : Int) : Option (Int × (List S_impl_Fn)) :=
  (loopN (p_laws_markFnS_b1 n) n (t0_0, t1_0, (0 : Int))).bind fun (v0_4, v1_5, v5_6, v9_7) => some (v1_5, v0_4)
theorem big_laws_markFnS {n : Nat} : B_laws_markFnS (p_laws_markFnS n) := by
 intro t0_0 t1_0 r h
 unfold p_laws_markFnS at h
 refine bFi Try.func89 rfl rfl <| cRs <| xAs rfl <| oNl <| cSq <| cRs <| xAs rfl <| oNl <| cLp h [(0, 1), (5, 40)] [] (fun (v0_1, v1_2, v5_3) => ([(0, Li rS_impl_Fn v0_1), (1, I64 v1_2), (5, I64 v5_3)], [])) (fun (v0_4, v1_5, v5_6, v9_7) => (.e 0, [(0, Li rS_impl_Fn v0_4), (1, I64 v1_5), (5, I64 v5_6), (9, Bo v9_7)], [])) rfl (fun st _ h => ?_) (fun q h => ?_)
 obtain ⟨v0_1, v1_2, v5_3⟩ := st
 unfold p_laws_markFnS_b1 at h
 refine cSq <| cRs <| xMv rfl <| xMv rfl <| xLn rfl <| xLt rfl <| oNl <| cIf h rfl (fun q8 h => ?_) (fun q8 h => ?_)
 refine cSk <| cSq <| cBk <| cRs <| wAl rfl rfl rfl rfl <| xMv rfl <| xMv rfl <| xC0 h (big_laws_markText ·) rfl (fun c15_9 h => ?_)
 refine wIp (f := rS_impl_Fn) h rfl rfl rfl rfl rfl rfl (fun _ => rfl) rfl (fun e16_10 ke16_10 h => ?_)
 refine xFd rfl <| wSpN (f := rS_impl_Fn) (v' := S_impl_Fn.mk c15_9 e16_10.f1 e16_10.f2 e16_10.f3) h ke16_10 rfl rfl rfl rfl rfl rfl rfl rfl rfl (fun u0_11 h => ?_)
 refine oRs <| xMv rfl <| xAdd rfl <| xAs rfl <| oRs <| wAl rfl rfl rfl rfl <| xMv rfl <| xMv rfl <| wIp (f := rS_impl_Fn) h rfl rfl rfl rfl rfl rfl (fun _ => rfl) rfl (fun e23_12 ke23_12 h => ?_)
 refine xFd rfl <| wSpN (f := rS_impl_Fn) (v' := S_impl_Fn.mk e23_12.f0 (IntKind.wrap .i64 (v1_2 + (1 : Int))) e23_12.f2 e23_12.f3) h ke23_12 rfl rfl rfl rfl rfl rfl rfl rfl rfl (fun u0_13 h => ?_)
 refine oRs <| xMv rfl <| xAdd rfl <| xAs rfl <| oRs <| wAl rfl rfl rfl rfl <| xMv rfl <| xMv rfl <| wIp (f := rS_impl_Fn) h rfl rfl rfl rfl rfl rfl (fun _ => rfl) rfl (fun e30_14 ke30_14 h => ?_)
 refine xFd rfl <| wSpN (f := rS_impl_Fn) (v' := S_impl_Fn.mk e30_14.f0 e30_14.f1 (IntKind.wrap .i64 ((IntKind.wrap .i64 (v1_2 + (1 : Int))) + (1 : Int))) e30_14.f3) h ke30_14 rfl rfl rfl rfl rfl rfl rfl rfl rfl (fun u0_15 h => ?_)
 refine oRs <| xMv rfl <| xAdd rfl <| xAs rfl <| oNl <| cRg <| wAl rfl rfl rfl rfl <| xMv rfl <| wIp (f := rS_impl_Fn) h rfl rfl rfl rfl rfl rfl (fun _ => rfl) rfl (fun e36_16 ke36_16 h => ?_)
 refine xFd rfl <| wLq (f := rS_impl_Fn) ke36_16 rfl rfl rfl rfl rfl rfl rfl rfl rfl rfl <| xMv rfl <| xIoN rS_impl_Fn (fun c40_17 => u0_15.set (Int.toNat v5_3) (S_impl_Fn.mk e36_16.f0 e36_16.f1 e36_16.f2 c40_17.2)) h (big_laws_markInsS ·) rfl (nav1 ke36_16 rfl) (fun _ => setAt1 ke36_16 rfl rfl) (fun c40_17 u0_18 h => ?_)
 exact xAs rfl <| oNl <| cRg <| xMv rfl <| xAdd rfl <| xAs rfl <| oNl <| eL h rfl
 exact cEx <| eX h rfl
 obtain ⟨v0_4, v1_5, v5_6, v9_7⟩ := q
 refine cRs <| xMv rfl <| xAs rfl <| oNl <| cRt ?_
 cases h
 exact eRi rfl rfl rfl rfl rfl
abbrev Y_laws_markPatS : Type := (List S_impl_Pat) → Int → Option (Int × (List S_impl_Pat))
abbrev B_laws_markPatS (p : Y_laws_markPatS) : Prop := ∀ {t0_0 : List S_impl_Pat} {t1_0 : Int} {r : Int × (List S_impl_Pat)}, p t0_0 t1_0 = some r → Big Try.prog τ An (.fn 90 [.one (.c (.sl (t0_0.map rS_impl_Pat))), .one (.c (.int .i64 t1_0))] [] (.one (.c (.int .i64 r.1))) (some (.sl (r.2.map rS_impl_Pat))) [] none)
def p_laws_markPatS_b1 (n : Nat) (r_laws_markPatS : Y_laws_markPatS) : ((List S_impl_Pat) × Int × Int) → Option (((List S_impl_Pat) × Int × Int) ⊕ (((List S_impl_Pat) × Int × Int × Bool)))
  | (v0_1, v1_2, v5_3) => bif decide (v5_3 < (v0_1.length : Int)) then (ix v0_1 v5_3).bind fun e15_9 => (some (v0_1.set (Int.toNat v5_3) (S_impl_Pat.mk v1_2 e15_9.f1 e15_9.f2 e15_9.f3))).bind fun u0_10 => (ix u0_10 v5_3).bind fun e22_11 => (some (u0_10.set (Int.toNat v5_3) (S_impl_Pat.mk e22_11.f0 (IntKind.wrap .i64 (v1_2 + (1 : Int))) e22_11.f2 e22_11.f3))).bind fun u0_12 => (p_laws_markText n (IntKind.wrap .i64 ((IntKind.wrap .i64 (v1_2 + (1 : Int))) + (1 : Int)))).bind fun c29_13 => (ix u0_12 v5_3).bind fun e30_14 => (some (u0_12.set (Int.toNat v5_3) (S_impl_Pat.mk e30_14.f0 e30_14.f1 c29_13 e30_14.f3))).bind fun u0_15 => (ix u0_15 v5_3).bind fun e36_16 => (r_laws_markPatS e36_16.f3 (IntKind.wrap .i64 ((IntKind.wrap .i64 ((IntKind.wrap .i64 (v1_2 + (1 : Int))) + (1 : Int))) + (1 : Int)))).bind fun c40_17 => (some (u0_15.set (Int.toNat v5_3) (S_impl_Pat.mk e36_16.f0 e36_16.f1 e36_16.f2 c40_17.2))).bind fun u0_18 => some (.inl (u0_18, c40_17.1, (IntKind.wrap .i64 (v5_3 + (1 : Int))))) else some (.inr (v0_1, v1_2, v5_3, false))
def s_laws_markPatS (n : Nat) (r_laws_markPatS : Y_laws_markPatS) (t0_0 : List S_impl_Pat) (t1_0 : Int) : Option (Int × (List S_impl_Pat)) :=
  (loopN (p_laws_markPatS_b1 n r_laws_markPatS) n (t0_0, t1_0, (0 : Int))).bind fun (v0_4, v1_5, v5_6, v9_7) => some (v1_5, v0_4)
theorem step_laws_markPatS {n : Nat} {r_laws_markPatS : Y_laws_markPatS} (ih_laws_markPatS : B_laws_markPatS r_laws_markPatS) : B_laws_markPatS (s_laws_markPatS n r_laws_markPatS) := by
 intro t0_0 t1_0 r h
 unfold s_laws_markPatS at h
 refine bFi Try.func90 rfl rfl <| cRs <| xAs rfl <| oNl <| cSq <| cRs <| xAs rfl <| oNl <| cLp h [(0, 1), (5, 40)] [] (fun (v0_1, v1_2, v5_3) => ([(0, Li rS_impl_Pat v0_1), (1, I64 v1_2), (5, I64 v5_3)], [])) (fun (v0_4, v1_5, v5_6, v9_7) => (.e 0, [(0, Li rS_impl_Pat v0_4), (1, I64 v1_5), (5, I64 v5_6), (9, Bo v9_7)], [])) rfl (fun st _ h => ?_) (fun q h => ?_)
 obtain ⟨v0_1, v1_2, v5_3⟩ := st
 unfold p_laws_markPatS_b1 at h
 refine cSq <| cRs <| xMv rfl <| xMv rfl <| xLn rfl <| xLt rfl <| oNl <| cIf h rfl (fun q8 h => ?_) (fun q8 h => ?_)
 refine cSk <| cSq <| cBk <| cRs <| wAl rfl rfl rfl rfl <| xMv rfl <| xMv rfl <| wIp (f := rS_impl_Pat) h rfl rfl rfl rfl rfl rfl (fun a => by rw [rS_impl_Pat_eq]; rfl) rfl (fun e15_9 ke15_9 h => ?_)
 refine xFd rfl <| wSpN (f := rS_impl_Pat) (v' := S_impl_Pat.mk v1_2 e15_9.f1 e15_9.f2 e15_9.f3) h ke15_9 rfl rfl rfl rfl rfl rfl rfl (by rw [rS_impl_Pat_eq]; rfl) (by rw [rS_impl_Pat_eq, rS_impl_Pat_mk]; rfl) (fun u0_10 h => ?_)
 refine oRs <| xMv rfl <| xAdd rfl <| xAs rfl <| oRs <| wAl rfl rfl rfl rfl <| xMv rfl <| xMv rfl <| wIp (f := rS_impl_Pat) h rfl rfl rfl rfl rfl rfl (fun a => by rw [rS_impl_Pat_eq]; rfl) rfl (fun e22_11 ke22_11 h => ?_)
 refine xFd rfl <| wSpN (f := rS_impl_Pat) (v' := S_impl_Pat.mk e22_11.f0 (IntKind.wrap .i64 (v1_2 + (1 : Int))) e22_11.f2 e22_11.f3) h ke22_11 rfl rfl rfl rfl rfl rfl rfl (by rw [rS_impl_Pat_eq]; rfl) (by rw [rS_impl_Pat_eq, rS_impl_Pat_mk]; rfl) (fun u0_12 h => ?_)
 refine oRs <| xMv rfl <| xAdd rfl <| xAs rfl <| oRs <| wAl rfl rfl rfl rfl <| xMv rfl <| xMv rfl <| xC0 h (big_laws_markText ·) rfl (fun c29_13 h => ?_)
 refine wIp (f := rS_impl_Pat) h rfl rfl rfl rfl rfl rfl (fun a => by rw [rS_impl_Pat_eq]; rfl) rfl (fun e30_14 ke30_14 h => ?_)
 refine xFd rfl <| wSpN (f := rS_impl_Pat) (v' := S_impl_Pat.mk e30_14.f0 e30_14.f1 c29_13 e30_14.f3) h ke30_14 rfl rfl rfl rfl rfl rfl rfl (by rw [rS_impl_Pat_eq]; rfl) (by rw [rS_impl_Pat_eq, rS_impl_Pat_mk]; rfl) (fun u0_15 h => ?_)
 refine oRs <| xMv rfl <| xAdd rfl <| xAs rfl <| oNl <| cRg <| wAl rfl rfl rfl rfl <| xMv rfl <| wIp (f := rS_impl_Pat) h rfl rfl rfl rfl rfl rfl (fun a => by rw [rS_impl_Pat_eq]; rfl) rfl (fun e36_16 ke36_16 h => ?_)
 refine xFd rfl <| wLq (f := rS_impl_Pat) ke36_16 rfl rfl rfl rfl rfl rfl rfl (by rw [rS_impl_Pat_eq]) rfl rfl <| xMv rfl <| xIoN rS_impl_Pat (fun c40_17 => u0_15.set (Int.toNat v5_3) (S_impl_Pat.mk e36_16.f0 e36_16.f1 e36_16.f2 c40_17.2)) h (ih_laws_markPatS ·) rfl (nav1 ke36_16 (by rw [rS_impl_Pat_eq]; rfl)) (fun _ => setAt1 ke36_16 (by rw [rS_impl_Pat_eq]; rfl) (by rw [rS_impl_Pat_eq, rS_impl_Pat_mk]; rfl)) (fun c40_17 u0_18 h => ?_)
 exact xAs rfl <| oNl <| cRg <| xMv rfl <| xAdd rfl <| xAs rfl <| oNl <| eL h rfl
 exact cEx <| eX h rfl
 obtain ⟨v0_4, v1_5, v5_6, v9_7⟩ := q
 refine cRs <| xMv rfl <| xAs rfl <| oNl <| cRt ?_
 cases h
 exact eRi rfl rfl rfl rfl rfl
def q_laws_markPatS : Nat → (Y_laws_markPatS)
  | 0 => (fun _ _ => none)
  | n + 1 => s_laws_markPatS n (q_laws_markPatS n)
def p_laws_markPatS (n : Nat) : Y_laws_markPatS := q_laws_markPatS n
theorem bigs_laws_markPatS (n : Nat) : B_laws_markPatS (p_laws_markPatS n) := by
  induction n with
  | zero => exact (fun h => nomatch h)
  | succ n ih => exact step_laws_markPatS (n := n) ih
theorem big_laws_markPatS {n : Nat} : B_laws_markPatS (p_laws_markPatS n) := (bigs_laws_markPatS n)
theorem p_laws_markPatS_succ (n : Nat) : p_laws_markPatS (n + 1) = s_laws_markPatS n (p_laws_markPatS n) := rfl
abbrev B_laws_markEntryS (p : (List S_impl_Entry) → Int → Option (Int × (List S_impl_Entry))) : Prop := ∀ {t0_0 : List S_impl_Entry} {t1_0 : Int} {r : Int × (List S_impl_Entry)}, p t0_0 t1_0 = some r → Big Try.prog τ An (.fn 23 [.one (.c (.sl (t0_0.map rS_impl_Entry))), .one (.c (.int .i64 t1_0))] [] (.one (.c (.int .i64 r.1))) (some (.sl (r.2.map rS_impl_Entry))) [] none)
def p_laws_markEntryS_b1 (n : Nat) : ((List S_impl_Entry) × Int × Int) → Option (((List S_impl_Entry) × Int × Int) ⊕ (((List S_impl_Entry) × Int × Int × Bool)))
  | (v0_1, v1_2, v5_3) => bif decide (v5_3 < (v0_1.length : Int)) then (p_laws_markText n v1_2).bind fun c15_9 => (ix v0_1 v5_3).bind fun e16_10 => (some (v0_1.set (Int.toNat v5_3) (S_impl_Entry.mk c15_9 e16_10.f1 e16_10.f2 e16_10.f3 e16_10.f4 e16_10.f5 e16_10.f6))).bind fun u0_11 => (ix u0_11 v5_3).bind fun e23_12 => (some (u0_11.set (Int.toNat v5_3) (S_impl_Entry.mk e23_12.f0 (IntKind.wrap .i64 (v1_2 + (1 : Int))) e23_12.f2 e23_12.f3 e23_12.f4 e23_12.f5 e23_12.f6))).bind fun u0_13 => (ix u0_13 v5_3).bind fun e29_14 => (p_laws_markFnS n e29_14.f2 (IntKind.wrap .i64 ((IntKind.wrap .i64 (v1_2 + (1 : Int))) + (1 : Int)))).bind fun c34_15 => (some (u0_13.set (Int.toNat v5_3) (S_impl_Entry.mk e29_14.f0 e29_14.f1 c34_15.2 e29_14.f3 e29_14.f4 e29_14.f5 e29_14.f6))).bind fun u0_16 => (ix u0_16 v5_3).bind fun e37_17 => (p_laws_markPatS n e37_17.f3 c34_15.1).bind fun c42_18 => (some (u0_16.set (Int.toNat v5_3) (S_impl_Entry.mk e37_17.f0 e37_17.f1 e37_17.f2 c42_18.2 e37_17.f4 e37_17.f5 e37_17.f6))).bind fun u0_19 => (ix u0_19 v5_3).bind fun e48_20 => (some (u0_19.set (Int.toNat v5_3) (S_impl_Entry.mk e48_20.f0 e48_20.f1 e48_20.f2 e48_20.f3 (decide ((Int.tmod c42_18.1 (3 : Int)) = (0 : Int))) e48_20.f5 e48_20.f6))).bind fun u0_21 => (ix u0_21 v5_3).bind fun e54_22 => (p_laws_markFnS n e54_22.f5 (IntKind.wrap .i64 (c42_18.1 + (1 : Int)))).bind fun c59_23 => (some (u0_21.set (Int.toNat v5_3) (S_impl_Entry.mk e54_22.f0 e54_22.f1 e54_22.f2 e54_22.f3 e54_22.f4 c59_23.2 e54_22.f6))).bind fun u0_24 => (ix u0_24 v5_3).bind fun e62_25 => (p_laws_markPatS n e62_25.f6 c59_23.1).bind fun c67_26 => (some (u0_24.set (Int.toNat v5_3) (S_impl_Entry.mk e62_25.f0 e62_25.f1 e62_25.f2 e62_25.f3 e62_25.f4 e62_25.f5 c67_26.2))).bind fun u0_27 => some (.inl (u0_27, c67_26.1, (IntKind.wrap .i64 (v5_3 + (1 : Int))))) else some (.inr (v0_1, v1_2, v5_3, false))
def p_laws_markEntryS (n : Nat) (t0_0 : List S_impl_Entry) (t1_0 : Int) : Option (Int × (List S_impl_Entry)) :=
  (loopN (p_laws_markEntryS_b1 n) n (t0_0, t1_0, (0 : Int))).bind fun (v0_4, v1_5, v5_6, v9_7) => some (v1_5, v0_4)
theorem big_laws_markEntryS {n : Nat} : B_laws_markEntryS (p_laws_markEntryS n) := by
 intro t0_0 t1_0 r h
 unfold p_laws_markEntryS at h
 refine bFi Try.func23 rfl rfl <| cRs <| xAs rfl <| oNl <| cSq <| cRs <| xAs rfl <| oNl <| cLp h [(0, 1), (5, 67)] [] (fun (v0_1, v1_2, v5_3) => ([(0, Li rS_impl_Entry v0_1), (1, I64 v1_2), (5, I64 v5_3)], [])) (fun (v0_4, v1_5, v5_6, v9_7) => (.e 0, [(0, Li rS_impl_Entry v0_4), (1, I64 v1_5), (5, I64 v5_6), (9, Bo v9_7)], [])) rfl (fun st _ h => ?_) (fun q h => ?_)
 obtain ⟨v0_1, v1_2, v5_3⟩ := st
 unfold p_laws_markEntryS_b1 at h
 refine cSq <| cRs <| xMv rfl <| xMv rfl <| xLn rfl <| xLt rfl <| oNl <| cIf h rfl (fun q8 h => ?_) (fun q8 h => ?_)
 refine cSk <| cSq <| cBk <| cRs <| wAl rfl rfl rfl rfl <| xMv rfl <| xMv rfl <| xC0 h (big_laws_markText ·) rfl (fun c15_9 h => ?_)
 refine wIp (f := rS_impl_Entry) h rfl rfl rfl rfl rfl rfl (fun _ => rfl) rfl (fun e16_10 ke16_10 h => ?_)
 refine xFd rfl <| wSpN (f := rS_impl_Entry) (v' := S_impl_Entry.mk c15_9 e16_10.f1 e16_10.f2 e16_10.f3 e16_10.f4 e16_10.f5 e16_10.f6) h ke16_10 rfl rfl rfl rfl rfl rfl rfl rfl rfl (fun u0_11 h => ?_)
 refine oRs <| xMv rfl <| xAdd rfl <| xAs rfl <| oRs <| wAl rfl rfl rfl rfl <| xMv rfl <| xMv rfl <| wIp (f := rS_impl_Entry) h rfl rfl rfl rfl rfl rfl (fun _ => rfl) rfl (fun e23_12 ke23_12 h => ?_)
 refine xFd rfl <| wSpN (f := rS_impl_Entry) (v' := S_impl_Entry.mk e23_12.f0 (IntKind.wrap .i64 (v1_2 + (1 : Int))) e23_12.f2 e23_12.f3 e23_12.f4 e23_12.f5 e23_12.f6) h ke23_12 rfl rfl rfl rfl rfl rfl rfl rfl rfl (fun u0_13 h => ?_)
 refine oRs <| xMv rfl <| xAdd rfl <| xAs rfl <| oRs <| wAl rfl rfl rfl rfl <| xMv rfl <| wIp (f := rS_impl_Entry) h rfl rfl rfl rfl rfl rfl (fun _ => rfl) rfl (fun e29_14 ke29_14 h => ?_)
 refine xFd rfl <| xFd rfl <| wLq (f := rS_impl_Entry) ke29_14 rfl rfl rfl rfl rfl rfl rfl rfl rfl rfl <| xMv rfl <| xIoN rS_impl_Entry (fun c34_15 => u0_13.set (Int.toNat v5_3) (S_impl_Entry.mk e29_14.f0 e29_14.f1 c34_15.2 e29_14.f3 e29_14.f4 e29_14.f5 e29_14.f6)) h (big_laws_markFnS ·) rfl (nav1 ke29_14 rfl) (fun _ => setAt1 ke29_14 rfl rfl) (fun c34_15 u0_16 h => ?_)
 refine xAs rfl <| oRs <| wAl rfl rfl rfl rfl <| xMv rfl <| wIp (f := rS_impl_Entry) h rfl rfl rfl rfl rfl rfl (fun _ => rfl) rfl (fun e37_17 ke37_17 h => ?_)
 refine xFd rfl <| xFd rfl <| wLq (f := rS_impl_Entry) ke37_17 rfl rfl rfl rfl rfl rfl rfl rfl rfl rfl <| xMv rfl <| xIoN rS_impl_Entry (fun c42_18 => u0_16.set (Int.toNat v5_3) (S_impl_Entry.mk e37_17.f0 e37_17.f1 e37_17.f2 c42_18.2 e37_17.f4 e37_17.f5 e37_17.f6)) h (big_laws_markPatS ·) rfl (nav1 ke37_17 rfl) (fun _ => setAt1 ke37_17 rfl rfl) (fun c42_18 u0_19 h => ?_)
 refine xAs rfl <| oRs <| wAl rfl rfl rfl rfl <| xMv rfl <| xMv rfl <| wBi (.int .i64 (Int.tmod c42_18.1 (3 : Int))) rfl rfl rfl rfl rfl <| xEq rfl <| wIp (f := rS_impl_Entry) h rfl rfl rfl rfl rfl rfl (fun _ => rfl) rfl (fun e48_20 ke48_20 h => ?_)
 refine xFd rfl <| wSpN (f := rS_impl_Entry) (v' := S_impl_Entry.mk e48_20.f0 e48_20.f1 e48_20.f2 e48_20.f3 (decide ((Int.tmod c42_18.1 (3 : Int)) = (0 : Int))) e48_20.f5 e48_20.f6) h ke48_20 rfl rfl rfl rfl rfl rfl rfl rfl rfl (fun u0_21 h => ?_)
 refine oRs <| xMv rfl <| xAdd rfl <| xAs rfl <| oRs <| wAl rfl rfl rfl rfl <| xMv rfl <| wIp (f := rS_impl_Entry) h rfl rfl rfl rfl rfl rfl (fun _ => rfl) rfl (fun e54_22 ke54_22 h => ?_)
 refine xFd rfl <| xFd rfl <| wLq (f := rS_impl_Entry) ke54_22 rfl rfl rfl rfl rfl rfl rfl rfl rfl rfl <| xMv rfl <| xIoN rS_impl_Entry (fun c59_23 => u0_21.set (Int.toNat v5_3) (S_impl_Entry.mk e54_22.f0 e54_22.f1 e54_22.f2 e54_22.f3 e54_22.f4 c59_23.2 e54_22.f6)) h (big_laws_markFnS ·) rfl (nav1 ke54_22 rfl) (fun _ => setAt1 ke54_22 rfl rfl) (fun c59_23 u0_24 h => ?_)
 refine xAs rfl <| oNl <| cRg <| wAl rfl rfl rfl rfl <| xMv rfl <| wIp (f := rS_impl_Entry) h rfl rfl rfl rfl rfl rfl (fun _ => rfl) rfl (fun e62_25 ke62_25 h => ?_)
 refine xFd rfl <| xFd rfl <| wLq (f := rS_impl_Entry) ke62_25 rfl rfl rfl rfl rfl rfl rfl rfl rfl rfl <| xMv rfl <| xIoN rS_impl_Entry (fun c67_26 => u0_24.set (Int.toNat v5_3) (S_impl_Entry.mk e62_25.f0 e62_25.f1 e62_25.f2 e62_25.f3 e62_25.f4 e62_25.f5 c67_26.2)) h (big_laws_markPatS ·) rfl (nav1 ke62_25 rfl) (fun _ => setAt1 ke62_25 rfl rfl) (fun c67_26 u0_27 h => ?_)
 exact xAs rfl <| oNl <| cRg <| xMv rfl <| xAdd rfl <| xAs rfl <| oNl <| eL h rfl
 exact cEx <| eX h rfl
 obtain ⟨v0_4, v1_5, v5_6, v9_7⟩ := q
 refine cRs <| xMv rfl <| xAs rfl <| oNl <| cRt ?_
 cases h
 exact eRi rfl rfl rfl rfl rfl
abbrev B_laws_heldInsS (p : (List S_impl_Ins) → Int → Option (Int)) : Prop := ∀ {t0_0 : List S_impl_Ins} {t1_0 : Int} {r : Int}, p t0_0 t1_0 = some r → Big Try.prog τ An (.fn 169 [.one (.c (.sl (t0_0.map rS_impl_Ins))), .one (.c (.int .i64 t1_0))] [] (.one (.c (.int .i64 r))) none [] none)
def p_laws_heldInsS_b1 (n : Nat) (t0_0 : List S_impl_Ins) : (Int × Int) → Option ((Int × Int) ⊕ ((Int) ⊕ (Int × Int × Bool)))
  | (v1_1, v5_2) => bif decide (v5_2 < (t0_0.length : Int)) then (ix t0_0 v5_2).bind fun e14_8 => bif !decide (e14_8.f0 = v1_1) then some (.inr (.inl ((-1) : Int))) else (ix t0_0 v5_2).bind fun e23_10 => bif !decide (e23_10.f1 = (IntKind.wrap .i64 (v1_1 + (1 : Int)))) then some (.inr (.inl ((-1) : Int))) else (ix t0_0 v5_2).bind fun e32_12 => (p_laws_markText n (IntKind.wrap .i64 ((IntKind.wrap .i64 (v1_1 + (1 : Int))) + (1 : Int)))).bind fun c36_13 => bif !decide (e32_12.f2 = c36_13) then some (.inr (.inl ((-1) : Int))) else (ix t0_0 v5_2).bind fun e42_15 => bif !decide (e42_15.f3 = (IntKind.wrap .i64 ((IntKind.wrap .i64 ((IntKind.wrap .i64 (v1_1 + (1 : Int))) + (1 : Int))) + (1 : Int)))) then some (.inr (.inl ((-1) : Int))) else some (.inl ((IntKind.wrap .i64 ((IntKind.wrap .i64 ((IntKind.wrap .i64 ((IntKind.wrap .i64 (v1_1 + (1 : Int))) + (1 : Int))) + (1 : Int))) + (1 : Int))), (IntKind.wrap .i64 (v5_2 + (1 : Int))))) else some (.inr (.inr (v1_1, v5_2, false)))
def p_laws_heldInsS (n : Nat) (t0_0 : List S_impl_Ins) (t1_0 : Int) : Option (Int) :=
  (loopN (p_laws_heldInsS_b1 n t0_0) n (t1_0, (0 : Int))).bind fun q => (match q with | .inl v4_3 => some v4_3 | .inr (v1_4, v5_5, v9_6) => some v1_4)
theorem big_laws_heldInsS {n : Nat} : B_laws_heldInsS (p_laws_heldInsS n) := by
 intro t0_0 t1_0 r h
 unfold p_laws_heldInsS at h
 refine bF Try.func169 rfl rfl <| cRs <| xAs rfl <| oNl <| cSq <| cRs <| xAs rfl <| oNl <| cLp h [(1, 1), (4, 48)] [] (fun (v1_1, v5_2) => ([(1, I64 v1_1), (5, I64 v5_2)], [])) (fun q => match q with | .inl v4_3 => (.r, [(4, I64 v4_3)], []) | .inr (v1_4, v5_5, v9_6) => (.e 0, [(1, I64 v1_4), (5, I64 v5_5), (9, Bo v9_6)], [])) rfl (fun st _ h => ?_) (fun q h => ?_)
 obtain ⟨v1_1, v5_2⟩ := st
 unfold p_laws_heldInsS_b1 at h
 refine cSq <| cRs <| xMv rfl <| xMv rfl <| xLn rfl <| xLt rfl <| oNl <| cIf h rfl (fun q7 h => ?_) (fun q7 h => ?_)
 refine cSk <| cSq <| cBk <| cSq <| cRs <| xMv rfl <| xMv rfl <| xIx h rS_impl_Ins_eq rfl (fun e14_8 h => ?_)
 refine xFd rfl <| xLd rfl <| xMv rfl <| xNe rfl <| oNl <| cIf h rfl (fun q9 h => ?_) (fun q9 h => ?_)
 exact cRs <| xAs rfl <| oNl <| cRt <| eXr h rfl
 refine cSk <| cRs <| xMv rfl <| xAdd rfl <| xAs rfl <| oNl <| cSq <| cRs <| xMv rfl <| xMv rfl <| xIx h rS_impl_Ins_eq rfl (fun e23_10 h => ?_)
 refine xFd rfl <| xLd rfl <| xMv rfl <| xNe rfl <| oNl <| cIf h rfl (fun q11 h => ?_) (fun q11 h => ?_)
 exact cRs <| xAs rfl <| oNl <| cRt <| eXr h rfl
 refine cSk <| cRs <| xMv rfl <| xAdd rfl <| xAs rfl <| oNl <| cSq <| cRs <| xMv rfl <| xMv rfl <| xIx h rS_impl_Ins_eq rfl (fun e32_12 h => ?_)
 refine xFd rfl <| xLd rfl <| xMv rfl <| xC0 h (big_laws_markText ·) rfl (fun c36_13 h => ?_)
 refine xNs rfl <| oNl <| cIf h rfl (fun q14 h => ?_) (fun q14 h => ?_)
 exact cRs <| xAs rfl <| oNl <| cRt <| eXr h rfl
 refine cSk <| cRs <| xMv rfl <| xAdd rfl <| xAs rfl <| oNl <| cSq <| cRs <| xMv rfl <| xMv rfl <| xIx h rS_impl_Ins_eq rfl (fun e42_15 h => ?_)
 refine xFd rfl <| xLd rfl <| xMv rfl <| xNe rfl <| oNl <| cIf h rfl (fun q16 h => ?_) (fun q16 h => ?_)
 exact cRs <| xAs rfl <| oNl <| cRt <| eXr h rfl
 exact cSk <| cRg <| xMv rfl <| xAdd rfl <| xAs rfl <| oNl <| cRg <| xMv rfl <| xAdd rfl <| xAs rfl <| oNl <| eL h rfl
 exact cEx <| eX h rfl
 rcases q with v4_3 | ⟨v1_4, v5_5, v9_6⟩
 cases h
 exact eR rfl rfl rfl rfl
 refine cRs <| xMv rfl <| xAs rfl <| oNl <| cRt ?_
 cases h
 exact eR rfl rfl rfl rfl
abbrev B_laws_heldFnS (p : (List S_impl_Fn) → Int → Option (Int)) : Prop := ∀ {t0_0 : List S_impl_Fn} {t1_0 : Int} {r : Int}, p t0_0 t1_0 = some r → Big Try.prog τ An (.fn 91 [.one (.c (.sl (t0_0.map rS_impl_Fn))), .one (.c (.int .i64 t1_0))] [] (.one (.c (.int .i64 r))) none [] none)
def p_laws_heldFnS_b1 (n : Nat) (t0_0 : List S_impl_Fn) : (Int × Int) → Option ((Int × Int) ⊕ ((Int) ⊕ (Int × Int × Bool)))
  | (v1_1, v5_2) => bif decide (v5_2 < (t0_0.length : Int)) then (ix t0_0 v5_2).bind fun e14_8 => (p_laws_markText n v1_1).bind fun c18_9 => bif !decide (e14_8.f0 = c18_9) then some (.inr (.inl ((-1) : Int))) else (ix t0_0 v5_2).bind fun e24_11 => bif !decide (e24_11.f1 = (IntKind.wrap .i64 (v1_1 + (1 : Int)))) then some (.inr (.inl ((-1) : Int))) else (ix t0_0 v5_2).bind fun e33_13 => bif !decide (e33_13.f2 = (IntKind.wrap .i64 ((IntKind.wrap .i64 (v1_1 + (1 : Int))) + (1 : Int)))) then some (.inr (.inl ((-1) : Int))) else (ix t0_0 v5_2).bind fun e42_15 => (p_laws_heldInsS n e42_15.f3 (IntKind.wrap .i64 ((IntKind.wrap .i64 ((IntKind.wrap .i64 (v1_1 + (1 : Int))) + (1 : Int))) + (1 : Int)))).bind fun c46_16 => bif decide (c46_16 < (0 : Int)) then some (.inr (.inl ((-1) : Int))) else some (.inl (c46_16, (IntKind.wrap .i64 (v5_2 + (1 : Int))))) else some (.inr (.inr (v1_1, v5_2, false)))
def p_laws_heldFnS (n : Nat) (t0_0 : List S_impl_Fn) (t1_0 : Int) : Option (Int) :=
  (loopN (p_laws_heldFnS_b1 n t0_0) n (t1_0, (0 : Int))).bind fun q => (match q with | .inl v4_3 => some v4_3 | .inr (v1_4, v5_5, v9_6) => some v1_4)
theorem big_laws_heldFnS {n : Nat} : B_laws_heldFnS (p_laws_heldFnS n) := by
 intro t0_0 t1_0 r h
 unfold p_laws_heldFnS at h
 refine bF Try.func91 rfl rfl <| cRs <| xAs rfl <| oNl <| cSq <| cRs <| xAs rfl <| oNl <| cLp h [(1, 1), (4, 48)] [] (fun (v1_1, v5_2) => ([(1, I64 v1_1), (5, I64 v5_2)], [])) (fun q => match q with | .inl v4_3 => (.r, [(4, I64 v4_3)], []) | .inr (v1_4, v5_5, v9_6) => (.e 0, [(1, I64 v1_4), (5, I64 v5_5), (9, Bo v9_6)], [])) rfl (fun st _ h => ?_) (fun q h => ?_)
 obtain ⟨v1_1, v5_2⟩ := st
 unfold p_laws_heldFnS_b1 at h
 refine cSq <| cRs <| xMv rfl <| xMv rfl <| xLn rfl <| xLt rfl <| oNl <| cIf h rfl (fun q7 h => ?_) (fun q7 h => ?_)
 refine cSk <| cSq <| cBk <| cSq <| cRs <| xMv rfl <| xMv rfl <| xIx h rS_impl_Fn_eq rfl (fun e14_8 h => ?_)
 refine xFd rfl <| xLd rfl <| xMv rfl <| xC0 h (big_laws_markText ·) rfl (fun c18_9 h => ?_)
 refine xNs rfl <| oNl <| cIf h rfl (fun q10 h => ?_) (fun q10 h => ?_)
 exact cRs <| xAs rfl <| oNl <| cRt <| eXr h rfl
 refine cSk <| cRs <| xMv rfl <| xAdd rfl <| xAs rfl <| oNl <| cSq <| cRs <| xMv rfl <| xMv rfl <| xIx h rS_impl_Fn_eq rfl (fun e24_11 h => ?_)
 refine xFd rfl <| xLd rfl <| xMv rfl <| xNe rfl <| oNl <| cIf h rfl (fun q12 h => ?_) (fun q12 h => ?_)
 exact cRs <| xAs rfl <| oNl <| cRt <| eXr h rfl
 refine cSk <| cRs <| xMv rfl <| xAdd rfl <| xAs rfl <| oNl <| cSq <| cRs <| xMv rfl <| xMv rfl <| xIx h rS_impl_Fn_eq rfl (fun e33_13 h => ?_)
 refine xFd rfl <| xLd rfl <| xMv rfl <| xNe rfl <| oNl <| cIf h rfl (fun q14 h => ?_) (fun q14 h => ?_)
 exact cRs <| xAs rfl <| oNl <| cRt <| eXr h rfl
 refine cSk <| cRs <| xMv rfl <| xAdd rfl <| xAs rfl <| oRs <| xMv rfl <| xMv rfl <| xIx h rS_impl_Fn_eq rfl (fun e42_15 h => ?_)
 refine xFd rfl <| xLd rfl <| xMv rfl <| xC0 h (big_laws_heldInsS ·) rfl (fun c46_16 h => ?_)
 refine xAs rfl <| oRs <| xMv rfl <| xLt rfl <| oNl <| cIf h rfl (fun q17 h => ?_) (fun q17 h => ?_)
 exact cRs <| xAs rfl <| oNl <| cRt <| eXr h rfl
 exact cSk <| cRg <| xMv rfl <| xAdd rfl <| xAs rfl <| oNl <| eL h rfl
 exact cEx <| eX h rfl
 rcases q with v4_3 | ⟨v1_4, v5_5, v9_6⟩
 cases h
 exact eR rfl rfl rfl rfl
 refine cRs <| xMv rfl <| xAs rfl <| oNl <| cRt ?_
 cases h
 exact eR rfl rfl rfl rfl
abbrev Y_laws_heldPatS : Type := (List S_impl_Pat) → Int → Option (Int)
abbrev B_laws_heldPatS (p : Y_laws_heldPatS) : Prop := ∀ {t0_0 : List S_impl_Pat} {t1_0 : Int} {r : Int}, p t0_0 t1_0 = some r → Big Try.prog τ An (.fn 92 [.one (.c (.sl (t0_0.map rS_impl_Pat))), .one (.c (.int .i64 t1_0))] [] (.one (.c (.int .i64 r))) none [] none)
def p_laws_heldPatS_b1 (n : Nat) (r_laws_heldPatS : Y_laws_heldPatS) (t0_0 : List S_impl_Pat) : (Int × Int) → Option ((Int × Int) ⊕ ((Int) ⊕ (Int × Int × Bool)))
  | (v1_1, v5_2) => bif decide (v5_2 < (t0_0.length : Int)) then (ix t0_0 v5_2).bind fun e14_8 => bif !decide (e14_8.f0 = v1_1) then some (.inr (.inl ((-1) : Int))) else (ix t0_0 v5_2).bind fun e23_10 => bif !decide (e23_10.f1 = (IntKind.wrap .i64 (v1_1 + (1 : Int)))) then some (.inr (.inl ((-1) : Int))) else (ix t0_0 v5_2).bind fun e32_12 => (p_laws_markText n (IntKind.wrap .i64 ((IntKind.wrap .i64 (v1_1 + (1 : Int))) + (1 : Int)))).bind fun c36_13 => bif !decide (e32_12.f2 = c36_13) then some (.inr (.inl ((-1) : Int))) else (ix t0_0 v5_2).bind fun e42_15 => (r_laws_heldPatS e42_15.f3 (IntKind.wrap .i64 ((IntKind.wrap .i64 ((IntKind.wrap .i64 (v1_1 + (1 : Int))) + (1 : Int))) + (1 : Int)))).bind fun c46_16 => bif decide (c46_16 < (0 : Int)) then some (.inr (.inl ((-1) : Int))) else some (.inl (c46_16, (IntKind.wrap .i64 (v5_2 + (1 : Int))))) else some (.inr (.inr (v1_1, v5_2, false)))
def s_laws_heldPatS (n : Nat) (r_laws_heldPatS : Y_laws_heldPatS) (t0_0 : List S_impl_Pat) (t1_0 : Int) : Option (Int) :=
  (loopN (p_laws_heldPatS_b1 n r_laws_heldPatS t0_0) n (t1_0, (0 : Int))).bind fun q => (match q with | .inl v4_3 => some v4_3 | .inr (v1_4, v5_5, v9_6) => some v1_4)
theorem step_laws_heldPatS {n : Nat} {r_laws_heldPatS : Y_laws_heldPatS} (ih_laws_heldPatS : B_laws_heldPatS r_laws_heldPatS) : B_laws_heldPatS (s_laws_heldPatS n r_laws_heldPatS) := by
 intro t0_0 t1_0 r h
 unfold s_laws_heldPatS at h
 refine bF Try.func92 rfl rfl <| cRs <| xAs rfl <| oNl <| cSq <| cRs <| xAs rfl <| oNl <| cLp h [(1, 1), (4, 48)] [] (fun (v1_1, v5_2) => ([(1, I64 v1_1), (5, I64 v5_2)], [])) (fun q => match q with | .inl v4_3 => (.r, [(4, I64 v4_3)], []) | .inr (v1_4, v5_5, v9_6) => (.e 0, [(1, I64 v1_4), (5, I64 v5_5), (9, Bo v9_6)], [])) rfl (fun st _ h => ?_) (fun q h => ?_)
 obtain ⟨v1_1, v5_2⟩ := st
 unfold p_laws_heldPatS_b1 at h
 refine cSq <| cRs <| xMv rfl <| xMv rfl <| xLn rfl <| xLt rfl <| oNl <| cIf h rfl (fun q7 h => ?_) (fun q7 h => ?_)
 refine cSk <| cSq <| cBk <| cSq <| cRs <| xMv rfl <| xMv rfl <| xIx h rS_impl_Pat_eq rfl (fun e14_8 h => ?_)
 refine xFd rfl <| xLd rfl <| xMv rfl <| xNe rfl <| oNl <| cIf h rfl (fun q9 h => ?_) (fun q9 h => ?_)
 exact cRs <| xAs rfl <| oNl <| cRt <| eXr h rfl
 refine cSk <| cRs <| xMv rfl <| xAdd rfl <| xAs rfl <| oNl <| cSq <| cRs <| xMv rfl <| xMv rfl <| xIx h rS_impl_Pat_eq rfl (fun e23_10 h => ?_)
 refine xFd rfl <| xLd rfl <| xMv rfl <| xNe rfl <| oNl <| cIf h rfl (fun q11 h => ?_) (fun q11 h => ?_)
 exact cRs <| xAs rfl <| oNl <| cRt <| eXr h rfl
 refine cSk <| cRs <| xMv rfl <| xAdd rfl <| xAs rfl <| oNl <| cSq <| cRs <| xMv rfl <| xMv rfl <| xIx h rS_impl_Pat_eq rfl (fun e32_12 h => ?_)
 refine xFd rfl <| xLd rfl <| xMv rfl <| xC0 h (big_laws_markText ·) rfl (fun c36_13 h => ?_)
 refine xNs rfl <| oNl <| cIf h rfl (fun q14 h => ?_) (fun q14 h => ?_)
 exact cRs <| xAs rfl <| oNl <| cRt <| eXr h rfl
 refine cSk <| cRs <| xMv rfl <| xAdd rfl <| xAs rfl <| oRs <| xMv rfl <| xMv rfl <| xIx h rS_impl_Pat_eq rfl (fun e42_15 h => ?_)
 refine xFd rfl <| xLd rfl <| xMv rfl <| xC0 h (ih_laws_heldPatS ·) rfl (fun c46_16 h => ?_)
 refine xAs rfl <| oRs <| xMv rfl <| xLt rfl <| oNl <| cIf h rfl (fun q17 h => ?_) (fun q17 h => ?_)
 exact cRs <| xAs rfl <| oNl <| cRt <| eXr h rfl
 exact cSk <| cRg <| xMv rfl <| xAdd rfl <| xAs rfl <| oNl <| eL h rfl
 exact cEx <| eX h rfl
 rcases q with v4_3 | ⟨v1_4, v5_5, v9_6⟩
 cases h
 exact eR rfl rfl rfl rfl
 refine cRs <| xMv rfl <| xAs rfl <| oNl <| cRt ?_
 cases h
 exact eR rfl rfl rfl rfl
def q_laws_heldPatS : Nat → (Y_laws_heldPatS)
  | 0 => (fun _ _ => none)
  | n + 1 => s_laws_heldPatS n (q_laws_heldPatS n)
def p_laws_heldPatS (n : Nat) : Y_laws_heldPatS := q_laws_heldPatS n
theorem bigs_laws_heldPatS (n : Nat) : B_laws_heldPatS (p_laws_heldPatS n) := by
  induction n with
  | zero => exact (fun h => nomatch h)
  | succ n ih => exact step_laws_heldPatS (n := n) ih
theorem big_laws_heldPatS {n : Nat} : B_laws_heldPatS (p_laws_heldPatS n) := (bigs_laws_heldPatS n)
theorem p_laws_heldPatS_succ (n : Nat) : p_laws_heldPatS (n + 1) = s_laws_heldPatS n (p_laws_heldPatS n) := rfl
abbrev B_laws_heldCode (p : (List S_impl_Fn) → (List S_impl_Pat) → Int → Option (Int)) : Prop := ∀ {t0_0 : List S_impl_Fn} {t0_1 : List S_impl_Pat} {t1_0 : Int} {r : Int}, p t0_0 t0_1 t1_0 = some r → Big Try.prog τ An (.fn 25 [.one (.ag [.sl (t0_0.map rS_impl_Fn), .sl (t0_1.map rS_impl_Pat)]), .one (.c (.int .i64 t1_0))] [] (.one (.c (.int .i64 r))) none [] none)
def p_laws_heldCode (n : Nat) (t0_0 : List S_impl_Fn) (t0_1 : List S_impl_Pat) (t1_0 : Int) : Option (Int) :=
  (p_laws_heldFnS n t0_0 t1_0).bind fun c8_1 => bif decide (c8_1 < (0 : Int)) then some ((-1) : Int) else (p_laws_heldPatS n t0_1 c8_1).bind fun c14_3 => bif decide (c14_3 < (0 : Int)) then some ((-1) : Int) else some c14_3
theorem big_laws_heldCode {n : Nat} : B_laws_heldCode (p_laws_heldCode n) := by
 intro t0_0 t0_1 t1_0 r h
 unfold p_laws_heldCode at h
 refine bF Try.func25 rfl rfl <| cRs <| xBx rfl <| xAs rfl <| oRs <| xFd rfl <| xLd rfl <| xMv rfl <| xC0 h (big_laws_heldFnS ·) rfl (fun c8_1 h => ?_)
 refine xAs rfl <| oNl <| cSq <| cRs <| xMv rfl <| xLt rfl <| oNl <| cIf h rfl (fun q2 h => ?_) (fun q2 h => ?_)
 refine cRs <| xAs rfl <| oNl <| cRt ?_
 cases h
 exact eR rfl rfl rfl rfl
 refine cSk <| cRs <| xFd rfl <| xLd rfl <| xMv rfl <| xC0 h (big_laws_heldPatS ·) rfl (fun c14_3 h => ?_)
 refine xAs rfl <| oNl <| cSq <| cRs <| xMv rfl <| xLt rfl <| oNl <| cIf h rfl (fun q4 h => ?_) (fun q4 h => ?_)
 refine cRs <| xAs rfl <| oNl <| cRt ?_
 cases h
 exact eR rfl rfl rfl rfl
 refine cSk <| cRs <| xMv rfl <| xAs rfl <| oNl <| cRt ?_
 cases h
 exact eR rfl rfl rfl rfl
abbrev B_laws_FnExactCodeOf (p : (List S_laws_Entry) → (List UInt8) → Int → Option (Bool)) : Prop := ∀ {t0_0 : List S_laws_Entry} {t1_0 : List UInt8} {t2_0 : Int} {r : Bool}, p t0_0 t1_0 t2_0 = some r → Big Try.prog τ An (.fn 4 [.one (.c (.sl (t0_0.map rS_laws_Entry))), .one (.c (.str t1_0)), .one (.c (.int .i64 t2_0))] [] (.one (.c (.bool r))) none [] none)
def p_laws_FnExactCodeOf (n : Nat) (t0_0 : List S_laws_Entry) (t1_0 : List UInt8) (t2_0 : Int) : Option (Bool) :=
  bif decide ((1048576 : Int) < (t1_0.length : Int)) then some true else (p_laws_szEntryS n t0_0 (1048576 : Int)).bind fun c23_2 => bif decide (c23_2 < (0 : Int)) then some true else (p_laws_toEntryS n t0_0).bind fun c28_4 => (p_spec_CodeOf n c28_4 t1_0 t2_0).bind fun c31_5 => (p_laws_toEntryS n t0_0).bind fun c35_6 => (p_impl_CodeOf n c35_6 t1_0 t2_0).bind fun c40_7 => ((p_laws_eqCode n c40_7.1 c40_7.2.1 c31_5.1 c31_5.2.1).bind fun c45_9 => bif !c45_9 then some true else some (!(c40_7.2.2 == c31_5.2.2))).bind fun v51_8 => bif v51_8 then some false else (p_laws_toEntryS n t0_0).bind fun c54_12 => (p_laws_eqEntryS n c35_6 c54_12).bind fun c55_13 => bif !c55_13 then some false else (p_laws_markEntryS n c35_6 (1 : Int)).bind fun c59_15 => (bif decide (c59_15.1 < (0 : Int)) then some true else (p_laws_eqCode n c40_7.1 c40_7.2.1 c31_5.1 c31_5.2.1).bind fun c65_18 => bif !c65_18 then some true else some (!(c40_7.2.2 == c31_5.2.2))).bind fun v72_16 => bif v72_16 then some false else (p_laws_markFnS n c40_7.1 (1 : Int)).bind fun m19_21 => (p_laws_markPatS n c40_7.2.1 m19_21.1).bind fun m19_22 => (p_laws_heldCode n m19_21.2 m19_22.2 (1 : Int)).bind fun c78_23 => bif decide (c78_23 < (0 : Int)) then some false else bif !decide (c78_23 = m19_22.1) then some false else (p_laws_toEntryS n t0_0).bind fun c86_26 => (p_impl_CodeOf n c86_26 t1_0 t2_0).bind fun c89_27 => ((p_laws_eqCode n c89_27.1 c89_27.2.1 c31_5.1 c31_5.2.1).bind fun c94_29 => bif !c94_29 then some true else some (!(c89_27.2.2 == c31_5.2.2))).bind fun v100_28 => bif v100_28 then some false else (p_laws_heldCode n m19_21.2 m19_22.2 (1 : Int)).bind fun c103_32 => bif decide (c103_32 < (0 : Int)) then some false else bif !decide (c103_32 = m19_22.1) then some false else some true
theorem big_laws_FnExactCodeOf {n : Nat} : B_laws_FnExactCodeOf (p_laws_FnExactCodeOf n) := by
 intro t0_0 t1_0 t2_0 r h
 unfold p_laws_FnExactCodeOf at h
 refine bF Try.func4 rfl rfl <| cRs <| xAs rfl <| oNl <| cSq <| cRs <| xMv rfl <| xLs rfl <| xGt rfl <| oNl <| cIf h rfl (fun q1 h => ?_) (fun q1 h => ?_)
 refine cRs <| xAs rfl <| oNl <| cRt ?_
 cases h
 exact eR rfl rfl rfl rfl
 refine cSk <| cRs <| xAs rfl <| oRs <| xMv rfl <| xMv rfl <| xC0 h (big_laws_szEntryS ·) rfl (fun c23_2 h => ?_)
 refine xAs rfl <| oNl <| cSq <| cRs <| xMv rfl <| xLt rfl <| oNl <| cIf h rfl (fun q3 h => ?_) (fun q3 h => ?_)
 refine cRs <| xAs rfl <| oNl <| cRt ?_
 cases h
 exact eR rfl rfl rfl rfl
 refine cSk <| cRs <| xMv rfl <| xC0 h (big_laws_toEntryS ·) rfl (fun c28_4 h => ?_)
 refine xMv rfl <| xMv rfl <| xC0 h (big_spec_CodeOf ·) rfl (fun c31_5 h => ?_)
 refine xMv rfl <| xEt rfl <| xEt rfl <| xAz [.sl ([].map rS_impl_Fn), .sl ([].map rS_impl_Pat)] rfl <| xSt rfl <| xAs rfl <| oRs <| xMv rfl <| xC0 h (big_laws_toEntryS ·) rfl (fun c35_6 h => ?_)
 refine xAs rfl <| oRs <| xMv rfl <| xMv rfl <| xMv rfl <| xC0 h (big_impl_CodeOf ·) rfl (fun c40_7 h => ?_)
 refine xMv rfl <| xEt rfl <| xEt rfl <| xAz [.sl ([].map rS_impl_Fn), .sl ([].map rS_impl_Pat)] rfl <| xSt rfl <| xAs rfl <| oNl <| cSq <| cRs <| oJn h [(43, 51)] [] (fun v51_8 => (.n, [(51, Bo v51_8)], [])) (fun _ h => ?_) (fun v51_8 h => ?_)
 refine xLd rfl <| xLd rfl <| xC0 h (big_laws_eqCode ·) rfl (fun c45_9 h => ?_)
 refine xNot rfl <| xMv rfl <| oIf 47 h rfl (fun q10 h => ?_) (fun q10 h => ?_)
 exact wSk rfl <| wSk rfl <| wSk rfl <| xPk rfl <| oNl <| eJ h rfl
 exact xMv rfl <| xMv rfl <| wBi (.bool (!(c40_7.2.2 == c31_5.2.2))) rfl rfl rfl rfl rfl <| xPk rfl <| oNl <| eJ h rfl
 refine cIf h rfl (fun q11 h => ?_) (fun q11 h => ?_)
 refine cRs <| xAs rfl <| oNl <| cRt ?_
 cases h
 exact eR rfl rfl rfl rfl
 refine cSk <| cSq <| cRs <| xMv rfl <| xMv rfl <| xC0 h (big_laws_toEntryS ·) rfl (fun c54_12 h => ?_)
 refine xC0 h (big_laws_eqEntryS ·) rfl (fun c55_13 h => ?_)
 refine xNot rfl <| oNl <| cIf h rfl (fun q14 h => ?_) (fun q14 h => ?_)
 refine cRs <| xAs rfl <| oNl <| cRt ?_
 cases h
 exact eR rfl rfl rfl rfl
 refine cSk <| cRs <| xAs rfl <| oRs <| wAl rfl rfl rfl rfl <| xMv rfl <| xIo (fun c59_15 => .sl (c59_15.2.map rS_impl_Entry)) h (big_laws_markEntryS ·) rfl (nav0 _) (fun _ => setAt0 _ _) (fun c59_15 h => ?_)
 refine xAs rfl <| oNl <| cSq <| cRs <| oJn h [(60, 72)] [] (fun v72_16 => (.n, [(72, Bo v72_16)], [])) (fun _ h => ?_) (fun v72_16 h => ?_)
 refine xMv rfl <| xLt rfl <| xMv rfl <| oIf 62 h rfl (fun q17 h => ?_) (fun q17 h => ?_)
 exact wSk rfl <| wSk rfl <| wSk rfl <| wSk rfl <| xPk rfl <| xMv rfl <| wSk rfl <| wSk rfl <| wSk rfl <| xPk rfl <| oNl <| eJ h rfl
 refine xLd rfl <| xLd rfl <| xC0 h (big_laws_eqCode ·) rfl (fun c65_18 h => ?_)
 refine xNot rfl <| xPk rfl <| xMv rfl <| oIf 68 h rfl (fun q19 h => ?_) (fun q19 h => ?_)
 exact wSk rfl <| wSk rfl <| wSk rfl <| xPk rfl <| oNl <| eJ h rfl
 exact xMv rfl <| xMv rfl <| wBi (.bool (!(c40_7.2.2 == c31_5.2.2))) rfl rfl rfl rfl rfl <| xPk rfl <| oNl <| eJ h rfl
 refine cIf h rfl (fun q20 h => ?_) (fun q20 h => ?_)
 refine cRs <| xAs rfl <| oNl <| cRt ?_
 cases h
 exact eR rfl rfl rfl rfl
 refine cSk <| cRs <| xAs rfl <| oNl ?_
 obtain ⟨m19_21, em19_21, h⟩ := bind_some h
 obtain ⟨m19_22, em19_22, h⟩ := bind_some h
 refine cMk [⟨0, 89, c40_7.1.map rS_impl_Fn, m19_21.2.map rS_impl_Fn, 1, m19_21.1⟩, ⟨1, 90, c40_7.2.1.map rS_impl_Pat, m19_22.2.map rS_impl_Pat, m19_21.1, m19_22.1⟩] marks_24 ⟨big_laws_markFnS em19_21, big_laws_markPatS em19_22, trivial⟩ rfl rfl ⟨rfl, rfl, rfl, rfl, rfl, rfl⟩ <| cRs <| xAs rfl <| oRs <| xLd rfl <| xMv rfl <| xC0 h (big_laws_heldCode ·) rfl (fun c78_23 h => ?_)
 refine xAs rfl <| oNl <| cSq <| cRs <| xMv rfl <| xLt rfl <| oNl <| cIf h rfl (fun q24 h => ?_) (fun q24 h => ?_)
 refine cRs <| xAs rfl <| oNl <| cRt ?_
 cases h
 exact eR rfl rfl rfl rfl
 refine cSk <| cSq <| cRs <| xMv rfl <| xMv rfl <| xNe rfl <| oNl <| cIf h rfl (fun q25 h => ?_) (fun q25 h => ?_)
 refine cRs <| xAs rfl <| oNl <| cRt ?_
 cases h
 exact eR rfl rfl rfl rfl
 refine cSk <| cRs <| xMv rfl <| xC0 h (big_laws_toEntryS ·) rfl (fun c86_26 h => ?_)
 refine xMv rfl <| xMv rfl <| xC0 h (big_impl_CodeOf ·) rfl (fun c89_27 h => ?_)
 refine xMv rfl <| xEt rfl <| xEt rfl <| xAz [.sl ([].map rS_impl_Fn), .sl ([].map rS_impl_Pat)] rfl <| xSt rfl <| xAs rfl <| oNl <| cSq <| cRs <| oJn h [(92, 100)] [] (fun v100_28 => (.n, [(100, Bo v100_28)], [])) (fun _ h => ?_) (fun v100_28 h => ?_)
 refine xLd rfl <| xLd rfl <| xC0 h (big_laws_eqCode ·) rfl (fun c94_29 h => ?_)
 refine xNot rfl <| xMv rfl <| oIf 96 h rfl (fun q30 h => ?_) (fun q30 h => ?_)
 exact wSk rfl <| wSk rfl <| wSk rfl <| xPk rfl <| oNl <| eJ h rfl
 exact xMv rfl <| xMv rfl <| wBi (.bool (!(c89_27.2.2 == c31_5.2.2))) rfl rfl rfl rfl rfl <| xPk rfl <| oNl <| eJ h rfl
 refine cIf h rfl (fun q31 h => ?_) (fun q31 h => ?_)
 refine cRs <| xAs rfl <| oNl <| cRt ?_
 cases h
 exact eR rfl rfl rfl rfl
 refine cSk <| cRs <| xAs rfl <| oRs <| xLd rfl <| xMv rfl <| xC0 h (big_laws_heldCode ·) rfl (fun c103_32 h => ?_)
 refine xAs rfl <| oNl <| cSq <| cRs <| xMv rfl <| xLt rfl <| oNl <| cIf h rfl (fun q33 h => ?_) (fun q33 h => ?_)
 refine cRs <| xAs rfl <| oNl <| cRt ?_
 cases h
 exact eR rfl rfl rfl rfl
 refine cSk <| cSq <| cRs <| xMv rfl <| xMv rfl <| xNe rfl <| oNl <| cIf h rfl (fun q34 h => ?_) (fun q34 h => ?_)
 refine cRs <| xAs rfl <| oNl <| cRt ?_
 cases h
 exact eR rfl rfl rfl rfl
 refine cSk <| cRs <| xAs rfl <| oNl <| cRt ?_
 cases h
 exact eR rfl rfl rfl rfl
end Go.Own
