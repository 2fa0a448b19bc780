/- Each function on plain data, and its walk. No conditions. -/
import Derived.Test.YtgeomhdbckjkcaaW13A
set_option linter.unusedVariables false
set_option linter.unusedSimpArgs false
set_option linter.unnecessarySimpa false
namespace Go.Own
open Go Go.Proofs
def rI_i64 (a : Int) : List T := [.int .i64 a]
theorem rI_i64_eq (a : Int) : rI_i64 a = [.int .i64 a] := rfl
def rStr (a : List UInt8) : List T := [.str a]
theorem rStr_eq (a : List UInt8) : rStr a = [.str a] := rfl
def rI_u8 (a : Int) : List T := [.int .u8 a]
theorem rI_u8_eq (a : Int) : rI_u8 a = [.int .u8 a] := rfl
inductive S_laws_Term where
  | mk (f0 : Int) (f1 : Int) (f2 : List UInt8) (f3 : List S_laws_Term)
def S_laws_Term.f0 : S_laws_Term → Int
  | .mk a _ _ _ => a
def S_laws_Term.f1 : S_laws_Term → Int
  | .mk _ a _ _ => a
def S_laws_Term.f2 : S_laws_Term → List UInt8
  | .mk _ _ a _ => a
def S_laws_Term.f3 : S_laws_Term → List S_laws_Term
  | .mk _ _ _ a => a
mutual
def rS_laws_Term : S_laws_Term → List T
  | .mk a0 a1 a2 a3 => [.int .i64 a0, .int .i64 a1, .str a2, .sl (rS_laws_Terms a3)]
def rS_laws_Terms : List S_laws_Term → List (List T)
  | [] => []
  | x :: r => rS_laws_Term x :: rS_laws_Terms r
end
theorem rS_laws_Terms_map : ∀ l : List S_laws_Term, rS_laws_Terms l = l.map rS_laws_Term
  | [] => by simp [rS_laws_Terms]
  | x :: r => by simp [rS_laws_Terms, rS_laws_Terms_map r]
theorem rS_laws_Term_eq (a : S_laws_Term) : rS_laws_Term a = [.int .i64 a.f0, .int .i64 a.f1, .str a.f2, .sl (a.f3.map rS_laws_Term)] := by
  cases a
  simp [rS_laws_Term, rS_laws_Terms_map, S_laws_Term.f0, S_laws_Term.f1, S_laws_Term.f2, S_laws_Term.f3]
theorem rS_laws_Term_mk (a0 : Int) (a1 : Int) (a2 : List UInt8) (a3 : List S_laws_Term) : rS_laws_Term (.mk a0 a1 a2 a3) = [.int .i64 a0, .int .i64 a1, .str a2, .sl (a3.map rS_laws_Term)] := by simp [rS_laws_Term, rS_laws_Terms_map]
structure S_laws_Kid where
  f0 : List UInt8
  f1 : List UInt8
  f2 : Int
  f3 : Int
  f4 : List UInt8
  f5 : List S_laws_Term
  f6 : Int
def rS_laws_Kid (a : S_laws_Kid) : List T := [.str a.f0, .str a.f1, .int .i64 a.f2, .int .i64 a.f3, .str a.f4, .sl (a.f5.map rS_laws_Term), .int .i64 a.f6]
theorem rS_laws_Kid_eq (a : S_laws_Kid) : rS_laws_Kid a = [.str a.f0, .str a.f1, .int .i64 a.f2, .int .i64 a.f3, .str a.f4, .sl (a.f5.map rS_laws_Term), .int .i64 a.f6] := rfl
structure S_laws_Over where
  f0 : Int
  f1 : Int
  f2 : Int
  f3 : List S_laws_Kid
  f4 : List Int
  f5 : List Int
  f6 : Bool
def rS_laws_Over (a : S_laws_Over) : List T := [.int .i64 a.f0, .int .i64 a.f1, .int .i64 a.f2, .sl (a.f3.map rS_laws_Kid), .sl (a.f4.map rI_i64), .sl (a.f5.map rI_i64), .bool a.f6]
theorem rS_laws_Over_eq (a : S_laws_Over) : rS_laws_Over a = [.int .i64 a.f0, .int .i64 a.f1, .int .i64 a.f2, .sl (a.f3.map rS_laws_Kid), .sl (a.f4.map rI_i64), .sl (a.f5.map rI_i64), .bool a.f6] := rfl
inductive S_impl_Term where
  | mk (f0 : Int) (f1 : Int) (f2 : List UInt8) (f3 : List S_impl_Term)
def S_impl_Term.f0 : S_impl_Term → Int
  | .mk a _ _ _ => a
def S_impl_Term.f1 : S_impl_Term → Int
  | .mk _ a _ _ => a
def S_impl_Term.f2 : S_impl_Term → List UInt8
  | .mk _ _ a _ => a
def S_impl_Term.f3 : S_impl_Term → List S_impl_Term
  | .mk _ _ _ a => a
mutual
def rS_impl_Term : S_impl_Term → List T
  | .mk a0 a1 a2 a3 => [.int .i64 a0, .int .i64 a1, .str a2, .sl (rS_impl_Terms a3)]
def rS_impl_Terms : List S_impl_Term → List (List T)
  | [] => []
  | x :: r => rS_impl_Term x :: rS_impl_Terms r
end
theorem rS_impl_Terms_map : ∀ l : List S_impl_Term, rS_impl_Terms l = l.map rS_impl_Term
  | [] => by simp [rS_impl_Terms]
  | x :: r => by simp [rS_impl_Terms, rS_impl_Terms_map r]
theorem rS_impl_Term_eq (a : S_impl_Term) : rS_impl_Term a = [.int .i64 a.f0, .int .i64 a.f1, .str a.f2, .sl (a.f3.map rS_impl_Term)] := by
  cases a
  simp [rS_impl_Term, rS_impl_Terms_map, S_impl_Term.f0, S_impl_Term.f1, S_impl_Term.f2, S_impl_Term.f3]
theorem rS_impl_Term_mk (a0 : Int) (a1 : Int) (a2 : List UInt8) (a3 : List S_impl_Term) : rS_impl_Term (.mk a0 a1 a2 a3) = [.int .i64 a0, .int .i64 a1, .str a2, .sl (a3.map rS_impl_Term)] := by simp [rS_impl_Term, rS_impl_Terms_map]
structure S_impl_Kid where
  f0 : List UInt8
  f1 : List UInt8
  f2 : Int
  f3 : Int
  f4 : List UInt8
  f5 : List S_impl_Term
  f6 : Int
def rS_impl_Kid (a : S_impl_Kid) : List T := [.str a.f0, .str a.f1, .int .i64 a.f2, .int .i64 a.f3, .str a.f4, .sl (a.f5.map rS_impl_Term), .int .i64 a.f6]
theorem rS_impl_Kid_eq (a : S_impl_Kid) : rS_impl_Kid a = [.str a.f0, .str a.f1, .int .i64 a.f2, .int .i64 a.f3, .str a.f4, .sl (a.f5.map rS_impl_Term), .int .i64 a.f6] := rfl
structure S_impl_Over where
  f0 : Int
  f1 : Int
  f2 : Int
  f3 : List S_impl_Kid
  f4 : List Int
  f5 : List Int
  f6 : Bool
def rS_impl_Over (a : S_impl_Over) : List T := [.int .i64 a.f0, .int .i64 a.f1, .int .i64 a.f2, .sl (a.f3.map rS_impl_Kid), .sl (a.f4.map rI_i64), .sl (a.f5.map rI_i64), .bool a.f6]
theorem rS_impl_Over_eq (a : S_impl_Over) : rS_impl_Over a = [.int .i64 a.f0, .int .i64 a.f1, .int .i64 a.f2, .sl (a.f3.map rS_impl_Kid), .sl (a.f4.map rI_i64), .sl (a.f5.map rI_i64), .bool a.f6] := rfl
abbrev B_laws_szTermS (p : (List S_laws_Term) → Int → Option (Int)) : Prop := ∀ {t0_0 : List S_laws_Term} {t1_0 : Int} {r : Int}, p t0_0 t1_0 = some r → Big Try.prog τ An (.fn 32 [.one (.c (.sl (t0_0.map rS_laws_Term))), .one (.c (.int .i64 t1_0))] [] (.one (.c (.int .i64 r))) none [] none)
abbrev B_laws_szTerm (p : Int → Int → (List UInt8) → (List S_laws_Term) → Int → Option (Int)) : Prop := ∀ {t0_0 t0_1 : Int} {t0_2 : List UInt8} {t0_3 : List S_laws_Term} {t1_0 : Int} {r : Int}, p t0_0 t0_1 t0_2 t0_3 t1_0 = some r → Big Try.prog τ An (.fn 50 [.one (.ag [.int .i64 t0_0, .int .i64 t0_1, .str t0_2, .sl (t0_3.map rS_laws_Term)]), .one (.c (.int .i64 t1_0))] [] (.one (.c (.int .i64 r))) none [] none)
def p_laws_szTermS_b1 (n : Nat) (r_laws_szTerm : Int → Int → (List UInt8) → (List S_laws_Term) → Int → Option (Int)) (t0_0 : List S_laws_Term) : (Int × Int) → Option ((Int × Int) ⊕ ((Int) ⊕ (Int × Int × Bool)))
  | (v1_2, v5_3) => bif decide (v5_3 < (t0_0.length : Int)) then (ix t0_0 v5_3).bind fun e20_9 => (r_laws_szTerm e20_9.f0 e20_9.f1 e20_9.f2 e20_9.f3 v1_2).bind fun c23_10 => bif decide (c23_10 < (0 : Int)) then some (.inr (.inl ((-1) : Int))) else some (.inl (c23_10, (IntKind.wrap .i64 (v5_3 + (1 : Int))))) else some (.inr (.inr (v1_2, v5_3, false)))
def s_laws_szTermS (n : Nat) (r_laws_szTermS : (List S_laws_Term) → Int → Option (Int)) (r_laws_szTerm : Int → Int → (List UInt8) → (List S_laws_Term) → Int → Option (Int)) (t0_0 : List S_laws_Term) (t1_0 : Int) : Option (Int) :=
  bif decide ((IntKind.wrap .i64 (t1_0 - (t0_0.length : Int))) < (0 : Int)) then some ((-1) : Int) else (loopN (p_laws_szTermS_b1 n r_laws_szTerm t0_0) n ((IntKind.wrap .i64 (t1_0 - (t0_0.length : Int))), (0 : Int))).bind fun q => (match q with | .inl v4_4 => some v4_4 | .inr (v1_5, v5_6, v15_7) => some v1_5)
theorem step_laws_szTermS {n : Nat} {r_laws_szTermS : (List S_laws_Term) → Int → Option (Int)} (ih_laws_szTermS : B_laws_szTermS r_laws_szTermS) {r_laws_szTerm : Int → Int → (List UInt8) → (List S_laws_Term) → Int → Option (Int)} (ih_laws_szTerm : B_laws_szTerm r_laws_szTerm) : B_laws_szTermS (s_laws_szTermS n r_laws_szTermS r_laws_szTerm) := by
 intro t0_0 t1_0 r h
 unfold s_laws_szTermS at h
 refine bF Try.func32 rfl rfl ?_
 refine cRs ?_
 refine xAs rfl ?_
 refine oRs ?_
 refine xMv rfl ?_
 refine xMv rfl ?_
 refine xLn rfl ?_
 refine xSub rfl ?_
 refine xAs rfl ?_
 refine oNl ?_
 refine cSq ?_
 refine cRs ?_
 refine xMv rfl ?_
 refine xLt rfl ?_
 refine oNl ?_
 refine cIf h rfl (fun q1 h => ?_) (fun q1 h => ?_)
 refine cRs ?_
 refine xAs rfl ?_
 refine oNl ?_
 refine cRt ?_
 cases h
 exact eR rfl rfl rfl rfl
 refine cSk ?_
 refine cSq ?_
 refine cRs ?_
 refine xAs rfl ?_
 refine oNl ?_
 refine cLp h [(1, 1), (4, 5), (12, 25)] [] (fun (v1_2, v5_3) => ([(1, I64 v1_2), (5, I64 v5_3)], [])) (fun q => match q with | .inl v4_4 => (.r, [(4, I64 v4_4)], []) | .inr (v1_5, v5_6, v15_7) => (.e 0, [(1, I64 v1_5), (5, I64 v5_6), (15, Bo v15_7)], [])) rfl (fun st _ h => ?_) (fun q h => ?_)
 obtain ⟨v1_2, v5_3⟩ := st
 unfold p_laws_szTermS_b1 at h
 refine cSq ?_
 refine cRs ?_
 refine xMv rfl ?_
 refine xMv rfl ?_
 refine xLn rfl ?_
 refine xLt rfl ?_
 refine oNl ?_
 refine cIf h rfl (fun q8 h => ?_) (fun q8 h => ?_)
 refine cSk ?_
 refine cSq ?_
 refine cBk ?_
 refine cRs ?_
 refine xMv rfl ?_
 refine xMv rfl ?_
 refine xIx h rS_laws_Term_eq rfl (fun e20_9 h => ?_)
 refine xLd rfl ?_
 refine xMv rfl ?_
 refine xC0 h (ih_laws_szTerm ·) rfl (fun c23_10 h => ?_)
 refine xAs rfl ?_
 refine oRs ?_
 refine xMv rfl ?_
 refine xLt rfl ?_
 refine oNl ?_
 refine cIf h rfl (fun q11 h => ?_) (fun q11 h => ?_)
 refine cRs ?_
 refine xAs rfl ?_
 refine oNl ?_
 refine cRt ?_
 exact eXr h rfl
 refine cSk ?_
 refine cRg ?_
 refine xMv rfl ?_
 refine xAdd rfl ?_
 refine xAs rfl ?_
 refine oNl ?_
 exact eL h rfl
 refine cEx ?_
 exact eX h rfl
 rcases q with v4_4 | ⟨v1_5, v5_6, v15_7⟩
 cases h
 exact eR rfl rfl rfl rfl
 refine cRs ?_
 refine xMv rfl ?_
 refine xAs rfl ?_
 refine oNl ?_
 refine cRt ?_
 cases h
 exact eR rfl rfl rfl rfl
def s_laws_szTerm (n : Nat) (r_laws_szTermS : (List S_laws_Term) → Int → Option (Int)) (r_laws_szTerm : Int → Int → (List UInt8) → (List S_laws_Term) → Int → Option (Int)) (t0_0 : Int) (t0_1 : Int) (t0_2 : List UInt8) (t0_3 : List S_laws_Term) (t1_0 : Int) : Option (Int) :=
  bif decide ((IntKind.wrap .i64 (t1_0 - (t0_2.length : Int))) < (0 : Int)) then some ((-1) : Int) else (r_laws_szTermS t0_3 (IntKind.wrap .i64 (t1_0 - (t0_2.length : Int)))).bind fun c15_2 => bif decide (c15_2 < (0 : Int)) then some ((-1) : Int) else some c15_2
theorem step_laws_szTerm {n : Nat} {r_laws_szTermS : (List S_laws_Term) → Int → Option (Int)} (ih_laws_szTermS : B_laws_szTermS r_laws_szTermS) {r_laws_szTerm : Int → Int → (List UInt8) → (List S_laws_Term) → Int → Option (Int)} (ih_laws_szTerm : B_laws_szTerm r_laws_szTerm) : B_laws_szTerm (s_laws_szTerm n r_laws_szTermS r_laws_szTerm) := by
 intro t0_0 t0_1 t0_2 t0_3 t1_0 r h
 unfold s_laws_szTerm at h
 refine bF Try.func50 rfl rfl ?_
 refine cRs ?_
 refine xBx rfl ?_
 refine xAs rfl ?_
 refine oRs ?_
 refine xMv rfl ?_
 refine xFd rfl ?_
 refine xLd rfl ?_
 refine xLs rfl ?_
 refine xSub rfl ?_
 refine xAs rfl ?_
 refine oNl ?_
 refine cSq ?_
 refine cRs ?_
 refine xMv rfl ?_
 refine xLt rfl ?_
 refine oNl ?_
 refine cIf h rfl (fun q1 h => ?_) (fun q1 h => ?_)
 refine cRs ?_
 refine xAs rfl ?_
 refine oNl ?_
 refine cRt ?_
 cases h
 exact eR rfl rfl rfl rfl
 refine cSk ?_
 refine cRs ?_
 refine xFd rfl ?_
 refine xLd rfl ?_
 refine xMv rfl ?_
 refine xC0 h (ih_laws_szTermS ·) rfl (fun c15_2 h => ?_)
 refine xAs rfl ?_
 refine oNl ?_
 refine cSq ?_
 refine cRs ?_
 refine xMv rfl ?_
 refine xLt rfl ?_
 refine oNl ?_
 refine cIf h rfl (fun q3 h => ?_) (fun q3 h => ?_)
 refine cRs ?_
 refine xAs rfl ?_
 refine oNl ?_
 refine cRt ?_
 cases h
 exact eR rfl rfl rfl rfl
 refine cSk ?_
 refine cRs ?_
 refine xMv rfl ?_
 refine xAs rfl ?_
 refine oNl ?_
 refine cRt ?_
 cases h
 exact eR rfl rfl rfl rfl
def q_laws_szTermS : Nat → ((List S_laws_Term) → Int → Option (Int)) × (Int → Int → (List UInt8) → (List S_laws_Term) → Int → Option (Int))
  | 0 => ((fun _ _ => none), (fun _ _ _ _ _ => none))
  | n + 1 => (s_laws_szTermS n ((q_laws_szTermS n).1) ((q_laws_szTermS n).2), s_laws_szTerm n ((q_laws_szTermS n).1) ((q_laws_szTermS n).2))
def p_laws_szTermS (n : Nat) : (List S_laws_Term) → Int → Option (Int) := (q_laws_szTermS n).1
def p_laws_szTerm (n : Nat) : Int → Int → (List UInt8) → (List S_laws_Term) → Int → Option (Int) := (q_laws_szTermS n).2
theorem bigs_laws_szTermS (n : Nat) : B_laws_szTermS (p_laws_szTermS n) ∧ B_laws_szTerm (p_laws_szTerm n) := by
  induction n with
  | zero => exact ⟨(fun h => nomatch h), (fun h => nomatch h)⟩
  | succ n ih => exact ⟨step_laws_szTermS (n := n) (ih.1) (ih.2), step_laws_szTerm (n := n) (ih.1) (ih.2)⟩
theorem big_laws_szTermS {n : Nat} : B_laws_szTermS (p_laws_szTermS n) := (bigs_laws_szTermS n).1
theorem big_laws_szTerm {n : Nat} : B_laws_szTerm (p_laws_szTerm n) := (bigs_laws_szTermS n).2
theorem p_laws_szTermS_succ (n : Nat) : p_laws_szTermS (n + 1) = s_laws_szTermS n (p_laws_szTermS n) (p_laws_szTerm n) := rfl
theorem p_laws_szTerm_succ (n : Nat) : p_laws_szTerm (n + 1) = s_laws_szTerm n (p_laws_szTermS n) (p_laws_szTerm n) := rfl
abbrev B_laws_szKid (p : (List UInt8) → (List UInt8) → Int → Int → (List UInt8) → (List S_laws_Term) → Int → Int → Option (Int)) : Prop := ∀ {t0_0 t0_1 : List UInt8} {t0_2 t0_3 : Int} {t0_4 : List UInt8} {t0_5 : List S_laws_Term} {t0_6 t1_0 : Int} {r : Int}, p t0_0 t0_1 t0_2 t0_3 t0_4 t0_5 t0_6 t1_0 = some r → Big Try.prog τ An (.fn 209 [.one (.ag [.str t0_0, .str t0_1, .int .i64 t0_2, .int .i64 t0_3, .str t0_4, .sl (t0_5.map rS_laws_Term), .int .i64 t0_6]), .one (.c (.int .i64 t1_0))] [] (.one (.c (.int .i64 r))) none [] none)
def p_laws_szKid (n : Nat) (t0_0 : List UInt8) (t0_1 : List UInt8) (t0_2 : Int) (t0_3 : Int) (t0_4 : List UInt8) (t0_5 : List S_laws_Term) (t0_6 : Int) (t1_0 : Int) : Option (Int) :=
  bif decide ((IntKind.wrap .i64 (t1_0 - (t0_0.length : Int))) < (0 : Int)) then some ((-1) : Int) else bif decide ((IntKind.wrap .i64 ((IntKind.wrap .i64 (t1_0 - (t0_0.length : Int))) - (t0_1.length : Int))) < (0 : Int)) then some ((-1) : Int) else (p_laws_szTerm n t0_2 t0_3 t0_4 t0_5 (IntKind.wrap .i64 ((IntKind.wrap .i64 (t1_0 - (t0_0.length : Int))) - (t0_1.length : Int)))).bind fun c22_3 => bif decide (c22_3 < (0 : Int)) then some ((-1) : Int) else some c22_3
theorem big_laws_szKid {n : Nat} : B_laws_szKid (p_laws_szKid n) := by
 intro t0_0 t0_1 t0_2 t0_3 t0_4 t0_5 t0_6 t1_0 r h
 unfold p_laws_szKid at h
 refine bF Try.func209 rfl rfl ?_
 refine cRs ?_
 refine xBx rfl ?_
 refine xAs rfl ?_
 refine oRs ?_
 refine xMv rfl ?_
 refine xFd rfl ?_
 refine xLd rfl ?_
 refine xLs rfl ?_
 refine xSub rfl ?_
 refine xAs rfl ?_
 refine oNl ?_
 refine cSq ?_
 refine cRs ?_
 refine xMv rfl ?_
 refine xLt rfl ?_
 refine oNl ?_
 refine cIf h rfl (fun q1 h => ?_) (fun q1 h => ?_)
 refine cRs ?_
 refine xAs rfl ?_
 refine oNl ?_
 refine cRt ?_
 cases h
 exact eR rfl rfl rfl rfl
 refine cSk ?_
 refine cRs ?_
 refine xMv rfl ?_
 refine xFd rfl ?_
 refine xLd rfl ?_
 refine xLs rfl ?_
 refine xSub rfl ?_
 refine xAs rfl ?_
 refine oNl ?_
 refine cSq ?_
 refine cRs ?_
 refine xMv rfl ?_
 refine xLt rfl ?_
 refine oNl ?_
 refine cIf h rfl (fun q2 h => ?_) (fun q2 h => ?_)
 refine cRs ?_
 refine xAs rfl ?_
 refine oNl ?_
 refine cRt ?_
 cases h
 exact eR rfl rfl rfl rfl
 refine cSk ?_
 refine cRs ?_
 refine xFd rfl ?_
 refine xLd rfl ?_
 refine xMv rfl ?_
 refine xC0 h (big_laws_szTerm ·) rfl (fun c22_3 h => ?_)
 refine xAs rfl ?_
 refine oNl ?_
 refine cSq ?_
 refine cRs ?_
 refine xMv rfl ?_
 refine xLt rfl ?_
 refine oNl ?_
 refine cIf h rfl (fun q4 h => ?_) (fun q4 h => ?_)
 refine cRs ?_
 refine xAs rfl ?_
 refine oNl ?_
 refine cRt ?_
 cases h
 exact eR rfl rfl rfl rfl
 refine cSk ?_
 refine cRs ?_
 refine xMv rfl ?_
 refine xAs rfl ?_
 refine oNl ?_
 refine cRt ?_
 cases h
 exact eR rfl rfl rfl rfl
abbrev B_laws_szKidS (p : (List S_laws_Kid) → Int → Option (Int)) : Prop := ∀ {t0_0 : List S_laws_Kid} {t1_0 : Int} {r : Int}, p t0_0 t1_0 = some r → Big Try.prog τ An (.fn 149 [.one (.c (.sl (t0_0.map rS_laws_Kid))), .one (.c (.int .i64 t1_0))] [] (.one (.c (.int .i64 r))) none [] none)
def p_laws_szKidS_b1 (n : Nat) (t0_0 : List S_laws_Kid) : (Int × Int) → Option ((Int × Int) ⊕ ((Int) ⊕ (Int × Int × Bool)))
  | (v1_2, v5_3) => bif decide (v5_3 < (t0_0.length : Int)) then (ix t0_0 v5_3).bind fun e20_9 => (p_laws_szKid n e20_9.f0 e20_9.f1 e20_9.f2 e20_9.f3 e20_9.f4 e20_9.f5 e20_9.f6 v1_2).bind fun c23_10 => bif decide (c23_10 < (0 : Int)) then some (.inr (.inl ((-1) : Int))) else some (.inl (c23_10, (IntKind.wrap .i64 (v5_3 + (1 : Int))))) else some (.inr (.inr (v1_2, v5_3, false)))
def p_laws_szKidS (n : Nat) (t0_0 : List S_laws_Kid) (t1_0 : Int) : Option (Int) :=
  bif decide ((IntKind.wrap .i64 (t1_0 - (t0_0.length : Int))) < (0 : Int)) then some ((-1) : Int) else (loopN (p_laws_szKidS_b1 n t0_0) n ((IntKind.wrap .i64 (t1_0 - (t0_0.length : Int))), (0 : Int))).bind fun q => (match q with | .inl v4_4 => some v4_4 | .inr (v1_5, v5_6, v15_7) => some v1_5)
theorem big_laws_szKidS {n : Nat} : B_laws_szKidS (p_laws_szKidS n) := by
 intro t0_0 t1_0 r h
 unfold p_laws_szKidS at h
 refine bF Try.func149 rfl rfl ?_
 refine cRs ?_
 refine xAs rfl ?_
 refine oRs ?_
 refine xMv rfl ?_
 refine xMv rfl ?_
 refine xLn rfl ?_
 refine xSub rfl ?_
 refine xAs rfl ?_
 refine oNl ?_
 refine cSq ?_
 refine cRs ?_
 refine xMv rfl ?_
 refine xLt rfl ?_
 refine oNl ?_
 refine cIf h rfl (fun q1 h => ?_) (fun q1 h => ?_)
 refine cRs ?_
 refine xAs rfl ?_
 refine oNl ?_
 refine cRt ?_
 cases h
 exact eR rfl rfl rfl rfl
 refine cSk ?_
 refine cSq ?_
 refine cRs ?_
 refine xAs rfl ?_
 refine oNl ?_
 refine cLp h [(1, 1), (4, 5), (12, 25)] [] (fun (v1_2, v5_3) => ([(1, I64 v1_2), (5, I64 v5_3)], [])) (fun q => match q with | .inl v4_4 => (.r, [(4, I64 v4_4)], []) | .inr (v1_5, v5_6, v15_7) => (.e 0, [(1, I64 v1_5), (5, I64 v5_6), (15, Bo v15_7)], [])) rfl (fun st _ h => ?_) (fun q h => ?_)
 obtain ⟨v1_2, v5_3⟩ := st
 unfold p_laws_szKidS_b1 at h
 refine cSq ?_
 refine cRs ?_
 refine xMv rfl ?_
 refine xMv rfl ?_
 refine xLn rfl ?_
 refine xLt rfl ?_
 refine oNl ?_
 refine cIf h rfl (fun q8 h => ?_) (fun q8 h => ?_)
 refine cSk ?_
 refine cSq ?_
 refine cBk ?_
 refine cRs ?_
 refine xMv rfl ?_
 refine xMv rfl ?_
 refine xIx h rS_laws_Kid_eq rfl (fun e20_9 h => ?_)
 refine xLd rfl ?_
 refine xMv rfl ?_
 refine xC0 h (big_laws_szKid ·) rfl (fun c23_10 h => ?_)
 refine xAs rfl ?_
 refine oRs ?_
 refine xMv rfl ?_
 refine xLt rfl ?_
 refine oNl ?_
 refine cIf h rfl (fun q11 h => ?_) (fun q11 h => ?_)
 refine cRs ?_
 refine xAs rfl ?_
 refine oNl ?_
 refine cRt ?_
 exact eXr h rfl
 refine cSk ?_
 refine cRg ?_
 refine xMv rfl ?_
 refine xAdd rfl ?_
 refine xAs rfl ?_
 refine oNl ?_
 exact eL h rfl
 refine cEx ?_
 exact eX h rfl
 rcases q with v4_4 | ⟨v1_5, v5_6, v15_7⟩
 cases h
 exact eR rfl rfl rfl rfl
 refine cRs ?_
 refine xMv rfl ?_
 refine xAs rfl ?_
 refine oNl ?_
 refine cRt ?_
 cases h
 exact eR rfl rfl rfl rfl
abbrev B_laws_szIntS (p : (List Int) → Int → Option (Int)) : Prop := ∀ {t0_0 : List Int} {t1_0 : Int} {r : Int}, p t0_0 t1_0 = some r → Big Try.prog τ An (.fn 150 [.one (.c (.sl (t0_0.map rI_i64))), .one (.c (.int .i64 t1_0))] [] (.one (.c (.int .i64 r))) none [] none)
def p_laws_szIntS (n : Nat) (t0_0 : List Int) (t1_0 : Int) : Option (Int) :=
  bif decide ((IntKind.wrap .i64 (t1_0 - (t0_0.length : Int))) < (0 : Int)) then some ((-1) : Int) else some (IntKind.wrap .i64 (t1_0 - (t0_0.length : Int)))
theorem big_laws_szIntS {n : Nat} : B_laws_szIntS (p_laws_szIntS n) := by
 intro t0_0 t1_0 r h
 unfold p_laws_szIntS at h
 refine bF Try.func150 rfl rfl ?_
 refine cRs ?_
 refine xAs rfl ?_
 refine oRs ?_
 refine xMv rfl ?_
 refine xMv rfl ?_
 refine xLn rfl ?_
 refine xSub rfl ?_
 refine xAs rfl ?_
 refine oNl ?_
 refine cSq ?_
 refine cRs ?_
 refine xMv rfl ?_
 refine xLt rfl ?_
 refine oNl ?_
 refine cIf h rfl (fun q1 h => ?_) (fun q1 h => ?_)
 refine cRs ?_
 refine xAs rfl ?_
 refine oNl ?_
 refine cRt ?_
 cases h
 exact eR rfl rfl rfl rfl
 refine cSk ?_
 refine cRs ?_
 refine xMv rfl ?_
 refine xAs rfl ?_
 refine oNl ?_
 refine cRt ?_
 cases h
 exact eR rfl rfl rfl rfl
abbrev B_laws_szOver (p : Int → Int → Int → (List S_laws_Kid) → (List Int) → (List Int) → Bool → Int → Option (Int)) : Prop := ∀ {t0_0 t0_1 t0_2 : Int} {t0_3 : List S_laws_Kid} {t0_4 t0_5 : List Int} {t0_6 : Bool} {t1_0 : Int} {r : Int}, p t0_0 t0_1 t0_2 t0_3 t0_4 t0_5 t0_6 t1_0 = some r → Big Try.prog τ An (.fn 68 [.one (.ag [.int .i64 t0_0, .int .i64 t0_1, .int .i64 t0_2, .sl (t0_3.map rS_laws_Kid), .sl (t0_4.map rI_i64), .sl (t0_5.map rI_i64), .bool t0_6]), .one (.c (.int .i64 t1_0))] [] (.one (.c (.int .i64 r))) none [] none)
def p_laws_szOver (n : Nat) (t0_0 : Int) (t0_1 : Int) (t0_2 : Int) (t0_3 : List S_laws_Kid) (t0_4 : List Int) (t0_5 : List Int) (t0_6 : Bool) (t1_0 : Int) : Option (Int) :=
  (p_laws_szKidS n t0_3 t1_0).bind fun c8_1 => bif decide (c8_1 < (0 : Int)) then some ((-1) : Int) else (p_laws_szIntS n t0_4 c8_1).bind fun c14_3 => bif decide (c14_3 < (0 : Int)) then some ((-1) : Int) else (p_laws_szIntS n t0_5 c14_3).bind fun c20_5 => bif decide (c20_5 < (0 : Int)) then some ((-1) : Int) else some c20_5
theorem big_laws_szOver {n : Nat} : B_laws_szOver (p_laws_szOver n) := by
 intro t0_0 t0_1 t0_2 t0_3 t0_4 t0_5 t0_6 t1_0 r h
 unfold p_laws_szOver at h
 refine bF Try.func68 rfl rfl ?_
 refine cRs ?_
 refine xBx rfl ?_
 refine xAs rfl ?_
 refine oRs ?_
 refine xFd rfl ?_
 refine xLd rfl ?_
 refine xMv rfl ?_
 refine xC0 h (big_laws_szKidS ·) rfl (fun c8_1 h => ?_)
 refine xAs rfl ?_
 refine oNl ?_
 refine cSq ?_
 refine cRs ?_
 refine xMv rfl ?_
 refine xLt rfl ?_
 refine oNl ?_
 refine cIf h rfl (fun q2 h => ?_) (fun q2 h => ?_)
 refine cRs ?_
 refine xAs rfl ?_
 refine oNl ?_
 refine cRt ?_
 cases h
 exact eR rfl rfl rfl rfl
 refine cSk ?_
 refine cRs ?_
 refine xFd rfl ?_
 refine xLd rfl ?_
 refine xMv rfl ?_
 refine xC0 h (big_laws_szIntS ·) rfl (fun c14_3 h => ?_)
 refine xAs rfl ?_
 refine oNl ?_
 refine cSq ?_
 refine cRs ?_
 refine xMv rfl ?_
 refine xLt rfl ?_
 refine oNl ?_
 refine cIf h rfl (fun q4 h => ?_) (fun q4 h => ?_)
 refine cRs ?_
 refine xAs rfl ?_
 refine oNl ?_
 refine cRt ?_
 cases h
 exact eR rfl rfl rfl rfl
 refine cSk ?_
 refine cRs ?_
 refine xFd rfl ?_
 refine xLd rfl ?_
 refine xMv rfl ?_
 refine xC0 h (big_laws_szIntS ·) rfl (fun c20_5 h => ?_)
 refine xAs rfl ?_
 refine oNl ?_
 refine cSq ?_
 refine cRs ?_
 refine xMv rfl ?_
 refine xLt rfl ?_
 refine oNl ?_
 refine cIf h rfl (fun q6 h => ?_) (fun q6 h => ?_)
 refine cRs ?_
 refine xAs rfl ?_
 refine oNl ?_
 refine cRt ?_
 cases h
 exact eR rfl rfl rfl rfl
 refine cSk ?_
 refine cRs ?_
 refine xMv rfl ?_
 refine xAs rfl ?_
 refine oNl ?_
 refine cRt ?_
 cases h
 exact eR rfl rfl rfl rfl
abbrev B_laws_szOverS (p : (List S_laws_Over) → Int → Option (Int)) : Prop := ∀ {t0_0 : List S_laws_Over} {t1_0 : Int} {r : Int}, p t0_0 t1_0 = some r → Big Try.prog τ An (.fn 12 [.one (.c (.sl (t0_0.map rS_laws_Over))), .one (.c (.int .i64 t1_0))] [] (.one (.c (.int .i64 r))) none [] none)
def p_laws_szOverS_b1 (n : Nat) (t0_0 : List S_laws_Over) : (Int × Int) → Option ((Int × Int) ⊕ ((Int) ⊕ (Int × Int × Bool)))
  | (v1_2, v5_3) => bif decide (v5_3 < (t0_0.length : Int)) then (ix t0_0 v5_3).bind fun e20_9 => (p_laws_szOver n e20_9.f0 e20_9.f1 e20_9.f2 e20_9.f3 e20_9.f4 e20_9.f5 e20_9.f6 v1_2).bind fun c23_10 => bif decide (c23_10 < (0 : Int)) then some (.inr (.inl ((-1) : Int))) else some (.inl (c23_10, (IntKind.wrap .i64 (v5_3 + (1 : Int))))) else some (.inr (.inr (v1_2, v5_3, false)))
def p_laws_szOverS (n : Nat) (t0_0 : List S_laws_Over) (t1_0 : Int) : Option (Int) :=
  bif decide ((IntKind.wrap .i64 (t1_0 - (t0_0.length : Int))) < (0 : Int)) then some ((-1) : Int) else (loopN (p_laws_szOverS_b1 n t0_0) n ((IntKind.wrap .i64 (t1_0 - (t0_0.length : Int))), (0 : Int))).bind fun q => (match q with | .inl v4_4 => some v4_4 | .inr (v1_5, v5_6, v15_7) => some v1_5)
theorem big_laws_szOverS {n : Nat} : B_laws_szOverS (p_laws_szOverS n) := by
 intro t0_0 t1_0 r h
 unfold p_laws_szOverS at h
 refine bF Try.func12 rfl rfl ?_
 refine cRs ?_
 refine xAs rfl ?_
 refine oRs ?_
 refine xMv rfl ?_
 refine xMv rfl ?_
 refine xLn rfl ?_
 refine xSub rfl ?_
 refine xAs rfl ?_
 refine oNl ?_
 refine cSq ?_
 refine cRs ?_
 refine xMv rfl ?_
 refine xLt rfl ?_
 refine oNl ?_
 refine cIf h rfl (fun q1 h => ?_) (fun q1 h => ?_)
 refine cRs ?_
 refine xAs rfl ?_
 refine oNl ?_
 refine cRt ?_
 cases h
 exact eR rfl rfl rfl rfl
 refine cSk ?_
 refine cSq ?_
 refine cRs ?_
 refine xAs rfl ?_
 refine oNl ?_
 refine cLp h [(1, 1), (4, 5), (12, 25)] [] (fun (v1_2, v5_3) => ([(1, I64 v1_2), (5, I64 v5_3)], [])) (fun q => match q with | .inl v4_4 => (.r, [(4, I64 v4_4)], []) | .inr (v1_5, v5_6, v15_7) => (.e 0, [(1, I64 v1_5), (5, I64 v5_6), (15, Bo v15_7)], [])) rfl (fun st _ h => ?_) (fun q h => ?_)
 obtain ⟨v1_2, v5_3⟩ := st
 unfold p_laws_szOverS_b1 at h
 refine cSq ?_
 refine cRs ?_
 refine xMv rfl ?_
 refine xMv rfl ?_
 refine xLn rfl ?_
 refine xLt rfl ?_
 refine oNl ?_
 refine cIf h rfl (fun q8 h => ?_) (fun q8 h => ?_)
 refine cSk ?_
 refine cSq ?_
 refine cBk ?_
 refine cRs ?_
 refine xMv rfl ?_
 refine xMv rfl ?_
 refine xIx h rS_laws_Over_eq rfl (fun e20_9 h => ?_)
 refine xLd rfl ?_
 refine xMv rfl ?_
 refine xC0 h (big_laws_szOver ·) rfl (fun c23_10 h => ?_)
 refine xAs rfl ?_
 refine oRs ?_
 refine xMv rfl ?_
 refine xLt rfl ?_
 refine oNl ?_
 refine cIf h rfl (fun q11 h => ?_) (fun q11 h => ?_)
 refine cRs ?_
 refine xAs rfl ?_
 refine oNl ?_
 refine cRt ?_
 exact eXr h rfl
 refine cSk ?_
 refine cRg ?_
 refine xMv rfl ?_
 refine xAdd rfl ?_
 refine xAs rfl ?_
 refine oNl ?_
 exact eL h rfl
 refine cEx ?_
 exact eX h rfl
 rcases q with v4_4 | ⟨v1_5, v5_6, v15_7⟩
 cases h
 exact eR rfl rfl rfl rfl
 refine cRs ?_
 refine xMv rfl ?_
 refine xAs rfl ?_
 refine oNl ?_
 refine cRt ?_
 cases h
 exact eR rfl rfl rfl rfl
abbrev B_spec_l1In (p : Int → Int → Int → Option (Bool)) : Prop := ∀ {t0_0 t1_0 t2_0 : Int} {r : Bool}, p t0_0 t1_0 t2_0 = some r → Big Try.prog τ An (.fn 69 [.one (.c (.int .i64 t0_0)), .one (.c (.int .i64 t1_0)), .one (.c (.int .i64 t2_0))] [] (.one (.c (.bool r))) none [] none)
def p_spec_l1In (n : Nat) (t0_0 : Int) (t1_0 : Int) (t2_0 : Int) : Option (Bool) :=
  (bif decide (t1_0 ≤ t0_0) then some (decide (t0_0 ≤ t2_0)) else some false).bind fun v6_1 => some v6_1
theorem big_spec_l1In {n : Nat} : B_spec_l1In (p_spec_l1In n) := by
 intro t0_0 t1_0 t2_0 r h
 unfold p_spec_l1In at h
 refine bF Try.func69 rfl rfl ?_
 refine cRs ?_
 refine xAs rfl ?_
 refine oRs ?_
 refine oJn h [(6, 14)] [] (fun v6_1 => (.n, [(6, Bo v6_1)], [])) (fun _ h => ?_) (fun v6_1 h => ?_)
 refine xMv rfl ?_
 refine xMv rfl ?_
 refine xGe rfl ?_
 refine xMv rfl ?_
 refine oIf 10 h rfl (fun q2 h => ?_) (fun q2 h => ?_)
 refine xMv rfl ?_
 refine xMv rfl ?_
 refine xLe rfl ?_
 refine xPk rfl ?_
 refine xAs rfl ?_
 refine oNl ?_
 exact eJ h rfl
 refine wSk rfl ?_
 refine wSk rfl ?_
 refine wSk rfl ?_
 refine xPk rfl ?_
 refine xAs rfl ?_
 refine oNl ?_
 exact eJ h rfl
 refine cRt ?_
 cases h
 exact eR rfl rfl rfl rfl
abbrev B_spec_AtomOk (p : (List UInt8) → Option (Bool)) : Prop := ∀ {t0_0 : List UInt8} {r : Bool}, p t0_0 = some r → Big Try.prog τ An (.fn 194 [.one (.c (.str t0_0))] [] (.one (.c (.bool r))) none [] none)
def p_spec_AtomOk_b1 (n : Nat) (t0_0 : List UInt8) : (Int) → Option ((Int) ⊕ ((Bool) ⊕ (Int × Bool)))
  | v3_1 => bif decide (v3_1 < (t0_0.length : Int)) then (ixs t0_0 v3_1).bind fun e14_6 => (p_spec_l1In n (IntKind.wrap .i64 e14_6) (97 : Int) (122 : Int)).bind fun c17_7 => (bif !c17_7 then bif decide (v3_1 = (0 : Int)) then some true else (p_spec_l1In n (IntKind.wrap .i64 e14_6) (48 : Int) (57 : Int)).bind fun c25_11 => bif !c25_11 then some (!decide ((IntKind.wrap .i64 e14_6) = (95 : Int))) else some false else some false).bind fun v32_8 => bif v32_8 then some (.inr (.inl false)) else some (.inl (IntKind.wrap .i64 (v3_1 + (1 : Int)))) else some (.inr (.inr (v3_1, false)))
def p_spec_AtomOk (n : Nat) (t0_0 : List UInt8) : Option (Bool) :=
  (loopN (p_spec_AtomOk_b1 n t0_0) n (0 : Int)).bind fun q => (match q with | .inl v2_2 => some v2_2 | .inr (v3_3, v9_4) => (p_spec_l1In n (t0_0.length : Int) (1 : Int) (20 : Int)).bind fun c35_14 => some c35_14)
theorem big_spec_AtomOk {n : Nat} : B_spec_AtomOk (p_spec_AtomOk n) := by
 intro t0_0 r h
 unfold p_spec_AtomOk at h
 refine bF Try.func194 rfl rfl ?_
 refine cRs ?_
 refine xAs rfl ?_
 refine oNl ?_
 refine cSq ?_
 refine cRs ?_
 refine xAs rfl ?_
 refine oNl ?_
 refine cLp h [(2, 32)] [] (fun v3_1 => ([(3, I64 v3_1)], [])) (fun q => match q with | .inl v2_2 => (.r, [(2, Bo v2_2)], []) | .inr (v3_3, v9_4) => (.e 0, [(3, I64 v3_3), (9, Bo v9_4)], [])) rfl (fun v3_1 _ h => ?_) (fun q h => ?_)
 unfold p_spec_AtomOk_b1 at h
 refine cSq ?_
 refine cRs ?_
 refine xMv rfl ?_
 refine xMv rfl ?_
 refine xLs rfl ?_
 refine xLt rfl ?_
 refine oNl ?_
 refine cIf h rfl (fun q5 h => ?_) (fun q5 h => ?_)
 refine cSk ?_
 refine cSq ?_
 refine cBk ?_
 refine cRs ?_
 refine xMv rfl ?_
 refine xMv rfl ?_
 refine wIxs h rfl rfl rfl rfl rfl (fun e14_6 h => ?_)
 refine wCv rfl rfl rfl rfl rfl ?_
 refine xAs rfl ?_
 refine oRs ?_
 refine xMv rfl ?_
 refine xC0 h (big_spec_l1In ·) rfl (fun c17_7 h => ?_)
 refine xAs rfl ?_
 refine oRs ?_
 refine oJn h [(18, 32)] [] (fun v32_8 => (.n, [(32, Bo v32_8)], [])) (fun _ h => ?_) (fun v32_8 h => ?_)
 refine xMv rfl ?_
 refine xNot rfl ?_
 refine xMv rfl ?_
 refine oIf 20 h rfl (fun q9 h => ?_) (fun q9 h => ?_)
 refine xMv rfl ?_
 refine xEq rfl ?_
 refine xMv rfl ?_
 refine oIf 23 h rfl (fun q10 h => ?_) (fun q10 h => ?_)
 refine wSk rfl ?_
 refine wSk rfl ?_
 refine wSk rfl ?_
 refine wSk rfl ?_
 refine wSk rfl ?_
 refine wSk rfl ?_
 refine wSk rfl ?_
 refine xPk rfl ?_
 refine xPk rfl ?_
 refine oNl ?_
 exact eJ h rfl
 refine xMv rfl ?_
 refine xC0 h (big_spec_l1In ·) rfl (fun c25_11 h => ?_)
 refine xNot rfl ?_
 refine xMv rfl ?_
 refine oIf 27 h rfl (fun q12 h => ?_) (fun q12 h => ?_)
 refine xMv rfl ?_
 refine xNe rfl ?_
 refine xPk rfl ?_
 refine xPk rfl ?_
 refine xPk rfl ?_
 refine oNl ?_
 exact eJ h rfl
 refine wSk rfl ?_
 refine wSk rfl ?_
 refine xPk rfl ?_
 refine xPk rfl ?_
 refine xPk rfl ?_
 refine oNl ?_
 exact eJ h rfl
 refine wSk rfl ?_
 refine wSk rfl ?_
 refine wSk rfl ?_
 refine wSk rfl ?_
 refine wSk rfl ?_
 refine wSk rfl ?_
 refine wSk rfl ?_
 refine wSk rfl ?_
 refine wSk rfl ?_
 refine wSk rfl ?_
 refine wSk rfl ?_
 refine xPk rfl ?_
 refine oNl ?_
 exact eJ h rfl
 refine cIf h rfl (fun q13 h => ?_) (fun q13 h => ?_)
 refine cRs ?_
 refine xAs rfl ?_
 refine oNl ?_
 refine cRt ?_
 exact eXr h rfl
 refine cSk ?_
 refine cRg ?_
 refine xMv rfl ?_
 refine xAdd rfl ?_
 refine xAs rfl ?_
 refine oNl ?_
 exact eL h rfl
 refine cEx ?_
 exact eX h rfl
 rcases q with v2_2 | ⟨v3_3, v9_4⟩
 cases h
 exact eR rfl rfl rfl rfl
 refine cRs ?_
 refine xMv rfl ?_
 refine xLs rfl ?_
 refine xC0 h (big_spec_l1In ·) rfl (fun c35_14 h => ?_)
 refine xAs rfl ?_
 refine oNl ?_
 refine cRt ?_
 cases h
 exact eR rfl rfl rfl rfl
abbrev B_spec_l2Shape (p : Int → Int → (List UInt8) → (List S_impl_Term) → Option (Bool)) : Prop := ∀ {t0_0 t0_1 : Int} {t0_2 : List UInt8} {t0_3 : List S_impl_Term} {r : Bool}, p t0_0 t0_1 t0_2 t0_3 = some r → Big Try.prog τ An (.fn 233 [.one (.ag [.int .i64 t0_0, .int .i64 t0_1, .str t0_2, .sl (t0_3.map rS_impl_Term)])] [] (.one (.c (.bool r))) none [] none)
def p_spec_l2Shape (n : Nat) (t0_0 : Int) (t0_1 : Int) (t0_2 : List UInt8) (t0_3 : List S_impl_Term) : Option (Bool) :=
  bif decide (t0_0 = (1 : Int)) then ((p_spec_l1In n t0_1 ((-1000000000000) : Int) (1000000000000 : Int)).bind fun c9_3 => bif c9_3 then bif decide (t0_2 = ([] : List UInt8)) then some (decide ((t0_3.length : Int) = (0 : Int))) else some false else some false).bind fun v2_2 => some v2_2 else bif decide (t0_0 = (2 : Int)) then ((p_spec_AtomOk n t0_2).bind fun c25_8 => bif c25_8 then bif decide (t0_1 = (0 : Int)) then some (decide ((t0_3.length : Int) = (0 : Int))) else some false else some false).bind fun v2_7 => some v2_7 else bif decide (t0_0 = (3 : Int)) then ((p_spec_l1In n t0_1 (0 : Int) (1000000 : Int)).bind fun c41_13 => bif c41_13 then bif decide (t0_2 = ([] : List UInt8)) then some (decide ((t0_3.length : Int) = (0 : Int))) else some false else some false).bind fun v2_12 => some v2_12 else bif decide (t0_0 = (4 : Int)) then (bif decide (t0_1 = (0 : Int)) then bif decide (t0_2 = ([] : List UInt8)) then some (decide ((t0_3.length : Int) ≤ (20 : Int))) else some false else some false).bind fun v2_17 => some v2_17 else bif decide (t0_0 = (5 : Int)) then (bif decide (t0_1 = (0 : Int)) then bif decide (t0_2 = ([] : List UInt8)) then some (decide ((t0_3.length : Int) ≤ (60 : Int))) else some false else some false).bind fun v2_21 => some v2_21 else some false
theorem big_spec_l2Shape {n : Nat} : B_spec_l2Shape (p_spec_l2Shape n) := by
 intro t0_0 t0_1 t0_2 t0_3 r h
 unfold p_spec_l2Shape at h
 refine bF Try.func233 rfl rfl ?_
 refine cRs ?_
 refine xBx rfl ?_
 refine xAs rfl ?_
 refine oNl ?_
 refine cSq ?_
 refine cRs ?_
 refine xFd rfl ?_
 refine xLd rfl ?_
 refine oNl ?_
 refine cBk ?_
 refine cRs ?_
 refine xEq rfl ?_
 refine xAs rfl ?_
 refine oNl ?_
 refine cIf h rfl (fun q1 h => ?_) (fun q1 h => ?_)
 refine cRs ?_
 refine oJn h [(2, 2), (7, 20)] [] (fun v2_2 => (.n, [(2, Bo v2_2)], [])) (fun _ h => ?_) (fun v2_2 h => ?_)
 refine xFd rfl ?_
 refine xLd rfl ?_
 refine xC0 h (big_spec_l1In ·) rfl (fun c9_3 h => ?_)
 refine xMv rfl ?_
 refine oIf 10 h rfl (fun q4 h => ?_) (fun q4 h => ?_)
 refine xFd rfl ?_
 refine xLd rfl ?_
 refine xEs rfl ?_
 refine xPk rfl ?_
 refine xMv rfl ?_
 refine oIf 15 h rfl (fun q5 h => ?_) (fun q5 h => ?_)
 refine xFd rfl ?_
 refine xLd rfl ?_
 refine xLn rfl ?_
 refine xEq rfl ?_
 refine xPk rfl ?_
 refine xAs rfl ?_
 refine oNl ?_
 exact eJ h rfl
 refine wSk rfl ?_
 refine wSk rfl ?_
 refine wSk rfl ?_
 refine wSk rfl ?_
 refine xPk rfl ?_
 refine xAs rfl ?_
 refine oNl ?_
 exact eJ h rfl
 refine wSk rfl ?_
 refine wSk rfl ?_
 refine wSk rfl ?_
 refine xPk rfl ?_
 refine xMv rfl ?_
 refine wSk rfl ?_
 refine wSk rfl ?_
 refine wSk rfl ?_
 refine wSk rfl ?_
 refine xPk rfl ?_
 refine xAs rfl ?_
 refine oNl ?_
 exact eJ h rfl
 refine cRt ?_
 cases h
 exact eR rfl rfl rfl rfl
 refine cRs ?_
 refine xEq rfl ?_
 refine xAs rfl ?_
 refine oNl ?_
 refine cIf h rfl (fun q6 h => ?_) (fun q6 h => ?_)
 refine cRs ?_
 refine oJn h [(2, 2), (23, 36)] [] (fun v2_7 => (.n, [(2, Bo v2_7)], [])) (fun _ h => ?_) (fun v2_7 h => ?_)
 refine xFd rfl ?_
 refine xLd rfl ?_
 refine xC0 h (big_spec_AtomOk ·) rfl (fun c25_8 h => ?_)
 refine xMv rfl ?_
 refine oIf 26 h rfl (fun q9 h => ?_) (fun q9 h => ?_)
 refine xFd rfl ?_
 refine xLd rfl ?_
 refine xEq rfl ?_
 refine xPk rfl ?_
 refine xMv rfl ?_
 refine oIf 31 h rfl (fun q10 h => ?_) (fun q10 h => ?_)
 refine xFd rfl ?_
 refine xLd rfl ?_
 refine xLn rfl ?_
 refine xEq rfl ?_
 refine xPk rfl ?_
 refine xAs rfl ?_
 refine oNl ?_
 exact eJ h rfl
 refine wSk rfl ?_
 refine wSk rfl ?_
 refine wSk rfl ?_
 refine wSk rfl ?_
 refine xPk rfl ?_
 refine xAs rfl ?_
 refine oNl ?_
 exact eJ h rfl
 refine wSk rfl ?_
 refine wSk rfl ?_
 refine wSk rfl ?_
 refine xPk rfl ?_
 refine xMv rfl ?_
 refine wSk rfl ?_
 refine wSk rfl ?_
 refine wSk rfl ?_
 refine wSk rfl ?_
 refine xPk rfl ?_
 refine xAs rfl ?_
 refine oNl ?_
 exact eJ h rfl
 refine cRt ?_
 cases h
 exact eR rfl rfl rfl rfl
 refine cRs ?_
 refine xEq rfl ?_
 refine xAs rfl ?_
 refine oNl ?_
 refine cIf h rfl (fun q11 h => ?_) (fun q11 h => ?_)
 refine cRs ?_
 refine oJn h [(2, 2), (39, 52)] [] (fun v2_12 => (.n, [(2, Bo v2_12)], [])) (fun _ h => ?_) (fun v2_12 h => ?_)
 refine xFd rfl ?_
 refine xLd rfl ?_
 refine xC0 h (big_spec_l1In ·) rfl (fun c41_13 h => ?_)
 refine xMv rfl ?_
 refine oIf 42 h rfl (fun q14 h => ?_) (fun q14 h => ?_)
 refine xFd rfl ?_
 refine xLd rfl ?_
 refine xEs rfl ?_
 refine xPk rfl ?_
 refine xMv rfl ?_
 refine oIf 47 h rfl (fun q15 h => ?_) (fun q15 h => ?_)
 refine xFd rfl ?_
 refine xLd rfl ?_
 refine xLn rfl ?_
 refine xEq rfl ?_
 refine xPk rfl ?_
 refine xAs rfl ?_
 refine oNl ?_
 exact eJ h rfl
 refine wSk rfl ?_
 refine wSk rfl ?_
 refine wSk rfl ?_
 refine wSk rfl ?_
 refine xPk rfl ?_
 refine xAs rfl ?_
 refine oNl ?_
 exact eJ h rfl
 refine wSk rfl ?_
 refine wSk rfl ?_
 refine wSk rfl ?_
 refine xPk rfl ?_
 refine xMv rfl ?_
 refine wSk rfl ?_
 refine wSk rfl ?_
 refine wSk rfl ?_
 refine wSk rfl ?_
 refine xPk rfl ?_
 refine xAs rfl ?_
 refine oNl ?_
 exact eJ h rfl
 refine cRt ?_
 cases h
 exact eR rfl rfl rfl rfl
 refine cRs ?_
 refine xEq rfl ?_
 refine xAs rfl ?_
 refine oNl ?_
 refine cIf h rfl (fun q16 h => ?_) (fun q16 h => ?_)
 refine cRs ?_
 refine oJn h [(2, 2), (55, 68)] [] (fun v2_17 => (.n, [(2, Bo v2_17)], [])) (fun _ h => ?_) (fun v2_17 h => ?_)
 refine xFd rfl ?_
 refine xLd rfl ?_
 refine xEq rfl ?_
 refine xMv rfl ?_
 refine oIf 58 h rfl (fun q18 h => ?_) (fun q18 h => ?_)
 refine xFd rfl ?_
 refine xLd rfl ?_
 refine xEs rfl ?_
 refine xPk rfl ?_
 refine xMv rfl ?_
 refine oIf 63 h rfl (fun q19 h => ?_) (fun q19 h => ?_)
 refine xFd rfl ?_
 refine xLd rfl ?_
 refine xLn rfl ?_
 refine xLe rfl ?_
 refine xPk rfl ?_
 refine xAs rfl ?_
 refine oNl ?_
 exact eJ h rfl
 refine wSk rfl ?_
 refine wSk rfl ?_
 refine wSk rfl ?_
 refine wSk rfl ?_
 refine xPk rfl ?_
 refine xAs rfl ?_
 refine oNl ?_
 exact eJ h rfl
 refine wSk rfl ?_
 refine wSk rfl ?_
 refine wSk rfl ?_
 refine xPk rfl ?_
 refine xMv rfl ?_
 refine wSk rfl ?_
 refine wSk rfl ?_
 refine wSk rfl ?_
 refine wSk rfl ?_
 refine xPk rfl ?_
 refine xAs rfl ?_
 refine oNl ?_
 exact eJ h rfl
 refine cRt ?_
 cases h
 exact eR rfl rfl rfl rfl
 refine cRs ?_
 refine xEq rfl ?_
 refine xAs rfl ?_
 refine oNl ?_
 refine cIf h rfl (fun q20 h => ?_) (fun q20 h => ?_)
 refine cRs ?_
 refine oJn h [(2, 2), (71, 84)] [] (fun v2_21 => (.n, [(2, Bo v2_21)], [])) (fun _ h => ?_) (fun v2_21 h => ?_)
 refine xFd rfl ?_
 refine xLd rfl ?_
 refine xEq rfl ?_
 refine xMv rfl ?_
 refine oIf 74 h rfl (fun q22 h => ?_) (fun q22 h => ?_)
 refine xFd rfl ?_
 refine xLd rfl ?_
 refine xEs rfl ?_
 refine xPk rfl ?_
 refine xMv rfl ?_
 refine oIf 79 h rfl (fun q23 h => ?_) (fun q23 h => ?_)
 refine xFd rfl ?_
 refine xLd rfl ?_
 refine xLn rfl ?_
 refine xLe rfl ?_
 refine xPk rfl ?_
 refine xAs rfl ?_
 refine oNl ?_
 exact eJ h rfl
 refine wSk rfl ?_
 refine wSk rfl ?_
 refine wSk rfl ?_
 refine wSk rfl ?_
 refine xPk rfl ?_
 refine xAs rfl ?_
 refine oNl ?_
 exact eJ h rfl
 refine wSk rfl ?_
 refine wSk rfl ?_
 refine wSk rfl ?_
 refine xPk rfl ?_
 refine xMv rfl ?_
 refine wSk rfl ?_
 refine wSk rfl ?_
 refine wSk rfl ?_
 refine wSk rfl ?_
 refine xPk rfl ?_
 refine xAs rfl ?_
 refine oNl ?_
 exact eJ h rfl
 refine cRt ?_
 cases h
 exact eR rfl rfl rfl rfl
 refine cSk ?_
 refine cRs ?_
 refine xAs rfl ?_
 refine oNl ?_
 refine cRt ?_
 cases h
 exact eR rfl rfl rfl rfl
abbrev B_spec_l2Look (p : Int → Int → (List UInt8) → (List S_impl_Term) → Int → Int → Option (Int)) : Prop := ∀ {t0_0 t0_1 : Int} {t0_2 : List UInt8} {t0_3 : List S_impl_Term} {t1_0 t2_0 : Int} {r : Int}, p t0_0 t0_1 t0_2 t0_3 t1_0 t2_0 = some r → Big Try.prog τ An (.fn 185 [.one (.ag [.int .i64 t0_0, .int .i64 t0_1, .str t0_2, .sl (t0_3.map rS_impl_Term)]), .one (.c (.int .i64 t1_0)), .one (.c (.int .i64 t2_0))] [] (.one (.c (.int .i64 r))) none [] none)
def p_spec_l2Look_b1 (n : Nat) (r_spec_l2Look : Int → Int → (List UInt8) → (List S_impl_Term) → Int → Int → Option (Int)) (t1_0 : Int) (t0_3 : List S_impl_Term) : (Int × Int) → Option ((Int × Int) ⊕ ((Int × Int × Bool)))
  | (v2_6, v7_7) => (bif decide (v7_7 < (t0_3.length : Int)) then some (decide ((0 : Int) ≤ v2_6)) else some false).bind fun v29_11 => bif v29_11 then (ix t0_3 v7_7).bind fun e35_14 => (r_spec_l2Look e35_14.f0 e35_14.f1 e35_14.f2 e35_14.f3 (IntKind.wrap .i64 (t1_0 - (1 : Int))) v2_6).bind fun c40_15 => some (.inl (c40_15, (IntKind.wrap .i64 (v7_7 + (1 : Int))))) else some (.inr (v2_6, v7_7, false))
def s_spec_l2Look (n : Nat) (r_spec_l2Look : Int → Int → (List UInt8) → (List S_impl_Term) → Int → Int → Option (Int)) (t0_0 : Int) (t0_1 : Int) (t0_2 : List UInt8) (t0_3 : List S_impl_Term) (t1_0 : Int) (t2_0 : Int) : Option (Int) :=
  (bif decide (t1_0 < (1 : Int)) then some true else bif decide (t2_0 < (1 : Int)) then some true else (p_spec_l2Shape n t0_0 t0_1 t0_2 t0_3).bind fun c16_4 => some (!c16_4)).bind fun v18_1 => bif v18_1 then some ((-1) : Int) else (loopN (p_spec_l2Look_b1 n r_spec_l2Look t1_0 t0_3) n ((IntKind.wrap .i64 (t2_0 - (1 : Int))), (0 : Int))).bind fun (v2_8, v7_9, v29_10) => some v2_8
theorem step_spec_l2Look {n : Nat} {r_spec_l2Look : Int → Int → (List UInt8) → (List S_impl_Term) → Int → Int → Option (Int)} (ih_spec_l2Look : B_spec_l2Look r_spec_l2Look) : B_spec_l2Look (s_spec_l2Look n r_spec_l2Look) := by
 intro t0_0 t0_1 t0_2 t0_3 t1_0 t2_0 r h
 unfold s_spec_l2Look at h
 refine bF Try.func185 rfl rfl ?_
 refine cRs ?_
 refine xBx rfl ?_
 refine xAs rfl ?_
 refine oNl ?_
 refine cSq ?_
 refine cRs ?_
 refine oJn h [(8, 18)] [] (fun v18_1 => (.n, [(18, Bo v18_1)], [])) (fun _ h => ?_) (fun v18_1 h => ?_)
 refine xMv rfl ?_
 refine xLt rfl ?_
 refine xMv rfl ?_
 refine oIf 10 h rfl (fun q2 h => ?_) (fun q2 h => ?_)
 refine wSk rfl ?_
 refine wSk rfl ?_
 refine xPk rfl ?_
 refine xMv rfl ?_
 refine wSk rfl ?_
 refine wSk rfl ?_
 refine wSk rfl ?_
 refine xPk rfl ?_
 refine oNl ?_
 exact eJ h rfl
 refine xMv rfl ?_
 refine xLt rfl ?_
 refine xPk rfl ?_
 refine xMv rfl ?_
 refine oIf 14 h rfl (fun q3 h => ?_) (fun q3 h => ?_)
 refine wSk rfl ?_
 refine wSk rfl ?_
 refine wSk rfl ?_
 refine xPk rfl ?_
 refine oNl ?_
 exact eJ h rfl
 refine xLd rfl ?_
 refine xC0 h (big_spec_l2Shape ·) rfl (fun c16_4 h => ?_)
 refine xNot rfl ?_
 refine xPk rfl ?_
 refine oNl ?_
 exact eJ h rfl
 refine cIf h rfl (fun q5 h => ?_) (fun q5 h => ?_)
 refine cRs ?_
 refine xAs rfl ?_
 refine oNl ?_
 refine cRt ?_
 cases h
 exact eR rfl rfl rfl rfl
 refine cSk ?_
 refine cRs ?_
 refine xMv rfl ?_
 refine xSub rfl ?_
 refine xAs rfl ?_
 refine oNl ?_
 refine cSq ?_
 refine cRs ?_
 refine xAs rfl ?_
 refine oNl ?_
 refine cLp h [(2, 2), (7, 7), (21, 40)] [] (fun (v2_6, v7_7) => ([(2, I64 v2_6), (7, I64 v7_7)], [])) (fun (v2_8, v7_9, v29_10) => (.e 0, [(2, I64 v2_8), (7, I64 v7_9), (29, Bo v29_10)], [])) rfl (fun st _ h => ?_) (fun q h => ?_)
 obtain ⟨v2_6, v7_7⟩ := st
 unfold p_spec_l2Look_b1 at h
 refine cSq ?_
 refine cRs ?_
 refine oJn h [(21, 29)] [] (fun v29_11 => (.n, [(29, Bo v29_11)], [])) (fun _ h => ?_) (fun v29_11 h => ?_)
 refine xMv rfl ?_
 refine xFd rfl ?_
 refine xLd rfl ?_
 refine xLn rfl ?_
 refine xLt rfl ?_
 refine xMv rfl ?_
 refine oIf 26 h rfl (fun q12 h => ?_) (fun q12 h => ?_)
 refine xMv rfl ?_
 refine xGe rfl ?_
 refine xPk rfl ?_
 refine oNl ?_
 exact eJ h rfl
 refine wSk rfl ?_
 refine wSk rfl ?_
 refine xPk rfl ?_
 refine oNl ?_
 exact eJ h rfl
 refine cIf h rfl (fun q13 h => ?_) (fun q13 h => ?_)
 refine cSk ?_
 refine cSq ?_
 refine cBk ?_
 refine cRg ?_
 refine xFd rfl ?_
 refine xLd rfl ?_
 refine xMv rfl ?_
 refine xIx h rS_impl_Term_eq rfl (fun e35_14 h => ?_)
 refine xLd rfl ?_
 refine xMv rfl ?_
 refine xSub rfl ?_
 refine xMv rfl ?_
 refine xC0 h (ih_spec_l2Look ·) rfl (fun c40_15 h => ?_)
 refine xAs rfl ?_
 refine oNl ?_
 refine cRg ?_
 refine xMv rfl ?_
 refine xAdd rfl ?_
 refine xAs rfl ?_
 refine oNl ?_
 exact eL h rfl
 refine cEx ?_
 exact eX h rfl
 obtain ⟨v2_8, v7_9, v29_10⟩ := q
 refine cRs ?_
 refine xMv rfl ?_
 refine xAs rfl ?_
 refine oNl ?_
 refine cRt ?_
 cases h
 exact eR rfl rfl rfl rfl
def q_spec_l2Look : Nat → (Int → Int → (List UInt8) → (List S_impl_Term) → Int → Int → Option (Int))
  | 0 => (fun _ _ _ _ _ _ => none)
  | n + 1 => s_spec_l2Look n (q_spec_l2Look n)
def p_spec_l2Look (n : Nat) : Int → Int → (List UInt8) → (List S_impl_Term) → Int → Int → Option (Int) := q_spec_l2Look n
theorem bigs_spec_l2Look (n : Nat) : B_spec_l2Look (p_spec_l2Look n) := by
  induction n with
  | zero => exact (fun h => nomatch h)
  | succ n ih => exact step_spec_l2Look (n := n) ih
theorem big_spec_l2Look {n : Nat} : B_spec_l2Look (p_spec_l2Look n) := (bigs_spec_l2Look n)
theorem p_spec_l2Look_succ (n : Nat) : p_spec_l2Look (n + 1) = s_spec_l2Look n (p_spec_l2Look n) := rfl
abbrev B_spec_TermOk (p : Int → Int → (List UInt8) → (List S_impl_Term) → Option (Bool)) : Prop := ∀ {t0_0 t0_1 : Int} {t0_2 : List UInt8} {t0_3 : List S_impl_Term} {r : Bool}, p t0_0 t0_1 t0_2 t0_3 = some r → Big Try.prog τ An (.fn 108 [.one (.ag [.int .i64 t0_0, .int .i64 t0_1, .str t0_2, .sl (t0_3.map rS_impl_Term)])] [] (.one (.c (.bool r))) none [] none)
def p_spec_TermOk (n : Nat) (t0_0 : Int) (t0_1 : Int) (t0_2 : List UInt8) (t0_3 : List S_impl_Term) : Option (Bool) :=
  (p_spec_l2Look n t0_0 t0_1 t0_2 t0_3 (8 : Int) (300 : Int)).bind fun c4_1 => some (decide ((0 : Int) ≤ c4_1))
theorem big_spec_TermOk {n : Nat} : B_spec_TermOk (p_spec_TermOk n) := by
 intro t0_0 t0_1 t0_2 t0_3 r h
 unfold p_spec_TermOk at h
 refine bF Try.func108 rfl rfl ?_
 refine cRs ?_
 refine xBx rfl ?_
 refine xAs rfl ?_
 refine oRs ?_
 refine xLd rfl ?_
 refine xC0 h (big_spec_l2Look ·) rfl (fun c4_1 h => ?_)
 refine xGe rfl ?_
 refine xAs rfl ?_
 refine oNl ?_
 refine cRt ?_
 cases h
 exact eR rfl rfl rfl rfl
abbrev B_spec_l10Zero (p : Int → Int → (List UInt8) → (List S_impl_Term) → Option (Bool)) : Prop := ∀ {t0_0 t0_1 : Int} {t0_2 : List UInt8} {t0_3 : List S_impl_Term} {r : Bool}, p t0_0 t0_1 t0_2 t0_3 = some r → Big Try.prog τ An (.fn 210 [.one (.ag [.int .i64 t0_0, .int .i64 t0_1, .str t0_2, .sl (t0_3.map rS_impl_Term)])] [] (.one (.c (.bool r))) none [] none)
def p_spec_l10Zero (n : Nat) (t0_0 : Int) (t0_1 : Int) (t0_2 : List UInt8) (t0_3 : List S_impl_Term) : Option (Bool) :=
  (bif decide (t0_0 = (0 : Int)) then bif decide (t0_1 = (0 : Int)) then bif decide (t0_2 = ([] : List UInt8)) then some (decide ((t0_3.length : Int) = (0 : Int))) else some false else some false else some false).bind fun v2_1 => some v2_1
theorem big_spec_l10Zero {n : Nat} : B_spec_l10Zero (p_spec_l10Zero n) := by
 intro t0_0 t0_1 t0_2 t0_3 r h
 unfold p_spec_l10Zero at h
 refine bF Try.func210 rfl rfl ?_
 refine cRs ?_
 refine xBx rfl ?_
 refine xAs rfl ?_
 refine oRs ?_
 refine oJn h [(2, 21)] [] (fun v2_1 => (.n, [(2, Bo v2_1)], [])) (fun _ h => ?_) (fun v2_1 h => ?_)
 refine xFd rfl ?_
 refine xLd rfl ?_
 refine xEq rfl ?_
 refine xMv rfl ?_
 refine oIf 6 h rfl (fun q2 h => ?_) (fun q2 h => ?_)
 refine xFd rfl ?_
 refine xLd rfl ?_
 refine xEq rfl ?_
 refine xPk rfl ?_
 refine xMv rfl ?_
 refine oIf 11 h rfl (fun q3 h => ?_) (fun q3 h => ?_)
 refine xFd rfl ?_
 refine xLd rfl ?_
 refine xEs rfl ?_
 refine xPk rfl ?_
 refine xMv rfl ?_
 refine oIf 16 h rfl (fun q4 h => ?_) (fun q4 h => ?_)
 refine xFd rfl ?_
 refine xLd rfl ?_
 refine xLn rfl ?_
 refine xEq rfl ?_
 refine xPk rfl ?_
 refine xAs rfl ?_
 refine oNl ?_
 exact eJ h rfl
 refine wSk rfl ?_
 refine wSk rfl ?_
 refine wSk rfl ?_
 refine wSk rfl ?_
 refine xPk rfl ?_
 refine xAs rfl ?_
 refine oNl ?_
 exact eJ h rfl
 refine wSk rfl ?_
 refine wSk rfl ?_
 refine wSk rfl ?_
 refine xPk rfl ?_
 refine xMv rfl ?_
 refine wSk rfl ?_
 refine wSk rfl ?_
 refine wSk rfl ?_
 refine wSk rfl ?_
 refine xPk rfl ?_
 refine xAs rfl ?_
 refine oNl ?_
 exact eJ h rfl
 refine wSk rfl ?_
 refine wSk rfl ?_
 refine wSk rfl ?_
 refine xPk rfl ?_
 refine xMv rfl ?_
 refine wSk rfl ?_
 refine wSk rfl ?_
 refine wSk rfl ?_
 refine xPk rfl ?_
 refine xMv rfl ?_
 refine wSk rfl ?_
 refine wSk rfl ?_
 refine wSk rfl ?_
 refine wSk rfl ?_
 refine xPk rfl ?_
 refine xAs rfl ?_
 refine oNl ?_
 exact eJ h rfl
 refine cRt ?_
 cases h
 exact eR rfl rfl rfl rfl
abbrev B_spec_l14Kid (p : (List UInt8) → (List UInt8) → Int → Int → (List UInt8) → (List S_impl_Term) → Int → Option (Bool)) : Prop := ∀ {t0_0 t0_1 : List UInt8} {t0_2 t0_3 : Int} {t0_4 : List UInt8} {t0_5 : List S_impl_Term} {t0_6 : Int} {r : Bool}, p t0_0 t0_1 t0_2 t0_3 t0_4 t0_5 t0_6 = some r → Big Try.prog τ An (.fn 151 [.one (.ag [.str t0_0, .str t0_1, .int .i64 t0_2, .int .i64 t0_3, .str t0_4, .sl (t0_5.map rS_impl_Term), .int .i64 t0_6])] [] (.one (.c (.bool r))) none [] none)
def p_spec_l14Kid (n : Nat) (t0_0 : List UInt8) (t0_1 : List UInt8) (t0_2 : Int) (t0_3 : Int) (t0_4 : List UInt8) (t0_5 : List S_impl_Term) (t0_6 : Int) : Option (Bool) :=
  bif decide ((0 : Int) ≤ t0_6) then ((p_spec_AtomOk n t0_0).bind fun c8_3 => bif c8_3 then bif decide (t0_1 = ([] : List UInt8)) then (p_spec_l10Zero n t0_2 t0_3 t0_4 t0_5).bind fun c17_6 => some c17_6 else some false else some false).bind fun v2_2 => some v2_2 else ((p_spec_AtomOk n t0_0).bind fun c21_8 => bif c21_8 then bif decide (t0_6 = ((-1) : Int)) then (p_spec_AtomOk n t0_1).bind fun c30_11 => bif c30_11 then (p_spec_TermOk n t0_2 t0_3 t0_4 t0_5).bind fun c35_13 => some c35_13 else some false else some false else some false).bind fun v2_7 => some v2_7
theorem big_spec_l14Kid {n : Nat} : B_spec_l14Kid (p_spec_l14Kid n) := by
 intro t0_0 t0_1 t0_2 t0_3 t0_4 t0_5 t0_6 r h
 unfold p_spec_l14Kid at h
 refine bF Try.func151 rfl rfl ?_
 refine cRs ?_
 refine xBx rfl ?_
 refine xAs rfl ?_
 refine oNl ?_
 refine cSq ?_
 refine cRs ?_
 refine xFd rfl ?_
 refine xLd rfl ?_
 refine xGe rfl ?_
 refine oNl ?_
 refine cIf h rfl (fun q1 h => ?_) (fun q1 h => ?_)
 refine cRs ?_
 refine oJn h [(2, 2), (6, 18)] [] (fun v2_2 => (.n, [(2, Bo v2_2)], [])) (fun _ h => ?_) (fun v2_2 h => ?_)
 refine xFd rfl ?_
 refine xLd rfl ?_
 refine xC0 h (big_spec_AtomOk ·) rfl (fun c8_3 h => ?_)
 refine xMv rfl ?_
 refine oIf 9 h rfl (fun q4 h => ?_) (fun q4 h => ?_)
 refine xFd rfl ?_
 refine xLd rfl ?_
 refine xEs rfl ?_
 refine xPk rfl ?_
 refine xMv rfl ?_
 refine oIf 14 h rfl (fun q5 h => ?_) (fun q5 h => ?_)
 refine xFd rfl ?_
 refine xLd rfl ?_
 refine xC0 h (big_spec_l10Zero ·) rfl (fun c17_6 h => ?_)
 refine xPk rfl ?_
 refine xAs rfl ?_
 refine oNl ?_
 exact eJ h rfl
 refine wSk rfl ?_
 refine wSk rfl ?_
 refine wSk rfl ?_
 refine xPk rfl ?_
 refine xAs rfl ?_
 refine oNl ?_
 exact eJ h rfl
 refine wSk rfl ?_
 refine wSk rfl ?_
 refine wSk rfl ?_
 refine xPk rfl ?_
 refine xMv rfl ?_
 refine wSk rfl ?_
 refine wSk rfl ?_
 refine wSk rfl ?_
 refine xPk rfl ?_
 refine xAs rfl ?_
 refine oNl ?_
 exact eJ h rfl
 refine cRt ?_
 cases h
 exact eR rfl rfl rfl rfl
 refine cSk ?_
 refine cRs ?_
 refine oJn h [(2, 2), (19, 36)] [] (fun v2_7 => (.n, [(2, Bo v2_7)], [])) (fun _ h => ?_) (fun v2_7 h => ?_)
 refine xFd rfl ?_
 refine xLd rfl ?_
 refine xC0 h (big_spec_AtomOk ·) rfl (fun c21_8 h => ?_)
 refine xMv rfl ?_
 refine oIf 22 h rfl (fun q9 h => ?_) (fun q9 h => ?_)
 refine xFd rfl ?_
 refine xLd rfl ?_
 refine xEq rfl ?_
 refine xPk rfl ?_
 refine xMv rfl ?_
 refine oIf 27 h rfl (fun q10 h => ?_) (fun q10 h => ?_)
 refine xFd rfl ?_
 refine xLd rfl ?_
 refine xC0 h (big_spec_AtomOk ·) rfl (fun c30_11 h => ?_)
 refine xPk rfl ?_
 refine xMv rfl ?_
 refine oIf 32 h rfl (fun q12 h => ?_) (fun q12 h => ?_)
 refine xFd rfl ?_
 refine xLd rfl ?_
 refine xC0 h (big_spec_TermOk ·) rfl (fun c35_13 h => ?_)
 refine xPk rfl ?_
 refine xAs rfl ?_
 refine oNl ?_
 exact eJ h rfl
 refine wSk rfl ?_
 refine wSk rfl ?_
 refine wSk rfl ?_
 refine xPk rfl ?_
 refine xAs rfl ?_
 refine oNl ?_
 exact eJ h rfl
 refine wSk rfl ?_
 refine wSk rfl ?_
 refine wSk rfl ?_
 refine xPk rfl ?_
 refine xMv rfl ?_
 refine wSk rfl ?_
 refine wSk rfl ?_
 refine wSk rfl ?_
 refine xPk rfl ?_
 refine xAs rfl ?_
 refine oNl ?_
 exact eJ h rfl
 refine wSk rfl ?_
 refine wSk rfl ?_
 refine wSk rfl ?_
 refine xPk rfl ?_
 refine xMv rfl ?_
 refine wSk rfl ?_
 refine wSk rfl ?_
 refine wSk rfl ?_
 refine xPk rfl ?_
 refine xMv rfl ?_
 refine wSk rfl ?_
 refine wSk rfl ?_
 refine wSk rfl ?_
 refine xPk rfl ?_
 refine xAs rfl ?_
 refine oNl ?_
 exact eJ h rfl
 refine cRt ?_
 cases h
 exact eR rfl rfl rfl rfl
abbrev B_spec_OverOk (p : Int → Int → Int → (List S_impl_Kid) → (List Int) → (List Int) → Bool → Option (Bool)) : Prop := ∀ {t0_0 t0_1 t0_2 : Int} {t0_3 : List S_impl_Kid} {t0_4 t0_5 : List Int} {t0_6 : Bool} {r : Bool}, p t0_0 t0_1 t0_2 t0_3 t0_4 t0_5 t0_6 = some r → Big Try.prog τ An (.fn 70 [.one (.ag [.int .i64 t0_0, .int .i64 t0_1, .int .i64 t0_2, .sl (t0_3.map rS_impl_Kid), .sl (t0_4.map rI_i64), .sl (t0_5.map rI_i64), .bool t0_6])] [] (.one (.c (.bool r))) none [] none)
def p_spec_OverOk_b1 (n : Nat) (t0_3 : List S_impl_Kid) (t0_4 : List Int) : (Int) → Option ((Int) ⊕ ((Bool) ⊕ (Int × Bool)))
  | v3_12 => bif decide (v3_12 < (t0_3.length : Int)) then ((ix t0_3 v3_12).bind fun e55_18 => (p_spec_l14Kid n e55_18.f0 e55_18.f1 e55_18.f2 e55_18.f3 e55_18.f4 e55_18.f5 e55_18.f6).bind fun c57_19 => bif !c57_19 then some true else (ix t0_4 v3_12).bind fun e63_21 => some (decide (e63_21 < (0 : Int)))).bind fun v66_17 => bif v66_17 then some (.inr (.inl false)) else some (.inl (IntKind.wrap .i64 (v3_12 + (1 : Int)))) else some (.inr (.inr (v3_12, false)))
def p_spec_OverOk_b2 (n : Nat) (t0_5 : List Int) : (Int) → Option ((Int) ⊕ ((Bool) ⊕ (Int × Bool)))
  | v4_23 => bif decide (v4_23 < (t0_5.length : Int)) then (ix t0_5 (IntKind.wrap .i64 (v4_23 - (1 : Int)))).bind fun e78_28 => (ix t0_5 v4_23).bind fun e83_29 => bif decide (e83_29 < e78_28) then some (.inr (.inl false)) else some (.inl (IntKind.wrap .i64 (v4_23 + (1 : Int)))) else some (.inr (.inr (v4_23, false)))
def p_spec_OverOk (n : Nat) (t0_0 : Int) (t0_1 : Int) (t0_2 : Int) (t0_3 : List S_impl_Kid) (t0_4 : List Int) (t0_5 : List Int) (t0_6 : Bool) : Option (Bool) :=
  ((p_spec_l1In n t0_0 (1 : Int) (3 : Int)).bind fun c7_2 => bif !c7_2 then some true else (p_spec_l1In n t0_1 (0 : Int) (20 : Int)).bind fun c12_4 => bif !c12_4 then some true else (p_spec_l1In n t0_2 (1 : Int) (1000 : Int)).bind fun c18_6 => bif !c18_6 then some true else (p_spec_l1In n (t0_3.length : Int) (1 : Int) (8 : Int)).bind fun c25_8 => bif !c25_8 then some true else bif !decide ((t0_4.length : Int) = (t0_3.length : Int)) then some true else some (decide (t0_1 < (t0_5.length : Int)))).bind fun v44_1 => bif v44_1 then some false else (loopN (p_spec_OverOk_b1 n t0_3 t0_4) n (0 : Int)).bind fun q => (match q with | .inl v2_13 => some v2_13 | .inr (v3_14, v49_15) => (loopN (p_spec_OverOk_b2 n t0_5) n (1 : Int)).bind fun q => (match q with | .inl v2_24 => some v2_24 | .inr (v4_25, v71_26) => some true))
theorem big_spec_OverOk {n : Nat} : B_spec_OverOk (p_spec_OverOk n) := by
 intro t0_0 t0_1 t0_2 t0_3 t0_4 t0_5 t0_6 r h
 unfold p_spec_OverOk at h
 refine bF Try.func70 rfl rfl ?_
 refine cRs ?_
 refine xBx rfl ?_
 refine xAs rfl ?_
 refine oNl ?_
 refine cSq ?_
 refine cRs ?_
 refine oJn h [(5, 44)] [] (fun v44_1 => (.n, [(44, Bo v44_1)], [])) (fun _ h => ?_) (fun v44_1 h => ?_)
 refine xFd rfl ?_
 refine xLd rfl ?_
 refine xC0 h (big_spec_l1In ·) rfl (fun c7_2 h => ?_)
 refine xNot rfl ?_
 refine xMv rfl ?_
 refine oIf 9 h rfl (fun q3 h => ?_) (fun q3 h => ?_)
 refine wSk rfl ?_
 refine wSk rfl ?_
 refine wSk rfl ?_
 refine wSk rfl ?_
 refine xPk rfl ?_
 refine xMv rfl ?_
 refine wSk rfl ?_
 refine wSk rfl ?_
 refine wSk rfl ?_
 refine wSk rfl ?_
 refine xPk rfl ?_
 refine xMv rfl ?_
 refine wSk rfl ?_
 refine wSk rfl ?_
 refine wSk rfl ?_
 refine wSk rfl ?_
 refine wSk rfl ?_
 refine xPk rfl ?_
 refine xMv rfl ?_
 refine wSk rfl ?_
 refine wSk rfl ?_
 refine wSk rfl ?_
 refine wSk rfl ?_
 refine wSk rfl ?_
 refine wSk rfl ?_
 refine wSk rfl ?_
 refine xPk rfl ?_
 refine xMv rfl ?_
 refine wSk rfl ?_
 refine wSk rfl ?_
 refine wSk rfl ?_
 refine wSk rfl ?_
 refine wSk rfl ?_
 refine wSk rfl ?_
 refine xPk rfl ?_
 refine oNl ?_
 exact eJ h rfl
 refine xFd rfl ?_
 refine xLd rfl ?_
 refine xC0 h (big_spec_l1In ·) rfl (fun c12_4 h => ?_)
 refine xNot rfl ?_
 refine xPk rfl ?_
 refine xMv rfl ?_
 refine oIf 15 h rfl (fun q5 h => ?_) (fun q5 h => ?_)
 refine wSk rfl ?_
 refine wSk rfl ?_
 refine wSk rfl ?_
 refine wSk rfl ?_
 refine xPk rfl ?_
 refine xMv rfl ?_
 refine wSk rfl ?_
 refine wSk rfl ?_
 refine wSk rfl ?_
 refine wSk rfl ?_
 refine wSk rfl ?_
 refine xPk rfl ?_
 refine xMv rfl ?_
 refine wSk rfl ?_
 refine wSk rfl ?_
 refine wSk rfl ?_
 refine wSk rfl ?_
 refine wSk rfl ?_
 refine wSk rfl ?_
 refine wSk rfl ?_
 refine xPk rfl ?_
 refine xMv rfl ?_
 refine wSk rfl ?_
 refine wSk rfl ?_
 refine wSk rfl ?_
 refine wSk rfl ?_
 refine wSk rfl ?_
 refine wSk rfl ?_
 refine xPk rfl ?_
 refine oNl ?_
 exact eJ h rfl
 refine xFd rfl ?_
 refine xLd rfl ?_
 refine xC0 h (big_spec_l1In ·) rfl (fun c18_6 h => ?_)
 refine xNot rfl ?_
 refine xPk rfl ?_
 refine xMv rfl ?_
 refine oIf 21 h rfl (fun q7 h => ?_) (fun q7 h => ?_)
 refine wSk rfl ?_
 refine wSk rfl ?_
 refine wSk rfl ?_
 refine wSk rfl ?_
 refine wSk rfl ?_
 refine xPk rfl ?_
 refine xMv rfl ?_
 refine wSk rfl ?_
 refine wSk rfl ?_
 refine wSk rfl ?_
 refine wSk rfl ?_
 refine wSk rfl ?_
 refine wSk rfl ?_
 refine wSk rfl ?_
 refine xPk rfl ?_
 refine xMv rfl ?_
 refine wSk rfl ?_
 refine wSk rfl ?_
 refine wSk rfl ?_
 refine wSk rfl ?_
 refine wSk rfl ?_
 refine wSk rfl ?_
 refine xPk rfl ?_
 refine oNl ?_
 exact eJ h rfl
 refine xFd rfl ?_
 refine xLd rfl ?_
 refine xLn rfl ?_
 refine xC0 h (big_spec_l1In ·) rfl (fun c25_8 h => ?_)
 refine xNot rfl ?_
 refine xPk rfl ?_
 refine xMv rfl ?_
 refine oIf 28 h rfl (fun q9 h => ?_) (fun q9 h => ?_)
 refine wSk rfl ?_
 refine wSk rfl ?_
 refine wSk rfl ?_
 refine wSk rfl ?_
 refine wSk rfl ?_
 refine wSk rfl ?_
 refine wSk rfl ?_
 refine xPk rfl ?_
 refine xMv rfl ?_
 refine wSk rfl ?_
 refine wSk rfl ?_
 refine wSk rfl ?_
 refine wSk rfl ?_
 refine wSk rfl ?_
 refine wSk rfl ?_
 refine xPk rfl ?_
 refine oNl ?_
 exact eJ h rfl
 refine xFd rfl ?_
 refine xLd rfl ?_
 refine xLn rfl ?_
 refine xFd rfl ?_
 refine xLd rfl ?_
 refine xLn rfl ?_
 refine xNe rfl ?_
 refine xPk rfl ?_
 refine xMv rfl ?_
 refine oIf 37 h rfl (fun q10 h => ?_) (fun q10 h => ?_)
 refine wSk rfl ?_
 refine wSk rfl ?_
 refine wSk rfl ?_
 refine wSk rfl ?_
 refine wSk rfl ?_
 refine wSk rfl ?_
 refine xPk rfl ?_
 refine oNl ?_
 exact eJ h rfl
 refine xFd rfl ?_
 refine xLd rfl ?_
 refine xLn rfl ?_
 refine xFd rfl ?_
 refine xLd rfl ?_
 refine xGt rfl ?_
 refine xPk rfl ?_
 refine oNl ?_
 exact eJ h rfl
 refine cIf h rfl (fun q11 h => ?_) (fun q11 h => ?_)
 refine cRs ?_
 refine xAs rfl ?_
 refine oNl ?_
 refine cRt ?_
 cases h
 exact eR rfl rfl rfl rfl
 refine cSk ?_
 refine cSq ?_
 refine cRs ?_
 refine xAs rfl ?_
 refine oNl ?_
 refine cLp h [(2, 3), (45, 66)] [] (fun v3_12 => ([(3, I64 v3_12)], [])) (fun q => match q with | .inl v2_13 => (.r, [(2, Bo v2_13)], []) | .inr (v3_14, v49_15) => (.e 0, [(3, I64 v3_14), (49, Bo v49_15)], [])) rfl (fun v3_12 _ h => ?_) (fun q h => ?_)
 unfold p_spec_OverOk_b1 at h
 refine cSq ?_
 refine cRs ?_
 refine xMv rfl ?_
 refine xFd rfl ?_
 refine xLd rfl ?_
 refine xLn rfl ?_
 refine xLt rfl ?_
 refine oNl ?_
 refine cIf h rfl (fun q16 h => ?_) (fun q16 h => ?_)
 refine cSk ?_
 refine cSq ?_
 refine cBk ?_
 refine cRs ?_
 refine oJn h [(52, 66)] [] (fun v66_17 => (.n, [(66, Bo v66_17)], [])) (fun _ h => ?_) (fun v66_17 h => ?_)
 refine xFd rfl ?_
 refine xLd rfl ?_
 refine xMv rfl ?_
 refine xIx h rS_impl_Kid_eq rfl (fun e55_18 h => ?_)
 refine xLd rfl ?_
 refine xC0 h (big_spec_l14Kid ·) rfl (fun c57_19 h => ?_)
 refine xNot rfl ?_
 refine xMv rfl ?_
 refine oIf 59 h rfl (fun q20 h => ?_) (fun q20 h => ?_)
 refine wSk rfl ?_
 refine wSk rfl ?_
 refine wSk rfl ?_
 refine wSk rfl ?_
 refine wSk rfl ?_
 refine wSk rfl ?_
 refine xPk rfl ?_
 refine oNl ?_
 exact eJ h rfl
 refine xFd rfl ?_
 refine xLd rfl ?_
 refine xMv rfl ?_
 refine xIx h rI_i64_eq rfl (fun e63_21 h => ?_)
 refine xLd rfl ?_
 refine xLt rfl ?_
 refine xPk rfl ?_
 refine oNl ?_
 exact eJ h rfl
 refine cIf h rfl (fun q22 h => ?_) (fun q22 h => ?_)
 refine cRs ?_
 refine xAs rfl ?_
 refine oNl ?_
 refine cRt ?_
 exact eXr h rfl
 refine cSk ?_
 refine cRg ?_
 refine xMv rfl ?_
 refine xAdd rfl ?_
 refine xAs rfl ?_
 refine oNl ?_
 exact eL h rfl
 refine cEx ?_
 exact eX h rfl
 rcases q with v2_13 | ⟨v3_14, v49_15⟩
 cases h
 exact eR rfl rfl rfl rfl
 refine cSq ?_
 refine cRs ?_
 refine xAs rfl ?_
 refine oNl ?_
 refine cLp h [(2, 2), (4, 4), (67, 85)] [] (fun v4_23 => ([(4, I64 v4_23)], [])) (fun q => match q with | .inl v2_24 => (.r, [(2, Bo v2_24)], []) | .inr (v4_25, v71_26) => (.e 2, [(4, I64 v4_25), (71, Bo v71_26)], [])) rfl (fun v4_23 _ h => ?_) (fun q h => ?_)
 unfold p_spec_OverOk_b2 at h
 refine cSq ?_
 refine cRs ?_
 refine xMv rfl ?_
 refine xFd rfl ?_
 refine xLd rfl ?_
 refine xLn rfl ?_
 refine xLt rfl ?_
 refine oNl ?_
 refine cIf h rfl (fun q27 h => ?_) (fun q27 h => ?_)
 refine cSk ?_
 refine cSq ?_
 refine cBk ?_
 refine cRs ?_
 refine xFd rfl ?_
 refine xLd rfl ?_
 refine xMv rfl ?_
 refine xSub rfl ?_
 refine xIx h rI_i64_eq rfl (fun e78_28 h => ?_)
 refine xLd rfl ?_
 refine xFd rfl ?_
 refine xLd rfl ?_
 refine xMv rfl ?_
 refine xIx h rI_i64_eq rfl (fun e83_29 h => ?_)
 refine xLd rfl ?_
 refine xGt rfl ?_
 refine oNl ?_
 refine cIf h rfl (fun q30 h => ?_) (fun q30 h => ?_)
 refine cRs ?_
 refine xAs rfl ?_
 refine oNl ?_
 refine cRt ?_
 exact eXr h rfl
 refine cSk ?_
 refine cRg ?_
 refine xMv rfl ?_
 refine xAdd rfl ?_
 refine xAs rfl ?_
 refine oNl ?_
 exact eL h rfl
 refine cEx ?_
 exact eX h rfl
 rcases q with v2_24 | ⟨v4_25, v71_26⟩
 cases h
 exact eR rfl rfl rfl rfl
 refine cRs ?_
 refine xAs rfl ?_
 refine oNl ?_
 refine cRt ?_
 cases h
 exact eR rfl rfl rfl rfl
abbrev B_spec_l14Subs (p : (List S_impl_Over) → Int → Option (Int)) : Prop := ∀ {t0_0 : List S_impl_Over} {t1_0 : Int} {r : Int}, p t0_0 t1_0 = some r → Big Try.prog τ An (.fn 71 [.one (.c (.sl (t0_0.map rS_impl_Over))), .one (.c (.int .i64 t1_0))] [] (.one (.c (.int .i64 r))) none [] none)
def p_spec_l14Subs_b2 (n : Nat) (t0_0 : List S_impl_Over) (t1_0 : Int) (v6_2 : Int) : (Int × Int) → Option ((Int × Int) ⊕ ((Int × Int × Bool)))
  | (v5_7, v7_8) => (ix t0_0 v6_2).bind fun e17_12 => bif decide (v7_8 < (e17_12.f3.length : Int)) then (((ix t0_0 v6_2).bind fun e26_15 => (ix e26_15.f3 v7_8).bind fun e30_16 => bif decide (e30_16.f6 = t1_0) then some (IntKind.wrap .i64 (v5_7 + (1 : Int))) else some v5_7 : Option ((Int)))).bind fun v5_14 => some (.inl (v5_14, (IntKind.wrap .i64 (v7_8 + (1 : Int))))) else some (.inr (v5_7, v7_8, false))
def p_spec_l14Subs_b1 (n : Nat) (t0_0 : List S_impl_Over) (t1_0 : Int) : (Int × Int) → Option ((Int × Int) ⊕ ((Int × Int × Bool)))
  | (v5_1, v6_2) => bif decide (v6_2 < (t0_0.length : Int)) then (loopN (p_spec_l14Subs_b2 n t0_0 t1_0 v6_2) n (v5_1, (0 : Int))).bind fun (v5_9, v7_10, v21_11) => some (.inl (v5_9, (IntKind.wrap .i64 (v6_2 + (1 : Int))))) else some (.inr (v5_1, v6_2, false))
def p_spec_l14Subs (n : Nat) (t0_0 : List S_impl_Over) (t1_0 : Int) : Option (Int) :=
  (loopN (p_spec_l14Subs_b1 n t0_0 t1_0) n ((0 : Int), (0 : Int))).bind fun (v5_3, v6_4, v11_5) => some v5_3
theorem big_spec_l14Subs {n : Nat} : B_spec_l14Subs (p_spec_l14Subs n) := by
 intro t0_0 t1_0 r h
 unfold p_spec_l14Subs at h
 refine bF Try.func71 rfl rfl ?_
 refine cRs ?_
 refine xAs rfl ?_
 refine oRs ?_
 refine xAs rfl ?_
 refine oNl ?_
 refine cSq ?_
 refine cRs ?_
 refine xAs rfl ?_
 refine oNl ?_
 refine cLp h [(5, 36)] [] (fun (v5_1, v6_2) => ([(5, I64 v5_1), (6, I64 v6_2)], [])) (fun (v5_3, v6_4, v11_5) => (.e 0, [(5, I64 v5_3), (6, I64 v6_4), (11, Bo v11_5)], [])) rfl (fun st _ h => ?_) (fun q h => ?_)
 obtain ⟨v5_1, v6_2⟩ := st
 unfold p_spec_l14Subs_b1 at h
 refine cSq ?_
 refine cRs ?_
 refine xMv rfl ?_
 refine xMv rfl ?_
 refine xLn rfl ?_
 refine xLt rfl ?_
 refine oNl ?_
 refine cIf h rfl (fun q6 h => ?_) (fun q6 h => ?_)
 refine cSk ?_
 refine cSq ?_
 refine cBk ?_
 refine cRs ?_
 refine xAs rfl ?_
 refine oNl ?_
 refine cLp h [(5, 5), (7, 7), (14, 36)] [] (fun (v5_7, v7_8) => ([(5, I64 v5_7), (7, I64 v7_8)], [])) (fun (v5_9, v7_10, v21_11) => (.e 2, [(5, I64 v5_9), (7, I64 v7_10), (21, Bo v21_11)], [])) rfl (fun st _ h => ?_) (fun q h => ?_)
 obtain ⟨v5_7, v7_8⟩ := st
 unfold p_spec_l14Subs_b2 at h
 refine cSq ?_
 refine cRs ?_
 refine xMv rfl ?_
 refine xMv rfl ?_
 refine xMv rfl ?_
 refine xIx h rS_impl_Over_eq rfl (fun e17_12 h => ?_)
 refine xFd rfl ?_
 refine xLd rfl ?_
 refine xLn rfl ?_
 refine xLt rfl ?_
 refine oNl ?_
 refine cIf h rfl (fun q13 h => ?_) (fun q13 h => ?_)
 refine cSk ?_
 refine cSq ?_
 refine cJn h [(5, 5), (24, 36)] [] (fun v5_14 => (.n, [(5, I64 v5_14)], [])) (fun _ h => ?_) (fun v5_14 h => ?_)
 refine cBk ?_
 refine cRs ?_
 refine xMv rfl ?_
 refine xMv rfl ?_
 refine xIx h rS_impl_Over_eq rfl (fun e26_15 h => ?_)
 refine xFd rfl ?_
 refine xLd rfl ?_
 refine xMv rfl ?_
 refine xIx h rS_impl_Kid_eq rfl (fun e30_16 h => ?_)
 refine xFd rfl ?_
 refine xLd rfl ?_
 refine xMv rfl ?_
 refine xEq rfl ?_
 refine oNl ?_
 refine cIf h rfl (fun q17 h => ?_) (fun q17 h => ?_)
 refine cRg ?_
 refine xMv rfl ?_
 refine xAdd rfl ?_
 refine xAs rfl ?_
 refine oNl ?_
 exact eJ h rfl
 refine cSk ?_
 exact eJ h rfl
 refine cRg ?_
 refine xMv rfl ?_
 refine xAdd rfl ?_
 refine xAs rfl ?_
 refine oNl ?_
 exact eL h rfl
 refine cEx ?_
 exact eX h rfl
 obtain ⟨v5_9, v7_10, v21_11⟩ := q
 refine cRg ?_
 refine xMv rfl ?_
 refine xAdd rfl ?_
 refine xAs rfl ?_
 refine oNl ?_
 exact eL h rfl
 refine cEx ?_
 exact eX h rfl
 obtain ⟨v5_3, v6_4, v11_5⟩ := q
 refine cRs ?_
 refine xMv rfl ?_
 refine xAs rfl ?_
 refine oNl ?_
 refine cRt ?_
 cases h
 exact eR rfl rfl rfl rfl
abbrev B_spec_l4Has (p : (List (List UInt8)) → (List UInt8) → Option (Bool)) : Prop := ∀ {t0_0 : List (List UInt8)} {t1_0 : List UInt8} {r : Bool}, p t0_0 t1_0 = some r → Big Try.prog τ An (.fn 96 [.one (.c (.sl (t0_0.map rStr))), .one (.c (.str t1_0))] [] (.one (.c (.bool r))) none [] none)
def p_spec_l4Has_b1 (n : Nat) (t0_0 : List (List UInt8)) (t1_0 : List UInt8) : (Int) → Option ((Int) ⊕ ((Bool) ⊕ (Int × Bool)))
  | v5_1 => bif decide (v5_1 < (t0_0.length : Int)) then (ix t0_0 v5_1).bind fun e14_6 => bif decide (e14_6 = t1_0) then some (.inr (.inl true)) else some (.inl (IntKind.wrap .i64 (v5_1 + (1 : Int)))) else some (.inr (.inr (v5_1, false)))
def p_spec_l4Has (n : Nat) (t0_0 : List (List UInt8)) (t1_0 : List UInt8) : Option (Bool) :=
  (loopN (p_spec_l4Has_b1 n t0_0 t1_0) n (0 : Int)).bind fun q => (match q with | .inl v4_2 => some v4_2 | .inr (v5_3, v9_4) => some false)
theorem big_spec_l4Has {n : Nat} : B_spec_l4Has (p_spec_l4Has n) := by
 intro t0_0 t1_0 r h
 unfold p_spec_l4Has at h
 refine bF Try.func96 rfl rfl ?_
 refine cRs ?_
 refine xAs rfl ?_
 refine oNl ?_
 refine cSq ?_
 refine cRs ?_
 refine xAs rfl ?_
 refine oNl ?_
 refine cLp h [(4, 17)] [] (fun v5_1 => ([(5, I64 v5_1)], [])) (fun q => match q with | .inl v4_2 => (.r, [(4, Bo v4_2)], []) | .inr (v5_3, v9_4) => (.e 0, [(5, I64 v5_3), (9, Bo v9_4)], [])) rfl (fun v5_1 _ h => ?_) (fun q h => ?_)
 unfold p_spec_l4Has_b1 at h
 refine cSq ?_
 refine cRs ?_
 refine xMv rfl ?_
 refine xMv rfl ?_
 refine xLn rfl ?_
 refine xLt rfl ?_
 refine oNl ?_
 refine cIf h rfl (fun q5 h => ?_) (fun q5 h => ?_)
 refine cSk ?_
 refine cSq ?_
 refine cBk ?_
 refine cRs ?_
 refine xMv rfl ?_
 refine xMv rfl ?_
 refine xIx h rStr_eq rfl (fun e14_6 h => ?_)
 refine xLd rfl ?_
 refine xMv rfl ?_
 refine xEs rfl ?_
 refine oNl ?_
 refine cIf h rfl (fun q7 h => ?_) (fun q7 h => ?_)
 refine cRs ?_
 refine xAs rfl ?_
 refine oNl ?_
 refine cRt ?_
 exact eXr h rfl
 refine cSk ?_
 refine cRg ?_
 refine xMv rfl ?_
 refine xAdd rfl ?_
 refine xAs rfl ?_
 refine oNl ?_
 exact eL h rfl
 refine cEx ?_
 exact eX h rfl
 rcases q with v4_2 | ⟨v5_3, v9_4⟩
 cases h
 exact eR rfl rfl rfl rfl
 refine cRs ?_
 refine xAs rfl ?_
 refine oNl ?_
 refine cRt ?_
 cases h
 exact eR rfl rfl rfl rfl
abbrev B_spec_l4Once (p : (List (List UInt8)) → Option (Bool)) : Prop := ∀ {t0_0 : List (List UInt8)} {r : Bool}, p t0_0 = some r → Big Try.prog τ An (.fn 72 [.one (.c (.sl (t0_0.map rStr)))] [] (.one (.c (.bool r))) none [] none)
def p_spec_l4Once_b1 (n : Nat) (t0_0 : List (List UInt8)) : (Int) → Option ((Int) ⊕ ((Bool) ⊕ (Int × Bool)))
  | v3_1 => bif decide (v3_1 < (t0_0.length : Int)) then (sub t0_0 none (some v3_1)).bind fun v12_6 => (ix t0_0 v3_1).bind fun e15_7 => (p_spec_l4Has n v12_6 e15_7).bind fun c17_8 => bif c17_8 then some (.inr (.inl false)) else some (.inl (IntKind.wrap .i64 (v3_1 + (1 : Int)))) else some (.inr (.inr (v3_1, false)))
def p_spec_l4Once (n : Nat) (t0_0 : List (List UInt8)) : Option (Bool) :=
  (loopN (p_spec_l4Once_b1 n t0_0) n (0 : Int)).bind fun q => (match q with | .inl v2_2 => some v2_2 | .inr (v3_3, v7_4) => some true)
theorem big_spec_l4Once {n : Nat} : B_spec_l4Once (p_spec_l4Once n) := by
 intro t0_0 r h
 unfold p_spec_l4Once at h
 refine bF Try.func72 rfl rfl ?_
 refine cRs ?_
 refine xAs rfl ?_
 refine oNl ?_
 refine cSq ?_
 refine cRs ?_
 refine xAs rfl ?_
 refine oNl ?_
 refine cLp h [(2, 17)] [] (fun v3_1 => ([(3, I64 v3_1)], [])) (fun q => match q with | .inl v2_2 => (.r, [(2, Bo v2_2)], []) | .inr (v3_3, v7_4) => (.e 0, [(3, I64 v3_3), (7, Bo v7_4)], [])) rfl (fun v3_1 _ h => ?_) (fun q h => ?_)
 unfold p_spec_l4Once_b1 at h
 refine cSq ?_
 refine cRs ?_
 refine xMv rfl ?_
 refine xMv rfl ?_
 refine xLn rfl ?_
 refine xLt rfl ?_
 refine oNl ?_
 refine cIf h rfl (fun q5 h => ?_) (fun q5 h => ?_)
 refine cSk ?_
 refine cSq ?_
 refine cBk ?_
 refine cRs ?_
 refine xMv rfl ?_
 refine xMv rfl ?_
 refine wSl (rf := rStr) h rfl rfl rfl rfl .no (.so rfl) (fun _ => rfl) rfl (fun v12_6 h => ?_)
 refine xMv rfl ?_
 refine xMv rfl ?_
 refine xIx h rStr_eq rfl (fun e15_7 h => ?_)
 refine xLd rfl ?_
 refine xC0 h (big_spec_l4Has ·) rfl (fun c17_8 h => ?_)
 refine oNl ?_
 refine cIf h rfl (fun q9 h => ?_) (fun q9 h => ?_)
 refine cRs ?_
 refine xAs rfl ?_
 refine oNl ?_
 refine cRt ?_
 exact eXr h rfl
 refine cSk ?_
 refine cRg ?_
 refine xMv rfl ?_
 refine xAdd rfl ?_
 refine xAs rfl ?_
 refine oNl ?_
 exact eL h rfl
 refine cEx ?_
 exact eX h rfl
 rcases q with v2_2 | ⟨v3_3, v7_4⟩
 cases h
 exact eR rfl rfl rfl rfl
 refine cRs ?_
 refine xAs rfl ?_
 refine oNl ?_
 refine cRt ?_
 cases h
 exact eR rfl rfl rfl rfl
abbrev B_spec_l14Names (p : (List S_impl_Over) → Option ((List (List UInt8)))) : Prop := ∀ {t0_0 : List S_impl_Over} {r : (List (List UInt8))}, p t0_0 = some r → Big Try.prog τ An (.fn 73 [.one (.c (.sl (t0_0.map rS_impl_Over)))] [] (.one (.c (.sl (r.map rStr)))) none [] none)
def p_spec_l14Names_b2 (n : Nat) (t0_0 : List S_impl_Over) (v4_2 : Int) : ((List (List UInt8)) × Int) → Option (((List (List UInt8)) × Int) ⊕ (((List (List UInt8)) × Int × Bool)))
  | (v3_7, v5_8) => (ix t0_0 v4_2).bind fun e16_12 => bif decide (v5_8 < (e16_12.f3.length : Int)) then (ix t0_0 v4_2).bind fun e26_14 => (ix e26_14.f3 v5_8).bind fun e30_15 => (app2 16 v3_7 ([e30_15.f0] : List (List UInt8))).bind fun v34_16 => some (.inl (v34_16, (IntKind.wrap .i64 (v5_8 + (1 : Int))))) else some (.inr (v3_7, v5_8, false))
def p_spec_l14Names_b1 (n : Nat) (t0_0 : List S_impl_Over) : ((List (List UInt8)) × Int) → Option (((List (List UInt8)) × Int) ⊕ (((List (List UInt8)) × Int × Bool)))
  | (v3_1, v4_2) => bif decide (v4_2 < (t0_0.length : Int)) then (loopN (p_spec_l14Names_b2 n t0_0 v4_2) n (v3_1, (0 : Int))).bind fun (v3_9, v5_10, v20_11) => some (.inl (v3_9, (IntKind.wrap .i64 (v4_2 + (1 : Int))))) else some (.inr (v3_1, v4_2, false))
def p_spec_l14Names (n : Nat) (t0_0 : List S_impl_Over) : Option ((List (List UInt8))) :=
  (loopN (p_spec_l14Names_b1 n t0_0) n (([] : List (List UInt8)), (0 : Int))).bind fun (v3_3, v4_4, v10_5) => some v3_3
theorem big_spec_l14Names {n : Nat} : B_spec_l14Names (p_spec_l14Names n) := by
 intro t0_0 r h
 unfold p_spec_l14Names at h
 refine bF Try.func73 rfl rfl ?_
 refine cRs ?_
 refine wAe (Li rStr []) rfl rfl rfl rfl ?_
 refine oRs ?_
 refine wLt' (L := ([] : List (List UInt8))) (f := rStr) rfl rfl rfl rfl rfl rfl rfl ?_
 refine xAs rfl ?_
 refine oNl ?_
 refine cSq ?_
 refine cRs ?_
 refine xAs rfl ?_
 refine oNl ?_
 refine cLp h [(3, 5), (7, 34)] [] (fun (v3_1, v4_2) => ([(3, Li rStr v3_1), (4, I64 v4_2)], [])) (fun (v3_3, v4_4, v10_5) => (.e 0, [(3, Li rStr v3_3), (4, I64 v4_4), (10, Bo v10_5)], [])) rfl (fun st _ h => ?_) (fun q h => ?_)
 obtain ⟨v3_1, v4_2⟩ := st
 unfold p_spec_l14Names_b1 at h
 refine cSq ?_
 refine cRs ?_
 refine xMv rfl ?_
 refine xMv rfl ?_
 refine xLn rfl ?_
 refine xLt rfl ?_
 refine oNl ?_
 refine cIf h rfl (fun q6 h => ?_) (fun q6 h => ?_)
 refine cSk ?_
 refine cSq ?_
 refine cBk ?_
 refine cRs ?_
 refine xAs rfl ?_
 refine oNl ?_
 refine cLp h [(3, 3), (5, 5), (13, 34)] [] (fun (v3_7, v5_8) => ([(3, Li rStr v3_7), (5, I64 v5_8)], [])) (fun (v3_9, v5_10, v20_11) => (.e 2, [(3, Li rStr v3_9), (5, I64 v5_10), (20, Bo v20_11)], [])) rfl (fun st _ h => ?_) (fun q h => ?_)
 obtain ⟨v3_7, v5_8⟩ := st
 unfold p_spec_l14Names_b2 at h
 refine cSq ?_
 refine cRs ?_
 refine xMv rfl ?_
 refine xMv rfl ?_
 refine xMv rfl ?_
 refine xIx h rS_impl_Over_eq rfl (fun e16_12 h => ?_)
 refine xFd rfl ?_
 refine xLd rfl ?_
 refine xLn rfl ?_
 refine xLt rfl ?_
 refine oNl ?_
 refine cIf h rfl (fun q13 h => ?_) (fun q13 h => ?_)
 refine cSk ?_
 refine cSq ?_
 refine cBk ?_
 refine cRg ?_
 refine xMv rfl ?_
 refine xMv rfl ?_
 refine xMv rfl ?_
 refine xIx h rS_impl_Over_eq rfl (fun e26_14 h => ?_)
 refine xFd rfl ?_
 refine xLd rfl ?_
 refine xMv rfl ?_
 refine xIx h rS_impl_Kid_eq rfl (fun e30_15 h => ?_)
 refine xFd rfl ?_
 refine xLd rfl ?_
 refine wLt' (L := ([e30_15.f0] : List (List UInt8))) (f := rStr) rfl rfl rfl rfl rfl rfl rfl ?_
 refine wAp (f := rStr) h rfl rfl rfl rfl rfl rfl rfl rfl rfl (fun _ => rfl) rfl (fun v34_16 h => ?_)
 refine xAs rfl ?_
 refine oNl ?_
 refine cRg ?_
 refine xMv rfl ?_
 refine xAdd rfl ?_
 refine xAs rfl ?_
 refine oNl ?_
 exact eL h rfl
 refine cEx ?_
 exact eX h rfl
 obtain ⟨v3_9, v5_10, v20_11⟩ := q
 refine cRg ?_
 refine xMv rfl ?_
 refine xAdd rfl ?_
 refine xAs rfl ?_
 refine oNl ?_
 exact eL h rfl
 refine cEx ?_
 exact eX h rfl
 obtain ⟨v3_3, v4_4, v10_5⟩ := q
 refine cRs ?_
 refine xMv rfl ?_
 refine xAs rfl ?_
 refine oNl ?_
 refine cRt ?_
 cases h
 exact eR rfl rfl rfl rfl
abbrev B_spec_OversOk (p : (List S_impl_Over) → Option (Bool)) : Prop := ∀ {t0_0 : List S_impl_Over} {r : Bool}, p t0_0 = some r → Big Try.prog τ An (.fn 13 [.one (.c (.sl (t0_0.map rS_impl_Over)))] [] (.one (.c (.bool r))) none [] none)
def p_spec_OversOk_b2 (n : Nat) (t0_0 : List S_impl_Over) (v3_3 : Int) : (Int) → Option ((Int) ⊕ ((Bool) ⊕ (Int × Bool)))
  | v4_15 => (ix t0_0 v3_3).bind fun e35_19 => bif decide (v4_15 < (e35_19.f3.length : Int)) then (ix t0_0 v3_3).bind fun e44_21 => (ix e44_21.f3 v4_15).bind fun e48_22 => (bif decide ((0 : Int) ≤ e48_22.f6) then (p_spec_l1In n e48_22.f6 (IntKind.wrap .i64 (v3_3 + (1 : Int))) (IntKind.wrap .i64 ((t0_0.length : Int) - (1 : Int)))).bind fun c60_25 => some (!c60_25) else some false).bind fun v62_23 => bif v62_23 then some (.inr (.inl false)) else some (.inl (IntKind.wrap .i64 (v4_15 + (1 : Int)))) else some (.inr (.inr (v4_15, false)))
def p_spec_OversOk_b1 (n : Nat) (t0_0 : List S_impl_Over) : (Int) → Option ((Int) ⊕ ((Bool) ⊕ (Int × Bool)))
  | v3_3 => bif decide (v3_3 < (t0_0.length : Int)) then ((ix t0_0 v3_3).bind fun e18_9 => (p_spec_OverOk n e18_9.f0 e18_9.f1 e18_9.f2 e18_9.f3 e18_9.f4 e18_9.f5 e18_9.f6).bind fun c20_10 => bif !c20_10 then some true else bif decide ((0 : Int) < v3_3) then (p_spec_l14Subs n t0_0 v3_3).bind fun c28_13 => some (!decide (c28_13 = (1 : Int))) else some false).bind fun v31_8 => bif v31_8 then some (.inr (.inl false)) else (loopN (p_spec_OversOk_b2 n t0_0 v3_3) n (0 : Int)).bind fun q => (match q with | .inl v2_16 => some (.inr (.inl v2_16)) | .inr (v4_17, v39_18) => some (.inl (IntKind.wrap .i64 (v3_3 + (1 : Int))))) else some (.inr (.inr (v3_3, false)))
def p_spec_OversOk (n : Nat) (t0_0 : List S_impl_Over) : Option (Bool) :=
  (p_spec_l1In n (t0_0.length : Int) (1 : Int) (8 : Int)).bind fun c8_1 => bif !c8_1 then some false else (loopN (p_spec_OversOk_b1 n t0_0) n (0 : Int)).bind fun q => (match q with | .inl v2_4 => some v2_4 | .inr (v3_5, v13_6) => (p_spec_l14Names n t0_0).bind fun c64_27 => (p_spec_l4Once n c64_27).bind fun c65_28 => some c65_28)
theorem big_spec_OversOk {n : Nat} : B_spec_OversOk (p_spec_OversOk n) := by
 intro t0_0 r h
 unfold p_spec_OversOk at h
 refine bF Try.func13 rfl rfl ?_
 refine cRs ?_
 refine xAs rfl ?_
 refine oNl ?_
 refine cSq ?_
 refine cRs ?_
 refine xMv rfl ?_
 refine xLn rfl ?_
 refine xC0 h (big_spec_l1In ·) rfl (fun c8_1 h => ?_)
 refine xNot rfl ?_
 refine oNl ?_
 refine cIf h rfl (fun q2 h => ?_) (fun q2 h => ?_)
 refine cRs ?_
 refine xAs rfl ?_
 refine oNl ?_
 refine cRt ?_
 cases h
 exact eR rfl rfl rfl rfl
 refine cSk ?_
 refine cSq ?_
 refine cRs ?_
 refine xAs rfl ?_
 refine oNl ?_
 refine cLp h [(2, 5), (10, 62)] [] (fun v3_3 => ([(3, I64 v3_3)], [])) (fun q => match q with | .inl v2_4 => (.r, [(2, Bo v2_4)], []) | .inr (v3_5, v13_6) => (.e 0, [(3, I64 v3_5), (13, Bo v13_6)], [])) rfl (fun v3_3 _ h => ?_) (fun q h => ?_)
 unfold p_spec_OversOk_b1 at h
 refine cSq ?_
 refine cRs ?_
 refine xMv rfl ?_
 refine xMv rfl ?_
 refine xLn rfl ?_
 refine xLt rfl ?_
 refine oNl ?_
 refine cIf h rfl (fun q7 h => ?_) (fun q7 h => ?_)
 refine cSk ?_
 refine cSq ?_
 refine cBk ?_
 refine cSq ?_
 refine cRs ?_
 refine oJn h [(16, 31)] [] (fun v31_8 => (.n, [(31, Bo v31_8)], [])) (fun _ h => ?_) (fun v31_8 h => ?_)
 refine xMv rfl ?_
 refine xMv rfl ?_
 refine xIx h rS_impl_Over_eq rfl (fun e18_9 h => ?_)
 refine xLd rfl ?_
 refine xC0 h (big_spec_OverOk ·) rfl (fun c20_10 h => ?_)
 refine xNot rfl ?_
 refine xMv rfl ?_
 refine oIf 22 h rfl (fun q11 h => ?_) (fun q11 h => ?_)
 refine wSk rfl ?_
 refine wSk rfl ?_
 refine wSk rfl ?_
 refine wSk rfl ?_
 refine wSk rfl ?_
 refine wSk rfl ?_
 refine wSk rfl ?_
 refine wSk rfl ?_
 refine xPk rfl ?_
 refine oNl ?_
 exact eJ h rfl
 refine xMv rfl ?_
 refine xGt rfl ?_
 refine xMv rfl ?_
 refine oIf 25 h rfl (fun q12 h => ?_) (fun q12 h => ?_)
 refine xMv rfl ?_
 refine xMv rfl ?_
 refine xC0 h (big_spec_l14Subs ·) rfl (fun c28_13 h => ?_)
 refine xNe rfl ?_
 refine xPk rfl ?_
 refine xPk rfl ?_
 refine oNl ?_
 exact eJ h rfl
 refine wSk rfl ?_
 refine wSk rfl ?_
 refine wSk rfl ?_
 refine wSk rfl ?_
 refine xPk rfl ?_
 refine xPk rfl ?_
 refine oNl ?_
 exact eJ h rfl
 refine cIf h rfl (fun q14 h => ?_) (fun q14 h => ?_)
 refine cRs ?_
 refine xAs rfl ?_
 refine oNl ?_
 refine cRt ?_
 exact eXr h rfl
 refine cSk ?_
 refine cRs ?_
 refine xAs rfl ?_
 refine oNl ?_
 refine cLp h [(2, 2), (4, 5), (32, 62)] [] (fun v4_15 => ([(4, I64 v4_15)], [])) (fun q => match q with | .inl v2_16 => (.r, [(2, Bo v2_16)], []) | .inr (v4_17, v39_18) => (.e 2, [(4, I64 v4_17), (39, Bo v39_18)], [])) rfl (fun v4_15 _ h => ?_) (fun q h => ?_)
 unfold p_spec_OversOk_b2 at h
 refine cSq ?_
 refine cRs ?_
 refine xMv rfl ?_
 refine xMv rfl ?_
 refine xMv rfl ?_
 refine xIx h rS_impl_Over_eq rfl (fun e35_19 h => ?_)
 refine xFd rfl ?_
 refine xLd rfl ?_
 refine xLn rfl ?_
 refine xLt rfl ?_
 refine oNl ?_
 refine cIf h rfl (fun q20 h => ?_) (fun q20 h => ?_)
 refine cSk ?_
 refine cSq ?_
 refine cBk ?_
 refine cRs ?_
 refine xMv rfl ?_
 refine xMv rfl ?_
 refine xIx h rS_impl_Over_eq rfl (fun e44_21 h => ?_)
 refine xFd rfl ?_
 refine xLd rfl ?_
 refine xMv rfl ?_
 refine xIx h rS_impl_Kid_eq rfl (fun e48_22 h => ?_)
 refine xFd rfl ?_
 refine xLd rfl ?_
 refine xAs rfl ?_
 refine oRs ?_
 refine oJn h [(51, 62)] [] (fun v62_23 => (.n, [(62, Bo v62_23)], [])) (fun _ h => ?_) (fun v62_23 h => ?_)
 refine xMv rfl ?_
 refine xGe rfl ?_
 refine xMv rfl ?_
 refine oIf 53 h rfl (fun q24 h => ?_) (fun q24 h => ?_)
 refine xMv rfl ?_
 refine xMv rfl ?_
 refine xAdd rfl ?_
 refine xMv rfl ?_
 refine xLn rfl ?_
 refine xSub rfl ?_
 refine xC0 h (big_spec_l1In ·) rfl (fun c60_25 h => ?_)
 refine xNot rfl ?_
 refine xPk rfl ?_
 refine oNl ?_
 exact eJ h rfl
 refine wSk rfl ?_
 refine wSk rfl ?_
 refine wSk rfl ?_
 refine wSk rfl ?_
 refine wSk rfl ?_
 refine wSk rfl ?_
 refine wSk rfl ?_
 refine wSk rfl ?_
 refine xPk rfl ?_
 refine oNl ?_
 exact eJ h rfl
 refine cIf h rfl (fun q26 h => ?_) (fun q26 h => ?_)
 refine cRs ?_
 refine xAs rfl ?_
 refine oNl ?_
 refine cRt ?_
 exact eXr h rfl
 refine cSk ?_
 refine cRg ?_
 refine xMv rfl ?_
 refine xAdd rfl ?_
 refine xAs rfl ?_
 refine oNl ?_
 exact eL h rfl
 refine cEx ?_
 exact eX h rfl
 rcases q with v2_16 | ⟨v4_17, v39_18⟩
 exact eXr h rfl
 refine cRg ?_
 refine xMv rfl ?_
 refine xAdd rfl ?_
 refine xAs rfl ?_
 refine oNl ?_
 exact eL h rfl
 refine cEx ?_
 exact eX h rfl
 rcases q with v2_4 | ⟨v3_5, v13_6⟩
 cases h
 exact eR rfl rfl rfl rfl
 refine cRs ?_
 refine xMv rfl ?_
 refine xC0 h (big_spec_l14Names ·) rfl (fun c64_27 h => ?_)
 refine xC0 h (big_spec_l4Once ·) rfl (fun c65_28 h => ?_)
 refine xAs rfl ?_
 refine oNl ?_
 refine cRt ?_
 cases h
 exact eR rfl rfl rfl rfl
abbrev B_laws_toTermS (p : (List S_laws_Term) → Option ((List S_impl_Term))) : Prop := ∀ {t0_0 : List S_laws_Term} {r : (List S_impl_Term)}, p t0_0 = some r → Big Try.prog τ An (.fn 35 [.one (.c (.sl (t0_0.map rS_laws_Term)))] [] (.one (.c (.sl (r.map rS_impl_Term)))) none [] none)
abbrev B_laws_toTerm (p : Int → Int → (List UInt8) → (List S_laws_Term) → Option (Int × Int × (List UInt8) × (List S_impl_Term))) : Prop := ∀ {t0_0 t0_1 : Int} {t0_2 : List UInt8} {t0_3 : List S_laws_Term} {r : Int × Int × (List UInt8) × (List S_impl_Term)}, p t0_0 t0_1 t0_2 t0_3 = some r → Big Try.prog τ An (.fn 52 [.one (.ag [.int .i64 t0_0, .int .i64 t0_1, .str t0_2, .sl (t0_3.map rS_laws_Term)])] [] (.one (.ag [.int .i64 r.1, .int .i64 r.2.1, .str r.2.2.1, .sl (r.2.2.2.map rS_impl_Term)])) none [] none)
def p_laws_toTermS_b1 (n : Nat) (r_laws_toTerm : Int → Int → (List UInt8) → (List S_laws_Term) → Option (Int × Int × (List UInt8) × (List S_impl_Term))) (t0_0 : List S_laws_Term) : ((List S_impl_Term) × Int) → Option (((List S_impl_Term) × Int) ⊕ (((List S_impl_Term) × Int × Bool)))
  | (v3_2, v4_3) => bif decide (v4_3 < (t0_0.length : Int)) then (ix t0_0 v4_3).bind fun e18_8 => (r_laws_toTerm e18_8.f0 e18_8.f1 e18_8.f2 e18_8.f3).bind fun c20_9 => (ix v3_2 v4_3).bind fun e21_10 => some (.inl ((v3_2.set (Int.toNat v4_3) (S_impl_Term.mk c20_9.1 c20_9.2.1 c20_9.2.2.1 c20_9.2.2.2)), (IntKind.wrap .i64 (v4_3 + (1 : Int))))) else some (.inr (v3_2, v4_3, false))
def s_laws_toTermS (n : Nat) (r_laws_toTermS : (List S_laws_Term) → Option ((List S_impl_Term))) (r_laws_toTerm : Int → Int → (List UInt8) → (List S_laws_Term) → Option (Int × Int × (List UInt8) × (List S_impl_Term))) (t0_0 : List S_laws_Term) : Option ((List S_impl_Term)) :=
  (ck (decide (0 ≤ (t0_0.length : Int) ∧ (t0_0.length : Int) ≤ maxLen ∧ 56 * (t0_0.length : Int) ≤ 281474976710656))).bind fun _ => (loopN (p_laws_toTermS_b1 n r_laws_toTerm t0_0) n ((List.replicate (Int.toNat (t0_0.length : Int)) (S_impl_Term.mk (0 : Int) (0 : Int) ([] : List UInt8) ([] : List S_impl_Term))), (0 : Int))).bind fun (v3_4, v4_5, v11_6) => some v3_4
theorem step_laws_toTermS {n : Nat} {r_laws_toTermS : (List S_laws_Term) → Option ((List S_impl_Term))} (ih_laws_toTermS : B_laws_toTermS r_laws_toTermS) {r_laws_toTerm : Int → Int → (List UInt8) → (List S_laws_Term) → Option (Int × Int × (List UInt8) × (List S_impl_Term))} (ih_laws_toTerm : B_laws_toTerm r_laws_toTerm) : B_laws_toTermS (s_laws_toTermS n r_laws_toTermS r_laws_toTerm) := by
 intro t0_0 r h
 unfold s_laws_toTermS at h
 refine bF Try.func35 rfl rfl ?_
 refine cRs ?_
 refine wAe (Li rS_impl_Term []) rfl rfl rfl rfl ?_
 refine oRs ?_
 refine xMv rfl ?_
 refine xLn rfl ?_
 refine oCk h (fun k7_0 h => ?_)
 refine wMk (z := S_impl_Term.mk (0 : Int) (0 : Int) ([] : List UInt8) ([] : List S_impl_Term)) (f := rS_impl_Term) k7_0 rfl rfl rfl rfl rfl rfl rfl ?_
 refine xAs rfl ?_
 refine oNl ?_
 refine cSq ?_
 refine cRs ?_
 refine xAs rfl ?_
 refine oNl ?_
 refine cLp h [(3, 4), (8, 21)] [] (fun (v3_2, v4_3) => ([(3, Li rS_impl_Term v3_2), (4, I64 v4_3)], [])) (fun (v3_4, v4_5, v11_6) => (.e 0, [(3, Li rS_impl_Term v3_4), (4, I64 v4_5), (11, Bo v11_6)], [])) rfl (fun st _ h => ?_) (fun q h => ?_)
 obtain ⟨v3_2, v4_3⟩ := st
 unfold p_laws_toTermS_b1 at h
 refine cSq ?_
 refine cRs ?_
 refine xMv rfl ?_
 refine xMv rfl ?_
 refine xLn rfl ?_
 refine xLt rfl ?_
 refine oNl ?_
 refine cIf h rfl (fun q7 h => ?_) (fun q7 h => ?_)
 refine cSk ?_
 refine cSq ?_
 refine cBk ?_
 refine cRg ?_
 refine wAl rfl rfl rfl rfl ?_
 refine xMv rfl ?_
 refine xMv rfl ?_
 refine xMv rfl ?_
 refine xIx h rS_laws_Term_eq rfl (fun e18_8 h => ?_)
 refine xLd rfl ?_
 refine xC0 h (ih_laws_toTerm ·) rfl (fun c20_9 h => ?_)
 refine wIp (f := rS_impl_Term) h rfl rfl rfl rfl rfl rfl (fun a => by rw [rS_impl_Term_eq]; rfl) rfl (fun e21_10 ke21_10 h => ?_)
 refine wSp (f := rS_impl_Term) (v' := S_impl_Term.mk c20_9.1 c20_9.2.1 c20_9.2.2.1 c20_9.2.2.2) ke21_10 rfl rfl rfl rfl rfl rfl rfl (by rw [rS_impl_Term_eq]; rfl) (by rw [rS_impl_Term_eq, rS_impl_Term_mk]; rfl) ?_
 refine oNl ?_
 refine cRg ?_
 refine xMv rfl ?_
 refine xAdd rfl ?_
 refine xAs rfl ?_
 refine oNl ?_
 exact eL h rfl
 refine cEx ?_
 exact eX h rfl
 obtain ⟨v3_4, v4_5, v11_6⟩ := q
 refine cRs ?_
 refine xMv rfl ?_
 refine xAs rfl ?_
 refine oNl ?_
 refine cRt ?_
 cases h
 exact eR rfl rfl rfl rfl
def s_laws_toTerm (n : Nat) (r_laws_toTermS : (List S_laws_Term) → Option ((List S_impl_Term))) (r_laws_toTerm : Int → Int → (List UInt8) → (List S_laws_Term) → Option (Int × Int × (List UInt8) × (List S_impl_Term))) (t0_0 : Int) (t0_1 : Int) (t0_2 : List UInt8) (t0_3 : List S_laws_Term) : Option (Int × Int × (List UInt8) × (List S_impl_Term)) :=
  (r_laws_toTermS t0_3).bind fun c15_1 => some (t0_0, t0_1, t0_2, c15_1)
theorem step_laws_toTerm {n : Nat} {r_laws_toTermS : (List S_laws_Term) → Option ((List S_impl_Term))} (ih_laws_toTermS : B_laws_toTermS r_laws_toTermS) {r_laws_toTerm : Int → Int → (List UInt8) → (List S_laws_Term) → Option (Int × Int × (List UInt8) × (List S_impl_Term))} (ih_laws_toTerm : B_laws_toTerm r_laws_toTerm) : B_laws_toTerm (s_laws_toTerm n r_laws_toTermS r_laws_toTerm) := by
 intro t0_0 t0_1 t0_2 t0_3 r h
 unfold s_laws_toTerm at h
 refine bF Try.func52 rfl rfl ?_
 refine cRs ?_
 refine xBx rfl ?_
 refine xAz [.int .i64 0, .int .i64 0, .str [], .sl ([].map rS_impl_Term)] rfl ?_
 refine oRs ?_
 refine xAz [.int .i64 0, .int .i64 0, .str [], .sl ([].map rS_impl_Term)] rfl ?_
 refine oRs ?_
 refine xFd rfl ?_
 refine xLd rfl ?_
 refine xFd rfl ?_
 refine xSt rfl ?_
 refine oRs ?_
 refine xFd rfl ?_
 refine xLd rfl ?_
 refine xFd rfl ?_
 refine xSt rfl ?_
 refine oRs ?_
 refine xFd rfl ?_
 refine xLd rfl ?_
 refine xFd rfl ?_
 refine xSt rfl ?_
 refine oRs ?_
 refine xFd rfl ?_
 refine xLd rfl ?_
 refine xC0 h (ih_laws_toTermS ·) rfl (fun c15_1 h => ?_)
 refine xFd rfl ?_
 refine xSt rfl ?_
 refine oRs ?_
 refine xLd rfl ?_
 refine xSt rfl ?_
 refine oNl ?_
 refine cRt ?_
 cases h
 exact eR rfl rfl rfl rfl
def q_laws_toTermS : Nat → ((List S_laws_Term) → Option ((List S_impl_Term))) × (Int → Int → (List UInt8) → (List S_laws_Term) → Option (Int × Int × (List UInt8) × (List S_impl_Term)))
  | 0 => ((fun _ => none), (fun _ _ _ _ => none))
  | n + 1 => (s_laws_toTermS n ((q_laws_toTermS n).1) ((q_laws_toTermS n).2), s_laws_toTerm n ((q_laws_toTermS n).1) ((q_laws_toTermS n).2))
def p_laws_toTermS (n : Nat) : (List S_laws_Term) → Option ((List S_impl_Term)) := (q_laws_toTermS n).1
def p_laws_toTerm (n : Nat) : Int → Int → (List UInt8) → (List S_laws_Term) → Option (Int × Int × (List UInt8) × (List S_impl_Term)) := (q_laws_toTermS n).2
theorem bigs_laws_toTermS (n : Nat) : B_laws_toTermS (p_laws_toTermS n) ∧ B_laws_toTerm (p_laws_toTerm n) := by
  induction n with
  | zero => exact ⟨(fun h => nomatch h), (fun h => nomatch h)⟩
  | succ n ih => exact ⟨step_laws_toTermS (n := n) (ih.1) (ih.2), step_laws_toTerm (n := n) (ih.1) (ih.2)⟩
theorem big_laws_toTermS {n : Nat} : B_laws_toTermS (p_laws_toTermS n) := (bigs_laws_toTermS n).1
theorem big_laws_toTerm {n : Nat} : B_laws_toTerm (p_laws_toTerm n) := (bigs_laws_toTermS n).2
theorem p_laws_toTermS_succ (n : Nat) : p_laws_toTermS (n + 1) = s_laws_toTermS n (p_laws_toTermS n) (p_laws_toTerm n) := rfl
theorem p_laws_toTerm_succ (n : Nat) : p_laws_toTerm (n + 1) = s_laws_toTerm n (p_laws_toTermS n) (p_laws_toTerm n) := rfl
abbrev B_laws_toKid (p : (List UInt8) → (List UInt8) → Int → Int → (List UInt8) → (List S_laws_Term) → Int → Option ((List UInt8) × (List UInt8) × Int × Int × (List UInt8) × (List S_impl_Term) × Int)) : Prop := ∀ {t0_0 t0_1 : List UInt8} {t0_2 t0_3 : Int} {t0_4 : List UInt8} {t0_5 : List S_laws_Term} {t0_6 : Int} {r : (List UInt8) × (List UInt8) × Int × Int × (List UInt8) × (List S_impl_Term) × Int}, p t0_0 t0_1 t0_2 t0_3 t0_4 t0_5 t0_6 = some r → Big Try.prog τ An (.fn 211 [.one (.ag [.str t0_0, .str t0_1, .int .i64 t0_2, .int .i64 t0_3, .str t0_4, .sl (t0_5.map rS_laws_Term), .int .i64 t0_6])] [] (.one (.ag [.str r.1, .str r.2.1, .int .i64 r.2.2.1, .int .i64 r.2.2.2.1, .str r.2.2.2.2.1, .sl (r.2.2.2.2.2.1.map rS_impl_Term), .int .i64 r.2.2.2.2.2.2])) none [] none)
def p_laws_toKid (n : Nat) (t0_0 : List UInt8) (t0_1 : List UInt8) (t0_2 : Int) (t0_3 : Int) (t0_4 : List UInt8) (t0_5 : List S_laws_Term) (t0_6 : Int) : Option ((List UInt8) × (List UInt8) × Int × Int × (List UInt8) × (List S_impl_Term) × Int) :=
  (p_laws_toTerm n t0_2 t0_3 t0_4 t0_5).bind fun c12_1 => some (t0_0, t0_1, c12_1.1, c12_1.2.1, c12_1.2.2.1, c12_1.2.2.2, t0_6)
theorem big_laws_toKid {n : Nat} : B_laws_toKid (p_laws_toKid n) := by
 intro t0_0 t0_1 t0_2 t0_3 t0_4 t0_5 t0_6 r h
 unfold p_laws_toKid at h
 refine bF Try.func211 rfl rfl ?_
 refine cRs ?_
 refine xBx rfl ?_
 refine xAz [.str [], .str [], .int .i64 0, .int .i64 0, .str [], .sl ([].map rS_impl_Term), .int .i64 0] rfl ?_
 refine oRs ?_
 refine xAz [.str [], .str [], .int .i64 0, .int .i64 0, .str [], .sl ([].map rS_impl_Term), .int .i64 0] rfl ?_
 refine oRs ?_
 refine xFd rfl ?_
 refine xLd rfl ?_
 refine xFd rfl ?_
 refine xSt rfl ?_
 refine oRs ?_
 refine xFd rfl ?_
 refine xLd rfl ?_
 refine xFd rfl ?_
 refine xSt rfl ?_
 refine oRs ?_
 refine xFd rfl ?_
 refine xLd rfl ?_
 refine xC0 h (big_laws_toTerm ·) rfl (fun c12_1 h => ?_)
 refine xFd rfl ?_
 refine xSt rfl ?_
 refine oRs ?_
 refine xFd rfl ?_
 refine xLd rfl ?_
 refine xFd rfl ?_
 refine xSt rfl ?_
 refine oRs ?_
 refine xLd rfl ?_
 refine xSt rfl ?_
 refine oNl ?_
 refine cRt ?_
 cases h
 exact eR rfl rfl rfl rfl
abbrev B_laws_toKidS (p : (List S_laws_Kid) → Option ((List S_impl_Kid))) : Prop := ∀ {t0_0 : List S_laws_Kid} {r : (List S_impl_Kid)}, p t0_0 = some r → Big Try.prog τ An (.fn 152 [.one (.c (.sl (t0_0.map rS_laws_Kid)))] [] (.one (.c (.sl (r.map rS_impl_Kid)))) none [] none)
def p_laws_toKidS_b1 (n : Nat) (t0_0 : List S_laws_Kid) : ((List S_impl_Kid) × Int) → Option (((List S_impl_Kid) × Int) ⊕ (((List S_impl_Kid) × Int × Bool)))
  | (v3_2, v4_3) => bif decide (v4_3 < (t0_0.length : Int)) then (ix t0_0 v4_3).bind fun e18_8 => (p_laws_toKid n e18_8.f0 e18_8.f1 e18_8.f2 e18_8.f3 e18_8.f4 e18_8.f5 e18_8.f6).bind fun c20_9 => (ix v3_2 v4_3).bind fun e21_10 => some (.inl ((v3_2.set (Int.toNat v4_3) (S_impl_Kid.mk c20_9.1 c20_9.2.1 c20_9.2.2.1 c20_9.2.2.2.1 c20_9.2.2.2.2.1 c20_9.2.2.2.2.2.1 c20_9.2.2.2.2.2.2)), (IntKind.wrap .i64 (v4_3 + (1 : Int))))) else some (.inr (v3_2, v4_3, false))
def p_laws_toKidS (n : Nat) (t0_0 : List S_laws_Kid) : Option ((List S_impl_Kid)) :=
  (ck (decide (0 ≤ (t0_0.length : Int) ∧ (t0_0.length : Int) ≤ maxLen ∧ 96 * (t0_0.length : Int) ≤ 281474976710656))).bind fun _ => (loopN (p_laws_toKidS_b1 n t0_0) n ((List.replicate (Int.toNat (t0_0.length : Int)) (S_impl_Kid.mk ([] : List UInt8) ([] : List UInt8) (0 : Int) (0 : Int) ([] : List UInt8) ([] : List S_impl_Term) (0 : Int))), (0 : Int))).bind fun (v3_4, v4_5, v11_6) => some v3_4
theorem big_laws_toKidS {n : Nat} : B_laws_toKidS (p_laws_toKidS n) := by
 intro t0_0 r h
 unfold p_laws_toKidS at h
 refine bF Try.func152 rfl rfl ?_
 refine cRs ?_
 refine wAe (Li rS_impl_Kid []) rfl rfl rfl rfl ?_
 refine oRs ?_
 refine xMv rfl ?_
 refine xLn rfl ?_
 refine oCk h (fun k7_0 h => ?_)
 refine wMk (z := S_impl_Kid.mk ([] : List UInt8) ([] : List UInt8) (0 : Int) (0 : Int) ([] : List UInt8) ([] : List S_impl_Term) (0 : Int)) (f := rS_impl_Kid) k7_0 rfl rfl rfl rfl rfl rfl rfl ?_
 refine xAs rfl ?_
 refine oNl ?_
 refine cSq ?_
 refine cRs ?_
 refine xAs rfl ?_
 refine oNl ?_
 refine cLp h [(3, 4), (8, 21)] [] (fun (v3_2, v4_3) => ([(3, Li rS_impl_Kid v3_2), (4, I64 v4_3)], [])) (fun (v3_4, v4_5, v11_6) => (.e 0, [(3, Li rS_impl_Kid v3_4), (4, I64 v4_5), (11, Bo v11_6)], [])) rfl (fun st _ h => ?_) (fun q h => ?_)
 obtain ⟨v3_2, v4_3⟩ := st
 unfold p_laws_toKidS_b1 at h
 refine cSq ?_
 refine cRs ?_
 refine xMv rfl ?_
 refine xMv rfl ?_
 refine xLn rfl ?_
 refine xLt rfl ?_
 refine oNl ?_
 refine cIf h rfl (fun q7 h => ?_) (fun q7 h => ?_)
 refine cSk ?_
 refine cSq ?_
 refine cBk ?_
 refine cRg ?_
 refine wAl rfl rfl rfl rfl ?_
 refine xMv rfl ?_
 refine xMv rfl ?_
 refine xMv rfl ?_
 refine xIx h rS_laws_Kid_eq rfl (fun e18_8 h => ?_)
 refine xLd rfl ?_
 refine xC0 h (big_laws_toKid ·) rfl (fun c20_9 h => ?_)
 refine wIp (f := rS_impl_Kid) h rfl rfl rfl rfl rfl rfl (fun _ => rfl) rfl (fun e21_10 ke21_10 h => ?_)
 refine wSp (f := rS_impl_Kid) (v' := S_impl_Kid.mk c20_9.1 c20_9.2.1 c20_9.2.2.1 c20_9.2.2.2.1 c20_9.2.2.2.2.1 c20_9.2.2.2.2.2.1 c20_9.2.2.2.2.2.2) ke21_10 rfl rfl rfl rfl rfl rfl rfl rfl rfl ?_
 refine oNl ?_
 refine cRg ?_
 refine xMv rfl ?_
 refine xAdd rfl ?_
 refine xAs rfl ?_
 refine oNl ?_
 exact eL h rfl
 refine cEx ?_
 exact eX h rfl
 obtain ⟨v3_4, v4_5, v11_6⟩ := q
 refine cRs ?_
 refine xMv rfl ?_
 refine xAs rfl ?_
 refine oNl ?_
 refine cRt ?_
 cases h
 exact eR rfl rfl rfl rfl
abbrev B_laws_toIntS (p : (List Int) → Option ((List Int))) : Prop := ∀ {t0_0 : List Int} {r : (List Int)}, p t0_0 = some r → Big Try.prog τ An (.fn 153 [.one (.c (.sl (t0_0.map rI_i64)))] [] (.one (.c (.sl (r.map rI_i64)))) none [] none)
def p_laws_toIntS_b1 (n : Nat) (t0_0 : List Int) : ((List Int) × Int) → Option (((List Int) × Int) ⊕ (((List Int) × Int × Bool)))
  | (v3_2, v4_3) => bif decide (v4_3 < (t0_0.length : Int)) then (ix t0_0 v4_3).bind fun e18_8 => (ix v3_2 v4_3).bind fun e20_9 => some (.inl ((v3_2.set (Int.toNat v4_3) e18_8), (IntKind.wrap .i64 (v4_3 + (1 : Int))))) else some (.inr (v3_2, v4_3, false))
def p_laws_toIntS (n : Nat) (t0_0 : List Int) : Option ((List Int)) :=
  (ck (decide (0 ≤ (t0_0.length : Int) ∧ (t0_0.length : Int) ≤ maxLen ∧ 8 * (t0_0.length : Int) ≤ 281474976710656))).bind fun _ => (loopN (p_laws_toIntS_b1 n t0_0) n ((List.replicate (Int.toNat (t0_0.length : Int)) (0 : Int)), (0 : Int))).bind fun (v3_4, v4_5, v11_6) => some v3_4
theorem big_laws_toIntS {n : Nat} : B_laws_toIntS (p_laws_toIntS n) := by
 intro t0_0 r h
 unfold p_laws_toIntS at h
 refine bF Try.func153 rfl rfl ?_
 refine cRs ?_
 refine wAe (Li rI_i64 []) rfl rfl rfl rfl ?_
 refine oRs ?_
 refine xMv rfl ?_
 refine xLn rfl ?_
 refine oCk h (fun k7_0 h => ?_)
 refine wMk (z := (0 : Int)) (f := rI_i64) k7_0 rfl rfl rfl rfl rfl rfl rfl ?_
 refine xAs rfl ?_
 refine oNl ?_
 refine cSq ?_
 refine cRs ?_
 refine xAs rfl ?_
 refine oNl ?_
 refine cLp h [(3, 4), (8, 20)] [] (fun (v3_2, v4_3) => ([(3, Li rI_i64 v3_2), (4, I64 v4_3)], [])) (fun (v3_4, v4_5, v11_6) => (.e 0, [(3, Li rI_i64 v3_4), (4, I64 v4_5), (11, Bo v11_6)], [])) rfl (fun st _ h => ?_) (fun q h => ?_)
 obtain ⟨v3_2, v4_3⟩ := st
 unfold p_laws_toIntS_b1 at h
 refine cSq ?_
 refine cRs ?_
 refine xMv rfl ?_
 refine xMv rfl ?_
 refine xLn rfl ?_
 refine xLt rfl ?_
 refine oNl ?_
 refine cIf h rfl (fun q7 h => ?_) (fun q7 h => ?_)
 refine cSk ?_
 refine cSq ?_
 refine cBk ?_
 refine cRg ?_
 refine wAl rfl rfl rfl rfl ?_
 refine xMv rfl ?_
 refine xMv rfl ?_
 refine xMv rfl ?_
 refine xIx h rI_i64_eq rfl (fun e18_8 h => ?_)
 refine xLd rfl ?_
 refine wIp (f := rI_i64) h rfl rfl rfl rfl rfl rfl (fun _ => rfl) rfl (fun e20_9 ke20_9 h => ?_)
 refine wSp (f := rI_i64) (v' := e18_8) ke20_9 rfl rfl rfl rfl rfl rfl rfl rfl rfl ?_
 refine oNl ?_
 refine cRg ?_
 refine xMv rfl ?_
 refine xAdd rfl ?_
 refine xAs rfl ?_
 refine oNl ?_
 exact eL h rfl
 refine cEx ?_
 exact eX h rfl
 obtain ⟨v3_4, v4_5, v11_6⟩ := q
 refine cRs ?_
 refine xMv rfl ?_
 refine xAs rfl ?_
 refine oNl ?_
 refine cRt ?_
 cases h
 exact eR rfl rfl rfl rfl
abbrev B_laws_toOver (p : Int → Int → Int → (List S_laws_Kid) → (List Int) → (List Int) → Bool → Option (Int × Int × Int × (List S_impl_Kid) × (List Int) × (List Int) × Bool)) : Prop := ∀ {t0_0 t0_1 t0_2 : Int} {t0_3 : List S_laws_Kid} {t0_4 t0_5 : List Int} {t0_6 : Bool} {r : Int × Int × Int × (List S_impl_Kid) × (List Int) × (List Int) × Bool}, p t0_0 t0_1 t0_2 t0_3 t0_4 t0_5 t0_6 = some r → Big Try.prog τ An (.fn 74 [.one (.ag [.int .i64 t0_0, .int .i64 t0_1, .int .i64 t0_2, .sl (t0_3.map rS_laws_Kid), .sl (t0_4.map rI_i64), .sl (t0_5.map rI_i64), .bool t0_6])] [] (.one (.ag [.int .i64 r.1, .int .i64 r.2.1, .int .i64 r.2.2.1, .sl (r.2.2.2.1.map rS_impl_Kid), .sl (r.2.2.2.2.1.map rI_i64), .sl (r.2.2.2.2.2.1.map rI_i64), .bool r.2.2.2.2.2.2])) none [] none)
def p_laws_toOver (n : Nat) (t0_0 : Int) (t0_1 : Int) (t0_2 : Int) (t0_3 : List S_laws_Kid) (t0_4 : List Int) (t0_5 : List Int) (t0_6 : Bool) : Option (Int × Int × Int × (List S_impl_Kid) × (List Int) × (List Int) × Bool) :=
  (p_laws_toKidS n t0_3).bind fun c15_1 => (p_laws_toIntS n t0_4).bind fun c19_2 => (p_laws_toIntS n t0_5).bind fun c23_3 => some (t0_0, t0_1, t0_2, c15_1, c19_2, c23_3, t0_6)
theorem big_laws_toOver {n : Nat} : B_laws_toOver (p_laws_toOver n) := by
 intro t0_0 t0_1 t0_2 t0_3 t0_4 t0_5 t0_6 r h
 unfold p_laws_toOver at h
 refine bF Try.func74 rfl rfl ?_
 refine cRs ?_
 refine xBx rfl ?_
 refine xAz [.int .i64 0, .int .i64 0, .int .i64 0, .sl ([].map rS_impl_Kid), .sl ([].map rI_i64), .sl ([].map rI_i64), .bool false] rfl ?_
 refine oRs ?_
 refine xAz [.int .i64 0, .int .i64 0, .int .i64 0, .sl ([].map rS_impl_Kid), .sl ([].map rI_i64), .sl ([].map rI_i64), .bool false] rfl ?_
 refine oRs ?_
 refine xFd rfl ?_
 refine xLd rfl ?_
 refine xFd rfl ?_
 refine xSt rfl ?_
 refine oRs ?_
 refine xFd rfl ?_
 refine xLd rfl ?_
 refine xFd rfl ?_
 refine xSt rfl ?_
 refine oRs ?_
 refine xFd rfl ?_
 refine xLd rfl ?_
 refine xFd rfl ?_
 refine xSt rfl ?_
 refine oRs ?_
 refine xFd rfl ?_
 refine xLd rfl ?_
 refine xC0 h (big_laws_toKidS ·) rfl (fun c15_1 h => ?_)
 refine xFd rfl ?_
 refine xSt rfl ?_
 refine oRs ?_
 refine xFd rfl ?_
 refine xLd rfl ?_
 refine xC0 h (big_laws_toIntS ·) rfl (fun c19_2 h => ?_)
 refine xFd rfl ?_
 refine xSt rfl ?_
 refine oRs ?_
 refine xFd rfl ?_
 refine xLd rfl ?_
 refine xC0 h (big_laws_toIntS ·) rfl (fun c23_3 h => ?_)
 refine xFd rfl ?_
 refine xSt rfl ?_
 refine oRs ?_
 refine xFd rfl ?_
 refine xLd rfl ?_
 refine xFd rfl ?_
 refine xSt rfl ?_
 refine oRs ?_
 refine xLd rfl ?_
 refine xSt rfl ?_
 refine oNl ?_
 refine cRt ?_
 cases h
 exact eR rfl rfl rfl rfl
abbrev B_laws_toOverS (p : (List S_laws_Over) → Option ((List S_impl_Over))) : Prop := ∀ {t0_0 : List S_laws_Over} {r : (List S_impl_Over)}, p t0_0 = some r → Big Try.prog τ An (.fn 14 [.one (.c (.sl (t0_0.map rS_laws_Over)))] [] (.one (.c (.sl (r.map rS_impl_Over)))) none [] none)
def p_laws_toOverS_b1 (n : Nat) (t0_0 : List S_laws_Over) : ((List S_impl_Over) × Int) → Option (((List S_impl_Over) × Int) ⊕ (((List S_impl_Over) × Int × Bool)))
  | (v3_2, v4_3) => bif decide (v4_3 < (t0_0.length : Int)) then (ix t0_0 v4_3).bind fun e18_8 => (p_laws_toOver n e18_8.f0 e18_8.f1 e18_8.f2 e18_8.f3 e18_8.f4 e18_8.f5 e18_8.f6).bind fun c20_9 => (ix v3_2 v4_3).bind fun e21_10 => some (.inl ((v3_2.set (Int.toNat v4_3) (S_impl_Over.mk c20_9.1 c20_9.2.1 c20_9.2.2.1 c20_9.2.2.2.1 c20_9.2.2.2.2.1 c20_9.2.2.2.2.2.1 c20_9.2.2.2.2.2.2)), (IntKind.wrap .i64 (v4_3 + (1 : Int))))) else some (.inr (v3_2, v4_3, false))
def p_laws_toOverS (n : Nat) (t0_0 : List S_laws_Over) : Option ((List S_impl_Over)) :=
  (ck (decide (0 ≤ (t0_0.length : Int) ∧ (t0_0.length : Int) ≤ maxLen ∧ 104 * (t0_0.length : Int) ≤ 281474976710656))).bind fun _ => (loopN (p_laws_toOverS_b1 n t0_0) n ((List.replicate (Int.toNat (t0_0.length : Int)) (S_impl_Over.mk (0 : Int) (0 : Int) (0 : Int) ([] : List S_impl_Kid) ([] : List Int) ([] : List Int) false)), (0 : Int))).bind fun (v3_4, v4_5, v11_6) => some v3_4
theorem big_laws_toOverS {n : Nat} : B_laws_toOverS (p_laws_toOverS n) := by
 intro t0_0 r h
 unfold p_laws_toOverS at h
 refine bF Try.func14 rfl rfl ?_
 refine cRs ?_
 refine wAe (Li rS_impl_Over []) rfl rfl rfl rfl ?_
 refine oRs ?_
 refine xMv rfl ?_
 refine xLn rfl ?_
 refine oCk h (fun k7_0 h => ?_)
 refine wMk (z := S_impl_Over.mk (0 : Int) (0 : Int) (0 : Int) ([] : List S_impl_Kid) ([] : List Int) ([] : List Int) false) (f := rS_impl_Over) k7_0 rfl rfl rfl rfl rfl rfl rfl ?_
 refine xAs rfl ?_
 refine oNl ?_
 refine cSq ?_
 refine cRs ?_
 refine xAs rfl ?_
 refine oNl ?_
 refine cLp h [(3, 4), (8, 21)] [] (fun (v3_2, v4_3) => ([(3, Li rS_impl_Over v3_2), (4, I64 v4_3)], [])) (fun (v3_4, v4_5, v11_6) => (.e 0, [(3, Li rS_impl_Over v3_4), (4, I64 v4_5), (11, Bo v11_6)], [])) rfl (fun st _ h => ?_) (fun q h => ?_)
 obtain ⟨v3_2, v4_3⟩ := st
 unfold p_laws_toOverS_b1 at h
 refine cSq ?_
 refine cRs ?_
 refine xMv rfl ?_
 refine xMv rfl ?_
 refine xLn rfl ?_
 refine xLt rfl ?_
 refine oNl ?_
 refine cIf h rfl (fun q7 h => ?_) (fun q7 h => ?_)
 refine cSk ?_
 refine cSq ?_
 refine cBk ?_
 refine cRg ?_
 refine wAl rfl rfl rfl rfl ?_
 refine xMv rfl ?_
 refine xMv rfl ?_
 refine xMv rfl ?_
 refine xIx h rS_laws_Over_eq rfl (fun e18_8 h => ?_)
 refine xLd rfl ?_
 refine xC0 h (big_laws_toOver ·) rfl (fun c20_9 h => ?_)
 refine wIp (f := rS_impl_Over) h rfl rfl rfl rfl rfl rfl (fun _ => rfl) rfl (fun e21_10 ke21_10 h => ?_)
 refine wSp (f := rS_impl_Over) (v' := S_impl_Over.mk c20_9.1 c20_9.2.1 c20_9.2.2.1 c20_9.2.2.2.1 c20_9.2.2.2.2.1 c20_9.2.2.2.2.2.1 c20_9.2.2.2.2.2.2) ke21_10 rfl rfl rfl rfl rfl rfl rfl rfl rfl ?_
 refine oNl ?_
 refine cRg ?_
 refine xMv rfl ?_
 refine xAdd rfl ?_
 refine xAs rfl ?_
 refine oNl ?_
 exact eL h rfl
 refine cEx ?_
 exact eX h rfl
 obtain ⟨v3_4, v4_5, v11_6⟩ := q
 refine cRs ?_
 refine xMv rfl ?_
 refine xAs rfl ?_
 refine oNl ?_
 refine cRt ?_
 cases h
 exact eR rfl rfl rfl rfl
abbrev B_impl_inRange (p : Int → Int → Int → Option (Bool)) : Prop := ∀ {t0_0 t1_0 t2_0 : Int} {r : Bool}, p t0_0 t1_0 t2_0 = some r → Big Try.prog τ An (.fn 75 [.one (.c (.int .i64 t0_0)), .one (.c (.int .i64 t1_0)), .one (.c (.int .i64 t2_0))] [] (.one (.c (.bool r))) none [] none)
def p_impl_inRange (n : Nat) (t0_0 : Int) (t1_0 : Int) (t2_0 : Int) : Option (Bool) :=
  (bif decide (t1_0 ≤ t0_0) then some (decide (t0_0 ≤ t2_0)) else some false).bind fun v6_1 => some v6_1
theorem big_impl_inRange {n : Nat} : B_impl_inRange (p_impl_inRange n) := by
 intro t0_0 t1_0 t2_0 r h
 unfold p_impl_inRange at h
 refine bF Try.func75 rfl rfl ?_
 refine cRs ?_
 refine xAs rfl ?_
 refine oRs ?_
 refine oJn h [(6, 14)] [] (fun v6_1 => (.n, [(6, Bo v6_1)], [])) (fun _ h => ?_) (fun v6_1 h => ?_)
 refine xMv rfl ?_
 refine xMv rfl ?_
 refine xGe rfl ?_
 refine xMv rfl ?_
 refine oIf 10 h rfl (fun q2 h => ?_) (fun q2 h => ?_)
 refine xMv rfl ?_
 refine xMv rfl ?_
 refine xLe rfl ?_
 refine xPk rfl ?_
 refine xAs rfl ?_
 refine oNl ?_
 exact eJ h rfl
 refine wSk rfl ?_
 refine wSk rfl ?_
 refine wSk rfl ?_
 refine xPk rfl ?_
 refine xAs rfl ?_
 refine oNl ?_
 exact eJ h rfl
 refine cRt ?_
 cases h
 exact eR rfl rfl rfl rfl
abbrev B_impl_isSmall (p : Int → Option (Bool)) : Prop := ∀ {t0_0 : Int} {r : Bool}, p t0_0 = some r → Big Try.prog τ An (.fn 236 [.one (.c (.int .u8 t0_0))] [] (.one (.c (.bool r))) none [] none)
def p_impl_isSmall (n : Nat) (t0_0 : Int) : Option (Bool) :=
  (bif decide ((97 : Int) ≤ t0_0) then some (decide (t0_0 ≤ (122 : Int))) else some false).bind fun v2_1 => some v2_1
theorem big_impl_isSmall {n : Nat} : B_impl_isSmall (p_impl_isSmall n) := by
 intro t0_0 r h
 unfold p_impl_isSmall at h
 refine bF Try.func236 rfl rfl ?_
 refine cRs ?_
 refine xAs rfl ?_
 refine oRs ?_
 refine oJn h [(2, 8)] [] (fun v2_1 => (.n, [(2, Bo v2_1)], [])) (fun _ h => ?_) (fun v2_1 h => ?_)
 refine xMv rfl ?_
 refine xGe rfl ?_
 refine xMv rfl ?_
 refine oIf 5 h rfl (fun q2 h => ?_) (fun q2 h => ?_)
 refine xMv rfl ?_
 refine xLe rfl ?_
 refine xPk rfl ?_
 refine xAs rfl ?_
 refine oNl ?_
 exact eJ h rfl
 refine wSk rfl ?_
 refine wSk rfl ?_
 refine xPk rfl ?_
 refine xAs rfl ?_
 refine oNl ?_
 exact eJ h rfl
 refine cRt ?_
 cases h
 exact eR rfl rfl rfl rfl
abbrev B_impl_isFigure (p : Int → Option (Bool)) : Prop := ∀ {t0_0 : Int} {r : Bool}, p t0_0 = some r → Big Try.prog τ An (.fn 237 [.one (.c (.int .u8 t0_0))] [] (.one (.c (.bool r))) none [] none)
def p_impl_isFigure (n : Nat) (t0_0 : Int) : Option (Bool) :=
  (bif decide ((48 : Int) ≤ t0_0) then some (decide (t0_0 ≤ (57 : Int))) else some false).bind fun v2_1 => some v2_1
theorem big_impl_isFigure {n : Nat} : B_impl_isFigure (p_impl_isFigure n) := by
 intro t0_0 r h
 unfold p_impl_isFigure at h
 refine bF Try.func237 rfl rfl ?_
 refine cRs ?_
 refine xAs rfl ?_
 refine oRs ?_
 refine oJn h [(2, 8)] [] (fun v2_1 => (.n, [(2, Bo v2_1)], [])) (fun _ h => ?_) (fun v2_1 h => ?_)
 refine xMv rfl ?_
 refine xGe rfl ?_
 refine xMv rfl ?_
 refine oIf 5 h rfl (fun q2 h => ?_) (fun q2 h => ?_)
 refine xMv rfl ?_
 refine xLe rfl ?_
 refine xPk rfl ?_
 refine xAs rfl ?_
 refine oNl ?_
 exact eJ h rfl
 refine wSk rfl ?_
 refine wSk rfl ?_
 refine xPk rfl ?_
 refine xAs rfl ?_
 refine oNl ?_
 exact eJ h rfl
 refine cRt ?_
 cases h
 exact eR rfl rfl rfl rfl
abbrev B_impl_AtomOk (p : (List UInt8) → Option (Bool)) : Prop := ∀ {t0_0 : List UInt8} {r : Bool}, p t0_0 = some r → Big Try.prog τ An (.fn 196 [.one (.c (.str t0_0))] [] (.one (.c (.bool r))) none [] none)
def p_impl_AtomOk_b1 (n : Nat) (t0_0 : List UInt8) : (Int) → Option ((Int) ⊕ ((Bool) ⊕ (Int × Bool)))
  | v3_1 => bif decide (v3_1 < (t0_0.length : Int)) then ((ixs t0_0 v3_1).bind fun e12_7 => (p_impl_isSmall n e12_7).bind fun c13_8 => bif !c13_8 then bif decide (v3_1 = (0 : Int)) then some true else (ixs t0_0 v3_1).bind fun e21_11 => (p_impl_isFigure n e21_11).bind fun c22_12 => bif !c22_12 then (ixs t0_0 v3_1).bind fun e27_14 => some (!decide (e27_14 = (95 : Int))) else some false else some false).bind fun v31_6 => bif v31_6 then some (.inr (.inl false)) else some (.inl (IntKind.wrap .i64 (v3_1 + (1 : Int)))) else some (.inr (.inr (v3_1, false)))
def p_impl_AtomOk (n : Nat) (t0_0 : List UInt8) : Option (Bool) :=
  (loopN (p_impl_AtomOk_b1 n t0_0) n (0 : Int)).bind fun q => (match q with | .inl v2_2 => some v2_2 | .inr (v3_3, v7_4) => (p_impl_inRange n (t0_0.length : Int) (1 : Int) (20 : Int)).bind fun c34_16 => some c34_16)
theorem big_impl_AtomOk {n : Nat} : B_impl_AtomOk (p_impl_AtomOk n) := by
 intro t0_0 r h
 unfold p_impl_AtomOk at h
 refine bF Try.func196 rfl rfl ?_
 refine cRs ?_
 refine xAs rfl ?_
 refine oNl ?_
 refine cSq ?_
 refine cRs ?_
 refine xAs rfl ?_
 refine oNl ?_
 refine cLp h [(2, 31)] [] (fun v3_1 => ([(3, I64 v3_1)], [])) (fun q => match q with | .inl v2_2 => (.r, [(2, Bo v2_2)], []) | .inr (v3_3, v7_4) => (.e 0, [(3, I64 v3_3), (7, Bo v7_4)], [])) rfl (fun v3_1 _ h => ?_) (fun q h => ?_)
 unfold p_impl_AtomOk_b1 at h
 refine cSq ?_
 refine cRs ?_
 refine xMv rfl ?_
 refine xMv rfl ?_
 refine xLs rfl ?_
 refine xLt rfl ?_
 refine oNl ?_
 refine cIf h rfl (fun q5 h => ?_) (fun q5 h => ?_)
 refine cSk ?_
 refine cSq ?_
 refine cBk ?_
 refine cRs ?_
 refine oJn h [(10, 31)] [] (fun v31_6 => (.n, [(31, Bo v31_6)], [])) (fun _ h => ?_) (fun v31_6 h => ?_)
 refine xMv rfl ?_
 refine xMv rfl ?_
 refine wIxs h rfl rfl rfl rfl rfl (fun e12_7 h => ?_)
 refine xC0 h (big_impl_isSmall ·) rfl (fun c13_8 h => ?_)
 refine xNot rfl ?_
 refine xMv rfl ?_
 refine oIf 15 h rfl (fun q9 h => ?_) (fun q9 h => ?_)
 refine xMv rfl ?_
 refine xEq rfl ?_
 refine xMv rfl ?_
 refine oIf 18 h rfl (fun q10 h => ?_) (fun q10 h => ?_)
 refine wSk rfl ?_
 refine wSk rfl ?_
 refine wSk rfl ?_
 refine wSk rfl ?_
 refine wSk rfl ?_
 refine wSk rfl ?_
 refine wSk rfl ?_
 refine wSk rfl ?_
 refine wSk rfl ?_
 refine wSk rfl ?_
 refine wSk rfl ?_
 refine xPk rfl ?_
 refine xPk rfl ?_
 refine oNl ?_
 exact eJ h rfl
 refine xMv rfl ?_
 refine xMv rfl ?_
 refine wIxs h rfl rfl rfl rfl rfl (fun e21_11 h => ?_)
 refine xC0 h (big_impl_isFigure ·) rfl (fun c22_12 h => ?_)
 refine xNot rfl ?_
 refine xMv rfl ?_
 refine oIf 24 h rfl (fun q13 h => ?_) (fun q13 h => ?_)
 refine xMv rfl ?_
 refine xMv rfl ?_
 refine wIxs h rfl rfl rfl rfl rfl (fun e27_14 h => ?_)
 refine xNe rfl ?_
 refine xPk rfl ?_
 refine xPk rfl ?_
 refine xPk rfl ?_
 refine oNl ?_
 exact eJ h rfl
 refine wSk rfl ?_
 refine wSk rfl ?_
 refine wSk rfl ?_
 refine wSk rfl ?_
 refine xPk rfl ?_
 refine xPk rfl ?_
 refine xPk rfl ?_
 refine oNl ?_
 exact eJ h rfl
 refine wSk rfl ?_
 refine wSk rfl ?_
 refine wSk rfl ?_
 refine wSk rfl ?_
 refine wSk rfl ?_
 refine wSk rfl ?_
 refine wSk rfl ?_
 refine wSk rfl ?_
 refine wSk rfl ?_
 refine wSk rfl ?_
 refine wSk rfl ?_
 refine wSk rfl ?_
 refine wSk rfl ?_
 refine wSk rfl ?_
 refine wSk rfl ?_
 refine xPk rfl ?_
 refine oNl ?_
 exact eJ h rfl
 refine cIf h rfl (fun q15 h => ?_) (fun q15 h => ?_)
 refine cRs ?_
 refine xAs rfl ?_
 refine oNl ?_
 refine cRt ?_
 exact eXr h rfl
 refine cSk ?_
 refine cRg ?_
 refine xMv rfl ?_
 refine xAdd rfl ?_
 refine xAs rfl ?_
 refine oNl ?_
 exact eL h rfl
 refine cEx ?_
 exact eX h rfl
 rcases q with v2_2 | ⟨v3_3, v7_4⟩
 cases h
 exact eR rfl rfl rfl rfl
 refine cRs ?_
 refine xMv rfl ?_
 refine xLs rfl ?_
 refine xC0 h (big_impl_inRange ·) rfl (fun c34_16 h => ?_)
 refine xAs rfl ?_
 refine oNl ?_
 refine cRt ?_
 cases h
 exact eR rfl rfl rfl rfl
abbrev B_impl_Term_plainOk (p : Int → Int → (List UInt8) → (List S_impl_Term) → Option (Bool)) : Prop := ∀ {t0_0 t0_1 : Int} {t0_2 : List UInt8} {t0_3 : List S_impl_Term} {r : Bool}, p t0_0 t0_1 t0_2 t0_3 = some r → Big Try.prog τ An (.fn 203 [.one (.ag [.int .i64 t0_0, .int .i64 t0_1, .str t0_2, .sl (t0_3.map rS_impl_Term)])] [] (.one (.c (.bool r))) none [] none)
def p_impl_Term_plainOk (n : Nat) (t0_0 : Int) (t0_1 : Int) (t0_2 : List UInt8) (t0_3 : List S_impl_Term) : Option (Bool) :=
  bif decide (t0_0 = (1 : Int)) then ((p_impl_inRange n t0_1 ((-1000000000000) : Int) (1000000000000 : Int)).bind fun c9_3 => bif c9_3 then bif decide (t0_2 = ([] : List UInt8)) then some (decide ((t0_3.length : Int) = (0 : Int))) else some false else some false).bind fun v2_2 => some v2_2 else bif decide (t0_0 = (2 : Int)) then (bif decide (t0_1 = (0 : Int)) then (p_impl_AtomOk n t0_2).bind fun c29_9 => bif c29_9 then some (decide ((t0_3.length : Int) = (0 : Int))) else some false else some false).bind fun v2_7 => some v2_7 else bif decide (t0_0 = (3 : Int)) then ((p_impl_inRange n t0_1 (0 : Int) (1000000 : Int)).bind fun c41_13 => bif c41_13 then bif decide (t0_2 = ([] : List UInt8)) then some (decide ((t0_3.length : Int) = (0 : Int))) else some false else some false).bind fun v2_12 => some v2_12 else bif decide (t0_0 = (4 : Int)) then (bif decide (t0_1 = (0 : Int)) then bif decide (t0_2 = ([] : List UInt8)) then some (decide ((t0_3.length : Int) ≤ (20 : Int))) else some false else some false).bind fun v2_17 => some v2_17 else bif decide (t0_0 = (5 : Int)) then (bif decide (t0_1 = (0 : Int)) then bif decide (t0_2 = ([] : List UInt8)) then some (decide ((t0_3.length : Int) ≤ (60 : Int))) else some false else some false).bind fun v2_21 => some v2_21 else some false
theorem big_impl_Term_plainOk {n : Nat} : B_impl_Term_plainOk (p_impl_Term_plainOk n) := by
 intro t0_0 t0_1 t0_2 t0_3 r h
 unfold p_impl_Term_plainOk at h
 refine bF Try.func203 rfl rfl ?_
 refine cRs ?_
 refine xBx rfl ?_
 refine xAs rfl ?_
 refine oNl ?_
 refine cSq ?_
 refine cRs ?_
 refine xFd rfl ?_
 refine xLd rfl ?_
 refine oNl ?_
 refine cBk ?_
 refine cRs ?_
 refine xEq rfl ?_
 refine xAs rfl ?_
 refine oNl ?_
 refine cIf h rfl (fun q1 h => ?_) (fun q1 h => ?_)
 refine cRs ?_
 refine oJn h [(2, 2), (7, 20)] [] (fun v2_2 => (.n, [(2, Bo v2_2)], [])) (fun _ h => ?_) (fun v2_2 h => ?_)
 refine xFd rfl ?_
 refine xLd rfl ?_
 refine xC0 h (big_impl_inRange ·) rfl (fun c9_3 h => ?_)
 refine xMv rfl ?_
 refine oIf 10 h rfl (fun q4 h => ?_) (fun q4 h => ?_)
 refine xFd rfl ?_
 refine xLd rfl ?_
 refine xEs rfl ?_
 refine xPk rfl ?_
 refine xMv rfl ?_
 refine oIf 15 h rfl (fun q5 h => ?_) (fun q5 h => ?_)
 refine xFd rfl ?_
 refine xLd rfl ?_
 refine xLn rfl ?_
 refine xEq rfl ?_
 refine xPk rfl ?_
 refine xAs rfl ?_
 refine oNl ?_
 exact eJ h rfl
 refine wSk rfl ?_
 refine wSk rfl ?_
 refine wSk rfl ?_
 refine wSk rfl ?_
 refine xPk rfl ?_
 refine xAs rfl ?_
 refine oNl ?_
 exact eJ h rfl
 refine wSk rfl ?_
 refine wSk rfl ?_
 refine wSk rfl ?_
 refine xPk rfl ?_
 refine xMv rfl ?_
 refine wSk rfl ?_
 refine wSk rfl ?_
 refine wSk rfl ?_
 refine wSk rfl ?_
 refine xPk rfl ?_
 refine xAs rfl ?_
 refine oNl ?_
 exact eJ h rfl
 refine cRt ?_
 cases h
 exact eR rfl rfl rfl rfl
 refine cRs ?_
 refine xEq rfl ?_
 refine xAs rfl ?_
 refine oNl ?_
 refine cIf h rfl (fun q6 h => ?_) (fun q6 h => ?_)
 refine cRs ?_
 refine oJn h [(2, 2), (23, 36)] [] (fun v2_7 => (.n, [(2, Bo v2_7)], [])) (fun _ h => ?_) (fun v2_7 h => ?_)
 refine xFd rfl ?_
 refine xLd rfl ?_
 refine xEq rfl ?_
 refine xMv rfl ?_
 refine oIf 26 h rfl (fun q8 h => ?_) (fun q8 h => ?_)
 refine xFd rfl ?_
 refine xLd rfl ?_
 refine xC0 h (big_impl_AtomOk ·) rfl (fun c29_9 h => ?_)
 refine xPk rfl ?_
 refine xMv rfl ?_
 refine oIf 31 h rfl (fun q10 h => ?_) (fun q10 h => ?_)
 refine xFd rfl ?_
 refine xLd rfl ?_
 refine xLn rfl ?_
 refine xEq rfl ?_
 refine xPk rfl ?_
 refine xAs rfl ?_
 refine oNl ?_
 exact eJ h rfl
 refine wSk rfl ?_
 refine wSk rfl ?_
 refine wSk rfl ?_
 refine wSk rfl ?_
 refine xPk rfl ?_
 refine xAs rfl ?_
 refine oNl ?_
 exact eJ h rfl
 refine wSk rfl ?_
 refine wSk rfl ?_
 refine wSk rfl ?_
 refine xPk rfl ?_
 refine xMv rfl ?_
 refine wSk rfl ?_
 refine wSk rfl ?_
 refine wSk rfl ?_
 refine wSk rfl ?_
 refine xPk rfl ?_
 refine xAs rfl ?_
 refine oNl ?_
 exact eJ h rfl
 refine cRt ?_
 cases h
 exact eR rfl rfl rfl rfl
 refine cRs ?_
 refine xEq rfl ?_
 refine xAs rfl ?_
 refine oNl ?_
 refine cIf h rfl (fun q11 h => ?_) (fun q11 h => ?_)
 refine cRs ?_
 refine oJn h [(2, 2), (39, 52)] [] (fun v2_12 => (.n, [(2, Bo v2_12)], [])) (fun _ h => ?_) (fun v2_12 h => ?_)
 refine xFd rfl ?_
 refine xLd rfl ?_
 refine xC0 h (big_impl_inRange ·) rfl (fun c41_13 h => ?_)
 refine xMv rfl ?_
 refine oIf 42 h rfl (fun q14 h => ?_) (fun q14 h => ?_)
 refine xFd rfl ?_
 refine xLd rfl ?_
 refine xEs rfl ?_
 refine xPk rfl ?_
 refine xMv rfl ?_
 refine oIf 47 h rfl (fun q15 h => ?_) (fun q15 h => ?_)
 refine xFd rfl ?_
 refine xLd rfl ?_
 refine xLn rfl ?_
 refine xEq rfl ?_
 refine xPk rfl ?_
 refine xAs rfl ?_
 refine oNl ?_
 exact eJ h rfl
 refine wSk rfl ?_
 refine wSk rfl ?_
 refine wSk rfl ?_
 refine wSk rfl ?_
 refine xPk rfl ?_
 refine xAs rfl ?_
 refine oNl ?_
 exact eJ h rfl
 refine wSk rfl ?_
 refine wSk rfl ?_
 refine wSk rfl ?_
 refine xPk rfl ?_
 refine xMv rfl ?_
 refine wSk rfl ?_
 refine wSk rfl ?_
 refine wSk rfl ?_
 refine wSk rfl ?_
 refine xPk rfl ?_
 refine xAs rfl ?_
 refine oNl ?_
 exact eJ h rfl
 refine cRt ?_
 cases h
 exact eR rfl rfl rfl rfl
 refine cRs ?_
 refine xEq rfl ?_
 refine xAs rfl ?_
 refine oNl ?_
 refine cIf h rfl (fun q16 h => ?_) (fun q16 h => ?_)
 refine cRs ?_
 refine oJn h [(2, 2), (55, 68)] [] (fun v2_17 => (.n, [(2, Bo v2_17)], [])) (fun _ h => ?_) (fun v2_17 h => ?_)
 refine xFd rfl ?_
 refine xLd rfl ?_
 refine xEq rfl ?_
 refine xMv rfl ?_
 refine oIf 58 h rfl (fun q18 h => ?_) (fun q18 h => ?_)
 refine xFd rfl ?_
 refine xLd rfl ?_
 refine xEs rfl ?_
 refine xPk rfl ?_
 refine xMv rfl ?_
 refine oIf 63 h rfl (fun q19 h => ?_) (fun q19 h => ?_)
 refine xFd rfl ?_
 refine xLd rfl ?_
 refine xLn rfl ?_
 refine xLe rfl ?_
 refine xPk rfl ?_
 refine xAs rfl ?_
 refine oNl ?_
 exact eJ h rfl
 refine wSk rfl ?_
 refine wSk rfl ?_
 refine wSk rfl ?_
 refine wSk rfl ?_
 refine xPk rfl ?_
 refine xAs rfl ?_
 refine oNl ?_
 exact eJ h rfl
 refine wSk rfl ?_
 refine wSk rfl ?_
 refine wSk rfl ?_
 refine xPk rfl ?_
 refine xMv rfl ?_
 refine wSk rfl ?_
 refine wSk rfl ?_
 refine wSk rfl ?_
 refine wSk rfl ?_
 refine xPk rfl ?_
 refine xAs rfl ?_
 refine oNl ?_
 exact eJ h rfl
 refine cRt ?_
 cases h
 exact eR rfl rfl rfl rfl
 refine cRs ?_
 refine xEq rfl ?_
 refine xAs rfl ?_
 refine oNl ?_
 refine cIf h rfl (fun q20 h => ?_) (fun q20 h => ?_)
 refine cRs ?_
 refine oJn h [(2, 2), (71, 84)] [] (fun v2_21 => (.n, [(2, Bo v2_21)], [])) (fun _ h => ?_) (fun v2_21 h => ?_)
 refine xFd rfl ?_
 refine xLd rfl ?_
 refine xEq rfl ?_
 refine xMv rfl ?_
 refine oIf 74 h rfl (fun q22 h => ?_) (fun q22 h => ?_)
 refine xFd rfl ?_
 refine xLd rfl ?_
 refine xEs rfl ?_
 refine xPk rfl ?_
 refine xMv rfl ?_
 refine oIf 79 h rfl (fun q23 h => ?_) (fun q23 h => ?_)
 refine xFd rfl ?_
 refine xLd rfl ?_
 refine xLn rfl ?_
 refine xLe rfl ?_
 refine xPk rfl ?_
 refine xAs rfl ?_
 refine oNl ?_
 exact eJ h rfl
 refine wSk rfl ?_
 refine wSk rfl ?_
 refine wSk rfl ?_
 refine wSk rfl ?_
 refine xPk rfl ?_
 refine xAs rfl ?_
 refine oNl ?_
 exact eJ h rfl
 refine wSk rfl ?_
 refine wSk rfl ?_
 refine wSk rfl ?_
 refine xPk rfl ?_
 refine xMv rfl ?_
 refine wSk rfl ?_
 refine wSk rfl ?_
 refine wSk rfl ?_
 refine wSk rfl ?_
 refine xPk rfl ?_
 refine xAs rfl ?_
 refine oNl ?_
 exact eJ h rfl
 refine cRt ?_
 cases h
 exact eR rfl rfl rfl rfl
 refine cSk ?_
 refine cRs ?_
 refine xAs rfl ?_
 refine oNl ?_
 refine cRt ?_
 cases h
 exact eR rfl rfl rfl rfl
abbrev B_impl_Term_measure (p : Int → Int → (List UInt8) → (List S_impl_Term) → Int → Option (Int)) : Prop := ∀ {t0_0 t0_1 : Int} {t0_2 : List UInt8} {t0_3 : List S_impl_Term} {t1_0 : Int} {r : Int}, p t0_0 t0_1 t0_2 t0_3 t1_0 = some r → Big Try.prog τ An (.fn 133 [.one (.ag [.int .i64 t0_0, .int .i64 t0_1, .str t0_2, .sl (t0_3.map rS_impl_Term)]), .one (.c (.int .i64 t1_0))] [] (.one (.c (.int .i64 r))) none [] none)
def p_impl_Term_measure_b1 (n : Nat) (r_impl_Term_measure : Int → Int → (List UInt8) → (List S_impl_Term) → Int → Option (Int)) (t1_0 : Int) (t0_3 : List S_impl_Term) : (Int × Int) → Option ((Int × Int) ⊕ ((Int) ⊕ (Int × Int × Bool)))
  | (v5_5, v18_6) => bif decide (v18_6 < (t0_3.length : Int)) then (ix t0_3 v18_6).bind fun e20_12 => (r_impl_Term_measure e20_12.f0 e20_12.f1 e20_12.f2 e20_12.f3 (IntKind.wrap .i64 (t1_0 + (1 : Int)))).bind fun c26_13 => bif decide ((300 : Int) < (IntKind.wrap .i64 (v5_5 + c26_13))) then some (.inr (.inl (301 : Int))) else some (.inl ((IntKind.wrap .i64 (v5_5 + c26_13)), (IntKind.wrap .i64 (v18_6 + (1 : Int))))) else some (.inr (.inr (v5_5, v18_6, false)))
def s_impl_Term_measure (n : Nat) (r_impl_Term_measure : Int → Int → (List UInt8) → (List S_impl_Term) → Int → Option (Int)) (t0_0 : Int) (t0_1 : Int) (t0_2 : List UInt8) (t0_3 : List S_impl_Term) (t1_0 : Int) : Option (Int) :=
  (bif decide ((8 : Int) < t1_0) then some true else (p_impl_Term_plainOk n t0_0 t0_1 t0_2 t0_3).bind fun c12_3 => some (!c12_3)).bind fun v14_1 => bif v14_1 then some (301 : Int) else (loopN (p_impl_Term_measure_b1 n r_impl_Term_measure t1_0 t0_3) n ((1 : Int), (0 : Int))).bind fun q => (match q with | .inl v4_7 => some v4_7 | .inr (v5_8, v18_9, v19_10) => some v5_8)
theorem step_impl_Term_measure {n : Nat} {r_impl_Term_measure : Int → Int → (List UInt8) → (List S_impl_Term) → Int → Option (Int)} (ih_impl_Term_measure : B_impl_Term_measure r_impl_Term_measure) : B_impl_Term_measure (s_impl_Term_measure n r_impl_Term_measure) := by
 intro t0_0 t0_1 t0_2 t0_3 t1_0 r h
 unfold s_impl_Term_measure at h
 refine bF Try.func133 rfl rfl ?_
 refine cRs ?_
 refine xBx rfl ?_
 refine xAs rfl ?_
 refine oNl ?_
 refine cSq ?_
 refine cRs ?_
 refine oJn h [(8, 14)] [] (fun v14_1 => (.n, [(14, Bo v14_1)], [])) (fun _ h => ?_) (fun v14_1 h => ?_)
 refine xMv rfl ?_
 refine xGt rfl ?_
 refine xMv rfl ?_
 refine oIf 10 h rfl (fun q2 h => ?_) (fun q2 h => ?_)
 refine wSk rfl ?_
 refine wSk rfl ?_
 refine wSk rfl ?_
 refine xPk rfl ?_
 refine oNl ?_
 exact eJ h rfl
 refine xLd rfl ?_
 refine xC0 h (big_impl_Term_plainOk ·) rfl (fun c12_3 h => ?_)
 refine xNot rfl ?_
 refine xPk rfl ?_
 refine oNl ?_
 exact eJ h rfl
 refine cIf h rfl (fun q4 h => ?_) (fun q4 h => ?_)
 refine cRs ?_
 refine xAs rfl ?_
 refine oNl ?_
 refine cRt ?_
 cases h
 exact eR rfl rfl rfl rfl
 refine cSk ?_
 refine cRs ?_
 refine xAs rfl ?_
 refine oNl ?_
 refine cSq ?_
 refine cRs ?_
 refine xFd rfl ?_
 refine xLd rfl ?_
 refine xLn rfl ?_
 refine xMv rfl ?_
 refine oNl ?_
 refine cLp h [(4, 5), (7, 7), (18, 30)] [(7, 7)] (fun (v5_5, v18_6) => ([(5, I64 v5_5), (18, I64 v18_6)], [])) (fun q => match q with | .inl v4_7 => (.r, [(4, I64 v4_7)], []) | .inr (v5_8, v18_9, v19_10) => (.e 0, [(5, I64 v5_8), (18, I64 v18_9), (19, Bo v19_10)], [])) rfl (fun st _ h => ?_) (fun q h => ?_)
 obtain ⟨v5_5, v18_6⟩ := st
 unfold p_impl_Term_measure_b1 at h
 refine cRs ?_
 refine xLt rfl ?_
 refine oNl ?_
 refine cSq ?_
 refine cIf h rfl (fun q11 h => ?_) (fun q11 h => ?_)
 refine cSk ?_
 refine cSq ?_
 refine cBk ?_
 refine cRs ?_
 refine xIx h rS_impl_Term_eq rfl (fun e20_12 h => ?_)
 refine xLd rfl ?_
 refine xAz [.int .i64 0, .int .i64 0, .str [], .sl ([].map rS_impl_Term)] rfl ?_
 refine xSt rfl ?_
 refine oRs ?_
 refine xMv rfl ?_
 refine xLd rfl ?_
 refine xMv rfl ?_
 refine xAdd rfl ?_
 refine xC0 h (ih_impl_Term_measure ·) rfl (fun c26_13 h => ?_)
 refine xAdd rfl ?_
 refine xAs rfl ?_
 refine oRs ?_
 refine xMv rfl ?_
 refine xGt rfl ?_
 refine oNl ?_
 refine cIf h rfl (fun q14 h => ?_) (fun q14 h => ?_)
 refine cRs ?_
 refine xAs rfl ?_
 refine oNl ?_
 refine cRt ?_
 exact eXr h rfl
 refine cSk ?_
 refine cRg ?_
 refine xAdd rfl ?_
 refine xMv rfl ?_
 refine oNl ?_
 exact eL h rfl
 refine cEx ?_
 exact eX h rfl
 rcases q with v4_7 | ⟨v5_8, v18_9, v19_10⟩
 cases h
 exact eR rfl rfl rfl rfl
 refine cRs ?_
 refine xMv rfl ?_
 refine xAs rfl ?_
 refine oNl ?_
 refine cRt ?_
 cases h
 exact eR rfl rfl rfl rfl
def q_impl_Term_measure : Nat → (Int → Int → (List UInt8) → (List S_impl_Term) → Int → Option (Int))
  | 0 => (fun _ _ _ _ _ => none)
  | n + 1 => s_impl_Term_measure n (q_impl_Term_measure n)
def p_impl_Term_measure (n : Nat) : Int → Int → (List UInt8) → (List S_impl_Term) → Int → Option (Int) := q_impl_Term_measure n
theorem bigs_impl_Term_measure (n : Nat) : B_impl_Term_measure (p_impl_Term_measure n) := by
  induction n with
  | zero => exact (fun h => nomatch h)
  | succ n ih => exact step_impl_Term_measure (n := n) ih
theorem big_impl_Term_measure {n : Nat} : B_impl_Term_measure (p_impl_Term_measure n) := (bigs_impl_Term_measure n)
theorem p_impl_Term_measure_succ (n : Nat) : p_impl_Term_measure (n + 1) = s_impl_Term_measure n (p_impl_Term_measure n) := rfl
abbrev B_impl_TermOk (p : Int → Int → (List UInt8) → (List S_impl_Term) → Option (Bool)) : Prop := ∀ {t0_0 t0_1 : Int} {t0_2 : List UInt8} {t0_3 : List S_impl_Term} {r : Bool}, p t0_0 t0_1 t0_2 t0_3 = some r → Big Try.prog τ An (.fn 61 [.one (.ag [.int .i64 t0_0, .int .i64 t0_1, .str t0_2, .sl (t0_3.map rS_impl_Term)])] [] (.one (.c (.bool r))) none [] none)
def p_impl_TermOk (n : Nat) (t0_0 : Int) (t0_1 : Int) (t0_2 : List UInt8) (t0_3 : List S_impl_Term) : Option (Bool) :=
  (p_impl_Term_measure n t0_0 t0_1 t0_2 t0_3 (1 : Int)).bind fun c4_1 => some (decide (c4_1 ≤ (300 : Int)))
theorem big_impl_TermOk {n : Nat} : B_impl_TermOk (p_impl_TermOk n) := by
 intro t0_0 t0_1 t0_2 t0_3 r h
 unfold p_impl_TermOk at h
 refine bF Try.func61 rfl rfl ?_
 refine cRs ?_
 refine xBx rfl ?_
 refine xAs rfl ?_
 refine oRs ?_
 refine xLd rfl ?_
 refine xC0 h (big_impl_Term_measure ·) rfl (fun c4_1 h => ?_)
 refine xLe rfl ?_
 refine xAs rfl ?_
 refine oNl ?_
 refine cRt ?_
 cases h
 exact eR rfl rfl rfl rfl
abbrev B_slices_EqualFunc_7600 (p : (List S_impl_Term) → (List S_impl_Term) → Option (Bool)) : Prop := ∀ {t0_0 t1_0 : List S_impl_Term} {r : Bool}, p t0_0 t1_0 = some r → Big Try.prog τ An (.fn 122 [.one (.c (.sl (t0_0.map rS_impl_Term))), .one (.c (.sl (t1_0.map rS_impl_Term))), .one (.fn 48 [])] [] (.one (.c (.bool r))) none [] none)
abbrev B_impl_SameTerm (p : Int → Int → (List UInt8) → (List S_impl_Term) → Int → Int → (List UInt8) → (List S_impl_Term) → Option (Bool)) : Prop := ∀ {t0_0 t0_1 : Int} {t0_2 : List UInt8} {t0_3 : List S_impl_Term} {t1_0 t1_1 : Int} {t1_2 : List UInt8} {t1_3 : List S_impl_Term} {r : Bool}, p t0_0 t0_1 t0_2 t0_3 t1_0 t1_1 t1_2 t1_3 = some r → Big Try.prog τ An (.fn 48 [.one (.ag [.int .i64 t0_0, .int .i64 t0_1, .str t0_2, .sl (t0_3.map rS_impl_Term)]), .one (.ag [.int .i64 t1_0, .int .i64 t1_1, .str t1_2, .sl (t1_3.map rS_impl_Term)])] [] (.one (.c (.bool r))) none [] none)
def p_slices_EqualFunc_7600_b1 (n : Nat) (r_impl_SameTerm : Int → Int → (List UInt8) → (List S_impl_Term) → Int → Int → (List UInt8) → (List S_impl_Term) → Option (Bool)) (t0_0 : List S_impl_Term) (t1_0 : List S_impl_Term) : (Int) → Option ((Int) ⊕ ((Bool) ⊕ (Int × Bool)))
  | v17_2 => bif decide (v17_2 < (t0_0.length : Int)) then (ix t0_0 v17_2).bind fun e20_7 => (ix t1_0 v17_2).bind fun e24_8 => (r_impl_SameTerm e20_7.f0 e20_7.f1 e20_7.f2 e20_7.f3 e24_8.f0 e24_8.f1 e24_8.f2 e24_8.f3).bind fun c29_9 => bif !c29_9 then some (.inr (.inl false)) else some (.inl (IntKind.wrap .i64 (v17_2 + (1 : Int)))) else some (.inr (.inr (v17_2, false)))
def s_slices_EqualFunc_7600 (n : Nat) (r_impl_SameTerm : Int → Int → (List UInt8) → (List S_impl_Term) → Int → Int → (List UInt8) → (List S_impl_Term) → Option (Bool)) (r_slices_EqualFunc_7600 : (List S_impl_Term) → (List S_impl_Term) → Option (Bool)) (t0_0 : List S_impl_Term) (t1_0 : List S_impl_Term) : Option (Bool) :=
  bif !decide ((t0_0.length : Int) = (t1_0.length : Int)) then some false else (loopN (p_slices_EqualFunc_7600_b1 n r_impl_SameTerm t0_0 t1_0) n (0 : Int)).bind fun q => (match q with | .inl v6_3 => some v6_3 | .inr (v17_4, v18_5) => some true)
theorem step_slices_EqualFunc_7600 {n : Nat} {r_impl_SameTerm : Int → Int → (List UInt8) → (List S_impl_Term) → Int → Int → (List UInt8) → (List S_impl_Term) → Option (Bool)} (ih_impl_SameTerm : B_impl_SameTerm r_impl_SameTerm) {r_slices_EqualFunc_7600 : (List S_impl_Term) → (List S_impl_Term) → Option (Bool)} (ih_slices_EqualFunc_7600 : B_slices_EqualFunc_7600 r_slices_EqualFunc_7600) : B_slices_EqualFunc_7600 (s_slices_EqualFunc_7600 n r_impl_SameTerm r_slices_EqualFunc_7600) := by
 intro t0_0 t1_0 r h
 unfold s_slices_EqualFunc_7600 at h
 refine bF Try.func122 rfl rfl ?_
 refine cRs ?_
 refine xAs rfl ?_
 refine oNl ?_
 refine cSq ?_
 refine cRs ?_
 refine xMv rfl ?_
 refine xLn rfl ?_
 refine xMv rfl ?_
 refine xLn rfl ?_
 refine xNe rfl ?_
 refine oNl ?_
 refine cIf h rfl (fun q1 h => ?_) (fun q1 h => ?_)
 refine cRs ?_
 refine xAs rfl ?_
 refine oNl ?_
 refine cRt ?_
 cases h
 exact eR rfl rfl rfl rfl
 refine cSk ?_
 refine cSq ?_
 refine cRs ?_
 refine xMv rfl ?_
 refine xLn rfl ?_
 refine xMv rfl ?_
 refine oNl ?_
 refine cLp h [(6, 9), (17, 31)] [(8, 9)] (fun v17_2 => ([(17, I64 v17_2)], [])) (fun q => match q with | .inl v6_3 => (.r, [(6, Bo v6_3)], []) | .inr (v17_4, v18_5) => (.e 0, [(17, I64 v17_4), (18, Bo v18_5)], [])) rfl (fun v17_2 _ h => ?_) (fun q h => ?_)
 unfold p_slices_EqualFunc_7600_b1 at h
 refine cRs ?_
 refine xLt rfl ?_
 refine oNl ?_
 refine cSq ?_
 refine cIf h rfl (fun q6 h => ?_) (fun q6 h => ?_)
 refine cSk ?_
 refine cSq ?_
 refine cBk ?_
 refine cRs ?_
 refine xMv rfl ?_
 refine xIx h rS_impl_Term_eq rfl (fun e20_7 h => ?_)
 refine xLd rfl ?_
 refine xAz [.int .i64 0, .int .i64 0, .str [], .sl ([].map rS_impl_Term)] rfl ?_
 refine xAs rfl ?_
 refine xSt rfl ?_
 refine oRs ?_
 refine xMv rfl ?_
 refine xMv rfl ?_
 refine xIx h rS_impl_Term_eq rfl (fun e24_8 h => ?_)
 refine xLd rfl ?_
 refine xAz [.int .i64 0, .int .i64 0, .str [], .sl ([].map rS_impl_Term)] rfl ?_
 refine xSt rfl ?_
 refine oRs ?_
 refine xMv rfl ?_
 refine xLd rfl ?_
 refine xLd rfl ?_
 refine xC0 h (ih_impl_SameTerm ·) rfl (fun c29_9 h => ?_)
 refine xNot rfl ?_
 refine oNl ?_
 refine cIf h rfl (fun q10 h => ?_) (fun q10 h => ?_)
 refine cRs ?_
 refine xAs rfl ?_
 refine oNl ?_
 refine cRt ?_
 exact eXr h rfl
 refine cSk ?_
 refine cRg ?_
 refine xAdd rfl ?_
 refine xMv rfl ?_
 refine oNl ?_
 exact eL h rfl
 refine cEx ?_
 exact eX h rfl
 rcases q with v6_3 | ⟨v17_4, v18_5⟩
 cases h
 exact eR rfl rfl rfl rfl
 refine cRs ?_
 refine xAs rfl ?_
 refine oNl ?_
 refine cRt ?_
 cases h
 exact eR rfl rfl rfl rfl
def s_impl_SameTerm (n : Nat) (r_impl_SameTerm : Int → Int → (List UInt8) → (List S_impl_Term) → Int → Int → (List UInt8) → (List S_impl_Term) → Option (Bool)) (r_slices_EqualFunc_7600 : (List S_impl_Term) → (List S_impl_Term) → Option (Bool)) (t0_0 : Int) (t0_1 : Int) (t0_2 : List UInt8) (t0_3 : List S_impl_Term) (t1_0 : Int) (t1_1 : Int) (t1_2 : List UInt8) (t1_3 : List S_impl_Term) : Option (Bool) :=
  (bif decide (t0_0 = t1_0) then bif decide (t0_1 = t1_1) then bif decide (t0_2 = t1_2) then (r_slices_EqualFunc_7600 t0_3 t1_3).bind fun c29_5 => some c29_5 else some false else some false else some false).bind fun v4_1 => some v4_1
theorem step_impl_SameTerm {n : Nat} {r_impl_SameTerm : Int → Int → (List UInt8) → (List S_impl_Term) → Int → Int → (List UInt8) → (List S_impl_Term) → Option (Bool)} (ih_impl_SameTerm : B_impl_SameTerm r_impl_SameTerm) {r_slices_EqualFunc_7600 : (List S_impl_Term) → (List S_impl_Term) → Option (Bool)} (ih_slices_EqualFunc_7600 : B_slices_EqualFunc_7600 r_slices_EqualFunc_7600) : B_impl_SameTerm (s_impl_SameTerm n r_impl_SameTerm r_slices_EqualFunc_7600) := by
 intro t0_0 t0_1 t0_2 t0_3 t1_0 t1_1 t1_2 t1_3 r h
 unfold s_impl_SameTerm at h
 refine bF Try.func48 rfl rfl ?_
 refine cRs ?_
 refine xBx rfl ?_
 refine xBx rfl ?_
 refine xAs rfl ?_
 refine oRs ?_
 refine oJn h [(4, 30)] [] (fun v4_1 => (.n, [(4, Bo v4_1)], [])) (fun _ h => ?_) (fun v4_1 h => ?_)
 refine xFd rfl ?_
 refine xLd rfl ?_
 refine xFd rfl ?_
 refine xLd rfl ?_
 refine xEq rfl ?_
 refine xMv rfl ?_
 refine oIf 10 h rfl (fun q2 h => ?_) (fun q2 h => ?_)
 refine xFd rfl ?_
 refine xLd rfl ?_
 refine xFd rfl ?_
 refine xLd rfl ?_
 refine xEq rfl ?_
 refine xPk rfl ?_
 refine xMv rfl ?_
 refine oIf 17 h rfl (fun q3 h => ?_) (fun q3 h => ?_)
 refine xFd rfl ?_
 refine xLd rfl ?_
 refine xFd rfl ?_
 refine xLd rfl ?_
 refine xEs rfl ?_
 refine xPk rfl ?_
 refine xMv rfl ?_
 refine oIf 24 h rfl (fun q4 h => ?_) (fun q4 h => ?_)
 refine xFd rfl ?_
 refine xLd rfl ?_
 refine xFd rfl ?_
 refine xLd rfl ?_
 refine xC0 h (ih_slices_EqualFunc_7600 ·) rfl (fun c29_5 h => ?_)
 refine xPk rfl ?_
 refine xAs rfl ?_
 refine oNl ?_
 exact eJ h rfl
 refine wSk rfl ?_
 refine wSk rfl ?_
 refine wSk rfl ?_
 refine wSk rfl ?_
 refine wSk rfl ?_
 refine xPk rfl ?_
 refine xAs rfl ?_
 refine oNl ?_
 exact eJ h rfl
 refine wSk rfl ?_
 refine wSk rfl ?_
 refine wSk rfl ?_
 refine wSk rfl ?_
 refine wSk rfl ?_
 refine xPk rfl ?_
 refine xMv rfl ?_
 refine wSk rfl ?_
 refine wSk rfl ?_
 refine wSk rfl ?_
 refine wSk rfl ?_
 refine wSk rfl ?_
 refine xPk rfl ?_
 refine xAs rfl ?_
 refine oNl ?_
 exact eJ h rfl
 refine wSk rfl ?_
 refine wSk rfl ?_
 refine wSk rfl ?_
 refine wSk rfl ?_
 refine wSk rfl ?_
 refine xPk rfl ?_
 refine xMv rfl ?_
 refine wSk rfl ?_
 refine wSk rfl ?_
 refine wSk rfl ?_
 refine wSk rfl ?_
 refine wSk rfl ?_
 refine xPk rfl ?_
 refine xMv rfl ?_
 refine wSk rfl ?_
 refine wSk rfl ?_
 refine wSk rfl ?_
 refine wSk rfl ?_
 refine wSk rfl ?_
 refine xPk rfl ?_
 refine xAs rfl ?_
 refine oNl ?_
 exact eJ h rfl
 refine cRt ?_
 cases h
 exact eR rfl rfl rfl rfl
def q_impl_SameTerm : Nat → (Int → Int → (List UInt8) → (List S_impl_Term) → Int → Int → (List UInt8) → (List S_impl_Term) → Option (Bool)) × ((List S_impl_Term) → (List S_impl_Term) → Option (Bool))
  | 0 => ((fun _ _ _ _ _ _ _ _ => none), (fun _ _ => none))
  | n + 1 => (s_impl_SameTerm n ((q_impl_SameTerm n).1) ((q_impl_SameTerm n).2), s_slices_EqualFunc_7600 n ((q_impl_SameTerm n).1) ((q_impl_SameTerm n).2))
def p_impl_SameTerm (n : Nat) : Int → Int → (List UInt8) → (List S_impl_Term) → Int → Int → (List UInt8) → (List S_impl_Term) → Option (Bool) := (q_impl_SameTerm n).1
def p_slices_EqualFunc_7600 (n : Nat) : (List S_impl_Term) → (List S_impl_Term) → Option (Bool) := (q_impl_SameTerm n).2
theorem bigs_impl_SameTerm (n : Nat) : B_impl_SameTerm (p_impl_SameTerm n) ∧ B_slices_EqualFunc_7600 (p_slices_EqualFunc_7600 n) := by
  induction n with
  | zero => exact ⟨(fun h => nomatch h), (fun h => nomatch h)⟩
  | succ n ih => exact ⟨step_impl_SameTerm (n := n) (ih.1) (ih.2), step_slices_EqualFunc_7600 (n := n) (ih.1) (ih.2)⟩
theorem big_impl_SameTerm {n : Nat} : B_impl_SameTerm (p_impl_SameTerm n) := (bigs_impl_SameTerm n).1
theorem big_slices_EqualFunc_7600 {n : Nat} : B_slices_EqualFunc_7600 (p_slices_EqualFunc_7600 n) := (bigs_impl_SameTerm n).2
theorem p_impl_SameTerm_succ (n : Nat) : p_impl_SameTerm (n + 1) = s_impl_SameTerm n (p_impl_SameTerm n) (p_slices_EqualFunc_7600 n) := rfl
theorem p_slices_EqualFunc_7600_succ (n : Nat) : p_slices_EqualFunc_7600 (n + 1) = s_slices_EqualFunc_7600 n (p_impl_SameTerm n) (p_slices_EqualFunc_7600 n) := rfl
abbrev B_impl_isZero (p : Int → Int → (List UInt8) → (List S_impl_Term) → Option (Bool)) : Prop := ∀ {t0_0 t0_1 : Int} {t0_2 : List UInt8} {t0_3 : List S_impl_Term} {r : Bool}, p t0_0 t0_1 t0_2 t0_3 = some r → Big Try.prog τ An (.fn 212 [.one (.ag [.int .i64 t0_0, .int .i64 t0_1, .str t0_2, .sl (t0_3.map rS_impl_Term)])] [] (.one (.c (.bool r))) none [] none)
def p_impl_isZero (n : Nat) (t0_0 : Int) (t0_1 : Int) (t0_2 : List UInt8) (t0_3 : List S_impl_Term) : Option (Bool) :=
  (p_impl_SameTerm n t0_0 t0_1 t0_2 t0_3 (0 : Int) (0 : Int) ([] : List UInt8) ([] : List S_impl_Term)).bind fun c5_1 => some c5_1
theorem big_impl_isZero {n : Nat} : B_impl_isZero (p_impl_isZero n) := by
 intro t0_0 t0_1 t0_2 t0_3 r h
 unfold p_impl_isZero at h
 refine bF Try.func212 rfl rfl ?_
 refine cRs ?_
 refine xBx rfl ?_
 refine xAs rfl ?_
 refine oRs ?_
 refine xLd rfl ?_
 refine wBd [.int .i64 0, .int .i64 0, .str [], .sl ([].map rS_impl_Term)] rfl rfl rfl rfl rfl rfl ?_
 refine xC0 h (big_impl_SameTerm ·) rfl (fun c5_1 h => ?_)
 refine xAs rfl ?_
 refine oNl ?_
 refine cRt ?_
 cases h
 exact eR rfl rfl rfl rfl
abbrev B_impl_kidOk (p : (List UInt8) → (List UInt8) → Int → Int → (List UInt8) → (List S_impl_Term) → Int → Option (Bool)) : Prop := ∀ {t0_0 t0_1 : List UInt8} {t0_2 t0_3 : Int} {t0_4 : List UInt8} {t0_5 : List S_impl_Term} {t0_6 : Int} {r : Bool}, p t0_0 t0_1 t0_2 t0_3 t0_4 t0_5 t0_6 = some r → Big Try.prog τ An (.fn 154 [.one (.ag [.str t0_0, .str t0_1, .int .i64 t0_2, .int .i64 t0_3, .str t0_4, .sl (t0_5.map rS_impl_Term), .int .i64 t0_6])] [] (.one (.c (.bool r))) none [] none)
def p_impl_kidOk (n : Nat) (t0_0 : List UInt8) (t0_1 : List UInt8) (t0_2 : Int) (t0_3 : Int) (t0_4 : List UInt8) (t0_5 : List S_impl_Term) (t0_6 : Int) : Option (Bool) :=
  (p_impl_AtomOk n t0_0).bind fun c5_1 => bif !c5_1 then some false else bif decide (t0_6 = ((-1) : Int)) then ((p_impl_AtomOk n t0_1).bind fun c12_5 => bif c12_5 then (p_impl_TermOk n t0_2 t0_3 t0_4 t0_5).bind fun c16_7 => some c16_7 else some false).bind fun v2_4 => some v2_4 else (bif decide ((0 : Int) ≤ t0_6) then bif decide (t0_1 = ([] : List UInt8)) then (p_impl_isZero n t0_2 t0_3 t0_4 t0_5).bind fun c29_11 => some c29_11 else some false else some false).bind fun v2_8 => some v2_8
theorem big_impl_kidOk {n : Nat} : B_impl_kidOk (p_impl_kidOk n) := by
 intro t0_0 t0_1 t0_2 t0_3 t0_4 t0_5 t0_6 r h
 unfold p_impl_kidOk at h
 refine bF Try.func154 rfl rfl ?_
 refine cRs ?_
 refine xBx rfl ?_
 refine xAs rfl ?_
 refine oNl ?_
 refine cSq ?_
 refine cRs ?_
 refine xFd rfl ?_
 refine xLd rfl ?_
 refine xC0 h (big_impl_AtomOk ·) rfl (fun c5_1 h => ?_)
 refine xNot rfl ?_
 refine oNl ?_
 refine cIf h rfl (fun q2 h => ?_) (fun q2 h => ?_)
 refine cRs ?_
 refine xAs rfl ?_
 refine oNl ?_
 refine cRt ?_
 cases h
 exact eR rfl rfl rfl rfl
 refine cSk ?_
 refine cSq ?_
 refine cRs ?_
 refine xFd rfl ?_
 refine xLd rfl ?_
 refine xEq rfl ?_
 refine oNl ?_
 refine cIf h rfl (fun q3 h => ?_) (fun q3 h => ?_)
 refine cRs ?_
 refine oJn h [(2, 2), (10, 17)] [] (fun v2_4 => (.n, [(2, Bo v2_4)], [])) (fun _ h => ?_) (fun v2_4 h => ?_)
 refine xFd rfl ?_
 refine xLd rfl ?_
 refine xC0 h (big_impl_AtomOk ·) rfl (fun c12_5 h => ?_)
 refine xMv rfl ?_
 refine oIf 13 h rfl (fun q6 h => ?_) (fun q6 h => ?_)
 refine xFd rfl ?_
 refine xLd rfl ?_
 refine xC0 h (big_impl_TermOk ·) rfl (fun c16_7 h => ?_)
 refine xPk rfl ?_
 refine xAs rfl ?_
 refine oNl ?_
 exact eJ h rfl
 refine wSk rfl ?_
 refine wSk rfl ?_
 refine wSk rfl ?_
 refine xPk rfl ?_
 refine xAs rfl ?_
 refine oNl ?_
 exact eJ h rfl
 refine cRt ?_
 cases h
 exact eR rfl rfl rfl rfl
 refine cSk ?_
 refine cRs ?_
 refine oJn h [(2, 2), (18, 30)] [] (fun v2_8 => (.n, [(2, Bo v2_8)], [])) (fun _ h => ?_) (fun v2_8 h => ?_)
 refine xFd rfl ?_
 refine xLd rfl ?_
 refine xGe rfl ?_
 refine xMv rfl ?_
 refine oIf 21 h rfl (fun q9 h => ?_) (fun q9 h => ?_)
 refine xFd rfl ?_
 refine xLd rfl ?_
 refine xEs rfl ?_
 refine xPk rfl ?_
 refine xMv rfl ?_
 refine oIf 26 h rfl (fun q10 h => ?_) (fun q10 h => ?_)
 refine xFd rfl ?_
 refine xLd rfl ?_
 refine xC0 h (big_impl_isZero ·) rfl (fun c29_11 h => ?_)
 refine xPk rfl ?_
 refine xAs rfl ?_
 refine oNl ?_
 exact eJ h rfl
 refine wSk rfl ?_
 refine wSk rfl ?_
 refine wSk rfl ?_
 refine xPk rfl ?_
 refine xAs rfl ?_
 refine oNl ?_
 exact eJ h rfl
 refine wSk rfl ?_
 refine wSk rfl ?_
 refine wSk rfl ?_
 refine xPk rfl ?_
 refine xMv rfl ?_
 refine wSk rfl ?_
 refine wSk rfl ?_
 refine wSk rfl ?_
 refine xPk rfl ?_
 refine xAs rfl ?_
 refine oNl ?_
 exact eJ h rfl
 refine cRt ?_
 cases h
 exact eR rfl rfl rfl rfl
abbrev B_cmp_isNaN_2196 (p : Int → Option (Bool)) : Prop := ∀ {t0_0 : Int} {r : Bool}, p t0_0 = some r → Big Try.prog τ An (.fn 247 [.one (.c (.int .i64 t0_0))] [] (.one (.c (.bool r))) none [] none)
def p_cmp_isNaN_2196 (n : Nat) (t0_0 : Int) : Option (Bool) :=
  some (!decide (t0_0 = t0_0))
theorem big_cmp_isNaN_2196 {n : Nat} : B_cmp_isNaN_2196 (p_cmp_isNaN_2196 n) := by
 intro t0_0 r h
 unfold p_cmp_isNaN_2196 at h
 refine bF Try.func247 rfl rfl ?_
 refine cRs ?_
 refine xAs rfl ?_
 refine oRs ?_
 refine xMv rfl ?_
 refine xMv rfl ?_
 refine xNe rfl ?_
 refine xAs rfl ?_
 refine oNl ?_
 refine cRt ?_
 cases h
 exact eR rfl rfl rfl rfl
abbrev B_cmp_Less_d5dd (p : Int → Int → Option (Bool)) : Prop := ∀ {t0_0 t1_0 : Int} {r : Bool}, p t0_0 t1_0 = some r → Big Try.prog τ An (.fn 213 [.one (.c (.int .i64 t0_0)), .one (.c (.int .i64 t1_0))] [] (.one (.c (.bool r))) none [] none)
def p_cmp_Less_d5dd (n : Nat) (t0_0 : Int) (t1_0 : Int) : Option (Bool) :=
  ((p_cmp_isNaN_2196 n t0_0).bind fun c6_2 => bif c6_2 then (p_cmp_isNaN_2196 n t1_0).bind fun c9_4 => bif !c9_4 then some true else some (decide (t0_0 < t1_0)) else some (decide (t0_0 < t1_0))).bind fun v4_1 => some v4_1
theorem big_cmp_Less_d5dd {n : Nat} : B_cmp_Less_d5dd (p_cmp_Less_d5dd n) := by
 intro t0_0 t1_0 r h
 unfold p_cmp_Less_d5dd at h
 refine bF Try.func213 rfl rfl ?_
 refine cRs ?_
 refine xAs rfl ?_
 refine oRs ?_
 refine oJn h [(4, 16)] [] (fun v4_1 => (.n, [(4, Bo v4_1)], [])) (fun _ h => ?_) (fun v4_1 h => ?_)
 refine xMv rfl ?_
 refine xC0 h (big_cmp_isNaN_2196 ·) rfl (fun c6_2 h => ?_)
 refine xMv rfl ?_
 refine oIf 7 h rfl (fun q3 h => ?_) (fun q3 h => ?_)
 refine xMv rfl ?_
 refine xC0 h (big_cmp_isNaN_2196 ·) rfl (fun c9_4 h => ?_)
 refine xNot rfl ?_
 refine xPk rfl ?_
 refine xMv rfl ?_
 refine oIf 12 h rfl (fun q5 h => ?_) (fun q5 h => ?_)
 refine wSk rfl ?_
 refine wSk rfl ?_
 refine wSk rfl ?_
 refine xPk rfl ?_
 refine xAs rfl ?_
 refine oNl ?_
 exact eJ h rfl
 refine xMv rfl ?_
 refine xMv rfl ?_
 refine xLt rfl ?_
 refine xPk rfl ?_
 refine xAs rfl ?_
 refine oNl ?_
 exact eJ h rfl
 refine wSk rfl ?_
 refine wSk rfl ?_
 refine wSk rfl ?_
 refine xPk rfl ?_
 refine xMv rfl ?_
 refine xMv rfl ?_
 refine xMv rfl ?_
 refine xLt rfl ?_
 refine xPk rfl ?_
 refine xAs rfl ?_
 refine oNl ?_
 exact eJ h rfl
 refine cRt ?_
 cases h
 exact eR rfl rfl rfl rfl
abbrev B_slices_IsSorted_bf74 (p : (List Int) → Option (Bool)) : Prop := ∀ {t0_0 : List Int} {r : Bool}, p t0_0 = some r → Big Try.prog τ An (.fn 155 [.one (.c (.sl (t0_0.map rI_i64)))] [] (.one (.c (.bool r))) none [] none)
def p_slices_IsSorted_bf74_b1 (n : Nat) (t0_0 : List Int) : (Int) → Option ((Int) ⊕ ((Bool) ⊕ (Int × Bool)))
  | v3_1 => bif decide ((0 : Int) < v3_1) then (ix t0_0 v3_1).bind fun e13_6 => (ix t0_0 (IntKind.wrap .i64 (v3_1 - (1 : Int)))).bind fun e18_7 => (p_cmp_Less_d5dd n e13_6 e18_7).bind fun c20_8 => bif c20_8 then some (.inr (.inl false)) else some (.inl (IntKind.wrap .i64 (v3_1 - (1 : Int)))) else some (.inr (.inr (v3_1, false)))
def p_slices_IsSorted_bf74 (n : Nat) (t0_0 : List Int) : Option (Bool) :=
  (loopN (p_slices_IsSorted_bf74_b1 n t0_0) n (IntKind.wrap .i64 ((t0_0.length : Int) - (1 : Int)))).bind fun q => (match q with | .inl v2_2 => some v2_2 | .inr (v3_3, v8_4) => some true)
theorem big_slices_IsSorted_bf74 {n : Nat} : B_slices_IsSorted_bf74 (p_slices_IsSorted_bf74 n) := by
 intro t0_0 r h
 unfold p_slices_IsSorted_bf74 at h
 refine bF Try.func155 rfl rfl ?_
 refine cRs ?_
 refine xAs rfl ?_
 refine oNl ?_
 refine cSq ?_
 refine cRs ?_
 refine xMv rfl ?_
 refine xLn rfl ?_
 refine xSub rfl ?_
 refine xAs rfl ?_
 refine oNl ?_
 refine cLp h [(2, 3), (7, 20)] [] (fun v3_1 => ([(3, I64 v3_1)], [])) (fun q => match q with | .inl v2_2 => (.r, [(2, Bo v2_2)], []) | .inr (v3_3, v8_4) => (.e 0, [(3, I64 v3_3), (8, Bo v8_4)], [])) rfl (fun v3_1 _ h => ?_) (fun q h => ?_)
 unfold p_slices_IsSorted_bf74_b1 at h
 refine cSq ?_
 refine cRs ?_
 refine xMv rfl ?_
 refine xGt rfl ?_
 refine oNl ?_
 refine cIf h rfl (fun q5 h => ?_) (fun q5 h => ?_)
 refine cSk ?_
 refine cSq ?_
 refine cBk ?_
 refine cRs ?_
 refine xMv rfl ?_
 refine xMv rfl ?_
 refine xIx h rI_i64_eq rfl (fun e13_6 h => ?_)
 refine xLd rfl ?_
 refine xMv rfl ?_
 refine xMv rfl ?_
 refine xSub rfl ?_
 refine xIx h rI_i64_eq rfl (fun e18_7 h => ?_)
 refine xLd rfl ?_
 refine xC0 h (big_cmp_Less_d5dd ·) rfl (fun c20_8 h => ?_)
 refine oNl ?_
 refine cIf h rfl (fun q9 h => ?_) (fun q9 h => ?_)
 refine cRs ?_
 refine xAs rfl ?_
 refine oNl ?_
 refine cRt ?_
 exact eXr h rfl
 refine cSk ?_
 refine cRg ?_
 refine xMv rfl ?_
 refine xSub rfl ?_
 refine xAs rfl ?_
 refine oNl ?_
 exact eL h rfl
 refine cEx ?_
 exact eX h rfl
 rcases q with v2_2 | ⟨v3_3, v8_4⟩
 cases h
 exact eR rfl rfl rfl rfl
 refine cRs ?_
 refine xAs rfl ?_
 refine oNl ?_
 refine cRt ?_
 cases h
 exact eR rfl rfl rfl rfl
abbrev B_impl_OverOk (p : Int → Int → Int → (List S_impl_Kid) → (List Int) → (List Int) → Bool → Option (Bool)) : Prop := ∀ {t0_0 t0_1 t0_2 : Int} {t0_3 : List S_impl_Kid} {t0_4 t0_5 : List Int} {t0_6 : Bool} {r : Bool}, p t0_0 t0_1 t0_2 t0_3 t0_4 t0_5 t0_6 = some r → Big Try.prog τ An (.fn 76 [.one (.ag [.int .i64 t0_0, .int .i64 t0_1, .int .i64 t0_2, .sl (t0_3.map rS_impl_Kid), .sl (t0_4.map rI_i64), .sl (t0_5.map rI_i64), .bool t0_6])] [] (.one (.c (.bool r))) none [] none)
def p_impl_OverOk_b1 (n : Nat) (t0_3 : List S_impl_Kid) : (Int) → Option ((Int) ⊕ ((Bool) ⊕ (Int × Bool)))
  | v10_1 => bif decide (v10_1 < (t0_3.length : Int)) then (ix t0_3 v10_1).bind fun e12_6 => (p_impl_kidOk n e12_6.f0 e12_6.f1 e12_6.f2 e12_6.f3 e12_6.f4 e12_6.f5 e12_6.f6).bind fun c15_7 => bif !c15_7 then some (.inr (.inl false)) else some (.inl (IntKind.wrap .i64 (v10_1 + (1 : Int)))) else some (.inr (.inr (v10_1, false)))
def p_impl_OverOk_b2 (n : Nat) (t0_4 : List Int) : (Int) → Option ((Int) ⊕ ((Bool) ⊕ (Int × Bool)))
  | v21_9 => bif decide (v21_9 < (t0_4.length : Int)) then (ix t0_4 v21_9).bind fun e23_14 => bif decide (e23_14 < (0 : Int)) then some (.inr (.inl false)) else some (.inl (IntKind.wrap .i64 (v21_9 + (1 : Int)))) else some (.inr (.inr (v21_9, false)))
def p_impl_OverOk (n : Nat) (t0_0 : Int) (t0_1 : Int) (t0_2 : Int) (t0_3 : List S_impl_Kid) (t0_4 : List Int) (t0_5 : List Int) (t0_6 : Bool) : Option (Bool) :=
  (loopN (p_impl_OverOk_b1 n t0_3) n (0 : Int)).bind fun q => (match q with | .inl v2_2 => some v2_2 | .inr (v10_3, v11_4) => (loopN (p_impl_OverOk_b2 n t0_4) n (0 : Int)).bind fun q => (match q with | .inl v2_10 => some v2_10 | .inr (v21_11, v22_12) => ((p_impl_inRange n t0_0 (1 : Int) (3 : Int)).bind fun c30_17 => bif !c30_17 then some true else (p_impl_inRange n t0_1 (0 : Int) (20 : Int)).bind fun c35_19 => bif !c35_19 then some true else (p_impl_inRange n t0_2 (1 : Int) (1000 : Int)).bind fun c41_21 => bif !c41_21 then some true else (p_impl_inRange n (t0_3.length : Int) (1 : Int) (8 : Int)).bind fun c48_23 => some (!c48_23)).bind fun v50_16 => bif v50_16 then some false else (bif decide ((t0_4.length : Int) = (t0_3.length : Int)) then (p_slices_IsSorted_bf74 n t0_5).bind fun c61_27 => bif c61_27 then some (decide ((t0_5.length : Int) ≤ t0_1)) else some false else some false).bind fun v2_25 => some v2_25))
theorem big_impl_OverOk {n : Nat} : B_impl_OverOk (p_impl_OverOk n) := by
 intro t0_0 t0_1 t0_2 t0_3 t0_4 t0_5 t0_6 r h
 unfold p_impl_OverOk at h
 refine bF Try.func76 rfl rfl ?_
 refine cRs ?_
 refine xBx rfl ?_
 refine xAs rfl ?_
 refine oNl ?_
 refine cSq ?_
 refine cRs ?_
 refine xFd rfl ?_
 refine xLd rfl ?_
 refine xLn rfl ?_
 refine xMv rfl ?_
 refine oNl ?_
 refine cLp h [(2, 2), (4, 4), (10, 17)] [(4, 4)] (fun v10_1 => ([(10, I64 v10_1)], [])) (fun q => match q with | .inl v2_2 => (.r, [(2, Bo v2_2)], []) | .inr (v10_3, v11_4) => (.e 0, [(10, I64 v10_3), (11, Bo v11_4)], [])) rfl (fun v10_1 _ h => ?_) (fun q h => ?_)
 unfold p_impl_OverOk_b1 at h
 refine cRs ?_
 refine xLt rfl ?_
 refine oNl ?_
 refine cSq ?_
 refine cIf h rfl (fun q5 h => ?_) (fun q5 h => ?_)
 refine cSk ?_
 refine cSq ?_
 refine cBk ?_
 refine cRs ?_
 refine xIx h rS_impl_Kid_eq rfl (fun e12_6 h => ?_)
 refine xLd rfl ?_
 refine xAz [.str [], .str [], .int .i64 0, .int .i64 0, .str [], .sl ([].map rS_impl_Term), .int .i64 0] rfl ?_
 refine xSt rfl ?_
 refine oRs ?_
 refine xLd rfl ?_
 refine xC0 h (big_impl_kidOk ·) rfl (fun c15_7 h => ?_)
 refine xNot rfl ?_
 refine oNl ?_
 refine cIf h rfl (fun q8 h => ?_) (fun q8 h => ?_)
 refine cRs ?_
 refine xAs rfl ?_
 refine oNl ?_
 refine cRt ?_
 exact eXr h rfl
 refine cSk ?_
 refine cRg ?_
 refine xAdd rfl ?_
 refine xMv rfl ?_
 refine oNl ?_
 exact eL h rfl
 refine cEx ?_
 exact eX h rfl
 rcases q with v2_2 | ⟨v10_3, v11_4⟩
 cases h
 exact eR rfl rfl rfl rfl
 refine cSq ?_
 refine cRs ?_
 refine xFd rfl ?_
 refine xLd rfl ?_
 refine xLn rfl ?_
 refine xMv rfl ?_
 refine oNl ?_
 refine cLp h [(2, 2), (6, 6), (21, 27)] [] (fun v21_9 => ([(21, I64 v21_9)], [])) (fun q => match q with | .inl v2_10 => (.r, [(2, Bo v2_10)], []) | .inr (v21_11, v22_12) => (.e 2, [(21, I64 v21_11), (22, Bo v22_12)], [])) rfl (fun v21_9 _ h => ?_) (fun q h => ?_)
 unfold p_impl_OverOk_b2 at h
 refine cRs ?_
 refine xLt rfl ?_
 refine oNl ?_
 refine cSq ?_
 refine cIf h rfl (fun q13 h => ?_) (fun q13 h => ?_)
 refine cSk ?_
 refine cSq ?_
 refine cBk ?_
 refine cRs ?_
 refine xIx h rI_i64_eq rfl (fun e23_14 h => ?_)
 refine xLd rfl ?_
 refine xAs rfl ?_
 refine oRs ?_
 refine xMv rfl ?_
 refine xLt rfl ?_
 refine oNl ?_
 refine cIf h rfl (fun q15 h => ?_) (fun q15 h => ?_)
 refine cRs ?_
 refine xAs rfl ?_
 refine oNl ?_
 refine cRt ?_
 exact eXr h rfl
 refine cSk ?_
 refine cRg ?_
 refine xAdd rfl ?_
 refine xMv rfl ?_
 refine oNl ?_
 exact eL h rfl
 refine cEx ?_
 exact eX h rfl
 rcases q with v2_10 | ⟨v21_11, v22_12⟩
 cases h
 exact eR rfl rfl rfl rfl
 refine cSq ?_
 refine cRs ?_
 refine oJn h [(28, 50)] [] (fun v50_16 => (.n, [(50, Bo v50_16)], [])) (fun _ h => ?_) (fun v50_16 h => ?_)
 refine xFd rfl ?_
 refine xLd rfl ?_
 refine xC0 h (big_impl_inRange ·) rfl (fun c30_17 h => ?_)
 refine xNot rfl ?_
 refine xMv rfl ?_
 refine oIf 32 h rfl (fun q18 h => ?_) (fun q18 h => ?_)
 refine wSk rfl ?_
 refine wSk rfl ?_
 refine wSk rfl ?_
 refine wSk rfl ?_
 refine xPk rfl ?_
 refine xMv rfl ?_
 refine wSk rfl ?_
 refine wSk rfl ?_
 refine wSk rfl ?_
 refine wSk rfl ?_
 refine xPk rfl ?_
 refine xMv rfl ?_
 refine wSk rfl ?_
 refine wSk rfl ?_
 refine wSk rfl ?_
 refine wSk rfl ?_
 refine wSk rfl ?_
 refine xPk rfl ?_
 refine oNl ?_
 exact eJ h rfl
 refine xFd rfl ?_
 refine xLd rfl ?_
 refine xC0 h (big_impl_inRange ·) rfl (fun c35_19 h => ?_)
 refine xNot rfl ?_
 refine xPk rfl ?_
 refine xMv rfl ?_
 refine oIf 38 h rfl (fun q20 h => ?_) (fun q20 h => ?_)
 refine wSk rfl ?_
 refine wSk rfl ?_
 refine wSk rfl ?_
 refine wSk rfl ?_
 refine xPk rfl ?_
 refine xMv rfl ?_
 refine wSk rfl ?_
 refine wSk rfl ?_
 refine wSk rfl ?_
 refine wSk rfl ?_
 refine wSk rfl ?_
 refine xPk rfl ?_
 refine oNl ?_
 exact eJ h rfl
 refine xFd rfl ?_
 refine xLd rfl ?_
 refine xC0 h (big_impl_inRange ·) rfl (fun c41_21 h => ?_)
 refine xNot rfl ?_
 refine xPk rfl ?_
 refine xMv rfl ?_
 refine oIf 44 h rfl (fun q22 h => ?_) (fun q22 h => ?_)
 refine wSk rfl ?_
 refine wSk rfl ?_
 refine wSk rfl ?_
 refine wSk rfl ?_
 refine wSk rfl ?_
 refine xPk rfl ?_
 refine oNl ?_
 exact eJ h rfl
 refine xFd rfl ?_
 refine xLd rfl ?_
 refine xLn rfl ?_
 refine xC0 h (big_impl_inRange ·) rfl (fun c48_23 h => ?_)
 refine xNot rfl ?_
 refine xPk rfl ?_
 refine oNl ?_
 exact eJ h rfl
 refine cIf h rfl (fun q24 h => ?_) (fun q24 h => ?_)
 refine cRs ?_
 refine xAs rfl ?_
 refine oNl ?_
 refine cRt ?_
 cases h
 exact eR rfl rfl rfl rfl
 refine cSk ?_
 refine cRs ?_
 refine oJn h [(2, 2), (51, 70)] [] (fun v2_25 => (.n, [(2, Bo v2_25)], [])) (fun _ h => ?_) (fun v2_25 h => ?_)
 refine xFd rfl ?_
 refine xLd rfl ?_
 refine xLn rfl ?_
 refine xFd rfl ?_
 refine xLd rfl ?_
 refine xLn rfl ?_
 refine xEq rfl ?_
 refine xMv rfl ?_
 refine oIf 58 h rfl (fun q26 h => ?_) (fun q26 h => ?_)
 refine xFd rfl ?_
 refine xLd rfl ?_
 refine xC0 h (big_slices_IsSorted_bf74 ·) rfl (fun c61_27 h => ?_)
 refine xPk rfl ?_
 refine xMv rfl ?_
 refine oIf 63 h rfl (fun q28 h => ?_) (fun q28 h => ?_)
 refine xFd rfl ?_
 refine xLd rfl ?_
 refine xLn rfl ?_
 refine xFd rfl ?_
 refine xLd rfl ?_
 refine xLe rfl ?_
 refine xPk rfl ?_
 refine xAs rfl ?_
 refine oNl ?_
 exact eJ h rfl
 refine wSk rfl ?_
 refine wSk rfl ?_
 refine wSk rfl ?_
 refine wSk rfl ?_
 refine wSk rfl ?_
 refine wSk rfl ?_
 refine xPk rfl ?_
 refine xAs rfl ?_
 refine oNl ?_
 exact eJ h rfl
 refine wSk rfl ?_
 refine wSk rfl ?_
 refine wSk rfl ?_
 refine xPk rfl ?_
 refine xMv rfl ?_
 refine wSk rfl ?_
 refine wSk rfl ?_
 refine wSk rfl ?_
 refine wSk rfl ?_
 refine wSk rfl ?_
 refine wSk rfl ?_
 refine xPk rfl ?_
 refine xAs rfl ?_
 refine oNl ?_
 exact eJ h rfl
 refine cRt ?_
 cases h
 exact eR rfl rfl rfl rfl
abbrev B_slices_Index_cf0e (p : (List (List UInt8)) → (List UInt8) → Option (Int)) : Prop := ∀ {t0_0 : List (List UInt8)} {t1_0 : List UInt8} {r : Int}, p t0_0 t1_0 = some r → Big Try.prog τ An (.fn 156 [.one (.c (.sl (t0_0.map rStr))), .one (.c (.str t1_0))] [] (.one (.c (.int .i64 r))) none [] none)
def p_slices_Index_cf0e_b1 (n : Nat) (t0_0 : List (List UInt8)) (t1_0 : List UInt8) : (Int) → Option ((Int) ⊕ ((Int) ⊕ (Int × Bool)))
  | v8_1 => bif decide (v8_1 < (t0_0.length : Int)) then (ix t0_0 v8_1).bind fun e14_6 => bif decide (t1_0 = e14_6) then some (.inr (.inl v8_1)) else some (.inl (IntKind.wrap .i64 (v8_1 + (1 : Int)))) else some (.inr (.inr (v8_1, false)))
def p_slices_Index_cf0e (n : Nat) (t0_0 : List (List UInt8)) (t1_0 : List UInt8) : Option (Int) :=
  (loopN (p_slices_Index_cf0e_b1 n t0_0 t1_0) n (0 : Int)).bind fun q => (match q with | .inl v4_2 => some v4_2 | .inr (v8_3, v9_4) => some ((-1) : Int))
theorem big_slices_Index_cf0e {n : Nat} : B_slices_Index_cf0e (p_slices_Index_cf0e n) := by
 intro t0_0 t1_0 r h
 unfold p_slices_Index_cf0e at h
 refine bF Try.func156 rfl rfl ?_
 refine cRs ?_
 refine xAs rfl ?_
 refine oNl ?_
 refine cSq ?_
 refine cRs ?_
 refine xMv rfl ?_
 refine xLn rfl ?_
 refine xMv rfl ?_
 refine oNl ?_
 refine cLp h [(4, 5), (8, 18)] [] (fun v8_1 => ([(8, I64 v8_1)], [])) (fun q => match q with | .inl v4_2 => (.r, [(4, I64 v4_2)], []) | .inr (v8_3, v9_4) => (.e 0, [(8, I64 v8_3), (9, Bo v9_4)], [])) rfl (fun v8_1 _ h => ?_) (fun q h => ?_)
 unfold p_slices_Index_cf0e_b1 at h
 refine cRs ?_
 refine xLt rfl ?_
 refine oNl ?_
 refine cSq ?_
 refine cIf h rfl (fun q5 h => ?_) (fun q5 h => ?_)
 refine cSk ?_
 refine cSq ?_
 refine cBk ?_
 refine cRs ?_
 refine xMv rfl ?_
 refine xAs rfl ?_
 refine oRs ?_
 refine xMv rfl ?_
 refine xMv rfl ?_
 refine xMv rfl ?_
 refine xIx h rStr_eq rfl (fun e14_6 h => ?_)
 refine xLd rfl ?_
 refine xEs rfl ?_
 refine oNl ?_
 refine cIf h rfl (fun q7 h => ?_) (fun q7 h => ?_)
 refine cRs ?_
 refine xMv rfl ?_
 refine xAs rfl ?_
 refine oNl ?_
 refine cRt ?_
 exact eXr h rfl
 refine cSk ?_
 refine cRg ?_
 refine xAdd rfl ?_
 refine xMv rfl ?_
 refine oNl ?_
 exact eL h rfl
 refine cEx ?_
 exact eX h rfl
 rcases q with v4_2 | ⟨v8_3, v9_4⟩
 cases h
 exact eR rfl rfl rfl rfl
 refine cRs ?_
 refine xAs rfl ?_
 refine oNl ?_
 refine cRt ?_
 cases h
 exact eR rfl rfl rfl rfl
abbrev B_slices_Contains_35c2 (p : (List (List UInt8)) → (List UInt8) → Option (Bool)) : Prop := ∀ {t0_0 : List (List UInt8)} {t1_0 : List UInt8} {r : Bool}, p t0_0 t1_0 = some r → Big Try.prog τ An (.fn 77 [.one (.c (.sl (t0_0.map rStr))), .one (.c (.str t1_0))] [] (.one (.c (.bool r))) none [] none)
def p_slices_Contains_35c2 (n : Nat) (t0_0 : List (List UInt8)) (t1_0 : List UInt8) : Option (Bool) :=
  (p_slices_Index_cf0e n t0_0 t1_0).bind fun c7_1 => some (decide ((0 : Int) ≤ c7_1))
theorem big_slices_Contains_35c2 {n : Nat} : B_slices_Contains_35c2 (p_slices_Contains_35c2 n) := by
 intro t0_0 t1_0 r h
 unfold p_slices_Contains_35c2 at h
 refine bF Try.func77 rfl rfl ?_
 refine cRs ?_
 refine xAs rfl ?_
 refine oRs ?_
 refine xMv rfl ?_
 refine xMv rfl ?_
 refine xC0 h (big_slices_Index_cf0e ·) rfl (fun c7_1 h => ?_)
 refine xGe rfl ?_
 refine xAs rfl ?_
 refine oNl ?_
 refine cRt ?_
 cases h
 exact eR rfl rfl rfl rfl
abbrev B_impl_OversOk (p : (List S_impl_Over) → Option (Bool)) : Prop := ∀ {t0_0 : List S_impl_Over} {r : Bool}, p t0_0 = some r → Big Try.prog τ An (.fn 15 [.one (.c (.sl (t0_0.map rS_impl_Over)))] [] (.one (.c (.bool r))) none [] none)
def p_impl_OversOk_b2 (n : Nat) (t0_0 : List S_impl_Over) (v20_6 : Int) (e23_13 : S_impl_Over) : ((List (List UInt8)) × (List Int) × Int) → Option (((List (List UInt8)) × (List Int) × Int) ⊕ ((Bool) ⊕ ((List (List UInt8)) × (List Int) × Int × Bool)))
  | (v3_16, v4_17, v31_18) => bif decide (v31_18 < (e23_13.f3.length : Int)) then (((ix e23_13.f3 v31_18).bind fun e33_35 => ((p_slices_Contains_35c2 n v3_16 e33_35.f0).bind fun c38_37 => bif c38_37 then some true else bif !decide (e33_35.f6 = ((-1) : Int)) then (p_impl_inRange n e33_35.f6 (IntKind.wrap .i64 (v20_6 + (1 : Int))) (IntKind.wrap .i64 ((t0_0.length : Int) - (1 : Int)))).bind fun c51_40 => some (!c51_40) else some false).bind fun v54_36 => bif v54_36 then some (.inl false) else (app2 16 v3_16 ([e33_35.f0] : List (List UInt8))).bind fun v59_42 => bif !decide (e33_35.f6 = ((-1) : Int)) then (ix v4_17 e33_35.f6).bind fun e66_44 => (ix v4_17 e33_35.f6).bind fun e69_45 => some (.inr (v59_42, (v4_17.set (Int.toNat e33_35.f6) (IntKind.wrap .i64 (e66_44 + (1 : Int)))), e33_35.f0, e33_35.f1, e33_35.f2, e33_35.f3, e33_35.f4, e33_35.f5, e33_35.f6)) else some (.inr (v59_42, v4_17, e33_35.f0, e33_35.f1, e33_35.f2, e33_35.f3, e33_35.f4, e33_35.f5, e33_35.f6)) : Option ((Bool) ⊕ ((List (List UInt8)) × (List Int) × (List UInt8) × (List UInt8) × Int × Int × (List UInt8) × (List S_impl_Term) × Int)))).bind fun q => (match q with | .inl v2_25 => some (.inr (.inl v2_25)) | .inr (v3_26, v4_27, w8_28, w8_29, w8_30, w8_31, w8_32, w8_33, w8_34) => some (.inl (v3_26, v4_27, (IntKind.wrap .i64 (v31_18 + (1 : Int)))))) else some (.inr (.inr (v3_16, v4_17, v31_18, false)))
def p_impl_OversOk_b1 (n : Nat) (t0_0 : List S_impl_Over) : ((List (List UInt8)) × (List Int) × Int) → Option (((List (List UInt8)) × (List Int) × Int) ⊕ ((Bool) ⊕ ((List (List UInt8)) × (List Int) × Int × Bool)))
  | (v3_4, v4_5, v20_6) => bif decide (v20_6 < (t0_0.length : Int)) then (ix t0_0 v20_6).bind fun e23_13 => (p_impl_OverOk n e23_13.f0 e23_13.f1 e23_13.f2 e23_13.f3 e23_13.f4 e23_13.f5 e23_13.f6).bind fun c26_14 => bif !c26_14 then some (.inr (.inl false)) else (loopN (p_impl_OversOk_b2 n t0_0 v20_6 e23_13) n (v3_4, v4_5, (0 : Int))).bind fun q => (match q with | .inl v2_19 => some (.inr (.inl v2_19)) | .inr (v3_20, v4_21, v31_22, v32_23) => some (.inl (v3_20, v4_21, (IntKind.wrap .i64 (v20_6 + (1 : Int)))))) else some (.inr (.inr (v3_4, v4_5, v20_6, false)))
def p_impl_OversOk_b3 (n : Nat) (v4_9 : List Int) : (Int) → Option ((Int) ⊕ ((Bool) ⊕ (Int × Bool)))
  | v74_46 => bif decide (v74_46 < (v4_9.length : Int)) then (ix v4_9 v74_46).bind fun e77_51 => bif !((decide (e77_51 = (1 : Int))) == (decide ((0 : Int) < v74_46))) then some (.inr (.inl false)) else some (.inl (IntKind.wrap .i64 (v74_46 + (1 : Int)))) else some (.inr (.inr (v74_46, false)))
def p_impl_OversOk (n : Nat) (t0_0 : List S_impl_Over) : Option (Bool) :=
  (p_impl_inRange n (t0_0.length : Int) (1 : Int) (8 : Int)).bind fun c13_1 => bif !c13_1 then some false else (ck (decide (0 ≤ (t0_0.length : Int) ∧ (t0_0.length : Int) ≤ maxLen ∧ 8 * (t0_0.length : Int) ≤ 281474976710656))).bind fun _ => (loopN (p_impl_OversOk_b1 n t0_0) n (([] : List (List UInt8)), (List.replicate (Int.toNat (t0_0.length : Int)) (0 : Int)), (0 : Int))).bind fun q => (match q with | .inl v2_7 => some v2_7 | .inr (v3_8, v4_9, v20_10, v21_11) => (loopN (p_impl_OversOk_b3 n v4_9) n (0 : Int)).bind fun q => (match q with | .inl v2_47 => some v2_47 | .inr (v74_48, v75_49) => some true))
theorem big_impl_OversOk {n : Nat} : B_impl_OversOk (p_impl_OversOk n) := by
 intro t0_0 r h
 unfold p_impl_OversOk at h
 refine bF Try.func15 rfl rfl ?_
 refine cRs ?_
 refine xAs rfl ?_
 refine oNl ?_
 refine cSq ?_
 refine cRs ?_
 refine xMv rfl ?_
 refine xLn rfl ?_
 refine xC0 h (big_impl_inRange ·) rfl (fun c13_1 h => ?_)
 refine xNot rfl ?_
 refine oNl ?_
 refine cIf h rfl (fun q2 h => ?_) (fun q2 h => ?_)
 refine cRs ?_
 refine xAs rfl ?_
 refine oNl ?_
 refine cRt ?_
 cases h
 exact eR rfl rfl rfl rfl
 refine cSk ?_
 refine cRs ?_
 refine wAe (Li rStr []) rfl rfl rfl rfl ?_
 refine oRs ?_
 refine xMv rfl ?_
 refine xLn rfl ?_
 refine oCk h (fun k17_2 h => ?_)
 refine wMk (z := (0 : Int)) (f := rI_i64) k17_2 rfl rfl rfl rfl rfl rfl rfl ?_
 refine xAs rfl ?_
 refine oNl ?_
 refine cSq ?_
 refine cRs ?_
 refine xMv rfl ?_
 refine xLn rfl ?_
 refine xMv rfl ?_
 refine oNl ?_
 refine cLp h [(2, 6), (8, 8), (20, 71)] [(6, 6), (8, 8)] (fun (v3_4, v4_5, v20_6) => ([(3, Li rStr v3_4), (4, Li rI_i64 v4_5), (20, I64 v20_6)], [])) (fun q => match q with | .inl v2_7 => (.r, [(2, Bo v2_7)], []) | .inr (v3_8, v4_9, v20_10, v21_11) => (.e 0, [(3, Li rStr v3_8), (4, Li rI_i64 v4_9), (20, I64 v20_10), (21, Bo v21_11)], [])) rfl (fun st _ h => ?_) (fun q h => ?_)
 obtain ⟨v3_4, v4_5, v20_6⟩ := st
 unfold p_impl_OversOk_b1 at h
 refine cRs ?_
 refine xLt rfl ?_
 refine oNl ?_
 refine cSq ?_
 refine cIf h rfl (fun q12 h => ?_) (fun q12 h => ?_)
 refine cSk ?_
 refine cSq ?_
 refine cBk ?_
 refine cRs ?_
 refine xMv rfl ?_
 refine xIx h rS_impl_Over_eq rfl (fun e23_13 h => ?_)
 refine xLd rfl ?_
 refine xAz [.int .i64 0, .int .i64 0, .int .i64 0, .sl ([].map rS_impl_Kid), .sl ([].map rI_i64), .sl ([].map rI_i64), .bool false] rfl ?_
 refine xAs rfl ?_
 refine xSt rfl ?_
 refine oNl ?_
 refine cSq ?_
 refine cRs ?_
 refine xLd rfl ?_
 refine xC0 h (big_impl_OverOk ·) rfl (fun c26_14 h => ?_)
 refine xNot rfl ?_
 refine oNl ?_
 refine cIf h rfl (fun q15 h => ?_) (fun q15 h => ?_)
 refine cRs ?_
 refine xAs rfl ?_
 refine oNl ?_
 refine cRt ?_
 exact eXr h rfl
 refine cSk ?_
 refine cRs ?_
 refine xFd rfl ?_
 refine xLd rfl ?_
 refine xLn rfl ?_
 refine xMv rfl ?_
 refine oNl ?_
 refine cLp h [(2, 4), (8, 8), (31, 70)] [(8, 8)] (fun (v3_16, v4_17, v31_18) => ([(3, Li rStr v3_16), (4, Li rI_i64 v4_17), (31, I64 v31_18)], [])) (fun q => match q with | .inl v2_19 => (.r, [(2, Bo v2_19)], []) | .inr (v3_20, v4_21, v31_22, v32_23) => (.e 2, [(3, Li rStr v3_20), (4, Li rI_i64 v4_21), (31, I64 v31_22), (32, Bo v32_23)], [])) rfl (fun st _ h => ?_) (fun q h => ?_)
 obtain ⟨v3_16, v4_17, v31_18⟩ := st
 unfold p_impl_OversOk_b2 at h
 refine cRs ?_
 refine xLt rfl ?_
 refine oNl ?_
 refine cSq ?_
 refine cIf h rfl (fun q24 h => ?_) (fun q24 h => ?_)
 refine cSk ?_
 refine cSq ?_
 refine cJn h [(2, 4), (8, 8), (33, 69)] [(8, 8)] (fun q => match q with | .inl v2_25 => (.r, [(2, Bo v2_25)], []) | .inr (v3_26, v4_27, w8_28, w8_29, w8_30, w8_31, w8_32, w8_33, w8_34) => (.n, [(3, Li rStr v3_26), (4, Li rI_i64 v4_27)], [(8, [.str w8_28, .str w8_29, .int .i64 w8_30, .int .i64 w8_31, .str w8_32, .sl (w8_33.map rS_impl_Term), .int .i64 w8_34])])) (fun _ h => ?_) (fun q h => ?_)
 refine cBk ?_
 refine cRs ?_
 refine xIx h rS_impl_Kid_eq rfl (fun e33_35 h => ?_)
 refine xLd rfl ?_
 refine xAz [.str [], .str [], .int .i64 0, .int .i64 0, .str [], .sl ([].map rS_impl_Term), .int .i64 0] rfl ?_
 refine xSt rfl ?_
 refine oNl ?_
 refine cSq ?_
 refine cRs ?_
 refine oJn h [(35, 54)] [] (fun v54_36 => (.n, [(54, Bo v54_36)], [])) (fun _ h => ?_) (fun v54_36 h => ?_)
 refine xMv rfl ?_
 refine xFd rfl ?_
 refine xLd rfl ?_
 refine xC0 h (big_slices_Contains_35c2 ·) rfl (fun c38_37 h => ?_)
 refine xMv rfl ?_
 refine oIf 39 h rfl (fun q38 h => ?_) (fun q38 h => ?_)
 refine wSk rfl ?_
 refine wSk rfl ?_
 refine wSk rfl ?_
 refine wSk rfl ?_
 refine wSk rfl ?_
 refine wSk rfl ?_
 refine wSk rfl ?_
 refine wSk rfl ?_
 refine wSk rfl ?_
 refine wSk rfl ?_
 refine wSk rfl ?_
 refine wSk rfl ?_
 refine wSk rfl ?_
 refine wSk rfl ?_
 refine xPk rfl ?_
 refine oNl ?_
 exact eJ h rfl
 refine xFd rfl ?_
 refine xLd rfl ?_
 refine xNe rfl ?_
 refine xMv rfl ?_
 refine oIf 43 h rfl (fun q39 h => ?_) (fun q39 h => ?_)
 refine xFd rfl ?_
 refine xLd rfl ?_
 refine xMv rfl ?_
 refine xAdd rfl ?_
 refine xMv rfl ?_
 refine xLn rfl ?_
 refine xSub rfl ?_
 refine xC0 h (big_impl_inRange ·) rfl (fun c51_40 h => ?_)
 refine xNot rfl ?_
 refine xPk rfl ?_
 refine xPk rfl ?_
 refine oNl ?_
 exact eJ h rfl
 refine wSk rfl ?_
 refine wSk rfl ?_
 refine wSk rfl ?_
 refine wSk rfl ?_
 refine wSk rfl ?_
 refine wSk rfl ?_
 refine wSk rfl ?_
 refine wSk rfl ?_
 refine wSk rfl ?_
 refine xPk rfl ?_
 refine xPk rfl ?_
 refine oNl ?_
 exact eJ h rfl
 refine cIf h rfl (fun q41 h => ?_) (fun q41 h => ?_)
 refine cRs ?_
 refine xAs rfl ?_
 refine oNl ?_
 refine cRt ?_
 exact eJ h rfl
 refine cSk ?_
 refine cRs ?_
 refine xMv rfl ?_
 refine xFd rfl ?_
 refine xLd rfl ?_
 refine wLt' (L := ([e33_35.f0] : List (List UInt8))) (f := rStr) rfl rfl rfl rfl rfl rfl rfl ?_
 refine wAp (f := rStr) h rfl rfl rfl rfl rfl rfl rfl rfl rfl (fun _ => rfl) rfl (fun v59_42 h => ?_)
 refine xAs rfl ?_
 refine oRs ?_
 refine xFd rfl ?_
 refine xLd rfl ?_
 refine xNe rfl ?_
 refine oNl ?_
 refine cIf h rfl (fun q43 h => ?_) (fun q43 h => ?_)
 refine cRg ?_
 refine wAl rfl rfl rfl rfl ?_
 refine xFd rfl ?_
 refine xLd rfl ?_
 refine wIp (f := rI_i64) h rfl rfl rfl rfl rfl rfl (fun _ => rfl) rfl (fun e66_44 ke66_44 h => ?_)
 refine wLp (f := rI_i64) ke66_44 rfl rfl rfl rfl rfl rfl rfl rfl rfl rfl ?_
 refine xAdd rfl ?_
 refine wIp (f := rI_i64) h rfl rfl rfl rfl rfl rfl (fun _ => rfl) rfl (fun e69_45 ke69_45 h => ?_)
 refine wSp (f := rI_i64) (v' := (IntKind.wrap .i64 (e66_44 + (1 : Int)))) ke69_45 rfl rfl rfl rfl rfl rfl rfl rfl rfl ?_
 refine oNl ?_
 exact eJ h rfl
 refine cSk ?_
 exact eJ h rfl
 rcases q with v2_25 | ⟨v3_26, v4_27, w8_28, w8_29, w8_30, w8_31, w8_32, w8_33, w8_34⟩
 exact eXr h rfl
 refine cRg ?_
 refine xAdd rfl ?_
 refine xMv rfl ?_
 refine oNl ?_
 exact eL h rfl
 refine cEx ?_
 exact eX h rfl
 rcases q with v2_19 | ⟨v3_20, v4_21, v31_22, v32_23⟩
 exact eXr h rfl
 refine cRg ?_
 refine xAdd rfl ?_
 refine xMv rfl ?_
 refine oNl ?_
 exact eL h rfl
 refine cEx ?_
 exact eX h rfl
 rcases q with v2_7 | ⟨v3_8, v4_9, v20_10, v21_11⟩
 cases h
 exact eR rfl rfl rfl rfl
 refine cSq ?_
 refine cRs ?_
 refine xMv rfl ?_
 refine xLn rfl ?_
 refine xMv rfl ?_
 refine oNl ?_
 refine cLp h [(2, 2), (9, 10), (74, 84)] [] (fun v74_46 => ([(74, I64 v74_46)], [])) (fun q => match q with | .inl v2_47 => (.r, [(2, Bo v2_47)], []) | .inr (v74_48, v75_49) => (.e 4, [(74, I64 v74_48), (75, Bo v75_49)], [])) rfl (fun v74_46 _ h => ?_) (fun q h => ?_)
 unfold p_impl_OversOk_b3 at h
 refine cRs ?_
 refine xLt rfl ?_
 refine oNl ?_
 refine cSq ?_
 refine cIf h rfl (fun q50 h => ?_) (fun q50 h => ?_)
 refine cSk ?_
 refine cSq ?_
 refine cBk ?_
 refine cRs ?_
 refine xMv rfl ?_
 refine xIx h rI_i64_eq rfl (fun e77_51 h => ?_)
 refine xLd rfl ?_
 refine xAs rfl ?_
 refine xAs rfl ?_
 refine oRs ?_
 refine xMv rfl ?_
 refine xEq rfl ?_
 refine xMv rfl ?_
 refine xGt rfl ?_
 refine wBi (.bool (!((decide (e77_51 = (1 : Int))) == (decide ((0 : Int) < v74_46))))) rfl rfl rfl rfl rfl ?_
 refine oNl ?_
 refine cIf h rfl (fun q52 h => ?_) (fun q52 h => ?_)
 refine cRs ?_
 refine xAs rfl ?_
 refine oNl ?_
 refine cRt ?_
 exact eXr h rfl
 refine cSk ?_
 refine cRg ?_
 refine xAdd rfl ?_
 refine xMv rfl ?_
 refine oNl ?_
 exact eL h rfl
 refine cEx ?_
 exact eX h rfl
 rcases q with v2_47 | ⟨v74_48, v75_49⟩
 cases h
 exact eR rfl rfl rfl rfl
 refine cRs ?_
 refine xAs rfl ?_
 refine oNl ?_
 refine cRt ?_
 cases h
 exact eR rfl rfl rfl rfl
abbrev B_laws_eqTermS (p : (List S_impl_Term) → (List S_impl_Term) → Option (Bool)) : Prop := ∀ {t0_0 t1_0 : List S_impl_Term} {r : Bool}, p t0_0 t1_0 = some r → Big Try.prog τ An (.fn 38 [.one (.c (.sl (t0_0.map rS_impl_Term))), .one (.c (.sl (t1_0.map rS_impl_Term)))] [] (.one (.c (.bool r))) none [] none)
abbrev B_laws_eqTerm (p : Int → Int → (List UInt8) → (List S_impl_Term) → Int → Int → (List UInt8) → (List S_impl_Term) → Option (Bool)) : Prop := ∀ {t0_0 t0_1 : Int} {t0_2 : List UInt8} {t0_3 : List S_impl_Term} {t1_0 t1_1 : Int} {t1_2 : List UInt8} {t1_3 : List S_impl_Term} {r : Bool}, p t0_0 t0_1 t0_2 t0_3 t1_0 t1_1 t1_2 t1_3 = some r → Big Try.prog τ An (.fn 37 [.one (.ag [.int .i64 t0_0, .int .i64 t0_1, .str t0_2, .sl (t0_3.map rS_impl_Term)]), .one (.ag [.int .i64 t1_0, .int .i64 t1_1, .str t1_2, .sl (t1_3.map rS_impl_Term)])] [] (.one (.c (.bool r))) none [] none)
def p_laws_eqTermS_b1 (n : Nat) (r_laws_eqTerm : Int → Int → (List UInt8) → (List S_impl_Term) → Int → Int → (List UInt8) → (List S_impl_Term) → Option (Bool)) (t0_0 : List S_impl_Term) (t1_0 : List S_impl_Term) : (Int) → Option ((Int) ⊕ ((Bool) ⊕ (Int × Bool)))
  | v5_2 => bif decide (v5_2 < (t0_0.length : Int)) then (ix t0_0 v5_2).bind fun e19_7 => (ix t1_0 v5_2).bind fun e23_8 => (r_laws_eqTerm e19_7.f0 e19_7.f1 e19_7.f2 e19_7.f3 e23_8.f0 e23_8.f1 e23_8.f2 e23_8.f3).bind fun c25_9 => bif !c25_9 then some (.inr (.inl false)) else some (.inl (IntKind.wrap .i64 (v5_2 + (1 : Int)))) else some (.inr (.inr (v5_2, false)))
def s_laws_eqTermS (n : Nat) (r_laws_eqTerm : Int → Int → (List UInt8) → (List S_impl_Term) → Int → Int → (List UInt8) → (List S_impl_Term) → Option (Bool)) (r_laws_eqTermS : (List S_impl_Term) → (List S_impl_Term) → Option (Bool)) (t0_0 : List S_impl_Term) (t1_0 : List S_impl_Term) : Option (Bool) :=
  bif !decide ((t0_0.length : Int) = (t1_0.length : Int)) then some false else (loopN (p_laws_eqTermS_b1 n r_laws_eqTerm t0_0 t1_0) n (0 : Int)).bind fun q => (match q with | .inl v4_3 => some v4_3 | .inr (v5_4, v14_5) => some true)
theorem step_laws_eqTermS {n : Nat} {r_laws_eqTerm : Int → Int → (List UInt8) → (List S_impl_Term) → Int → Int → (List UInt8) → (List S_impl_Term) → Option (Bool)} (ih_laws_eqTerm : B_laws_eqTerm r_laws_eqTerm) {r_laws_eqTermS : (List S_impl_Term) → (List S_impl_Term) → Option (Bool)} (ih_laws_eqTermS : B_laws_eqTermS r_laws_eqTermS) : B_laws_eqTermS (s_laws_eqTermS n r_laws_eqTerm r_laws_eqTermS) := by
 intro t0_0 t1_0 r h
 unfold s_laws_eqTermS at h
 refine bF Try.func38 rfl rfl ?_
 refine cRs ?_
 refine xAs rfl ?_
 refine oNl ?_
 refine cSq ?_
 refine cRs ?_
 refine xMv rfl ?_
 refine xLn rfl ?_
 refine xMv rfl ?_
 refine xLn rfl ?_
 refine xNe rfl ?_
 refine oNl ?_
 refine cIf h rfl (fun q1 h => ?_) (fun q1 h => ?_)
 refine cRs ?_
 refine xAs rfl ?_
 refine oNl ?_
 refine cRt ?_
 cases h
 exact eR rfl rfl rfl rfl
 refine cSk ?_
 refine cSq ?_
 refine cRs ?_
 refine xAs rfl ?_
 refine oNl ?_
 refine cLp h [(4, 5), (11, 26)] [] (fun v5_2 => ([(5, I64 v5_2)], [])) (fun q => match q with | .inl v4_3 => (.r, [(4, Bo v4_3)], []) | .inr (v5_4, v14_5) => (.e 0, [(5, I64 v5_4), (14, Bo v14_5)], [])) rfl (fun v5_2 _ h => ?_) (fun q h => ?_)
 unfold p_laws_eqTermS_b1 at h
 refine cSq ?_
 refine cRs ?_
 refine xMv rfl ?_
 refine xMv rfl ?_
 refine xLn rfl ?_
 refine xLt rfl ?_
 refine oNl ?_
 refine cIf h rfl (fun q6 h => ?_) (fun q6 h => ?_)
 refine cSk ?_
 refine cSq ?_
 refine cBk ?_
 refine cRs ?_
 refine xMv rfl ?_
 refine xMv rfl ?_
 refine xIx h rS_impl_Term_eq rfl (fun e19_7 h => ?_)
 refine xLd rfl ?_
 refine xMv rfl ?_
 refine xMv rfl ?_
 refine xIx h rS_impl_Term_eq rfl (fun e23_8 h => ?_)
 refine xLd rfl ?_
 refine xC0 h (ih_laws_eqTerm ·) rfl (fun c25_9 h => ?_)
 refine xNot rfl ?_
 refine oNl ?_
 refine cIf h rfl (fun q10 h => ?_) (fun q10 h => ?_)
 refine cRs ?_
 refine xAs rfl ?_
 refine oNl ?_
 refine cRt ?_
 exact eXr h rfl
 refine cSk ?_
 refine cRg ?_
 refine xMv rfl ?_
 refine xAdd rfl ?_
 refine xAs rfl ?_
 refine oNl ?_
 exact eL h rfl
 refine cEx ?_
 exact eX h rfl
 rcases q with v4_3 | ⟨v5_4, v14_5⟩
 cases h
 exact eR rfl rfl rfl rfl
 refine cRs ?_
 refine xAs rfl ?_
 refine oNl ?_
 refine cRt ?_
 cases h
 exact eR rfl rfl rfl rfl
def s_laws_eqTerm (n : Nat) (r_laws_eqTerm : Int → Int → (List UInt8) → (List S_impl_Term) → Int → Int → (List UInt8) → (List S_impl_Term) → Option (Bool)) (r_laws_eqTermS : (List S_impl_Term) → (List S_impl_Term) → Option (Bool)) (t0_0 : Int) (t0_1 : Int) (t0_2 : List UInt8) (t0_3 : List S_impl_Term) (t1_0 : Int) (t1_1 : Int) (t1_2 : List UInt8) (t1_3 : List S_impl_Term) : Option (Bool) :=
  bif !decide (t0_0 = t1_0) then some false else bif !decide (t0_1 = t1_1) then some false else bif !decide (t0_2 = t1_2) then some false else (r_laws_eqTermS t0_3 t1_3).bind fun c24_4 => bif !c24_4 then some false else some true
theorem step_laws_eqTerm {n : Nat} {r_laws_eqTerm : Int → Int → (List UInt8) → (List S_impl_Term) → Int → Int → (List UInt8) → (List S_impl_Term) → Option (Bool)} (ih_laws_eqTerm : B_laws_eqTerm r_laws_eqTerm) {r_laws_eqTermS : (List S_impl_Term) → (List S_impl_Term) → Option (Bool)} (ih_laws_eqTermS : B_laws_eqTermS r_laws_eqTermS) : B_laws_eqTerm (s_laws_eqTerm n r_laws_eqTerm r_laws_eqTermS) := by
 intro t0_0 t0_1 t0_2 t0_3 t1_0 t1_1 t1_2 t1_3 r h
 unfold s_laws_eqTerm at h
 refine bF Try.func37 rfl rfl ?_
 refine cRs ?_
 refine xBx rfl ?_
 refine xBx rfl ?_
 refine xAs rfl ?_
 refine oNl ?_
 refine cSq ?_
 refine cRs ?_
 refine xFd rfl ?_
 refine xLd rfl ?_
 refine xFd rfl ?_
 refine xLd rfl ?_
 refine xNe rfl ?_
 refine oNl ?_
 refine cIf h rfl (fun q1 h => ?_) (fun q1 h => ?_)
 refine cRs ?_
 refine xAs rfl ?_
 refine oNl ?_
 refine cRt ?_
 cases h
 exact eR rfl rfl rfl rfl
 refine cSk ?_
 refine cSq ?_
 refine cRs ?_
 refine xFd rfl ?_
 refine xLd rfl ?_
 refine xFd rfl ?_
 refine xLd rfl ?_
 refine xNe rfl ?_
 refine oNl ?_
 refine cIf h rfl (fun q2 h => ?_) (fun q2 h => ?_)
 refine cRs ?_
 refine xAs rfl ?_
 refine oNl ?_
 refine cRt ?_
 cases h
 exact eR rfl rfl rfl rfl
 refine cSk ?_
 refine cSq ?_
 refine cRs ?_
 refine xFd rfl ?_
 refine xLd rfl ?_
 refine xFd rfl ?_
 refine xLd rfl ?_
 refine xNs rfl ?_
 refine oNl ?_
 refine cIf h rfl (fun q3 h => ?_) (fun q3 h => ?_)
 refine cRs ?_
 refine xAs rfl ?_
 refine oNl ?_
 refine cRt ?_
 cases h
 exact eR rfl rfl rfl rfl
 refine cSk ?_
 refine cSq ?_
 refine cRs ?_
 refine xFd rfl ?_
 refine xLd rfl ?_
 refine xFd rfl ?_
 refine xLd rfl ?_
 refine xC0 h (ih_laws_eqTermS ·) rfl (fun c24_4 h => ?_)
 refine xNot rfl ?_
 refine oNl ?_
 refine cIf h rfl (fun q5 h => ?_) (fun q5 h => ?_)
 refine cRs ?_
 refine xAs rfl ?_
 refine oNl ?_
 refine cRt ?_
 cases h
 exact eR rfl rfl rfl rfl
 refine cSk ?_
 refine cRs ?_
 refine xAs rfl ?_
 refine oNl ?_
 refine cRt ?_
 cases h
 exact eR rfl rfl rfl rfl
def q_laws_eqTerm : Nat → (Int → Int → (List UInt8) → (List S_impl_Term) → Int → Int → (List UInt8) → (List S_impl_Term) → Option (Bool)) × ((List S_impl_Term) → (List S_impl_Term) → Option (Bool))
  | 0 => ((fun _ _ _ _ _ _ _ _ => none), (fun _ _ => none))
  | n + 1 => (s_laws_eqTerm n ((q_laws_eqTerm n).1) ((q_laws_eqTerm n).2), s_laws_eqTermS n ((q_laws_eqTerm n).1) ((q_laws_eqTerm n).2))
def p_laws_eqTerm (n : Nat) : Int → Int → (List UInt8) → (List S_impl_Term) → Int → Int → (List UInt8) → (List S_impl_Term) → Option (Bool) := (q_laws_eqTerm n).1
def p_laws_eqTermS (n : Nat) : (List S_impl_Term) → (List S_impl_Term) → Option (Bool) := (q_laws_eqTerm n).2
theorem bigs_laws_eqTerm (n : Nat) : B_laws_eqTerm (p_laws_eqTerm n) ∧ B_laws_eqTermS (p_laws_eqTermS n) := by
  induction n with
  | zero => exact ⟨(fun h => nomatch h), (fun h => nomatch h)⟩
  | succ n ih => exact ⟨step_laws_eqTerm (n := n) (ih.1) (ih.2), step_laws_eqTermS (n := n) (ih.1) (ih.2)⟩
theorem big_laws_eqTerm {n : Nat} : B_laws_eqTerm (p_laws_eqTerm n) := (bigs_laws_eqTerm n).1
theorem big_laws_eqTermS {n : Nat} : B_laws_eqTermS (p_laws_eqTermS n) := (bigs_laws_eqTerm n).2
theorem p_laws_eqTerm_succ (n : Nat) : p_laws_eqTerm (n + 1) = s_laws_eqTerm n (p_laws_eqTerm n) (p_laws_eqTermS n) := rfl
theorem p_laws_eqTermS_succ (n : Nat) : p_laws_eqTermS (n + 1) = s_laws_eqTermS n (p_laws_eqTerm n) (p_laws_eqTermS n) := rfl
abbrev B_laws_eqKid (p : (List UInt8) → (List UInt8) → Int → Int → (List UInt8) → (List S_impl_Term) → Int → (List UInt8) → (List UInt8) → Int → Int → (List UInt8) → (List S_impl_Term) → Int → Option (Bool)) : Prop := ∀ {t0_0 t0_1 : List UInt8} {t0_2 t0_3 : Int} {t0_4 : List UInt8} {t0_5 : List S_impl_Term} {t0_6 : Int} {t1_0 t1_1 : List UInt8} {t1_2 t1_3 : Int} {t1_4 : List UInt8} {t1_5 : List S_impl_Term} {t1_6 : Int} {r : Bool}, p t0_0 t0_1 t0_2 t0_3 t0_4 t0_5 t0_6 t1_0 t1_1 t1_2 t1_3 t1_4 t1_5 t1_6 = some r → Big Try.prog τ An (.fn 214 [.one (.ag [.str t0_0, .str t0_1, .int .i64 t0_2, .int .i64 t0_3, .str t0_4, .sl (t0_5.map rS_impl_Term), .int .i64 t0_6]), .one (.ag [.str t1_0, .str t1_1, .int .i64 t1_2, .int .i64 t1_3, .str t1_4, .sl (t1_5.map rS_impl_Term), .int .i64 t1_6])] [] (.one (.c (.bool r))) none [] none)
def p_laws_eqKid (n : Nat) (t0_0 : List UInt8) (t0_1 : List UInt8) (t0_2 : Int) (t0_3 : Int) (t0_4 : List UInt8) (t0_5 : List S_impl_Term) (t0_6 : Int) (t1_0 : List UInt8) (t1_1 : List UInt8) (t1_2 : Int) (t1_3 : Int) (t1_4 : List UInt8) (t1_5 : List S_impl_Term) (t1_6 : Int) : Option (Bool) :=
  bif !decide (t0_0 = t1_0) then some false else bif !decide (t0_1 = t1_1) then some false else (p_laws_eqTerm n t0_2 t0_3 t0_4 t0_5 t1_2 t1_3 t1_4 t1_5).bind fun c19_3 => bif !c19_3 then some false else bif !decide (t0_6 = t1_6) then some false else some true
theorem big_laws_eqKid {n : Nat} : B_laws_eqKid (p_laws_eqKid n) := by
 intro t0_0 t0_1 t0_2 t0_3 t0_4 t0_5 t0_6 t1_0 t1_1 t1_2 t1_3 t1_4 t1_5 t1_6 r h
 unfold p_laws_eqKid at h
 refine bF Try.func214 rfl rfl ?_
 refine cRs ?_
 refine xBx rfl ?_
 refine xBx rfl ?_
 refine xAs rfl ?_
 refine oNl ?_
 refine cSq ?_
 refine cRs ?_
 refine xFd rfl ?_
 refine xLd rfl ?_
 refine xFd rfl ?_
 refine xLd rfl ?_
 refine xNs rfl ?_
 refine oNl ?_
 refine cIf h rfl (fun q1 h => ?_) (fun q1 h => ?_)
 refine cRs ?_
 refine xAs rfl ?_
 refine oNl ?_
 refine cRt ?_
 cases h
 exact eR rfl rfl rfl rfl
 refine cSk ?_
 refine cSq ?_
 refine cRs ?_
 refine xFd rfl ?_
 refine xLd rfl ?_
 refine xFd rfl ?_
 refine xLd rfl ?_
 refine xNs rfl ?_
 refine oNl ?_
 refine cIf h rfl (fun q2 h => ?_) (fun q2 h => ?_)
 refine cRs ?_
 refine xAs rfl ?_
 refine oNl ?_
 refine cRt ?_
 cases h
 exact eR rfl rfl rfl rfl
 refine cSk ?_
 refine cSq ?_
 refine cRs ?_
 refine xFd rfl ?_
 refine xLd rfl ?_
 refine xFd rfl ?_
 refine xLd rfl ?_
 refine xC0 h (big_laws_eqTerm ·) rfl (fun c19_3 h => ?_)
 refine xNot rfl ?_
 refine oNl ?_
 refine cIf h rfl (fun q4 h => ?_) (fun q4 h => ?_)
 refine cRs ?_
 refine xAs rfl ?_
 refine oNl ?_
 refine cRt ?_
 cases h
 exact eR rfl rfl rfl rfl
 refine cSk ?_
 refine cSq ?_
 refine cRs ?_
 refine xFd rfl ?_
 refine xLd rfl ?_
 refine xFd rfl ?_
 refine xLd rfl ?_
 refine xNe rfl ?_
 refine oNl ?_
 refine cIf h rfl (fun q5 h => ?_) (fun q5 h => ?_)
 refine cRs ?_
 refine xAs rfl ?_
 refine oNl ?_
 refine cRt ?_
 cases h
 exact eR rfl rfl rfl rfl
 refine cSk ?_
 refine cRs ?_
 refine xAs rfl ?_
 refine oNl ?_
 refine cRt ?_
 cases h
 exact eR rfl rfl rfl rfl
abbrev B_laws_eqKidS (p : (List S_impl_Kid) → (List S_impl_Kid) → Option (Bool)) : Prop := ∀ {t0_0 t1_0 : List S_impl_Kid} {r : Bool}, p t0_0 t1_0 = some r → Big Try.prog τ An (.fn 157 [.one (.c (.sl (t0_0.map rS_impl_Kid))), .one (.c (.sl (t1_0.map rS_impl_Kid)))] [] (.one (.c (.bool r))) none [] none)
def p_laws_eqKidS_b1 (n : Nat) (t0_0 : List S_impl_Kid) (t1_0 : List S_impl_Kid) : (Int) → Option ((Int) ⊕ ((Bool) ⊕ (Int × Bool)))
  | v5_2 => bif decide (v5_2 < (t0_0.length : Int)) then (ix t0_0 v5_2).bind fun e19_7 => (ix t1_0 v5_2).bind fun e23_8 => (p_laws_eqKid n e19_7.f0 e19_7.f1 e19_7.f2 e19_7.f3 e19_7.f4 e19_7.f5 e19_7.f6 e23_8.f0 e23_8.f1 e23_8.f2 e23_8.f3 e23_8.f4 e23_8.f5 e23_8.f6).bind fun c25_9 => bif !c25_9 then some (.inr (.inl false)) else some (.inl (IntKind.wrap .i64 (v5_2 + (1 : Int)))) else some (.inr (.inr (v5_2, false)))
def p_laws_eqKidS (n : Nat) (t0_0 : List S_impl_Kid) (t1_0 : List S_impl_Kid) : Option (Bool) :=
  bif !decide ((t0_0.length : Int) = (t1_0.length : Int)) then some false else (loopN (p_laws_eqKidS_b1 n t0_0 t1_0) n (0 : Int)).bind fun q => (match q with | .inl v4_3 => some v4_3 | .inr (v5_4, v14_5) => some true)
theorem big_laws_eqKidS {n : Nat} : B_laws_eqKidS (p_laws_eqKidS n) := by
 intro t0_0 t1_0 r h
 unfold p_laws_eqKidS at h
 refine bF Try.func157 rfl rfl ?_
 refine cRs ?_
 refine xAs rfl ?_
 refine oNl ?_
 refine cSq ?_
 refine cRs ?_
 refine xMv rfl ?_
 refine xLn rfl ?_
 refine xMv rfl ?_
 refine xLn rfl ?_
 refine xNe rfl ?_
 refine oNl ?_
 refine cIf h rfl (fun q1 h => ?_) (fun q1 h => ?_)
 refine cRs ?_
 refine xAs rfl ?_
 refine oNl ?_
 refine cRt ?_
 cases h
 exact eR rfl rfl rfl rfl
 refine cSk ?_
 refine cSq ?_
 refine cRs ?_
 refine xAs rfl ?_
 refine oNl ?_
 refine cLp h [(4, 5), (11, 26)] [] (fun v5_2 => ([(5, I64 v5_2)], [])) (fun q => match q with | .inl v4_3 => (.r, [(4, Bo v4_3)], []) | .inr (v5_4, v14_5) => (.e 0, [(5, I64 v5_4), (14, Bo v14_5)], [])) rfl (fun v5_2 _ h => ?_) (fun q h => ?_)
 unfold p_laws_eqKidS_b1 at h
 refine cSq ?_
 refine cRs ?_
 refine xMv rfl ?_
 refine xMv rfl ?_
 refine xLn rfl ?_
 refine xLt rfl ?_
 refine oNl ?_
 refine cIf h rfl (fun q6 h => ?_) (fun q6 h => ?_)
 refine cSk ?_
 refine cSq ?_
 refine cBk ?_
 refine cRs ?_
 refine xMv rfl ?_
 refine xMv rfl ?_
 refine xIx h rS_impl_Kid_eq rfl (fun e19_7 h => ?_)
 refine xLd rfl ?_
 refine xMv rfl ?_
 refine xMv rfl ?_
 refine xIx h rS_impl_Kid_eq rfl (fun e23_8 h => ?_)
 refine xLd rfl ?_
 refine xC0 h (big_laws_eqKid ·) rfl (fun c25_9 h => ?_)
 refine xNot rfl ?_
 refine oNl ?_
 refine cIf h rfl (fun q10 h => ?_) (fun q10 h => ?_)
 refine cRs ?_
 refine xAs rfl ?_
 refine oNl ?_
 refine cRt ?_
 exact eXr h rfl
 refine cSk ?_
 refine cRg ?_
 refine xMv rfl ?_
 refine xAdd rfl ?_
 refine xAs rfl ?_
 refine oNl ?_
 exact eL h rfl
 refine cEx ?_
 exact eX h rfl
 rcases q with v4_3 | ⟨v5_4, v14_5⟩
 cases h
 exact eR rfl rfl rfl rfl
 refine cRs ?_
 refine xAs rfl ?_
 refine oNl ?_
 refine cRt ?_
 cases h
 exact eR rfl rfl rfl rfl
abbrev B_laws_eqIntS (p : (List Int) → (List Int) → Option (Bool)) : Prop := ∀ {t0_0 t1_0 : List Int} {r : Bool}, p t0_0 t1_0 = some r → Big Try.prog τ An (.fn 158 [.one (.c (.sl (t0_0.map rI_i64))), .one (.c (.sl (t1_0.map rI_i64)))] [] (.one (.c (.bool r))) none [] none)
def p_laws_eqIntS_b1 (n : Nat) (t0_0 : List Int) (t1_0 : List Int) : (Int) → Option ((Int) ⊕ ((Bool) ⊕ (Int × Bool)))
  | v5_2 => bif decide (v5_2 < (t0_0.length : Int)) then (ix t0_0 v5_2).bind fun e19_7 => (ix t1_0 v5_2).bind fun e23_8 => bif !decide (e19_7 = e23_8) then some (.inr (.inl false)) else some (.inl (IntKind.wrap .i64 (v5_2 + (1 : Int)))) else some (.inr (.inr (v5_2, false)))
def p_laws_eqIntS (n : Nat) (t0_0 : List Int) (t1_0 : List Int) : Option (Bool) :=
  bif !decide ((t0_0.length : Int) = (t1_0.length : Int)) then some false else (loopN (p_laws_eqIntS_b1 n t0_0 t1_0) n (0 : Int)).bind fun q => (match q with | .inl v4_3 => some v4_3 | .inr (v5_4, v14_5) => some true)
theorem big_laws_eqIntS {n : Nat} : B_laws_eqIntS (p_laws_eqIntS n) := by
 intro t0_0 t1_0 r h
 unfold p_laws_eqIntS at h
 refine bF Try.func158 rfl rfl ?_
 refine cRs ?_
 refine xAs rfl ?_
 refine oNl ?_
 refine cSq ?_
 refine cRs ?_
 refine xMv rfl ?_
 refine xLn rfl ?_
 refine xMv rfl ?_
 refine xLn rfl ?_
 refine xNe rfl ?_
 refine oNl ?_
 refine cIf h rfl (fun q1 h => ?_) (fun q1 h => ?_)
 refine cRs ?_
 refine xAs rfl ?_
 refine oNl ?_
 refine cRt ?_
 cases h
 exact eR rfl rfl rfl rfl
 refine cSk ?_
 refine cSq ?_
 refine cRs ?_
 refine xAs rfl ?_
 refine oNl ?_
 refine cLp h [(4, 5), (11, 25)] [] (fun v5_2 => ([(5, I64 v5_2)], [])) (fun q => match q with | .inl v4_3 => (.r, [(4, Bo v4_3)], []) | .inr (v5_4, v14_5) => (.e 0, [(5, I64 v5_4), (14, Bo v14_5)], [])) rfl (fun v5_2 _ h => ?_) (fun q h => ?_)
 unfold p_laws_eqIntS_b1 at h
 refine cSq ?_
 refine cRs ?_
 refine xMv rfl ?_
 refine xMv rfl ?_
 refine xLn rfl ?_
 refine xLt rfl ?_
 refine oNl ?_
 refine cIf h rfl (fun q6 h => ?_) (fun q6 h => ?_)
 refine cSk ?_
 refine cSq ?_
 refine cBk ?_
 refine cRs ?_
 refine xMv rfl ?_
 refine xMv rfl ?_
 refine xIx h rI_i64_eq rfl (fun e19_7 h => ?_)
 refine xLd rfl ?_
 refine xMv rfl ?_
 refine xMv rfl ?_
 refine xIx h rI_i64_eq rfl (fun e23_8 h => ?_)
 refine xLd rfl ?_
 refine xNe rfl ?_
 refine oNl ?_
 refine cIf h rfl (fun q9 h => ?_) (fun q9 h => ?_)
 refine cRs ?_
 refine xAs rfl ?_
 refine oNl ?_
 refine cRt ?_
 exact eXr h rfl
 refine cSk ?_
 refine cRg ?_
 refine xMv rfl ?_
 refine xAdd rfl ?_
 refine xAs rfl ?_
 refine oNl ?_
 exact eL h rfl
 refine cEx ?_
 exact eX h rfl
 rcases q with v4_3 | ⟨v5_4, v14_5⟩
 cases h
 exact eR rfl rfl rfl rfl
 refine cRs ?_
 refine xAs rfl ?_
 refine oNl ?_
 refine cRt ?_
 cases h
 exact eR rfl rfl rfl rfl
abbrev B_laws_eqOver (p : Int → Int → Int → (List S_impl_Kid) → (List Int) → (List Int) → Bool → Int → Int → Int → (List S_impl_Kid) → (List Int) → (List Int) → Bool → Option (Bool)) : Prop := ∀ {t0_0 t0_1 t0_2 : Int} {t0_3 : List S_impl_Kid} {t0_4 t0_5 : List Int} {t0_6 : Bool} {t1_0 t1_1 t1_2 : Int} {t1_3 : List S_impl_Kid} {t1_4 t1_5 : List Int} {t1_6 : Bool} {r : Bool}, p t0_0 t0_1 t0_2 t0_3 t0_4 t0_5 t0_6 t1_0 t1_1 t1_2 t1_3 t1_4 t1_5 t1_6 = some r → Big Try.prog τ An (.fn 78 [.one (.ag [.int .i64 t0_0, .int .i64 t0_1, .int .i64 t0_2, .sl (t0_3.map rS_impl_Kid), .sl (t0_4.map rI_i64), .sl (t0_5.map rI_i64), .bool t0_6]), .one (.ag [.int .i64 t1_0, .int .i64 t1_1, .int .i64 t1_2, .sl (t1_3.map rS_impl_Kid), .sl (t1_4.map rI_i64), .sl (t1_5.map rI_i64), .bool t1_6])] [] (.one (.c (.bool r))) none [] none)
def p_laws_eqOver (n : Nat) (t0_0 : Int) (t0_1 : Int) (t0_2 : Int) (t0_3 : List S_impl_Kid) (t0_4 : List Int) (t0_5 : List Int) (t0_6 : Bool) (t1_0 : Int) (t1_1 : Int) (t1_2 : Int) (t1_3 : List S_impl_Kid) (t1_4 : List Int) (t1_5 : List Int) (t1_6 : Bool) : Option (Bool) :=
  bif !decide (t0_0 = t1_0) then some false else bif !decide (t0_1 = t1_1) then some false else bif !decide (t0_2 = t1_2) then some false else (p_laws_eqKidS n t0_3 t1_3).bind fun c24_4 => bif !c24_4 then some false else (p_laws_eqIntS n t0_4 t1_4).bind fun c30_6 => bif !c30_6 then some false else (p_laws_eqIntS n t0_5 t1_5).bind fun c36_8 => bif !c36_8 then some false else bif !(t0_6 == t1_6) then some false else some true
theorem big_laws_eqOver {n : Nat} : B_laws_eqOver (p_laws_eqOver n) := by
 intro t0_0 t0_1 t0_2 t0_3 t0_4 t0_5 t0_6 t1_0 t1_1 t1_2 t1_3 t1_4 t1_5 t1_6 r h
 unfold p_laws_eqOver at h
 refine bF Try.func78 rfl rfl ?_
 refine cRs ?_
 refine xBx rfl ?_
 refine xBx rfl ?_
 refine xAs rfl ?_
 refine oNl ?_
 refine cSq ?_
 refine cRs ?_
 refine xFd rfl ?_
 refine xLd rfl ?_
 refine xFd rfl ?_
 refine xLd rfl ?_
 refine xNe rfl ?_
 refine oNl ?_
 refine cIf h rfl (fun q1 h => ?_) (fun q1 h => ?_)
 refine cRs ?_
 refine xAs rfl ?_
 refine oNl ?_
 refine cRt ?_
 cases h
 exact eR rfl rfl rfl rfl
 refine cSk ?_
 refine cSq ?_
 refine cRs ?_
 refine xFd rfl ?_
 refine xLd rfl ?_
 refine xFd rfl ?_
 refine xLd rfl ?_
 refine xNe rfl ?_
 refine oNl ?_
 refine cIf h rfl (fun q2 h => ?_) (fun q2 h => ?_)
 refine cRs ?_
 refine xAs rfl ?_
 refine oNl ?_
 refine cRt ?_
 cases h
 exact eR rfl rfl rfl rfl
 refine cSk ?_
 refine cSq ?_
 refine cRs ?_
 refine xFd rfl ?_
 refine xLd rfl ?_
 refine xFd rfl ?_
 refine xLd rfl ?_
 refine xNe rfl ?_
 refine oNl ?_
 refine cIf h rfl (fun q3 h => ?_) (fun q3 h => ?_)
 refine cRs ?_
 refine xAs rfl ?_
 refine oNl ?_
 refine cRt ?_
 cases h
 exact eR rfl rfl rfl rfl
 refine cSk ?_
 refine cSq ?_
 refine cRs ?_
 refine xFd rfl ?_
 refine xLd rfl ?_
 refine xFd rfl ?_
 refine xLd rfl ?_
 refine xC0 h (big_laws_eqKidS ·) rfl (fun c24_4 h => ?_)
 refine xNot rfl ?_
 refine oNl ?_
 refine cIf h rfl (fun q5 h => ?_) (fun q5 h => ?_)
 refine cRs ?_
 refine xAs rfl ?_
 refine oNl ?_
 refine cRt ?_
 cases h
 exact eR rfl rfl rfl rfl
 refine cSk ?_
 refine cSq ?_
 refine cRs ?_
 refine xFd rfl ?_
 refine xLd rfl ?_
 refine xFd rfl ?_
 refine xLd rfl ?_
 refine xC0 h (big_laws_eqIntS ·) rfl (fun c30_6 h => ?_)
 refine xNot rfl ?_
 refine oNl ?_
 refine cIf h rfl (fun q7 h => ?_) (fun q7 h => ?_)
 refine cRs ?_
 refine xAs rfl ?_
 refine oNl ?_
 refine cRt ?_
 cases h
 exact eR rfl rfl rfl rfl
 refine cSk ?_
 refine cSq ?_
 refine cRs ?_
 refine xFd rfl ?_
 refine xLd rfl ?_
 refine xFd rfl ?_
 refine xLd rfl ?_
 refine xC0 h (big_laws_eqIntS ·) rfl (fun c36_8 h => ?_)
 refine xNot rfl ?_
 refine oNl ?_
 refine cIf h rfl (fun q9 h => ?_) (fun q9 h => ?_)
 refine cRs ?_
 refine xAs rfl ?_
 refine oNl ?_
 refine cRt ?_
 cases h
 exact eR rfl rfl rfl rfl
 refine cSk ?_
 refine cSq ?_
 refine cRs ?_
 refine xFd rfl ?_
 refine xLd rfl ?_
 refine xFd rfl ?_
 refine xLd rfl ?_
 refine wBi (.bool (!(t0_6 == t1_6))) rfl rfl rfl rfl rfl ?_
 refine oNl ?_
 refine cIf h rfl (fun q10 h => ?_) (fun q10 h => ?_)
 refine cRs ?_
 refine xAs rfl ?_
 refine oNl ?_
 refine cRt ?_
 cases h
 exact eR rfl rfl rfl rfl
 refine cSk ?_
 refine cRs ?_
 refine xAs rfl ?_
 refine oNl ?_
 refine cRt ?_
 cases h
 exact eR rfl rfl rfl rfl
abbrev B_laws_eqOverS (p : (List S_impl_Over) → (List S_impl_Over) → Option (Bool)) : Prop := ∀ {t0_0 t1_0 : List S_impl_Over} {r : Bool}, p t0_0 t1_0 = some r → Big Try.prog τ An (.fn 16 [.one (.c (.sl (t0_0.map rS_impl_Over))), .one (.c (.sl (t1_0.map rS_impl_Over)))] [] (.one (.c (.bool r))) none [] none)
def p_laws_eqOverS_b1 (n : Nat) (t0_0 : List S_impl_Over) (t1_0 : List S_impl_Over) : (Int) → Option ((Int) ⊕ ((Bool) ⊕ (Int × Bool)))
  | v5_2 => bif decide (v5_2 < (t0_0.length : Int)) then (ix t0_0 v5_2).bind fun e19_7 => (ix t1_0 v5_2).bind fun e23_8 => (p_laws_eqOver n e19_7.f0 e19_7.f1 e19_7.f2 e19_7.f3 e19_7.f4 e19_7.f5 e19_7.f6 e23_8.f0 e23_8.f1 e23_8.f2 e23_8.f3 e23_8.f4 e23_8.f5 e23_8.f6).bind fun c25_9 => bif !c25_9 then some (.inr (.inl false)) else some (.inl (IntKind.wrap .i64 (v5_2 + (1 : Int)))) else some (.inr (.inr (v5_2, false)))
def p_laws_eqOverS (n : Nat) (t0_0 : List S_impl_Over) (t1_0 : List S_impl_Over) : Option (Bool) :=
  bif !decide ((t0_0.length : Int) = (t1_0.length : Int)) then some false else (loopN (p_laws_eqOverS_b1 n t0_0 t1_0) n (0 : Int)).bind fun q => (match q with | .inl v4_3 => some v4_3 | .inr (v5_4, v14_5) => some true)
theorem big_laws_eqOverS {n : Nat} : B_laws_eqOverS (p_laws_eqOverS n) := by
 intro t0_0 t1_0 r h
 unfold p_laws_eqOverS at h
 refine bF Try.func16 rfl rfl ?_
 refine cRs ?_
 refine xAs rfl ?_
 refine oNl ?_
 refine cSq ?_
 refine cRs ?_
 refine xMv rfl ?_
 refine xLn rfl ?_
 refine xMv rfl ?_
 refine xLn rfl ?_
 refine xNe rfl ?_
 refine oNl ?_
 refine cIf h rfl (fun q1 h => ?_) (fun q1 h => ?_)
 refine cRs ?_
 refine xAs rfl ?_
 refine oNl ?_
 refine cRt ?_
 cases h
 exact eR rfl rfl rfl rfl
 refine cSk ?_
 refine cSq ?_
 refine cRs ?_
 refine xAs rfl ?_
 refine oNl ?_
 refine cLp h [(4, 5), (11, 26)] [] (fun v5_2 => ([(5, I64 v5_2)], [])) (fun q => match q with | .inl v4_3 => (.r, [(4, Bo v4_3)], []) | .inr (v5_4, v14_5) => (.e 0, [(5, I64 v5_4), (14, Bo v14_5)], [])) rfl (fun v5_2 _ h => ?_) (fun q h => ?_)
 unfold p_laws_eqOverS_b1 at h
 refine cSq ?_
 refine cRs ?_
 refine xMv rfl ?_
 refine xMv rfl ?_
 refine xLn rfl ?_
 refine xLt rfl ?_
 refine oNl ?_
 refine cIf h rfl (fun q6 h => ?_) (fun q6 h => ?_)
 refine cSk ?_
 refine cSq ?_
 refine cBk ?_
 refine cRs ?_
 refine xMv rfl ?_
 refine xMv rfl ?_
 refine xIx h rS_impl_Over_eq rfl (fun e19_7 h => ?_)
 refine xLd rfl ?_
 refine xMv rfl ?_
 refine xMv rfl ?_
 refine xIx h rS_impl_Over_eq rfl (fun e23_8 h => ?_)
 refine xLd rfl ?_
 refine xC0 h (big_laws_eqOver ·) rfl (fun c25_9 h => ?_)
 refine xNot rfl ?_
 refine oNl ?_
 refine cIf h rfl (fun q10 h => ?_) (fun q10 h => ?_)
 refine cRs ?_
 refine xAs rfl ?_
 refine oNl ?_
 refine cRt ?_
 exact eXr h rfl
 refine cSk ?_
 refine cRg ?_
 refine xMv rfl ?_
 refine xAdd rfl ?_
 refine xAs rfl ?_
 refine oNl ?_
 exact eL h rfl
 refine cEx ?_
 exact eX h rfl
 rcases q with v4_3 | ⟨v5_4, v14_5⟩
 cases h
 exact eR rfl rfl rfl rfl
 refine cRs ?_
 refine xAs rfl ?_
 refine oNl ?_
 refine cRt ?_
 cases h
 exact eR rfl rfl rfl rfl
abbrev B_laws_FnExactOversOk (p : (List S_laws_Over) → Option (Bool)) : Prop := ∀ {t0_0 : List S_laws_Over} {r : Bool}, p t0_0 = some r → Big Try.prog τ An (.fn 3 [.one (.c (.sl (t0_0.map rS_laws_Over)))] [] (.one (.c (.bool r))) none [] none)
def p_laws_FnExactOversOk (n : Nat) (t0_0 : List S_laws_Over) : Option (Bool) :=
  (p_laws_szOverS n t0_0 (1048576 : Int)).bind fun c9_1 => bif decide (c9_1 < (0 : Int)) then some true else (p_laws_toOverS n t0_0).bind fun c13_3 => (p_spec_OversOk n c13_3).bind fun c14_4 => (p_laws_toOverS n t0_0).bind fun c16_5 => (p_impl_OversOk n c16_5).bind fun c18_6 => bif !(c18_6 == c14_4) then some false else (p_laws_toOverS n t0_0).bind fun c24_8 => (p_laws_eqOverS n c16_5 c24_8).bind fun c25_9 => bif !c25_9 then some false else some true
theorem big_laws_FnExactOversOk {n : Nat} : B_laws_FnExactOversOk (p_laws_FnExactOversOk n) := by
 intro t0_0 r h
 unfold p_laws_FnExactOversOk at h
 refine bF Try.func3 rfl rfl ?_
 refine cRs ?_
 refine xAs rfl ?_
 refine oRs ?_
 refine xAs rfl ?_
 refine oRs ?_
 refine xMv rfl ?_
 refine xMv rfl ?_
 refine xC0 h (big_laws_szOverS ·) rfl (fun c9_1 h => ?_)
 refine xAs rfl ?_
 refine oNl ?_
 refine cSq ?_
 refine cRs ?_
 refine xMv rfl ?_
 refine xLt rfl ?_
 refine oNl ?_
 refine cIf h rfl (fun q2 h => ?_) (fun q2 h => ?_)
 refine cRs ?_
 refine xAs rfl ?_
 refine oNl ?_
 refine cRt ?_
 cases h
 exact eR rfl rfl rfl rfl
 refine cSk ?_
 refine cRs ?_
 refine xMv rfl ?_
 refine xC0 h (big_laws_toOverS ·) rfl (fun c13_3 h => ?_)
 refine xC0 h (big_spec_OversOk ·) rfl (fun c14_4 h => ?_)
 refine xAs rfl ?_
 refine oRs ?_
 refine xMv rfl ?_
 refine xC0 h (big_laws_toOverS ·) rfl (fun c16_5 h => ?_)
 refine xAs rfl ?_
 refine oRs ?_
 refine xMv rfl ?_
 refine xC0 h (big_impl_OversOk ·) rfl (fun c18_6 h => ?_)
 refine xAs rfl ?_
 refine oNl ?_
 refine cSq ?_
 refine cRs ?_
 refine xMv rfl ?_
 refine xMv rfl ?_
 refine wBi (.bool (!(c18_6 == c14_4))) rfl rfl rfl rfl rfl ?_
 refine oNl ?_
 refine cIf h rfl (fun q7 h => ?_) (fun q7 h => ?_)
 refine cRs ?_
 refine xAs rfl ?_
 refine oNl ?_
 refine cRt ?_
 cases h
 exact eR rfl rfl rfl rfl
 refine cSk ?_
 refine cSq ?_
 refine cRs ?_
 refine xMv rfl ?_
 refine xMv rfl ?_
 refine xC0 h (big_laws_toOverS ·) rfl (fun c24_8 h => ?_)
 refine xC0 h (big_laws_eqOverS ·) rfl (fun c25_9 h => ?_)
 refine xNot rfl ?_
 refine oNl ?_
 refine cIf h rfl (fun q10 h => ?_) (fun q10 h => ?_)
 refine cRs ?_
 refine xAs rfl ?_
 refine oNl ?_
 refine cRt ?_
 cases h
 exact eR rfl rfl rfl rfl
 refine cSk ?_
 refine cRs ?_
 refine xAs rfl ?_
 refine oNl ?_
 refine cRt ?_
 cases h
 exact eR rfl rfl rfl rfl
end Go.Own
