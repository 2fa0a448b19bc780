/- Each function on plain data, and its walk. No conditions. -/
import Derived.Test.YticdjfieofjcaaaW9pA
set_option linter.unusedVariables false
set_option linter.unusedSimpArgs false
set_option linter.unnecessarySimpa false
namespace Go.Own
open Go Go.Proofs
def rI_u8 (a : Int) : List T := [.int .u8 a]
theorem rI_u8_eq (a : Int) : rI_u8 a = [.int .u8 a] := rfl
def rI_i64 (a : Int) : List T := [.int .i64 a]
theorem rI_i64_eq (a : Int) : rI_i64 a = [.int .i64 a] := rfl
inductive S_laws_Term where
  | mk (f0 : Int) (f1 : Int) (f2 : List UInt8) (f3 : List S_laws_Term)
def S_laws_Term.f0 : S_laws_Term → Int
  | .mk a _ _ _ => a
def S_laws_Term.f1 : S_laws_Term → Int
  | .mk _ a _ _ => a
def S_laws_Term.f2 : S_laws_Term → List UInt8
  | .mk _ _ a _ => a
def S_laws_Term.f3 : S_laws_Term → List S_laws_Term
  | .mk _ _ _ a => a
mutual
def rS_laws_Term : S_laws_Term → List T
  | .mk a0 a1 a2 a3 => [.int .i64 a0, .int .i64 a1, .str a2, .sl (rS_laws_Terms a3)]
def rS_laws_Terms : List S_laws_Term → List (List T)
  | [] => []
  | x :: r => rS_laws_Term x :: rS_laws_Terms r
end
theorem rS_laws_Terms_map : ∀ l : List S_laws_Term, rS_laws_Terms l = l.map rS_laws_Term
  | [] => by simp [rS_laws_Terms]
  | x :: r => by simp [rS_laws_Terms, rS_laws_Terms_map r]
theorem rS_laws_Term_eq (a : S_laws_Term) : rS_laws_Term a = [.int .i64 a.f0, .int .i64 a.f1, .str a.f2, .sl (a.f3.map rS_laws_Term)] := by
  cases a
  simp [rS_laws_Term, rS_laws_Terms_map, S_laws_Term.f0, S_laws_Term.f1, S_laws_Term.f2, S_laws_Term.f3]
theorem rS_laws_Term_mk (a0 : Int) (a1 : Int) (a2 : List UInt8) (a3 : List S_laws_Term) : rS_laws_Term (.mk a0 a1 a2 a3) = [.int .i64 a0, .int .i64 a1, .str a2, .sl (a3.map rS_laws_Term)] := by simp [rS_laws_Term, rS_laws_Terms_map]
inductive S_impl_Term where
  | mk (f0 : Int) (f1 : Int) (f2 : List UInt8) (f3 : List S_impl_Term)
def S_impl_Term.f0 : S_impl_Term → Int
  | .mk a _ _ _ => a
def S_impl_Term.f1 : S_impl_Term → Int
  | .mk _ a _ _ => a
def S_impl_Term.f2 : S_impl_Term → List UInt8
  | .mk _ _ a _ => a
def S_impl_Term.f3 : S_impl_Term → List S_impl_Term
  | .mk _ _ _ a => a
mutual
def rS_impl_Term : S_impl_Term → List T
  | .mk a0 a1 a2 a3 => [.int .i64 a0, .int .i64 a1, .str a2, .sl (rS_impl_Terms a3)]
def rS_impl_Terms : List S_impl_Term → List (List T)
  | [] => []
  | x :: r => rS_impl_Term x :: rS_impl_Terms r
end
theorem rS_impl_Terms_map : ∀ l : List S_impl_Term, rS_impl_Terms l = l.map rS_impl_Term
  | [] => by simp [rS_impl_Terms]
  | x :: r => by simp [rS_impl_Terms, rS_impl_Terms_map r]
theorem rS_impl_Term_eq (a : S_impl_Term) : rS_impl_Term a = [.int .i64 a.f0, .int .i64 a.f1, .str a.f2, .sl (a.f3.map rS_impl_Term)] := by
  cases a
  simp [rS_impl_Term, rS_impl_Terms_map, S_impl_Term.f0, S_impl_Term.f1, S_impl_Term.f2, S_impl_Term.f3]
theorem rS_impl_Term_mk (a0 : Int) (a1 : Int) (a2 : List UInt8) (a3 : List S_impl_Term) : rS_impl_Term (.mk a0 a1 a2 a3) = [.int .i64 a0, .int .i64 a1, .str a2, .sl (a3.map rS_impl_Term)] := by simp [rS_impl_Term, rS_impl_Terms_map]
theorem marks_33 : Marks Try.prog 33 true 4 [(3, 77)] := by
  refine Marks.of (S := 33) Try.func33 rfl rfl (by decide) (by decide) (fun cs k w Bx R a hl hsz hdf h0 h1 hbs hq => ?_)
  refine mk_start rfl hsz hdf h0 h1 hbs hq (fun a w b Bx hst hq => ?_)
  refine mk_step tables [] rfl rfl rfl (fun _ => rfl) (Marks.slice _ 77) (by rw [hl]; decide) rfl rfl rfl hst hq (fun k a w hst hq => ?_)
  exact mk_tail rfl rfl hst hq
theorem marks_43 : Marks Try.prog 43 true 9 [(7, 77), (8, 77)] := by
  refine Marks.of (S := 49) Try.func43 rfl rfl (by decide) (by decide) (fun cs k w Bx R a hl hsz hdf h0 h1 hbs hq => ?_)
  refine mk_start rfl hsz hdf h0 h1 hbs hq (fun a w b Bx hst hq => ?_)
  refine mk_step tables [(8, 77)] rfl rfl rfl (fun h => by cases h) marks_33 (by rw [hl]; decide) rfl rfl rfl hst hq (fun k a w hst hq => ?_)
  refine mk_step tables [] rfl rfl rfl (fun _ => rfl) (Marks.slice _ 77) (by rw [hl]; decide) rfl rfl rfl hst hq (fun k a w hst hq => ?_)
  exact mk_tail rfl rfl hst hq
abbrev B_laws_szTermS (p : (List S_laws_Term) → Int → Option (Int)) : Prop := ∀ {t0_0 : List S_laws_Term} {t1_0 : Int} {r : Int}, p t0_0 t1_0 = some r → Big Try.prog τ An (.fn 68 [.one (.c (.sl (t0_0.map rS_laws_Term))), .one (.c (.int .i64 t1_0))] [] (.one (.c (.int .i64 r))) none [] none)
abbrev B_laws_szTerm (p : Int → Int → (List UInt8) → (List S_laws_Term) → Int → Option (Int)) : Prop := ∀ {t0_0 t0_1 : Int} {t0_2 : List UInt8} {t0_3 : List S_laws_Term} {t1_0 : Int} {r : Int}, p t0_0 t0_1 t0_2 t0_3 t1_0 = some r → Big Try.prog τ An (.fn 29 [.one (.ag [.int .i64 t0_0, .int .i64 t0_1, .str t0_2, .sl (t0_3.map rS_laws_Term)]), .one (.c (.int .i64 t1_0))] [] (.one (.c (.int .i64 r))) none [] none)
def p_laws_szTermS_b1 (n : Nat) (r_laws_szTerm : Int → Int → (List UInt8) → (List S_laws_Term) → Int → Option (Int)) (t0_0 : List S_laws_Term) : (Int × Int) → Option ((Int × Int) ⊕ ((Int) ⊕ (Int × Int × Bool)))
  | (v1_2, v5_3) => bif decide (v5_3 < (t0_0.length : Int)) then (ix t0_0 v5_3).bind fun e20_9 => (r_laws_szTerm e20_9.f0 e20_9.f1 e20_9.f2 e20_9.f3 v1_2).bind fun c23_10 => bif decide (c23_10 < (0 : Int)) then some (.inr (.inl ((-1) : Int))) else some (.inl (c23_10, (IntKind.wrap .i64 (v5_3 + (1 : Int))))) else some (.inr (.inr (v1_2, v5_3, false)))
def s_laws_szTermS (n : Nat) (r_laws_szTerm : Int → Int → (List UInt8) → (List S_laws_Term) → Int → Option (Int)) (r_laws_szTermS : (List S_laws_Term) → Int → Option (Int)) (t0_0 : List S_laws_Term) (t1_0 : Int) : Option (Int) :=
  bif decide ((IntKind.wrap .i64 (t1_0 - (t0_0.length : Int))) < (0 : Int)) then some ((-1) : Int) else (loopN (p_laws_szTermS_b1 n r_laws_szTerm t0_0) n ((IntKind.wrap .i64 (t1_0 - (t0_0.length : Int))), (0 : Int))).bind fun q => (match q with | .inl v4_4 => some v4_4 | .inr (v1_5, v5_6, v15_7) => some v1_5)
theorem step_laws_szTermS {n : Nat} {r_laws_szTerm : Int → Int → (List UInt8) → (List S_laws_Term) → Int → Option (Int)} (ih_laws_szTerm : B_laws_szTerm r_laws_szTerm) {r_laws_szTermS : (List S_laws_Term) → Int → Option (Int)} (ih_laws_szTermS : B_laws_szTermS r_laws_szTermS) : B_laws_szTermS (s_laws_szTermS n r_laws_szTerm r_laws_szTermS) := by
 intro t0_0 t1_0 r h
 unfold s_laws_szTermS at h
 refine bF Try.func68 rfl rfl ?_
 refine cRs ?_
 refine xAs rfl ?_
 refine oRs ?_
 refine xMv rfl ?_
 refine xMv rfl ?_
 refine xLn rfl ?_
 refine xSub rfl ?_
 refine xAs rfl ?_
 refine oNl ?_
 refine cSq ?_
 refine cRs ?_
 refine xMv rfl ?_
 refine xLt rfl ?_
 refine oNl ?_
 refine cIf h rfl (fun q1 h => ?_) (fun q1 h => ?_)
 refine cRs ?_
 refine xAs rfl ?_
 refine oNl ?_
 refine cRt ?_
 cases h
 exact eR rfl rfl rfl rfl
 refine cSk ?_
 refine cSq ?_
 refine cRs ?_
 refine xAs rfl ?_
 refine oNl ?_
 refine cLp h [(1, 1), (4, 5), (12, 25)] [] (fun (v1_2, v5_3) => ([(1, I64 v1_2), (5, I64 v5_3)], [])) (fun q => match q with | .inl v4_4 => (.r, [(4, I64 v4_4)], []) | .inr (v1_5, v5_6, v15_7) => (.e 0, [(1, I64 v1_5), (5, I64 v5_6), (15, Bo v15_7)], [])) rfl (fun st _ h => ?_) (fun q h => ?_)
 obtain ⟨v1_2, v5_3⟩ := st
 unfold p_laws_szTermS_b1 at h
 refine cSq ?_
 refine cRs ?_
 refine xMv rfl ?_
 refine xMv rfl ?_
 refine xLn rfl ?_
 refine xLt rfl ?_
 refine oNl ?_
 refine cIf h rfl (fun q8 h => ?_) (fun q8 h => ?_)
 refine cSk ?_
 refine cSq ?_
 refine cBk ?_
 refine cRs ?_
 refine xMv rfl ?_
 refine xMv rfl ?_
 refine xIx h rS_laws_Term_eq rfl (fun e20_9 h => ?_)
 refine xLd rfl ?_
 refine xMv rfl ?_
 refine xC0 h (ih_laws_szTerm ·) rfl (fun c23_10 h => ?_)
 refine xAs rfl ?_
 refine oRs ?_
 refine xMv rfl ?_
 refine xLt rfl ?_
 refine oNl ?_
 refine cIf h rfl (fun q11 h => ?_) (fun q11 h => ?_)
 refine cRs ?_
 refine xAs rfl ?_
 refine oNl ?_
 refine cRt ?_
 exact eXr h rfl
 refine cSk ?_
 refine cRg ?_
 refine xMv rfl ?_
 refine xAdd rfl ?_
 refine xAs rfl ?_
 refine oNl ?_
 exact eL h rfl
 refine cEx ?_
 exact eX h rfl
 rcases q with v4_4 | ⟨v1_5, v5_6, v15_7⟩
 cases h
 exact eR rfl rfl rfl rfl
 refine cRs ?_
 refine xMv rfl ?_
 refine xAs rfl ?_
 refine oNl ?_
 refine cRt ?_
 cases h
 exact eR rfl rfl rfl rfl
def s_laws_szTerm (n : Nat) (r_laws_szTerm : Int → Int → (List UInt8) → (List S_laws_Term) → Int → Option (Int)) (r_laws_szTermS : (List S_laws_Term) → Int → Option (Int)) (t0_0 : Int) (t0_1 : Int) (t0_2 : List UInt8) (t0_3 : List S_laws_Term) (t1_0 : Int) : Option (Int) :=
  bif decide ((IntKind.wrap .i64 (t1_0 - (t0_2.length : Int))) < (0 : Int)) then some ((-1) : Int) else (r_laws_szTermS t0_3 (IntKind.wrap .i64 (t1_0 - (t0_2.length : Int)))).bind fun c15_2 => bif decide (c15_2 < (0 : Int)) then some ((-1) : Int) else some c15_2
theorem step_laws_szTerm {n : Nat} {r_laws_szTerm : Int → Int → (List UInt8) → (List S_laws_Term) → Int → Option (Int)} (ih_laws_szTerm : B_laws_szTerm r_laws_szTerm) {r_laws_szTermS : (List S_laws_Term) → Int → Option (Int)} (ih_laws_szTermS : B_laws_szTermS r_laws_szTermS) : B_laws_szTerm (s_laws_szTerm n r_laws_szTerm r_laws_szTermS) := by
 intro t0_0 t0_1 t0_2 t0_3 t1_0 r h
 unfold s_laws_szTerm at h
 refine bF Try.func29 rfl rfl ?_
 refine cRs ?_
 refine xBx rfl ?_
 refine xAs rfl ?_
 refine oRs ?_
 refine xMv rfl ?_
 refine xFd rfl ?_
 refine xLd rfl ?_
 refine xLs rfl ?_
 refine xSub rfl ?_
 refine xAs rfl ?_
 refine oNl ?_
 refine cSq ?_
 refine cRs ?_
 refine xMv rfl ?_
 refine xLt rfl ?_
 refine oNl ?_
 refine cIf h rfl (fun q1 h => ?_) (fun q1 h => ?_)
 refine cRs ?_
 refine xAs rfl ?_
 refine oNl ?_
 refine cRt ?_
 cases h
 exact eR rfl rfl rfl rfl
 refine cSk ?_
 refine cRs ?_
 refine xFd rfl ?_
 refine xLd rfl ?_
 refine xMv rfl ?_
 refine xC0 h (ih_laws_szTermS ·) rfl (fun c15_2 h => ?_)
 refine xAs rfl ?_
 refine oNl ?_
 refine cSq ?_
 refine cRs ?_
 refine xMv rfl ?_
 refine xLt rfl ?_
 refine oNl ?_
 refine cIf h rfl (fun q3 h => ?_) (fun q3 h => ?_)
 refine cRs ?_
 refine xAs rfl ?_
 refine oNl ?_
 refine cRt ?_
 cases h
 exact eR rfl rfl rfl rfl
 refine cSk ?_
 refine cRs ?_
 refine xMv rfl ?_
 refine xAs rfl ?_
 refine oNl ?_
 refine cRt ?_
 cases h
 exact eR rfl rfl rfl rfl
def q_laws_szTerm : Nat → (Int → Int → (List UInt8) → (List S_laws_Term) → Int → Option (Int)) × ((List S_laws_Term) → Int → Option (Int))
  | 0 => ((fun _ _ _ _ _ => none), (fun _ _ => none))
  | n + 1 => (s_laws_szTerm n ((q_laws_szTerm n).1) ((q_laws_szTerm n).2), s_laws_szTermS n ((q_laws_szTerm n).1) ((q_laws_szTerm n).2))
def p_laws_szTerm (n : Nat) : Int → Int → (List UInt8) → (List S_laws_Term) → Int → Option (Int) := (q_laws_szTerm n).1
def p_laws_szTermS (n : Nat) : (List S_laws_Term) → Int → Option (Int) := (q_laws_szTerm n).2
theorem bigs_laws_szTerm (n : Nat) : B_laws_szTerm (p_laws_szTerm n) ∧ B_laws_szTermS (p_laws_szTermS n) := by
  induction n with
  | zero => exact ⟨(fun h => nomatch h), (fun h => nomatch h)⟩
  | succ n ih => exact ⟨step_laws_szTerm (n := n) (ih.1) (ih.2), step_laws_szTermS (n := n) (ih.1) (ih.2)⟩
theorem big_laws_szTerm {n : Nat} : B_laws_szTerm (p_laws_szTerm n) := (bigs_laws_szTerm n).1
theorem big_laws_szTermS {n : Nat} : B_laws_szTermS (p_laws_szTermS n) := (bigs_laws_szTerm n).2
theorem p_laws_szTerm_succ (n : Nat) : p_laws_szTerm (n + 1) = s_laws_szTerm n (p_laws_szTerm n) (p_laws_szTermS n) := rfl
theorem p_laws_szTermS_succ (n : Nat) : p_laws_szTermS (n + 1) = s_laws_szTermS n (p_laws_szTerm n) (p_laws_szTermS n) := rfl
abbrev B_laws_szWorker (p : Int → (List UInt8) → (List UInt8) → Int → Int → Int → (List UInt8) → (List S_laws_Term) → (List S_laws_Term) → Int → Option (Int)) : Prop := ∀ {t0_0 : Int} {t0_1 t0_2 : List UInt8} {t0_3 t0_4 t0_5 : Int} {t0_6 : List UInt8} {t0_7 t0_8 : List S_laws_Term} {t1_0 : Int} {r : Int}, p t0_0 t0_1 t0_2 t0_3 t0_4 t0_5 t0_6 t0_7 t0_8 t1_0 = some r → Big Try.prog τ An (.fn 24 [.one (.ag [.int .i64 t0_0, .str t0_1, .str t0_2, .int .i64 t0_3, .int .i64 t0_4, .int .i64 t0_5, .str t0_6, .sl (t0_7.map rS_laws_Term), .sl (t0_8.map rS_laws_Term)]), .one (.c (.int .i64 t1_0))] [] (.one (.c (.int .i64 r))) none [] none)
def p_laws_szWorker (n : Nat) (t0_0 : Int) (t0_1 : List UInt8) (t0_2 : List UInt8) (t0_3 : Int) (t0_4 : Int) (t0_5 : Int) (t0_6 : List UInt8) (t0_7 : List S_laws_Term) (t0_8 : List S_laws_Term) (t1_0 : Int) : Option (Int) :=
  bif decide ((IntKind.wrap .i64 (t1_0 - (t0_1.length : Int))) < (0 : Int)) then some ((-1) : Int) else bif decide ((IntKind.wrap .i64 ((IntKind.wrap .i64 (t1_0 - (t0_1.length : Int))) - (t0_2.length : Int))) < (0 : Int)) then some ((-1) : Int) else (p_laws_szTerm n t0_4 t0_5 t0_6 t0_7 (IntKind.wrap .i64 ((IntKind.wrap .i64 (t1_0 - (t0_1.length : Int))) - (t0_2.length : Int)))).bind fun c22_3 => bif decide (c22_3 < (0 : Int)) then some ((-1) : Int) else (p_laws_szTermS n t0_8 c22_3).bind fun c28_5 => bif decide (c28_5 < (0 : Int)) then some ((-1) : Int) else some c28_5
theorem big_laws_szWorker {n : Nat} : B_laws_szWorker (p_laws_szWorker n) := by
 intro t0_0 t0_1 t0_2 t0_3 t0_4 t0_5 t0_6 t0_7 t0_8 t1_0 r h
 unfold p_laws_szWorker at h
 refine bF Try.func24 rfl rfl ?_
 refine cRs ?_
 refine xBx rfl ?_
 refine xAs rfl ?_
 refine oRs ?_
 refine xMv rfl ?_
 refine xFd rfl ?_
 refine xLd rfl ?_
 refine xLs rfl ?_
 refine xSub rfl ?_
 refine xAs rfl ?_
 refine oNl ?_
 refine cSq ?_
 refine cRs ?_
 refine xMv rfl ?_
 refine xLt rfl ?_
 refine oNl ?_
 refine cIf h rfl (fun q1 h => ?_) (fun q1 h => ?_)
 refine cRs ?_
 refine xAs rfl ?_
 refine oNl ?_
 refine cRt ?_
 cases h
 exact eR rfl rfl rfl rfl
 refine cSk ?_
 refine cRs ?_
 refine xMv rfl ?_
 refine xFd rfl ?_
 refine xLd rfl ?_
 refine xLs rfl ?_
 refine xSub rfl ?_
 refine xAs rfl ?_
 refine oNl ?_
 refine cSq ?_
 refine cRs ?_
 refine xMv rfl ?_
 refine xLt rfl ?_
 refine oNl ?_
 refine cIf h rfl (fun q2 h => ?_) (fun q2 h => ?_)
 refine cRs ?_
 refine xAs rfl ?_
 refine oNl ?_
 refine cRt ?_
 cases h
 exact eR rfl rfl rfl rfl
 refine cSk ?_
 refine cRs ?_
 refine xFd rfl ?_
 refine xLd rfl ?_
 refine xMv rfl ?_
 refine xC0 h (big_laws_szTerm ·) rfl (fun c22_3 h => ?_)
 refine xAs rfl ?_
 refine oNl ?_
 refine cSq ?_
 refine cRs ?_
 refine xMv rfl ?_
 refine xLt rfl ?_
 refine oNl ?_
 refine cIf h rfl (fun q4 h => ?_) (fun q4 h => ?_)
 refine cRs ?_
 refine xAs rfl ?_
 refine oNl ?_
 refine cRt ?_
 cases h
 exact eR rfl rfl rfl rfl
 refine cSk ?_
 refine cRs ?_
 refine xFd rfl ?_
 refine xLd rfl ?_
 refine xMv rfl ?_
 refine xC0 h (big_laws_szTermS ·) rfl (fun c28_5 h => ?_)
 refine xAs rfl ?_
 refine oNl ?_
 refine cSq ?_
 refine cRs ?_
 refine xMv rfl ?_
 refine xLt rfl ?_
 refine oNl ?_
 refine cIf h rfl (fun q6 h => ?_) (fun q6 h => ?_)
 refine cRs ?_
 refine xAs rfl ?_
 refine oNl ?_
 refine cRt ?_
 cases h
 exact eR rfl rfl rfl rfl
 refine cSk ?_
 refine cRs ?_
 refine xMv rfl ?_
 refine xAs rfl ?_
 refine oNl ?_
 refine cRt ?_
 cases h
 exact eR rfl rfl rfl rfl
abbrev B_laws_toTermS (p : (List S_laws_Term) → Option ((List S_impl_Term))) : Prop := ∀ {t0_0 : List S_laws_Term} {r : (List S_impl_Term)}, p t0_0 = some r → Big Try.prog τ An (.fn 71 [.one (.c (.sl (t0_0.map rS_laws_Term)))] [] (.one (.c (.sl (r.map rS_impl_Term)))) none [] none)
abbrev B_laws_toTerm (p : Int → Int → (List UInt8) → (List S_laws_Term) → Option (Int × Int × (List UInt8) × (List S_impl_Term))) : Prop := ∀ {t0_0 t0_1 : Int} {t0_2 : List UInt8} {t0_3 : List S_laws_Term} {r : Int × Int × (List UInt8) × (List S_impl_Term)}, p t0_0 t0_1 t0_2 t0_3 = some r → Big Try.prog τ An (.fn 30 [.one (.ag [.int .i64 t0_0, .int .i64 t0_1, .str t0_2, .sl (t0_3.map rS_laws_Term)])] [] (.one (.ag [.int .i64 r.1, .int .i64 r.2.1, .str r.2.2.1, .sl (r.2.2.2.map rS_impl_Term)])) none [] none)
def p_laws_toTermS_b1 (n : Nat) (r_laws_toTerm : Int → Int → (List UInt8) → (List S_laws_Term) → Option (Int × Int × (List UInt8) × (List S_impl_Term))) (t0_0 : List S_laws_Term) : ((List S_impl_Term) × Int) → Option (((List S_impl_Term) × Int) ⊕ (((List S_impl_Term) × Int × Bool)))
  | (v3_2, v4_3) => bif decide (v4_3 < (t0_0.length : Int)) then (ix t0_0 v4_3).bind fun e18_8 => (r_laws_toTerm e18_8.f0 e18_8.f1 e18_8.f2 e18_8.f3).bind fun c20_9 => (ix v3_2 v4_3).bind fun e21_10 => some (.inl ((v3_2.set (Int.toNat v4_3) (S_impl_Term.mk c20_9.1 c20_9.2.1 c20_9.2.2.1 c20_9.2.2.2)), (IntKind.wrap .i64 (v4_3 + (1 : Int))))) else some (.inr (v3_2, v4_3, false))
def s_laws_toTermS (n : Nat) (r_laws_toTerm : Int → Int → (List UInt8) → (List S_laws_Term) → Option (Int × Int × (List UInt8) × (List S_impl_Term))) (r_laws_toTermS : (List S_laws_Term) → Option ((List S_impl_Term))) (t0_0 : List S_laws_Term) : Option ((List S_impl_Term)) :=
  (ck (decide (0 ≤ (t0_0.length : Int) ∧ (t0_0.length : Int) ≤ maxLen ∧ 56 * (t0_0.length : Int) ≤ 281474976710656))).bind fun _ => (loopN (p_laws_toTermS_b1 n r_laws_toTerm t0_0) n ((List.replicate (Int.toNat (t0_0.length : Int)) (S_impl_Term.mk (0 : Int) (0 : Int) ([] : List UInt8) ([] : List S_impl_Term))), (0 : Int))).bind fun (v3_4, v4_5, v11_6) => some v3_4
theorem step_laws_toTermS {n : Nat} {r_laws_toTerm : Int → Int → (List UInt8) → (List S_laws_Term) → Option (Int × Int × (List UInt8) × (List S_impl_Term))} (ih_laws_toTerm : B_laws_toTerm r_laws_toTerm) {r_laws_toTermS : (List S_laws_Term) → Option ((List S_impl_Term))} (ih_laws_toTermS : B_laws_toTermS r_laws_toTermS) : B_laws_toTermS (s_laws_toTermS n r_laws_toTerm r_laws_toTermS) := by
 intro t0_0 r h
 unfold s_laws_toTermS at h
 refine bF Try.func71 rfl rfl ?_
 refine cRs ?_
 refine wAe (Li rS_impl_Term []) rfl rfl rfl rfl ?_
 refine oRs ?_
 refine xMv rfl ?_
 refine xLn rfl ?_
 refine oCk h (fun k7_0 h => ?_)
 refine wMk (z := S_impl_Term.mk (0 : Int) (0 : Int) ([] : List UInt8) ([] : List S_impl_Term)) (f := rS_impl_Term) k7_0 rfl rfl rfl rfl rfl rfl rfl ?_
 refine xAs rfl ?_
 refine oNl ?_
 refine cSq ?_
 refine cRs ?_
 refine xAs rfl ?_
 refine oNl ?_
 refine cLp h [(3, 4), (8, 21)] [] (fun (v3_2, v4_3) => ([(3, Li rS_impl_Term v3_2), (4, I64 v4_3)], [])) (fun (v3_4, v4_5, v11_6) => (.e 0, [(3, Li rS_impl_Term v3_4), (4, I64 v4_5), (11, Bo v11_6)], [])) rfl (fun st _ h => ?_) (fun q h => ?_)
 obtain ⟨v3_2, v4_3⟩ := st
 unfold p_laws_toTermS_b1 at h
 refine cSq ?_
 refine cRs ?_
 refine xMv rfl ?_
 refine xMv rfl ?_
 refine xLn rfl ?_
 refine xLt rfl ?_
 refine oNl ?_
 refine cIf h rfl (fun q7 h => ?_) (fun q7 h => ?_)
 refine cSk ?_
 refine cSq ?_
 refine cBk ?_
 refine cRg ?_
 refine wAl rfl rfl rfl rfl ?_
 refine xMv rfl ?_
 refine xMv rfl ?_
 refine xMv rfl ?_
 refine xIx h rS_laws_Term_eq rfl (fun e18_8 h => ?_)
 refine xLd rfl ?_
 refine xC0 h (ih_laws_toTerm ·) rfl (fun c20_9 h => ?_)
 refine wIp (f := rS_impl_Term) h rfl rfl rfl rfl rfl rfl (fun a => by rw [rS_impl_Term_eq]; rfl) rfl (fun e21_10 ke21_10 h => ?_)
 refine wSp (f := rS_impl_Term) (v' := S_impl_Term.mk c20_9.1 c20_9.2.1 c20_9.2.2.1 c20_9.2.2.2) ke21_10 rfl rfl rfl rfl rfl rfl rfl (by rw [rS_impl_Term_eq]; rfl) (by rw [rS_impl_Term_eq, rS_impl_Term_mk]; rfl) ?_
 refine oNl ?_
 refine cRg ?_
 refine xMv rfl ?_
 refine xAdd rfl ?_
 refine xAs rfl ?_
 refine oNl ?_
 exact eL h rfl
 refine cEx ?_
 exact eX h rfl
 obtain ⟨v3_4, v4_5, v11_6⟩ := q
 refine cRs ?_
 refine xMv rfl ?_
 refine xAs rfl ?_
 refine oNl ?_
 refine cRt ?_
 cases h
 exact eR rfl rfl rfl rfl
def s_laws_toTerm (n : Nat) (r_laws_toTerm : Int → Int → (List UInt8) → (List S_laws_Term) → Option (Int × Int × (List UInt8) × (List S_impl_Term))) (r_laws_toTermS : (List S_laws_Term) → Option ((List S_impl_Term))) (t0_0 : Int) (t0_1 : Int) (t0_2 : List UInt8) (t0_3 : List S_laws_Term) : Option (Int × Int × (List UInt8) × (List S_impl_Term)) :=
  (r_laws_toTermS t0_3).bind fun c15_1 => some (t0_0, t0_1, t0_2, c15_1)
theorem step_laws_toTerm {n : Nat} {r_laws_toTerm : Int → Int → (List UInt8) → (List S_laws_Term) → Option (Int × Int × (List UInt8) × (List S_impl_Term))} (ih_laws_toTerm : B_laws_toTerm r_laws_toTerm) {r_laws_toTermS : (List S_laws_Term) → Option ((List S_impl_Term))} (ih_laws_toTermS : B_laws_toTermS r_laws_toTermS) : B_laws_toTerm (s_laws_toTerm n r_laws_toTerm r_laws_toTermS) := by
 intro t0_0 t0_1 t0_2 t0_3 r h
 unfold s_laws_toTerm at h
 refine bF Try.func30 rfl rfl ?_
 refine cRs ?_
 refine xBx rfl ?_
 refine xAz [.int .i64 0, .int .i64 0, .str [], .sl ([].map rS_impl_Term)] rfl ?_
 refine oRs ?_
 refine xAz [.int .i64 0, .int .i64 0, .str [], .sl ([].map rS_impl_Term)] rfl ?_
 refine oRs ?_
 refine xFd rfl ?_
 refine xLd rfl ?_
 refine xFd rfl ?_
 refine xSt rfl ?_
 refine oRs ?_
 refine xFd rfl ?_
 refine xLd rfl ?_
 refine xFd rfl ?_
 refine xSt rfl ?_
 refine oRs ?_
 refine xFd rfl ?_
 refine xLd rfl ?_
 refine xFd rfl ?_
 refine xSt rfl ?_
 refine oRs ?_
 refine xFd rfl ?_
 refine xLd rfl ?_
 refine xC0 h (ih_laws_toTermS ·) rfl (fun c15_1 h => ?_)
 refine xFd rfl ?_
 refine xSt rfl ?_
 refine oRs ?_
 refine xLd rfl ?_
 refine xSt rfl ?_
 refine oNl ?_
 refine cRt ?_
 cases h
 exact eR rfl rfl rfl rfl
def q_laws_toTerm : Nat → (Int → Int → (List UInt8) → (List S_laws_Term) → Option (Int × Int × (List UInt8) × (List S_impl_Term))) × ((List S_laws_Term) → Option ((List S_impl_Term)))
  | 0 => ((fun _ _ _ _ => none), (fun _ => none))
  | n + 1 => (s_laws_toTerm n ((q_laws_toTerm n).1) ((q_laws_toTerm n).2), s_laws_toTermS n ((q_laws_toTerm n).1) ((q_laws_toTerm n).2))
def p_laws_toTerm (n : Nat) : Int → Int → (List UInt8) → (List S_laws_Term) → Option (Int × Int × (List UInt8) × (List S_impl_Term)) := (q_laws_toTerm n).1
def p_laws_toTermS (n : Nat) : (List S_laws_Term) → Option ((List S_impl_Term)) := (q_laws_toTerm n).2
theorem bigs_laws_toTerm (n : Nat) : B_laws_toTerm (p_laws_toTerm n) ∧ B_laws_toTermS (p_laws_toTermS n) := by
  induction n with
  | zero => exact ⟨(fun h => nomatch h), (fun h => nomatch h)⟩
  | succ n ih => exact ⟨step_laws_toTerm (n := n) (ih.1) (ih.2), step_laws_toTermS (n := n) (ih.1) (ih.2)⟩
theorem big_laws_toTerm {n : Nat} : B_laws_toTerm (p_laws_toTerm n) := (bigs_laws_toTerm n).1
theorem big_laws_toTermS {n : Nat} : B_laws_toTermS (p_laws_toTermS n) := (bigs_laws_toTerm n).2
theorem p_laws_toTerm_succ (n : Nat) : p_laws_toTerm (n + 1) = s_laws_toTerm n (p_laws_toTerm n) (p_laws_toTermS n) := rfl
theorem p_laws_toTermS_succ (n : Nat) : p_laws_toTermS (n + 1) = s_laws_toTermS n (p_laws_toTerm n) (p_laws_toTermS n) := rfl
abbrev B_laws_toWorker (p : Int → (List UInt8) → (List UInt8) → Int → Int → Int → (List UInt8) → (List S_laws_Term) → (List S_laws_Term) → Option (Int × (List UInt8) × (List UInt8) × Int × Int × Int × (List UInt8) × (List S_impl_Term) × (List S_impl_Term))) : Prop := ∀ {t0_0 : Int} {t0_1 t0_2 : List UInt8} {t0_3 t0_4 t0_5 : Int} {t0_6 : List UInt8} {t0_7 t0_8 : List S_laws_Term} {r : Int × (List UInt8) × (List UInt8) × Int × Int × Int × (List UInt8) × (List S_impl_Term) × (List S_impl_Term)}, p t0_0 t0_1 t0_2 t0_3 t0_4 t0_5 t0_6 t0_7 t0_8 = some r → Big Try.prog τ An (.fn 26 [.one (.ag [.int .i64 t0_0, .str t0_1, .str t0_2, .int .i64 t0_3, .int .i64 t0_4, .int .i64 t0_5, .str t0_6, .sl (t0_7.map rS_laws_Term), .sl (t0_8.map rS_laws_Term)])] [] (.one (.ag [.int .i64 r.1, .str r.2.1, .str r.2.2.1, .int .i64 r.2.2.2.1, .int .i64 r.2.2.2.2.1, .int .i64 r.2.2.2.2.2.1, .str r.2.2.2.2.2.2.1, .sl (r.2.2.2.2.2.2.2.1.map rS_impl_Term), .sl (r.2.2.2.2.2.2.2.2.map rS_impl_Term)])) none [] none)
def p_laws_toWorker (n : Nat) (t0_0 : Int) (t0_1 : List UInt8) (t0_2 : List UInt8) (t0_3 : Int) (t0_4 : Int) (t0_5 : Int) (t0_6 : List UInt8) (t0_7 : List S_laws_Term) (t0_8 : List S_laws_Term) : Option (Int × (List UInt8) × (List UInt8) × Int × Int × Int × (List UInt8) × (List S_impl_Term) × (List S_impl_Term)) :=
  (p_laws_toTerm n t0_4 t0_5 t0_6 t0_7).bind fun c18_1 => (p_laws_toTermS n t0_8).bind fun c22_2 => some (t0_0, t0_1, t0_2, t0_3, c18_1.1, c18_1.2.1, c18_1.2.2.1, c18_1.2.2.2, c22_2)
theorem big_laws_toWorker {n : Nat} : B_laws_toWorker (p_laws_toWorker n) := by
 intro t0_0 t0_1 t0_2 t0_3 t0_4 t0_5 t0_6 t0_7 t0_8 r h
 unfold p_laws_toWorker at h
 refine bF Try.func26 rfl rfl ?_
 refine cRs ?_
 refine xBx rfl ?_
 refine xAz [.int .i64 0, .str [], .str [], .int .i64 0, .int .i64 0, .int .i64 0, .str [], .sl ([].map rS_impl_Term), .sl ([].map rS_impl_Term)] rfl ?_
 refine oRs ?_
 refine xAz [.int .i64 0, .str [], .str [], .int .i64 0, .int .i64 0, .int .i64 0, .str [], .sl ([].map rS_impl_Term), .sl ([].map rS_impl_Term)] rfl ?_
 refine oRs ?_
 refine xFd rfl ?_
 refine xLd rfl ?_
 refine xFd rfl ?_
 refine xSt rfl ?_
 refine oRs ?_
 refine xFd rfl ?_
 refine xLd rfl ?_
 refine xFd rfl ?_
 refine xSt rfl ?_
 refine oRs ?_
 refine xFd rfl ?_
 refine xLd rfl ?_
 refine xFd rfl ?_
 refine xSt rfl ?_
 refine oRs ?_
 refine xFd rfl ?_
 refine xLd rfl ?_
 refine xFd rfl ?_
 refine xSt rfl ?_
 refine oRs ?_
 refine xFd rfl ?_
 refine xLd rfl ?_
 refine xC0 h (big_laws_toTerm ·) rfl (fun c18_1 h => ?_)
 refine xFd rfl ?_
 refine xSt rfl ?_
 refine oRs ?_
 refine xFd rfl ?_
 refine xLd rfl ?_
 refine xC0 h (big_laws_toTermS ·) rfl (fun c22_2 h => ?_)
 refine xFd rfl ?_
 refine xSt rfl ?_
 refine oRs ?_
 refine xLd rfl ?_
 refine xSt rfl ?_
 refine oNl ?_
 refine cRt ?_
 cases h
 exact eR rfl rfl rfl rfl
abbrev B_laws_eqTermS (p : (List S_impl_Term) → (List S_impl_Term) → Option (Bool)) : Prop := ∀ {t0_0 t1_0 : List S_impl_Term} {r : Bool}, p t0_0 t1_0 = some r → Big Try.prog τ An (.fn 75 [.one (.c (.sl (t0_0.map rS_impl_Term))), .one (.c (.sl (t1_0.map rS_impl_Term)))] [] (.one (.c (.bool r))) none [] none)
abbrev B_laws_eqTerm (p : Int → Int → (List UInt8) → (List S_impl_Term) → Int → Int → (List UInt8) → (List S_impl_Term) → Option (Bool)) : Prop := ∀ {t0_0 t0_1 : Int} {t0_2 : List UInt8} {t0_3 : List S_impl_Term} {t1_0 t1_1 : Int} {t1_2 : List UInt8} {t1_3 : List S_impl_Term} {r : Bool}, p t0_0 t0_1 t0_2 t0_3 t1_0 t1_1 t1_2 t1_3 = some r → Big Try.prog τ An (.fn 32 [.one (.ag [.int .i64 t0_0, .int .i64 t0_1, .str t0_2, .sl (t0_3.map rS_impl_Term)]), .one (.ag [.int .i64 t1_0, .int .i64 t1_1, .str t1_2, .sl (t1_3.map rS_impl_Term)])] [] (.one (.c (.bool r))) none [] none)
def p_laws_eqTermS_b1 (n : Nat) (r_laws_eqTerm : Int → Int → (List UInt8) → (List S_impl_Term) → Int → Int → (List UInt8) → (List S_impl_Term) → Option (Bool)) (t0_0 : List S_impl_Term) (t1_0 : List S_impl_Term) : (Int) → Option ((Int) ⊕ ((Bool) ⊕ (Int × Bool)))
  | v5_2 => bif decide (v5_2 < (t0_0.length : Int)) then (ix t0_0 v5_2).bind fun e19_7 => (ix t1_0 v5_2).bind fun e23_8 => (r_laws_eqTerm e19_7.f0 e19_7.f1 e19_7.f2 e19_7.f3 e23_8.f0 e23_8.f1 e23_8.f2 e23_8.f3).bind fun c25_9 => bif !c25_9 then some (.inr (.inl false)) else some (.inl (IntKind.wrap .i64 (v5_2 + (1 : Int)))) else some (.inr (.inr (v5_2, false)))
def s_laws_eqTermS (n : Nat) (r_laws_eqTerm : Int → Int → (List UInt8) → (List S_impl_Term) → Int → Int → (List UInt8) → (List S_impl_Term) → Option (Bool)) (r_laws_eqTermS : (List S_impl_Term) → (List S_impl_Term) → Option (Bool)) (t0_0 : List S_impl_Term) (t1_0 : List S_impl_Term) : Option (Bool) :=
  bif !decide ((t0_0.length : Int) = (t1_0.length : Int)) then some false else (loopN (p_laws_eqTermS_b1 n r_laws_eqTerm t0_0 t1_0) n (0 : Int)).bind fun q => (match q with | .inl v4_3 => some v4_3 | .inr (v5_4, v14_5) => some true)
theorem step_laws_eqTermS {n : Nat} {r_laws_eqTerm : Int → Int → (List UInt8) → (List S_impl_Term) → Int → Int → (List UInt8) → (List S_impl_Term) → Option (Bool)} (ih_laws_eqTerm : B_laws_eqTerm r_laws_eqTerm) {r_laws_eqTermS : (List S_impl_Term) → (List S_impl_Term) → Option (Bool)} (ih_laws_eqTermS : B_laws_eqTermS r_laws_eqTermS) : B_laws_eqTermS (s_laws_eqTermS n r_laws_eqTerm r_laws_eqTermS) := by
 intro t0_0 t1_0 r h
 unfold s_laws_eqTermS at h
 refine bF Try.func75 rfl rfl ?_
 refine cRs ?_
 refine xAs rfl ?_
 refine oNl ?_
 refine cSq ?_
 refine cRs ?_
 refine xMv rfl ?_
 refine xLn rfl ?_
 refine xMv rfl ?_
 refine xLn rfl ?_
 refine xNe rfl ?_
 refine oNl ?_
 refine cIf h rfl (fun q1 h => ?_) (fun q1 h => ?_)
 refine cRs ?_
 refine xAs rfl ?_
 refine oNl ?_
 refine cRt ?_
 cases h
 exact eR rfl rfl rfl rfl
 refine cSk ?_
 refine cSq ?_
 refine cRs ?_
 refine xAs rfl ?_
 refine oNl ?_
 refine cLp h [(4, 5), (11, 26)] [] (fun v5_2 => ([(5, I64 v5_2)], [])) (fun q => match q with | .inl v4_3 => (.r, [(4, Bo v4_3)], []) | .inr (v5_4, v14_5) => (.e 0, [(5, I64 v5_4), (14, Bo v14_5)], [])) rfl (fun v5_2 _ h => ?_) (fun q h => ?_)
 unfold p_laws_eqTermS_b1 at h
 refine cSq ?_
 refine cRs ?_
 refine xMv rfl ?_
 refine xMv rfl ?_
 refine xLn rfl ?_
 refine xLt rfl ?_
 refine oNl ?_
 refine cIf h rfl (fun q6 h => ?_) (fun q6 h => ?_)
 refine cSk ?_
 refine cSq ?_
 refine cBk ?_
 refine cRs ?_
 refine xMv rfl ?_
 refine xMv rfl ?_
 refine xIx h rS_impl_Term_eq rfl (fun e19_7 h => ?_)
 refine xLd rfl ?_
 refine xMv rfl ?_
 refine xMv rfl ?_
 refine xIx h rS_impl_Term_eq rfl (fun e23_8 h => ?_)
 refine xLd rfl ?_
 refine xC0 h (ih_laws_eqTerm ·) rfl (fun c25_9 h => ?_)
 refine xNot rfl ?_
 refine oNl ?_
 refine cIf h rfl (fun q10 h => ?_) (fun q10 h => ?_)
 refine cRs ?_
 refine xAs rfl ?_
 refine oNl ?_
 refine cRt ?_
 exact eXr h rfl
 refine cSk ?_
 refine cRg ?_
 refine xMv rfl ?_
 refine xAdd rfl ?_
 refine xAs rfl ?_
 refine oNl ?_
 exact eL h rfl
 refine cEx ?_
 exact eX h rfl
 rcases q with v4_3 | ⟨v5_4, v14_5⟩
 cases h
 exact eR rfl rfl rfl rfl
 refine cRs ?_
 refine xAs rfl ?_
 refine oNl ?_
 refine cRt ?_
 cases h
 exact eR rfl rfl rfl rfl
def s_laws_eqTerm (n : Nat) (r_laws_eqTerm : Int → Int → (List UInt8) → (List S_impl_Term) → Int → Int → (List UInt8) → (List S_impl_Term) → Option (Bool)) (r_laws_eqTermS : (List S_impl_Term) → (List S_impl_Term) → Option (Bool)) (t0_0 : Int) (t0_1 : Int) (t0_2 : List UInt8) (t0_3 : List S_impl_Term) (t1_0 : Int) (t1_1 : Int) (t1_2 : List UInt8) (t1_3 : List S_impl_Term) : Option (Bool) :=
  bif !decide (t0_0 = t1_0) then some false else bif !decide (t0_1 = t1_1) then some false else bif !decide (t0_2 = t1_2) then some false else (r_laws_eqTermS t0_3 t1_3).bind fun c24_4 => bif !c24_4 then some false else some true
theorem step_laws_eqTerm {n : Nat} {r_laws_eqTerm : Int → Int → (List UInt8) → (List S_impl_Term) → Int → Int → (List UInt8) → (List S_impl_Term) → Option (Bool)} (ih_laws_eqTerm : B_laws_eqTerm r_laws_eqTerm) {r_laws_eqTermS : (List S_impl_Term) → (List S_impl_Term) → Option (Bool)} (ih_laws_eqTermS : B_laws_eqTermS r_laws_eqTermS) : B_laws_eqTerm (s_laws_eqTerm n r_laws_eqTerm r_laws_eqTermS) := by
 intro t0_0 t0_1 t0_2 t0_3 t1_0 t1_1 t1_2 t1_3 r h
 unfold s_laws_eqTerm at h
 refine bF Try.func32 rfl rfl ?_
 refine cRs ?_
 refine xBx rfl ?_
 refine xBx rfl ?_
 refine xAs rfl ?_
 refine oNl ?_
 refine cSq ?_
 refine cRs ?_
 refine xFd rfl ?_
 refine xLd rfl ?_
 refine xFd rfl ?_
 refine xLd rfl ?_
 refine xNe rfl ?_
 refine oNl ?_
 refine cIf h rfl (fun q1 h => ?_) (fun q1 h => ?_)
 refine cRs ?_
 refine xAs rfl ?_
 refine oNl ?_
 refine cRt ?_
 cases h
 exact eR rfl rfl rfl rfl
 refine cSk ?_
 refine cSq ?_
 refine cRs ?_
 refine xFd rfl ?_
 refine xLd rfl ?_
 refine xFd rfl ?_
 refine xLd rfl ?_
 refine xNe rfl ?_
 refine oNl ?_
 refine cIf h rfl (fun q2 h => ?_) (fun q2 h => ?_)
 refine cRs ?_
 refine xAs rfl ?_
 refine oNl ?_
 refine cRt ?_
 cases h
 exact eR rfl rfl rfl rfl
 refine cSk ?_
 refine cSq ?_
 refine cRs ?_
 refine xFd rfl ?_
 refine xLd rfl ?_
 refine xFd rfl ?_
 refine xLd rfl ?_
 refine xNs rfl ?_
 refine oNl ?_
 refine cIf h rfl (fun q3 h => ?_) (fun q3 h => ?_)
 refine cRs ?_
 refine xAs rfl ?_
 refine oNl ?_
 refine cRt ?_
 cases h
 exact eR rfl rfl rfl rfl
 refine cSk ?_
 refine cSq ?_
 refine cRs ?_
 refine xFd rfl ?_
 refine xLd rfl ?_
 refine xFd rfl ?_
 refine xLd rfl ?_
 refine xC0 h (ih_laws_eqTermS ·) rfl (fun c24_4 h => ?_)
 refine xNot rfl ?_
 refine oNl ?_
 refine cIf h rfl (fun q5 h => ?_) (fun q5 h => ?_)
 refine cRs ?_
 refine xAs rfl ?_
 refine oNl ?_
 refine cRt ?_
 cases h
 exact eR rfl rfl rfl rfl
 refine cSk ?_
 refine cRs ?_
 refine xAs rfl ?_
 refine oNl ?_
 refine cRt ?_
 cases h
 exact eR rfl rfl rfl rfl
def q_laws_eqTerm : Nat → (Int → Int → (List UInt8) → (List S_impl_Term) → Int → Int → (List UInt8) → (List S_impl_Term) → Option (Bool)) × ((List S_impl_Term) → (List S_impl_Term) → Option (Bool))
  | 0 => ((fun _ _ _ _ _ _ _ _ => none), (fun _ _ => none))
  | n + 1 => (s_laws_eqTerm n ((q_laws_eqTerm n).1) ((q_laws_eqTerm n).2), s_laws_eqTermS n ((q_laws_eqTerm n).1) ((q_laws_eqTerm n).2))
def p_laws_eqTerm (n : Nat) : Int → Int → (List UInt8) → (List S_impl_Term) → Int → Int → (List UInt8) → (List S_impl_Term) → Option (Bool) := (q_laws_eqTerm n).1
def p_laws_eqTermS (n : Nat) : (List S_impl_Term) → (List S_impl_Term) → Option (Bool) := (q_laws_eqTerm n).2
theorem bigs_laws_eqTerm (n : Nat) : B_laws_eqTerm (p_laws_eqTerm n) ∧ B_laws_eqTermS (p_laws_eqTermS n) := by
  induction n with
  | zero => exact ⟨(fun h => nomatch h), (fun h => nomatch h)⟩
  | succ n ih => exact ⟨step_laws_eqTerm (n := n) (ih.1) (ih.2), step_laws_eqTermS (n := n) (ih.1) (ih.2)⟩
theorem big_laws_eqTerm {n : Nat} : B_laws_eqTerm (p_laws_eqTerm n) := (bigs_laws_eqTerm n).1
theorem big_laws_eqTermS {n : Nat} : B_laws_eqTermS (p_laws_eqTermS n) := (bigs_laws_eqTerm n).2
theorem p_laws_eqTerm_succ (n : Nat) : p_laws_eqTerm (n + 1) = s_laws_eqTerm n (p_laws_eqTerm n) (p_laws_eqTermS n) := rfl
theorem p_laws_eqTermS_succ (n : Nat) : p_laws_eqTermS (n + 1) = s_laws_eqTermS n (p_laws_eqTerm n) (p_laws_eqTermS n) := rfl
abbrev B_laws_eqWorker (p : Int → (List UInt8) → (List UInt8) → Int → Int → Int → (List UInt8) → (List S_impl_Term) → (List S_impl_Term) → Int → (List UInt8) → (List UInt8) → Int → Int → Int → (List UInt8) → (List S_impl_Term) → (List S_impl_Term) → Option (Bool)) : Prop := ∀ {t0_0 : Int} {t0_1 t0_2 : List UInt8} {t0_3 t0_4 t0_5 : Int} {t0_6 : List UInt8} {t0_7 t0_8 : List S_impl_Term} {t1_0 : Int} {t1_1 t1_2 : List UInt8} {t1_3 t1_4 t1_5 : Int} {t1_6 : List UInt8} {t1_7 t1_8 : List S_impl_Term} {r : Bool}, p t0_0 t0_1 t0_2 t0_3 t0_4 t0_5 t0_6 t0_7 t0_8 t1_0 t1_1 t1_2 t1_3 t1_4 t1_5 t1_6 t1_7 t1_8 = some r → Big Try.prog τ An (.fn 28 [.one (.ag [.int .i64 t0_0, .str t0_1, .str t0_2, .int .i64 t0_3, .int .i64 t0_4, .int .i64 t0_5, .str t0_6, .sl (t0_7.map rS_impl_Term), .sl (t0_8.map rS_impl_Term)]), .one (.ag [.int .i64 t1_0, .str t1_1, .str t1_2, .int .i64 t1_3, .int .i64 t1_4, .int .i64 t1_5, .str t1_6, .sl (t1_7.map rS_impl_Term), .sl (t1_8.map rS_impl_Term)])] [] (.one (.c (.bool r))) none [] none)
def p_laws_eqWorker (n : Nat) (t0_0 : Int) (t0_1 : List UInt8) (t0_2 : List UInt8) (t0_3 : Int) (t0_4 : Int) (t0_5 : Int) (t0_6 : List UInt8) (t0_7 : List S_impl_Term) (t0_8 : List S_impl_Term) (t1_0 : Int) (t1_1 : List UInt8) (t1_2 : List UInt8) (t1_3 : Int) (t1_4 : Int) (t1_5 : Int) (t1_6 : List UInt8) (t1_7 : List S_impl_Term) (t1_8 : List S_impl_Term) : Option (Bool) :=
  bif !decide (t0_0 = t1_0) then some false else bif !decide (t0_1 = t1_1) then some false else bif !decide (t0_2 = t1_2) then some false else bif !decide (t0_3 = t1_3) then some false else (p_laws_eqTerm n t0_4 t0_5 t0_6 t0_7 t1_4 t1_5 t1_6 t1_7).bind fun c29_5 => bif !c29_5 then some false else (p_laws_eqTermS n t0_8 t1_8).bind fun c35_7 => bif !c35_7 then some false else some true
theorem big_laws_eqWorker {n : Nat} : B_laws_eqWorker (p_laws_eqWorker n) := by
 intro t0_0 t0_1 t0_2 t0_3 t0_4 t0_5 t0_6 t0_7 t0_8 t1_0 t1_1 t1_2 t1_3 t1_4 t1_5 t1_6 t1_7 t1_8 r h
 unfold p_laws_eqWorker at h
 refine bF Try.func28 rfl rfl ?_
 refine cRs ?_
 refine xBx rfl ?_
 refine xBx rfl ?_
 refine xAs rfl ?_
 refine oNl ?_
 refine cSq ?_
 refine cRs ?_
 refine xFd rfl ?_
 refine xLd rfl ?_
 refine xFd rfl ?_
 refine xLd rfl ?_
 refine xNe rfl ?_
 refine oNl ?_
 refine cIf h rfl (fun q1 h => ?_) (fun q1 h => ?_)
 refine cRs ?_
 refine xAs rfl ?_
 refine oNl ?_
 refine cRt ?_
 cases h
 exact eR rfl rfl rfl rfl
 refine cSk ?_
 refine cSq ?_
 refine cRs ?_
 refine xFd rfl ?_
 refine xLd rfl ?_
 refine xFd rfl ?_
 refine xLd rfl ?_
 refine xNs rfl ?_
 refine oNl ?_
 refine cIf h rfl (fun q2 h => ?_) (fun q2 h => ?_)
 refine cRs ?_
 refine xAs rfl ?_
 refine oNl ?_
 refine cRt ?_
 cases h
 exact eR rfl rfl rfl rfl
 refine cSk ?_
 refine cSq ?_
 refine cRs ?_
 refine xFd rfl ?_
 refine xLd rfl ?_
 refine xFd rfl ?_
 refine xLd rfl ?_
 refine xNs rfl ?_
 refine oNl ?_
 refine cIf h rfl (fun q3 h => ?_) (fun q3 h => ?_)
 refine cRs ?_
 refine xAs rfl ?_
 refine oNl ?_
 refine cRt ?_
 cases h
 exact eR rfl rfl rfl rfl
 refine cSk ?_
 refine cSq ?_
 refine cRs ?_
 refine xFd rfl ?_
 refine xLd rfl ?_
 refine xFd rfl ?_
 refine xLd rfl ?_
 refine xNe rfl ?_
 refine oNl ?_
 refine cIf h rfl (fun q4 h => ?_) (fun q4 h => ?_)
 refine cRs ?_
 refine xAs rfl ?_
 refine oNl ?_
 refine cRt ?_
 cases h
 exact eR rfl rfl rfl rfl
 refine cSk ?_
 refine cSq ?_
 refine cRs ?_
 refine xFd rfl ?_
 refine xLd rfl ?_
 refine xFd rfl ?_
 refine xLd rfl ?_
 refine xC0 h (big_laws_eqTerm ·) rfl (fun c29_5 h => ?_)
 refine xNot rfl ?_
 refine oNl ?_
 refine cIf h rfl (fun q6 h => ?_) (fun q6 h => ?_)
 refine cRs ?_
 refine xAs rfl ?_
 refine oNl ?_
 refine cRt ?_
 cases h
 exact eR rfl rfl rfl rfl
 refine cSk ?_
 refine cSq ?_
 refine cRs ?_
 refine xFd rfl ?_
 refine xLd rfl ?_
 refine xFd rfl ?_
 refine xLd rfl ?_
 refine xC0 h (big_laws_eqTermS ·) rfl (fun c35_7 h => ?_)
 refine xNot rfl ?_
 refine oNl ?_
 refine cIf h rfl (fun q8 h => ?_) (fun q8 h => ?_)
 refine cRs ?_
 refine xAs rfl ?_
 refine oNl ?_
 refine cRt ?_
 cases h
 exact eR rfl rfl rfl rfl
 refine cSk ?_
 refine cRs ?_
 refine xAs rfl ?_
 refine oNl ?_
 refine cRt ?_
 cases h
 exact eR rfl rfl rfl rfl
abbrev B_spec_l1In (p : Int → Int → Int → Option (Bool)) : Prop := ∀ {t0_0 t1_0 t2_0 : Int} {r : Bool}, p t0_0 t1_0 t2_0 = some r → Big Try.prog τ An (.fn 56 [.one (.c (.int .i64 t0_0)), .one (.c (.int .i64 t1_0)), .one (.c (.int .i64 t2_0))] [] (.one (.c (.bool r))) none [] none)
def p_spec_l1In (n : Nat) (t0_0 : Int) (t1_0 : Int) (t2_0 : Int) : Option (Bool) :=
  (bif decide (t1_0 ≤ t0_0) then some (decide (t0_0 ≤ t2_0)) else some false).bind fun v6_1 => some v6_1
theorem big_spec_l1In {n : Nat} : B_spec_l1In (p_spec_l1In n) := by
 intro t0_0 t1_0 t2_0 r h
 unfold p_spec_l1In at h
 refine bF Try.func56 rfl rfl ?_
 refine cRs ?_
 refine xAs rfl ?_
 refine oRs ?_
 refine oJn h [(6, 14)] [] (fun v6_1 => (.n, [(6, Bo v6_1)], [])) (fun _ h => ?_) (fun v6_1 h => ?_)
 refine xMv rfl ?_
 refine xMv rfl ?_
 refine xGe rfl ?_
 refine xMv rfl ?_
 refine oIf 10 h rfl (fun q2 h => ?_) (fun q2 h => ?_)
 refine xMv rfl ?_
 refine xMv rfl ?_
 refine xLe rfl ?_
 refine xPk rfl ?_
 refine xAs rfl ?_
 refine oNl ?_
 exact eJ h rfl
 refine wSk rfl ?_
 refine wSk rfl ?_
 refine wSk rfl ?_
 refine xPk rfl ?_
 refine xAs rfl ?_
 refine oNl ?_
 exact eJ h rfl
 refine cRt ?_
 cases h
 exact eR rfl rfl rfl rfl
abbrev B_spec_AtomOk (p : (List UInt8) → Option (Bool)) : Prop := ∀ {t0_0 : List UInt8} {r : Bool}, p t0_0 = some r → Big Try.prog τ An (.fn 70 [.one (.c (.str t0_0))] [] (.one (.c (.bool r))) none [] none)
def p_spec_AtomOk_b1 (n : Nat) (t0_0 : List UInt8) : (Int) → Option ((Int) ⊕ ((Bool) ⊕ (Int × Bool)))
  | v3_1 => bif decide (v3_1 < (t0_0.length : Int)) then (ixs t0_0 v3_1).bind fun e14_6 => (p_spec_l1In n (IntKind.wrap .i64 e14_6) (97 : Int) (122 : Int)).bind fun c17_7 => (bif !c17_7 then bif decide (v3_1 = (0 : Int)) then some true else (p_spec_l1In n (IntKind.wrap .i64 e14_6) (48 : Int) (57 : Int)).bind fun c25_11 => bif !c25_11 then some (!decide ((IntKind.wrap .i64 e14_6) = (95 : Int))) else some false else some false).bind fun v32_8 => bif v32_8 then some (.inr (.inl false)) else some (.inl (IntKind.wrap .i64 (v3_1 + (1 : Int)))) else some (.inr (.inr (v3_1, false)))
def p_spec_AtomOk (n : Nat) (t0_0 : List UInt8) : Option (Bool) :=
  (loopN (p_spec_AtomOk_b1 n t0_0) n (0 : Int)).bind fun q => (match q with | .inl v2_2 => some v2_2 | .inr (v3_3, v9_4) => (p_spec_l1In n (t0_0.length : Int) (1 : Int) (20 : Int)).bind fun c35_14 => some c35_14)
theorem big_spec_AtomOk {n : Nat} : B_spec_AtomOk (p_spec_AtomOk n) := by
 intro t0_0 r h
 unfold p_spec_AtomOk at h
 refine bF Try.func70 rfl rfl ?_
 refine cRs ?_
 refine xAs rfl ?_
 refine oNl ?_
 refine cSq ?_
 refine cRs ?_
 refine xAs rfl ?_
 refine oNl ?_
 refine cLp h [(2, 32)] [] (fun v3_1 => ([(3, I64 v3_1)], [])) (fun q => match q with | .inl v2_2 => (.r, [(2, Bo v2_2)], []) | .inr (v3_3, v9_4) => (.e 0, [(3, I64 v3_3), (9, Bo v9_4)], [])) rfl (fun v3_1 _ h => ?_) (fun q h => ?_)
 unfold p_spec_AtomOk_b1 at h
 refine cSq ?_
 refine cRs ?_
 refine xMv rfl ?_
 refine xMv rfl ?_
 refine xLs rfl ?_
 refine xLt rfl ?_
 refine oNl ?_
 refine cIf h rfl (fun q5 h => ?_) (fun q5 h => ?_)
 refine cSk ?_
 refine cSq ?_
 refine cBk ?_
 refine cRs ?_
 refine xMv rfl ?_
 refine xMv rfl ?_
 refine wIxs h rfl rfl rfl rfl rfl (fun e14_6 h => ?_)
 refine wCv rfl rfl rfl rfl rfl ?_
 refine xAs rfl ?_
 refine oRs ?_
 refine xMv rfl ?_
 refine xC0 h (big_spec_l1In ·) rfl (fun c17_7 h => ?_)
 refine xAs rfl ?_
 refine oRs ?_
 refine oJn h [(18, 32)] [] (fun v32_8 => (.n, [(32, Bo v32_8)], [])) (fun _ h => ?_) (fun v32_8 h => ?_)
 refine xMv rfl ?_
 refine xNot rfl ?_
 refine xMv rfl ?_
 refine oIf 20 h rfl (fun q9 h => ?_) (fun q9 h => ?_)
 refine xMv rfl ?_
 refine xEq rfl ?_
 refine xMv rfl ?_
 refine oIf 23 h rfl (fun q10 h => ?_) (fun q10 h => ?_)
 refine wSk rfl ?_
 refine wSk rfl ?_
 refine wSk rfl ?_
 refine wSk rfl ?_
 refine wSk rfl ?_
 refine wSk rfl ?_
 refine wSk rfl ?_
 refine xPk rfl ?_
 refine xPk rfl ?_
 refine oNl ?_
 exact eJ h rfl
 refine xMv rfl ?_
 refine xC0 h (big_spec_l1In ·) rfl (fun c25_11 h => ?_)
 refine xNot rfl ?_
 refine xMv rfl ?_
 refine oIf 27 h rfl (fun q12 h => ?_) (fun q12 h => ?_)
 refine xMv rfl ?_
 refine xNe rfl ?_
 refine xPk rfl ?_
 refine xPk rfl ?_
 refine xPk rfl ?_
 refine oNl ?_
 exact eJ h rfl
 refine wSk rfl ?_
 refine wSk rfl ?_
 refine xPk rfl ?_
 refine xPk rfl ?_
 refine xPk rfl ?_
 refine oNl ?_
 exact eJ h rfl
 refine wSk rfl ?_
 refine wSk rfl ?_
 refine wSk rfl ?_
 refine wSk rfl ?_
 refine wSk rfl ?_
 refine wSk rfl ?_
 refine wSk rfl ?_
 refine wSk rfl ?_
 refine wSk rfl ?_
 refine wSk rfl ?_
 refine wSk rfl ?_
 refine xPk rfl ?_
 refine oNl ?_
 exact eJ h rfl
 refine cIf h rfl (fun q13 h => ?_) (fun q13 h => ?_)
 refine cRs ?_
 refine xAs rfl ?_
 refine oNl ?_
 refine cRt ?_
 exact eXr h rfl
 refine cSk ?_
 refine cRg ?_
 refine xMv rfl ?_
 refine xAdd rfl ?_
 refine xAs rfl ?_
 refine oNl ?_
 exact eL h rfl
 refine cEx ?_
 exact eX h rfl
 rcases q with v2_2 | ⟨v3_3, v9_4⟩
 cases h
 exact eR rfl rfl rfl rfl
 refine cRs ?_
 refine xMv rfl ?_
 refine xLs rfl ?_
 refine xC0 h (big_spec_l1In ·) rfl (fun c35_14 h => ?_)
 refine xAs rfl ?_
 refine oNl ?_
 refine cRt ?_
 cases h
 exact eR rfl rfl rfl rfl
abbrev B_spec_l2Shape (p : Int → Int → (List UInt8) → (List S_impl_Term) → Option (Bool)) : Prop := ∀ {t0_0 t0_1 : Int} {t0_2 : List UInt8} {t0_3 : List S_impl_Term} {r : Bool}, p t0_0 t0_1 t0_2 t0_3 = some r → Big Try.prog τ An (.fn 128 [.one (.ag [.int .i64 t0_0, .int .i64 t0_1, .str t0_2, .sl (t0_3.map rS_impl_Term)])] [] (.one (.c (.bool r))) none [] none)
def p_spec_l2Shape (n : Nat) (t0_0 : Int) (t0_1 : Int) (t0_2 : List UInt8) (t0_3 : List S_impl_Term) : Option (Bool) :=
  bif decide (t0_0 = (1 : Int)) then ((p_spec_l1In n t0_1 ((-1000000000000) : Int) (1000000000000 : Int)).bind fun c9_3 => bif c9_3 then bif decide (t0_2 = ([] : List UInt8)) then some (decide ((t0_3.length : Int) = (0 : Int))) else some false else some false).bind fun v2_2 => some v2_2 else bif decide (t0_0 = (2 : Int)) then ((p_spec_AtomOk n t0_2).bind fun c25_8 => bif c25_8 then bif decide (t0_1 = (0 : Int)) then some (decide ((t0_3.length : Int) = (0 : Int))) else some false else some false).bind fun v2_7 => some v2_7 else bif decide (t0_0 = (3 : Int)) then ((p_spec_l1In n t0_1 (0 : Int) (1000000 : Int)).bind fun c41_13 => bif c41_13 then bif decide (t0_2 = ([] : List UInt8)) then some (decide ((t0_3.length : Int) = (0 : Int))) else some false else some false).bind fun v2_12 => some v2_12 else bif decide (t0_0 = (4 : Int)) then (bif decide (t0_1 = (0 : Int)) then bif decide (t0_2 = ([] : List UInt8)) then some (decide ((t0_3.length : Int) ≤ (20 : Int))) else some false else some false).bind fun v2_17 => some v2_17 else bif decide (t0_0 = (5 : Int)) then (bif decide (t0_1 = (0 : Int)) then bif decide (t0_2 = ([] : List UInt8)) then some (decide ((t0_3.length : Int) ≤ (60 : Int))) else some false else some false).bind fun v2_21 => some v2_21 else some false
theorem big_spec_l2Shape {n : Nat} : B_spec_l2Shape (p_spec_l2Shape n) := by
 intro t0_0 t0_1 t0_2 t0_3 r h
 unfold p_spec_l2Shape at h
 refine bF Try.func128 rfl rfl ?_
 refine cRs ?_
 refine xBx rfl ?_
 refine xAs rfl ?_
 refine oNl ?_
 refine cSq ?_
 refine cRs ?_
 refine xFd rfl ?_
 refine xLd rfl ?_
 refine oNl ?_
 refine cBk ?_
 refine cRs ?_
 refine xEq rfl ?_
 refine xAs rfl ?_
 refine oNl ?_
 refine cIf h rfl (fun q1 h => ?_) (fun q1 h => ?_)
 refine cRs ?_
 refine oJn h [(2, 2), (7, 20)] [] (fun v2_2 => (.n, [(2, Bo v2_2)], [])) (fun _ h => ?_) (fun v2_2 h => ?_)
 refine xFd rfl ?_
 refine xLd rfl ?_
 refine xC0 h (big_spec_l1In ·) rfl (fun c9_3 h => ?_)
 refine xMv rfl ?_
 refine oIf 10 h rfl (fun q4 h => ?_) (fun q4 h => ?_)
 refine xFd rfl ?_
 refine xLd rfl ?_
 refine xEs rfl ?_
 refine xPk rfl ?_
 refine xMv rfl ?_
 refine oIf 15 h rfl (fun q5 h => ?_) (fun q5 h => ?_)
 refine xFd rfl ?_
 refine xLd rfl ?_
 refine xLn rfl ?_
 refine xEq rfl ?_
 refine xPk rfl ?_
 refine xAs rfl ?_
 refine oNl ?_
 exact eJ h rfl
 refine wSk rfl ?_
 refine wSk rfl ?_
 refine wSk rfl ?_
 refine wSk rfl ?_
 refine xPk rfl ?_
 refine xAs rfl ?_
 refine oNl ?_
 exact eJ h rfl
 refine wSk rfl ?_
 refine wSk rfl ?_
 refine wSk rfl ?_
 refine xPk rfl ?_
 refine xMv rfl ?_
 refine wSk rfl ?_
 refine wSk rfl ?_
 refine wSk rfl ?_
 refine wSk rfl ?_
 refine xPk rfl ?_
 refine xAs rfl ?_
 refine oNl ?_
 exact eJ h rfl
 refine cRt ?_
 cases h
 exact eR rfl rfl rfl rfl
 refine cRs ?_
 refine xEq rfl ?_
 refine xAs rfl ?_
 refine oNl ?_
 refine cIf h rfl (fun q6 h => ?_) (fun q6 h => ?_)
 refine cRs ?_
 refine oJn h [(2, 2), (23, 36)] [] (fun v2_7 => (.n, [(2, Bo v2_7)], [])) (fun _ h => ?_) (fun v2_7 h => ?_)
 refine xFd rfl ?_
 refine xLd rfl ?_
 refine xC0 h (big_spec_AtomOk ·) rfl (fun c25_8 h => ?_)
 refine xMv rfl ?_
 refine oIf 26 h rfl (fun q9 h => ?_) (fun q9 h => ?_)
 refine xFd rfl ?_
 refine xLd rfl ?_
 refine xEq rfl ?_
 refine xPk rfl ?_
 refine xMv rfl ?_
 refine oIf 31 h rfl (fun q10 h => ?_) (fun q10 h => ?_)
 refine xFd rfl ?_
 refine xLd rfl ?_
 refine xLn rfl ?_
 refine xEq rfl ?_
 refine xPk rfl ?_
 refine xAs rfl ?_
 refine oNl ?_
 exact eJ h rfl
 refine wSk rfl ?_
 refine wSk rfl ?_
 refine wSk rfl ?_
 refine wSk rfl ?_
 refine xPk rfl ?_
 refine xAs rfl ?_
 refine oNl ?_
 exact eJ h rfl
 refine wSk rfl ?_
 refine wSk rfl ?_
 refine wSk rfl ?_
 refine xPk rfl ?_
 refine xMv rfl ?_
 refine wSk rfl ?_
 refine wSk rfl ?_
 refine wSk rfl ?_
 refine wSk rfl ?_
 refine xPk rfl ?_
 refine xAs rfl ?_
 refine oNl ?_
 exact eJ h rfl
 refine cRt ?_
 cases h
 exact eR rfl rfl rfl rfl
 refine cRs ?_
 refine xEq rfl ?_
 refine xAs rfl ?_
 refine oNl ?_
 refine cIf h rfl (fun q11 h => ?_) (fun q11 h => ?_)
 refine cRs ?_
 refine oJn h [(2, 2), (39, 52)] [] (fun v2_12 => (.n, [(2, Bo v2_12)], [])) (fun _ h => ?_) (fun v2_12 h => ?_)
 refine xFd rfl ?_
 refine xLd rfl ?_
 refine xC0 h (big_spec_l1In ·) rfl (fun c41_13 h => ?_)
 refine xMv rfl ?_
 refine oIf 42 h rfl (fun q14 h => ?_) (fun q14 h => ?_)
 refine xFd rfl ?_
 refine xLd rfl ?_
 refine xEs rfl ?_
 refine xPk rfl ?_
 refine xMv rfl ?_
 refine oIf 47 h rfl (fun q15 h => ?_) (fun q15 h => ?_)
 refine xFd rfl ?_
 refine xLd rfl ?_
 refine xLn rfl ?_
 refine xEq rfl ?_
 refine xPk rfl ?_
 refine xAs rfl ?_
 refine oNl ?_
 exact eJ h rfl
 refine wSk rfl ?_
 refine wSk rfl ?_
 refine wSk rfl ?_
 refine wSk rfl ?_
 refine xPk rfl ?_
 refine xAs rfl ?_
 refine oNl ?_
 exact eJ h rfl
 refine wSk rfl ?_
 refine wSk rfl ?_
 refine wSk rfl ?_
 refine xPk rfl ?_
 refine xMv rfl ?_
 refine wSk rfl ?_
 refine wSk rfl ?_
 refine wSk rfl ?_
 refine wSk rfl ?_
 refine xPk rfl ?_
 refine xAs rfl ?_
 refine oNl ?_
 exact eJ h rfl
 refine cRt ?_
 cases h
 exact eR rfl rfl rfl rfl
 refine cRs ?_
 refine xEq rfl ?_
 refine xAs rfl ?_
 refine oNl ?_
 refine cIf h rfl (fun q16 h => ?_) (fun q16 h => ?_)
 refine cRs ?_
 refine oJn h [(2, 2), (55, 68)] [] (fun v2_17 => (.n, [(2, Bo v2_17)], [])) (fun _ h => ?_) (fun v2_17 h => ?_)
 refine xFd rfl ?_
 refine xLd rfl ?_
 refine xEq rfl ?_
 refine xMv rfl ?_
 refine oIf 58 h rfl (fun q18 h => ?_) (fun q18 h => ?_)
 refine xFd rfl ?_
 refine xLd rfl ?_
 refine xEs rfl ?_
 refine xPk rfl ?_
 refine xMv rfl ?_
 refine oIf 63 h rfl (fun q19 h => ?_) (fun q19 h => ?_)
 refine xFd rfl ?_
 refine xLd rfl ?_
 refine xLn rfl ?_
 refine xLe rfl ?_
 refine xPk rfl ?_
 refine xAs rfl ?_
 refine oNl ?_
 exact eJ h rfl
 refine wSk rfl ?_
 refine wSk rfl ?_
 refine wSk rfl ?_
 refine wSk rfl ?_
 refine xPk rfl ?_
 refine xAs rfl ?_
 refine oNl ?_
 exact eJ h rfl
 refine wSk rfl ?_
 refine wSk rfl ?_
 refine wSk rfl ?_
 refine xPk rfl ?_
 refine xMv rfl ?_
 refine wSk rfl ?_
 refine wSk rfl ?_
 refine wSk rfl ?_
 refine wSk rfl ?_
 refine xPk rfl ?_
 refine xAs rfl ?_
 refine oNl ?_
 exact eJ h rfl
 refine cRt ?_
 cases h
 exact eR rfl rfl rfl rfl
 refine cRs ?_
 refine xEq rfl ?_
 refine xAs rfl ?_
 refine oNl ?_
 refine cIf h rfl (fun q20 h => ?_) (fun q20 h => ?_)
 refine cRs ?_
 refine oJn h [(2, 2), (71, 84)] [] (fun v2_21 => (.n, [(2, Bo v2_21)], [])) (fun _ h => ?_) (fun v2_21 h => ?_)
 refine xFd rfl ?_
 refine xLd rfl ?_
 refine xEq rfl ?_
 refine xMv rfl ?_
 refine oIf 74 h rfl (fun q22 h => ?_) (fun q22 h => ?_)
 refine xFd rfl ?_
 refine xLd rfl ?_
 refine xEs rfl ?_
 refine xPk rfl ?_
 refine xMv rfl ?_
 refine oIf 79 h rfl (fun q23 h => ?_) (fun q23 h => ?_)
 refine xFd rfl ?_
 refine xLd rfl ?_
 refine xLn rfl ?_
 refine xLe rfl ?_
 refine xPk rfl ?_
 refine xAs rfl ?_
 refine oNl ?_
 exact eJ h rfl
 refine wSk rfl ?_
 refine wSk rfl ?_
 refine wSk rfl ?_
 refine wSk rfl ?_
 refine xPk rfl ?_
 refine xAs rfl ?_
 refine oNl ?_
 exact eJ h rfl
 refine wSk rfl ?_
 refine wSk rfl ?_
 refine wSk rfl ?_
 refine xPk rfl ?_
 refine xMv rfl ?_
 refine wSk rfl ?_
 refine wSk rfl ?_
 refine wSk rfl ?_
 refine wSk rfl ?_
 refine xPk rfl ?_
 refine xAs rfl ?_
 refine oNl ?_
 exact eJ h rfl
 refine cRt ?_
 cases h
 exact eR rfl rfl rfl rfl
 refine cSk ?_
 refine cRs ?_
 refine xAs rfl ?_
 refine oNl ?_
 refine cRt ?_
 cases h
 exact eR rfl rfl rfl rfl
abbrev B_spec_l2Look (p : Int → Int → (List UInt8) → (List S_impl_Term) → Int → Int → Option (Int)) : Prop := ∀ {t0_0 t0_1 : Int} {t0_2 : List UInt8} {t0_3 : List S_impl_Term} {t1_0 t2_0 : Int} {r : Int}, p t0_0 t0_1 t0_2 t0_3 t1_0 t2_0 = some r → Big Try.prog τ An (.fn 107 [.one (.ag [.int .i64 t0_0, .int .i64 t0_1, .str t0_2, .sl (t0_3.map rS_impl_Term)]), .one (.c (.int .i64 t1_0)), .one (.c (.int .i64 t2_0))] [] (.one (.c (.int .i64 r))) none [] none)
def p_spec_l2Look_b1 (n : Nat) (r_spec_l2Look : Int → Int → (List UInt8) → (List S_impl_Term) → Int → Int → Option (Int)) (t1_0 : Int) (t0_3 : List S_impl_Term) : (Int × Int) → Option ((Int × Int) ⊕ ((Int × Int × Bool)))
  | (v2_6, v7_7) => (bif decide (v7_7 < (t0_3.length : Int)) then some (decide ((0 : Int) ≤ v2_6)) else some false).bind fun v29_11 => bif v29_11 then (ix t0_3 v7_7).bind fun e35_14 => (r_spec_l2Look e35_14.f0 e35_14.f1 e35_14.f2 e35_14.f3 (IntKind.wrap .i64 (t1_0 - (1 : Int))) v2_6).bind fun c40_15 => some (.inl (c40_15, (IntKind.wrap .i64 (v7_7 + (1 : Int))))) else some (.inr (v2_6, v7_7, false))
def s_spec_l2Look (n : Nat) (r_spec_l2Look : Int → Int → (List UInt8) → (List S_impl_Term) → Int → Int → Option (Int)) (t0_0 : Int) (t0_1 : Int) (t0_2 : List UInt8) (t0_3 : List S_impl_Term) (t1_0 : Int) (t2_0 : Int) : Option (Int) :=
  (bif decide (t1_0 < (1 : Int)) then some true else bif decide (t2_0 < (1 : Int)) then some true else (p_spec_l2Shape n t0_0 t0_1 t0_2 t0_3).bind fun c16_4 => some (!c16_4)).bind fun v18_1 => bif v18_1 then some ((-1) : Int) else (loopN (p_spec_l2Look_b1 n r_spec_l2Look t1_0 t0_3) n ((IntKind.wrap .i64 (t2_0 - (1 : Int))), (0 : Int))).bind fun (v2_8, v7_9, v29_10) => some v2_8
theorem step_spec_l2Look {n : Nat} {r_spec_l2Look : Int → Int → (List UInt8) → (List S_impl_Term) → Int → Int → Option (Int)} (ih_spec_l2Look : B_spec_l2Look r_spec_l2Look) : B_spec_l2Look (s_spec_l2Look n r_spec_l2Look) := by
 intro t0_0 t0_1 t0_2 t0_3 t1_0 t2_0 r h
 unfold s_spec_l2Look at h
 refine bF Try.func107 rfl rfl ?_
 refine cRs ?_
 refine xBx rfl ?_
 refine xAs rfl ?_
 refine oNl ?_
 refine cSq ?_
 refine cRs ?_
 refine oJn h [(8, 18)] [] (fun v18_1 => (.n, [(18, Bo v18_1)], [])) (fun _ h => ?_) (fun v18_1 h => ?_)
 refine xMv rfl ?_
 refine xLt rfl ?_
 refine xMv rfl ?_
 refine oIf 10 h rfl (fun q2 h => ?_) (fun q2 h => ?_)
 refine wSk rfl ?_
 refine wSk rfl ?_
 refine xPk rfl ?_
 refine xMv rfl ?_
 refine wSk rfl ?_
 refine wSk rfl ?_
 refine wSk rfl ?_
 refine xPk rfl ?_
 refine oNl ?_
 exact eJ h rfl
 refine xMv rfl ?_
 refine xLt rfl ?_
 refine xPk rfl ?_
 refine xMv rfl ?_
 refine oIf 14 h rfl (fun q3 h => ?_) (fun q3 h => ?_)
 refine wSk rfl ?_
 refine wSk rfl ?_
 refine wSk rfl ?_
 refine xPk rfl ?_
 refine oNl ?_
 exact eJ h rfl
 refine xLd rfl ?_
 refine xC0 h (big_spec_l2Shape ·) rfl (fun c16_4 h => ?_)
 refine xNot rfl ?_
 refine xPk rfl ?_
 refine oNl ?_
 exact eJ h rfl
 refine cIf h rfl (fun q5 h => ?_) (fun q5 h => ?_)
 refine cRs ?_
 refine xAs rfl ?_
 refine oNl ?_
 refine cRt ?_
 cases h
 exact eR rfl rfl rfl rfl
 refine cSk ?_
 refine cRs ?_
 refine xMv rfl ?_
 refine xSub rfl ?_
 refine xAs rfl ?_
 refine oNl ?_
 refine cSq ?_
 refine cRs ?_
 refine xAs rfl ?_
 refine oNl ?_
 refine cLp h [(2, 2), (7, 7), (21, 40)] [] (fun (v2_6, v7_7) => ([(2, I64 v2_6), (7, I64 v7_7)], [])) (fun (v2_8, v7_9, v29_10) => (.e 0, [(2, I64 v2_8), (7, I64 v7_9), (29, Bo v29_10)], [])) rfl (fun st _ h => ?_) (fun q h => ?_)
 obtain ⟨v2_6, v7_7⟩ := st
 unfold p_spec_l2Look_b1 at h
 refine cSq ?_
 refine cRs ?_
 refine oJn h [(21, 29)] [] (fun v29_11 => (.n, [(29, Bo v29_11)], [])) (fun _ h => ?_) (fun v29_11 h => ?_)
 refine xMv rfl ?_
 refine xFd rfl ?_
 refine xLd rfl ?_
 refine xLn rfl ?_
 refine xLt rfl ?_
 refine xMv rfl ?_
 refine oIf 26 h rfl (fun q12 h => ?_) (fun q12 h => ?_)
 refine xMv rfl ?_
 refine xGe rfl ?_
 refine xPk rfl ?_
 refine oNl ?_
 exact eJ h rfl
 refine wSk rfl ?_
 refine wSk rfl ?_
 refine xPk rfl ?_
 refine oNl ?_
 exact eJ h rfl
 refine cIf h rfl (fun q13 h => ?_) (fun q13 h => ?_)
 refine cSk ?_
 refine cSq ?_
 refine cBk ?_
 refine cRg ?_
 refine xFd rfl ?_
 refine xLd rfl ?_
 refine xMv rfl ?_
 refine xIx h rS_impl_Term_eq rfl (fun e35_14 h => ?_)
 refine xLd rfl ?_
 refine xMv rfl ?_
 refine xSub rfl ?_
 refine xMv rfl ?_
 refine xC0 h (ih_spec_l2Look ·) rfl (fun c40_15 h => ?_)
 refine xAs rfl ?_
 refine oNl ?_
 refine cRg ?_
 refine xMv rfl ?_
 refine xAdd rfl ?_
 refine xAs rfl ?_
 refine oNl ?_
 exact eL h rfl
 refine cEx ?_
 exact eX h rfl
 obtain ⟨v2_8, v7_9, v29_10⟩ := q
 refine cRs ?_
 refine xMv rfl ?_
 refine xAs rfl ?_
 refine oNl ?_
 refine cRt ?_
 cases h
 exact eR rfl rfl rfl rfl
def q_spec_l2Look : Nat → (Int → Int → (List UInt8) → (List S_impl_Term) → Int → Int → Option (Int))
  | 0 => (fun _ _ _ _ _ _ => none)
  | n + 1 => s_spec_l2Look n (q_spec_l2Look n)
def p_spec_l2Look (n : Nat) : Int → Int → (List UInt8) → (List S_impl_Term) → Int → Int → Option (Int) := q_spec_l2Look n
theorem bigs_spec_l2Look (n : Nat) : B_spec_l2Look (p_spec_l2Look n) := by
  induction n with
  | zero => exact (fun h => nomatch h)
  | succ n ih => exact step_spec_l2Look (n := n) ih
theorem big_spec_l2Look {n : Nat} : B_spec_l2Look (p_spec_l2Look n) := (bigs_spec_l2Look n)
theorem p_spec_l2Look_succ (n : Nat) : p_spec_l2Look (n + 1) = s_spec_l2Look n (p_spec_l2Look n) := rfl
abbrev B_spec_TermOk (p : Int → Int → (List UInt8) → (List S_impl_Term) → Option (Bool)) : Prop := ∀ {t0_0 t0_1 : Int} {t0_2 : List UInt8} {t0_3 : List S_impl_Term} {r : Bool}, p t0_0 t0_1 t0_2 t0_3 = some r → Big Try.prog τ An (.fn 69 [.one (.ag [.int .i64 t0_0, .int .i64 t0_1, .str t0_2, .sl (t0_3.map rS_impl_Term)])] [] (.one (.c (.bool r))) none [] none)
def p_spec_TermOk (n : Nat) (t0_0 : Int) (t0_1 : Int) (t0_2 : List UInt8) (t0_3 : List S_impl_Term) : Option (Bool) :=
  (p_spec_l2Look n t0_0 t0_1 t0_2 t0_3 (8 : Int) (300 : Int)).bind fun c4_1 => some (decide ((0 : Int) ≤ c4_1))
theorem big_spec_TermOk {n : Nat} : B_spec_TermOk (p_spec_TermOk n) := by
 intro t0_0 t0_1 t0_2 t0_3 r h
 unfold p_spec_TermOk at h
 refine bF Try.func69 rfl rfl ?_
 refine cRs ?_
 refine xBx rfl ?_
 refine xAs rfl ?_
 refine oRs ?_
 refine xLd rfl ?_
 refine xC0 h (big_spec_l2Look ·) rfl (fun c4_1 h => ?_)
 refine xGe rfl ?_
 refine xAs rfl ?_
 refine oNl ?_
 refine cRt ?_
 cases h
 exact eR rfl rfl rfl rfl
abbrev B_spec_WorkerOk (p : Int → (List UInt8) → (List UInt8) → Int → Int → Int → (List UInt8) → (List S_impl_Term) → (List S_impl_Term) → Option (Bool)) : Prop := ∀ {t0_0 : Int} {t0_1 t0_2 : List UInt8} {t0_3 t0_4 t0_5 : Int} {t0_6 : List UInt8} {t0_7 t0_8 : List S_impl_Term} {r : Bool}, p t0_0 t0_1 t0_2 t0_3 t0_4 t0_5 t0_6 t0_7 t0_8 = some r → Big Try.prog τ An (.fn 25 [.one (.ag [.int .i64 t0_0, .str t0_1, .str t0_2, .int .i64 t0_3, .int .i64 t0_4, .int .i64 t0_5, .str t0_6, .sl (t0_7.map rS_impl_Term), .sl (t0_8.map rS_impl_Term)])] [] (.one (.c (.bool r))) none [] none)
def p_spec_WorkerOk_b1 (n : Nat) (t0_8 : List S_impl_Term) : (Int) → Option ((Int) ⊕ ((Bool) ⊕ (Int × Bool)))
  | v3_1 => bif decide (v3_1 < (t0_8.length : Int)) then (ix t0_8 v3_1).bind fun e14_6 => (p_spec_TermOk n e14_6.f0 e14_6.f1 e14_6.f2 e14_6.f3).bind fun c16_7 => bif !c16_7 then some (.inr (.inl false)) else some (.inl (IntKind.wrap .i64 (v3_1 + (1 : Int)))) else some (.inr (.inr (v3_1, false)))
def p_spec_WorkerOk (n : Nat) (t0_0 : Int) (t0_1 : List UInt8) (t0_2 : List UInt8) (t0_3 : Int) (t0_4 : Int) (t0_5 : Int) (t0_6 : List UInt8) (t0_7 : List S_impl_Term) (t0_8 : List S_impl_Term) : Option (Bool) :=
  (loopN (p_spec_WorkerOk_b1 n t0_8) n (0 : Int)).bind fun q => (match q with | .inl v2_2 => some v2_2 | .inr (v3_3, v8_4) => ((p_spec_l1In n t0_0 (1 : Int) (1000000 : Int)).bind fun c20_10 => bif c20_10 then (p_spec_AtomOk n t0_1).bind fun c24_12 => bif c24_12 then (p_spec_AtomOk n t0_2).bind fun c29_14 => bif c29_14 then (p_spec_l1In n t0_3 (1 : Int) (10000 : Int)).bind fun c34_16 => bif c34_16 then (p_spec_TermOk n t0_4 t0_5 t0_6 t0_7).bind fun c39_18 => bif c39_18 then some (decide ((t0_8.length : Int) ≤ (20 : Int))) else some false else some false else some false else some false else some false).bind fun v2_9 => some v2_9)
theorem big_spec_WorkerOk {n : Nat} : B_spec_WorkerOk (p_spec_WorkerOk n) := by
 intro t0_0 t0_1 t0_2 t0_3 t0_4 t0_5 t0_6 t0_7 t0_8 r h
 unfold p_spec_WorkerOk at h
 refine bF Try.func25 rfl rfl ?_
 refine cRs ?_
 refine xBx rfl ?_
 refine xAs rfl ?_
 refine oNl ?_
 refine cSq ?_
 refine cRs ?_
 refine xAs rfl ?_
 refine oNl ?_
 refine cLp h [(2, 17)] [] (fun v3_1 => ([(3, I64 v3_1)], [])) (fun q => match q with | .inl v2_2 => (.r, [(2, Bo v2_2)], []) | .inr (v3_3, v8_4) => (.e 0, [(3, I64 v3_3), (8, Bo v8_4)], [])) rfl (fun v3_1 _ h => ?_) (fun q h => ?_)
 unfold p_spec_WorkerOk_b1 at h
 refine cSq ?_
 refine cRs ?_
 refine xMv rfl ?_
 refine xFd rfl ?_
 refine xLd rfl ?_
 refine xLn rfl ?_
 refine xLt rfl ?_
 refine oNl ?_
 refine cIf h rfl (fun q5 h => ?_) (fun q5 h => ?_)
 refine cSk ?_
 refine cSq ?_
 refine cBk ?_
 refine cRs ?_
 refine xFd rfl ?_
 refine xLd rfl ?_
 refine xMv rfl ?_
 refine xIx h rS_impl_Term_eq rfl (fun e14_6 h => ?_)
 refine xLd rfl ?_
 refine xC0 h (big_spec_TermOk ·) rfl (fun c16_7 h => ?_)
 refine xNot rfl ?_
 refine oNl ?_
 refine cIf h rfl (fun q8 h => ?_) (fun q8 h => ?_)
 refine cRs ?_
 refine xAs rfl ?_
 refine oNl ?_
 refine cRt ?_
 exact eXr h rfl
 refine cSk ?_
 refine cRg ?_
 refine xMv rfl ?_
 refine xAdd rfl ?_
 refine xAs rfl ?_
 refine oNl ?_
 exact eL h rfl
 refine cEx ?_
 exact eX h rfl
 rcases q with v2_2 | ⟨v3_3, v8_4⟩
 cases h
 exact eR rfl rfl rfl rfl
 refine cRs ?_
 refine oJn h [(2, 2), (18, 46)] [] (fun v2_9 => (.n, [(2, Bo v2_9)], [])) (fun _ h => ?_) (fun v2_9 h => ?_)
 refine xFd rfl ?_
 refine xLd rfl ?_
 refine xC0 h (big_spec_l1In ·) rfl (fun c20_10 h => ?_)
 refine xMv rfl ?_
 refine oIf 21 h rfl (fun q11 h => ?_) (fun q11 h => ?_)
 refine xFd rfl ?_
 refine xLd rfl ?_
 refine xC0 h (big_spec_AtomOk ·) rfl (fun c24_12 h => ?_)
 refine xPk rfl ?_
 refine xMv rfl ?_
 refine oIf 26 h rfl (fun q13 h => ?_) (fun q13 h => ?_)
 refine xFd rfl ?_
 refine xLd rfl ?_
 refine xC0 h (big_spec_AtomOk ·) rfl (fun c29_14 h => ?_)
 refine xPk rfl ?_
 refine xMv rfl ?_
 refine oIf 31 h rfl (fun q15 h => ?_) (fun q15 h => ?_)
 refine xFd rfl ?_
 refine xLd rfl ?_
 refine xC0 h (big_spec_l1In ·) rfl (fun c34_16 h => ?_)
 refine xPk rfl ?_
 refine xMv rfl ?_
 refine oIf 36 h rfl (fun q17 h => ?_) (fun q17 h => ?_)
 refine xFd rfl ?_
 refine xLd rfl ?_
 refine xC0 h (big_spec_TermOk ·) rfl (fun c39_18 h => ?_)
 refine xPk rfl ?_
 refine xMv rfl ?_
 refine oIf 41 h rfl (fun q19 h => ?_) (fun q19 h => ?_)
 refine xFd rfl ?_
 refine xLd rfl ?_
 refine xLn rfl ?_
 refine xLe rfl ?_
 refine xPk rfl ?_
 refine xAs rfl ?_
 refine oNl ?_
 exact eJ h rfl
 refine wSk rfl ?_
 refine wSk rfl ?_
 refine wSk rfl ?_
 refine wSk rfl ?_
 refine xPk rfl ?_
 refine xAs rfl ?_
 refine oNl ?_
 exact eJ h rfl
 refine wSk rfl ?_
 refine wSk rfl ?_
 refine wSk rfl ?_
 refine xPk rfl ?_
 refine xMv rfl ?_
 refine wSk rfl ?_
 refine wSk rfl ?_
 refine wSk rfl ?_
 refine wSk rfl ?_
 refine xPk rfl ?_
 refine xAs rfl ?_
 refine oNl ?_
 exact eJ h rfl
 refine wSk rfl ?_
 refine wSk rfl ?_
 refine wSk rfl ?_
 refine xPk rfl ?_
 refine xMv rfl ?_
 refine wSk rfl ?_
 refine wSk rfl ?_
 refine wSk rfl ?_
 refine xPk rfl ?_
 refine xMv rfl ?_
 refine wSk rfl ?_
 refine wSk rfl ?_
 refine wSk rfl ?_
 refine wSk rfl ?_
 refine xPk rfl ?_
 refine xAs rfl ?_
 refine oNl ?_
 exact eJ h rfl
 refine wSk rfl ?_
 refine wSk rfl ?_
 refine wSk rfl ?_
 refine xPk rfl ?_
 refine xMv rfl ?_
 refine wSk rfl ?_
 refine wSk rfl ?_
 refine wSk rfl ?_
 refine xPk rfl ?_
 refine xMv rfl ?_
 refine wSk rfl ?_
 refine wSk rfl ?_
 refine wSk rfl ?_
 refine xPk rfl ?_
 refine xMv rfl ?_
 refine wSk rfl ?_
 refine wSk rfl ?_
 refine wSk rfl ?_
 refine wSk rfl ?_
 refine xPk rfl ?_
 refine xAs rfl ?_
 refine oNl ?_
 exact eJ h rfl
 refine wSk rfl ?_
 refine wSk rfl ?_
 refine wSk rfl ?_
 refine xPk rfl ?_
 refine xMv rfl ?_
 refine wSk rfl ?_
 refine wSk rfl ?_
 refine wSk rfl ?_
 refine xPk rfl ?_
 refine xMv rfl ?_
 refine wSk rfl ?_
 refine wSk rfl ?_
 refine wSk rfl ?_
 refine xPk rfl ?_
 refine xMv rfl ?_
 refine wSk rfl ?_
 refine wSk rfl ?_
 refine wSk rfl ?_
 refine xPk rfl ?_
 refine xMv rfl ?_
 refine wSk rfl ?_
 refine wSk rfl ?_
 refine wSk rfl ?_
 refine wSk rfl ?_
 refine xPk rfl ?_
 refine xAs rfl ?_
 refine oNl ?_
 exact eJ h rfl
 refine cRt ?_
 cases h
 exact eR rfl rfl rfl rfl
abbrev B_spec_l2Copy (p : Int → Int → (List UInt8) → (List S_impl_Term) → Option (Int × Int × (List UInt8) × (List S_impl_Term))) : Prop := ∀ {t0_0 t0_1 : Int} {t0_2 : List UInt8} {t0_3 : List S_impl_Term} {r : Int × Int × (List UInt8) × (List S_impl_Term)}, p t0_0 t0_1 t0_2 t0_3 = some r → Big Try.prog τ An (.fn 66 [.one (.ag [.int .i64 t0_0, .int .i64 t0_1, .str t0_2, .sl (t0_3.map rS_impl_Term)])] [] (.one (.ag [.int .i64 r.1, .int .i64 r.2.1, .str r.2.2.1, .sl (r.2.2.2.map rS_impl_Term)])) none [] none)
def p_spec_l2Copy_b1 (n : Nat) (r_spec_l2Copy : Int → Int → (List UInt8) → (List S_impl_Term) → Option (Int × Int × (List UInt8) × (List S_impl_Term))) (t0_3 : List S_impl_Term) : (Int × Int × Int × (List UInt8) × (List S_impl_Term)) → Option ((Int × Int × Int × (List UInt8) × (List S_impl_Term)) ⊕ ((Int × Bool × Int × Int × (List UInt8) × (List S_impl_Term))))
  | (v4_1, w3_2, w3_3, w3_4, w3_5) => bif decide (v4_1 < (t0_3.length : Int)) then (ix t0_3 v4_1).bind fun e20_13 => (r_spec_l2Copy e20_13.f0 e20_13.f1 e20_13.f2 e20_13.f3).bind fun c22_14 => (app2 56 w3_5 ([S_impl_Term.mk c22_14.1 c22_14.2.1 c22_14.2.2.1 c22_14.2.2.2] : List S_impl_Term)).bind fun v24_15 => some (.inl ((IntKind.wrap .i64 (v4_1 + (1 : Int))), w3_2, w3_3, w3_4, v24_15)) else some (.inr (v4_1, false, w3_2, w3_3, w3_4, w3_5))
def s_spec_l2Copy (n : Nat) (r_spec_l2Copy : Int → Int → (List UInt8) → (List S_impl_Term) → Option (Int × Int × (List UInt8) × (List S_impl_Term))) (t0_0 : Int) (t0_1 : Int) (t0_2 : List UInt8) (t0_3 : List S_impl_Term) : Option (Int × Int × (List UInt8) × (List S_impl_Term)) :=
  (loopN (p_spec_l2Copy_b1 n r_spec_l2Copy t0_3) n ((0 : Int), t0_0, t0_1, t0_2, ([] : List S_impl_Term))).bind fun (v4_6, v12_7, w3_8, w3_9, w3_10, w3_11) => some (w3_8, w3_9, w3_10, w3_11)
theorem step_spec_l2Copy {n : Nat} {r_spec_l2Copy : Int → Int → (List UInt8) → (List S_impl_Term) → Option (Int × Int × (List UInt8) × (List S_impl_Term))} (ih_spec_l2Copy : B_spec_l2Copy r_spec_l2Copy) : B_spec_l2Copy (s_spec_l2Copy n r_spec_l2Copy) := by
 intro t0_0 t0_1 t0_2 t0_3 r h
 unfold s_spec_l2Copy at h
 refine bF Try.func66 rfl rfl ?_
 refine cRs ?_
 refine xBx rfl ?_
 refine xAz [.int .i64 0, .int .i64 0, .str [], .sl ([].map rS_impl_Term)] rfl ?_
 refine oRs ?_
 refine xLd rfl ?_
 refine xAz [.int .i64 0, .int .i64 0, .str [], .sl ([].map rS_impl_Term)] rfl ?_
 refine xSt rfl ?_
 refine oRs ?_
 refine wLt' (L := ([] : List S_impl_Term)) (f := rS_impl_Term) rfl rfl rfl rfl rfl rfl rfl ?_
 refine xFd rfl ?_
 refine xSt rfl ?_
 refine oNl ?_
 refine cSq ?_
 refine cRs ?_
 refine xAs rfl ?_
 refine oNl ?_
 refine cLp h [(4, 4), (8, 25)] [(3, 3)] (fun (v4_1, w3_2, w3_3, w3_4, w3_5) => ([(4, I64 v4_1)], [(3, [.int .i64 w3_2, .int .i64 w3_3, .str w3_4, .sl (w3_5.map rS_impl_Term)])])) (fun (v4_6, v12_7, w3_8, w3_9, w3_10, w3_11) => (.e 0, [(4, I64 v4_6), (12, Bo v12_7)], [(3, [.int .i64 w3_8, .int .i64 w3_9, .str w3_10, .sl (w3_11.map rS_impl_Term)])])) rfl (fun st _ h => ?_) (fun q h => ?_)
 obtain ⟨v4_1, w3_2, w3_3, w3_4, w3_5⟩ := st
 unfold p_spec_l2Copy_b1 at h
 refine cSq ?_
 refine cRs ?_
 refine xMv rfl ?_
 refine xFd rfl ?_
 refine xLd rfl ?_
 refine xLn rfl ?_
 refine xLt rfl ?_
 refine oNl ?_
 refine cIf h rfl (fun q12 h => ?_) (fun q12 h => ?_)
 refine cSk ?_
 refine cSq ?_
 refine cBk ?_
 refine cRg ?_
 refine xFd rfl ?_
 refine xLd rfl ?_
 refine xFd rfl ?_
 refine xLd rfl ?_
 refine xMv rfl ?_
 refine xIx h rS_impl_Term_eq rfl (fun e20_13 h => ?_)
 refine xLd rfl ?_
 refine xC0 h (ih_spec_l2Copy ·) rfl (fun c22_14 h => ?_)
 refine wLt' (L := ([S_impl_Term.mk c22_14.1 c22_14.2.1 c22_14.2.2.1 c22_14.2.2.2] : List S_impl_Term)) (f := rS_impl_Term) rfl rfl rfl rfl (by simp only [List.map, rS_impl_Term_mk] <;> rfl) rfl rfl ?_
 refine wAp (f := rS_impl_Term) h rfl rfl rfl rfl rfl rfl rfl rfl rfl (fun a => by rw [rS_impl_Term_eq]; rfl) rfl (fun v24_15 h => ?_)
 refine xFd rfl ?_
 refine xSt rfl ?_
 refine oNl ?_
 refine cRg ?_
 refine xMv rfl ?_
 refine xAdd rfl ?_
 refine xAs rfl ?_
 refine oNl ?_
 exact eL h rfl
 refine cEx ?_
 exact eX h rfl
 obtain ⟨v4_6, v12_7, w3_8, w3_9, w3_10, w3_11⟩ := q
 refine cRs ?_
 refine xLd rfl ?_
 refine xSt rfl ?_
 refine oNl ?_
 refine cRt ?_
 cases h
 exact eR rfl rfl rfl rfl
def q_spec_l2Copy : Nat → (Int → Int → (List UInt8) → (List S_impl_Term) → Option (Int × Int × (List UInt8) × (List S_impl_Term)))
  | 0 => (fun _ _ _ _ => none)
  | n + 1 => s_spec_l2Copy n (q_spec_l2Copy n)
def p_spec_l2Copy (n : Nat) : Int → Int → (List UInt8) → (List S_impl_Term) → Option (Int × Int × (List UInt8) × (List S_impl_Term)) := q_spec_l2Copy n
theorem bigs_spec_l2Copy (n : Nat) : B_spec_l2Copy (p_spec_l2Copy n) := by
  induction n with
  | zero => exact (fun h => nomatch h)
  | succ n ih => exact step_spec_l2Copy (n := n) ih
theorem big_spec_l2Copy {n : Nat} : B_spec_l2Copy (p_spec_l2Copy n) := (bigs_spec_l2Copy n)
theorem p_spec_l2Copy_succ (n : Nat) : p_spec_l2Copy (n + 1) = s_spec_l2Copy n (p_spec_l2Copy n) := rfl
abbrev B_spec_l2CopyAll (p : (List S_impl_Term) → Option ((List S_impl_Term))) : Prop := ∀ {t0_0 : List S_impl_Term} {r : (List S_impl_Term)}, p t0_0 = some r → Big Try.prog τ An (.fn 116 [.one (.c (.sl (t0_0.map rS_impl_Term)))] [] (.one (.c (.sl (r.map rS_impl_Term)))) none [] none)
def p_spec_l2CopyAll_b1 (n : Nat) (t0_0 : List S_impl_Term) : ((List S_impl_Term) × Int) → Option (((List S_impl_Term) × Int) ⊕ (((List S_impl_Term) × Int × Bool)))
  | (v3_1, v4_2) => bif decide (v4_2 < (t0_0.length : Int)) then (ix t0_0 v4_2).bind fun e15_7 => (p_spec_l2Copy n e15_7.f0 e15_7.f1 e15_7.f2 e15_7.f3).bind fun c17_8 => (app2 56 v3_1 ([S_impl_Term.mk c17_8.1 c17_8.2.1 c17_8.2.2.1 c17_8.2.2.2] : List S_impl_Term)).bind fun v19_9 => some (.inl (v19_9, (IntKind.wrap .i64 (v4_2 + (1 : Int))))) else some (.inr (v3_1, v4_2, false))
def p_spec_l2CopyAll (n : Nat) (t0_0 : List S_impl_Term) : Option ((List S_impl_Term)) :=
  (loopN (p_spec_l2CopyAll_b1 n t0_0) n (([] : List S_impl_Term), (0 : Int))).bind fun (v3_3, v4_4, v9_5) => some v3_3
theorem big_spec_l2CopyAll {n : Nat} : B_spec_l2CopyAll (p_spec_l2CopyAll n) := by
 intro t0_0 r h
 unfold p_spec_l2CopyAll at h
 refine bF Try.func116 rfl rfl ?_
 refine cRs ?_
 refine wAe (Li rS_impl_Term []) rfl rfl rfl rfl ?_
 refine oRs ?_
 refine wLt' (L := ([] : List S_impl_Term)) (f := rS_impl_Term) rfl rfl rfl rfl rfl rfl rfl ?_
 refine xAs rfl ?_
 refine oNl ?_
 refine cSq ?_
 refine cRs ?_
 refine xAs rfl ?_
 refine oNl ?_
 refine cLp h [(3, 4), (6, 19)] [] (fun (v3_1, v4_2) => ([(3, Li rS_impl_Term v3_1), (4, I64 v4_2)], [])) (fun (v3_3, v4_4, v9_5) => (.e 0, [(3, Li rS_impl_Term v3_3), (4, I64 v4_4), (9, Bo v9_5)], [])) rfl (fun st _ h => ?_) (fun q h => ?_)
 obtain ⟨v3_1, v4_2⟩ := st
 unfold p_spec_l2CopyAll_b1 at h
 refine cSq ?_
 refine cRs ?_
 refine xMv rfl ?_
 refine xMv rfl ?_
 refine xLn rfl ?_
 refine xLt rfl ?_
 refine oNl ?_
 refine cIf h rfl (fun q6 h => ?_) (fun q6 h => ?_)
 refine cSk ?_
 refine cSq ?_
 refine cBk ?_
 refine cRg ?_
 refine xMv rfl ?_
 refine xMv rfl ?_
 refine xMv rfl ?_
 refine xIx h rS_impl_Term_eq rfl (fun e15_7 h => ?_)
 refine xLd rfl ?_
 refine xC0 h (big_spec_l2Copy ·) rfl (fun c17_8 h => ?_)
 refine wLt' (L := ([S_impl_Term.mk c17_8.1 c17_8.2.1 c17_8.2.2.1 c17_8.2.2.2] : List S_impl_Term)) (f := rS_impl_Term) rfl rfl rfl rfl (by simp only [List.map, rS_impl_Term_mk] <;> rfl) rfl rfl ?_
 refine wAp (f := rS_impl_Term) h rfl rfl rfl rfl rfl rfl rfl rfl rfl (fun a => by rw [rS_impl_Term_eq]; rfl) rfl (fun v19_9 h => ?_)
 refine xAs rfl ?_
 refine oNl ?_
 refine cRg ?_
 refine xMv rfl ?_
 refine xAdd rfl ?_
 refine xAs rfl ?_
 refine oNl ?_
 exact eL h rfl
 refine cEx ?_
 exact eX h rfl
 obtain ⟨v3_3, v4_4, v9_5⟩ := q
 refine cRs ?_
 refine xMv rfl ?_
 refine xAs rfl ?_
 refine oNl ?_
 refine cRt ?_
 cases h
 exact eR rfl rfl rfl rfl
abbrev B_spec_l13Copy (p : Int → (List UInt8) → (List UInt8) → Int → Int → Int → (List UInt8) → (List S_impl_Term) → (List S_impl_Term) → Option (Int × (List UInt8) × (List UInt8) × Int × Int × Int × (List UInt8) × (List S_impl_Term) × (List S_impl_Term))) : Prop := ∀ {t0_0 : Int} {t0_1 t0_2 : List UInt8} {t0_3 t0_4 t0_5 : Int} {t0_6 : List UInt8} {t0_7 t0_8 : List S_impl_Term} {r : Int × (List UInt8) × (List UInt8) × Int × Int × Int × (List UInt8) × (List S_impl_Term) × (List S_impl_Term)}, p t0_0 t0_1 t0_2 t0_3 t0_4 t0_5 t0_6 t0_7 t0_8 = some r → Big Try.prog τ An (.fn 85 [.one (.ag [.int .i64 t0_0, .str t0_1, .str t0_2, .int .i64 t0_3, .int .i64 t0_4, .int .i64 t0_5, .str t0_6, .sl (t0_7.map rS_impl_Term), .sl (t0_8.map rS_impl_Term)])] [] (.one (.ag [.int .i64 r.1, .str r.2.1, .str r.2.2.1, .int .i64 r.2.2.2.1, .int .i64 r.2.2.2.2.1, .int .i64 r.2.2.2.2.2.1, .str r.2.2.2.2.2.2.1, .sl (r.2.2.2.2.2.2.2.1.map rS_impl_Term), .sl (r.2.2.2.2.2.2.2.2.map rS_impl_Term)])) none [] none)
def p_spec_l13Copy (n : Nat) (t0_0 : Int) (t0_1 : List UInt8) (t0_2 : List UInt8) (t0_3 : Int) (t0_4 : Int) (t0_5 : Int) (t0_6 : List UInt8) (t0_7 : List S_impl_Term) (t0_8 : List S_impl_Term) : Option (Int × (List UInt8) × (List UInt8) × Int × Int × Int × (List UInt8) × (List S_impl_Term) × (List S_impl_Term)) :=
  (p_spec_l2Copy n t0_4 t0_5 t0_6 t0_7).bind fun c5_1 => (p_spec_l2CopyAll n t0_8).bind fun c9_2 => some (t0_0, t0_1, t0_2, t0_3, c5_1.1, c5_1.2.1, c5_1.2.2.1, c5_1.2.2.2, c9_2)
theorem big_spec_l13Copy {n : Nat} : B_spec_l13Copy (p_spec_l13Copy n) := by
 intro t0_0 t0_1 t0_2 t0_3 t0_4 t0_5 t0_6 t0_7 t0_8 r h
 unfold p_spec_l13Copy at h
 refine bF Try.func85 rfl rfl ?_
 refine cRs ?_
 refine xBx rfl ?_
 refine xAz [.int .i64 0, .str [], .str [], .int .i64 0, .int .i64 0, .int .i64 0, .str [], .sl ([].map rS_impl_Term), .sl ([].map rS_impl_Term)] rfl ?_
 refine oRs ?_
 refine xFd rfl ?_
 refine xLd rfl ?_
 refine xC0 h (big_spec_l2Copy ·) rfl (fun c5_1 h => ?_)
 refine xFd rfl ?_
 refine xSt rfl ?_
 refine oRs ?_
 refine xFd rfl ?_
 refine xLd rfl ?_
 refine xC0 h (big_spec_l2CopyAll ·) rfl (fun c9_2 h => ?_)
 refine xFd rfl ?_
 refine xSt rfl ?_
 refine oRs ?_
 refine xLd rfl ?_
 refine xSt rfl ?_
 refine oNl ?_
 refine cRt ?_
 cases h
 exact eR rfl rfl rfl rfl
abbrev B_spec_PutWord (p : Int → (List UInt8) → (List UInt8) → Int → Int → Int → (List UInt8) → (List S_impl_Term) → (List S_impl_Term) → Int → Int → (List UInt8) → (List S_impl_Term) → Option (Int × (List UInt8) × (List UInt8) × Int × Int × Int × (List UInt8) × (List S_impl_Term) × (List S_impl_Term) × Bool)) : Prop := ∀ {t0_0 : Int} {t0_1 t0_2 : List UInt8} {t0_3 t0_4 t0_5 : Int} {t0_6 : List UInt8} {t0_7 t0_8 : List S_impl_Term} {t1_0 t1_1 : Int} {t1_2 : List UInt8} {t1_3 : List S_impl_Term} {r : Int × (List UInt8) × (List UInt8) × Int × Int × Int × (List UInt8) × (List S_impl_Term) × (List S_impl_Term) × Bool}, p t0_0 t0_1 t0_2 t0_3 t0_4 t0_5 t0_6 t0_7 t0_8 t1_0 t1_1 t1_2 t1_3 = some r → Big Try.prog τ An (.fn 41 [.one (.ag [.int .i64 t0_0, .str t0_1, .str t0_2, .int .i64 t0_3, .int .i64 t0_4, .int .i64 t0_5, .str t0_6, .sl (t0_7.map rS_impl_Term), .sl (t0_8.map rS_impl_Term)]), .one (.ag [.int .i64 t1_0, .int .i64 t1_1, .str t1_2, .sl (t1_3.map rS_impl_Term)])] [] (.tup [.ag [.int .i64 r.1, .str r.2.1, .str r.2.2.1, .int .i64 r.2.2.2.1, .int .i64 r.2.2.2.2.1, .int .i64 r.2.2.2.2.2.1, .str r.2.2.2.2.2.2.1, .sl (r.2.2.2.2.2.2.2.1.map rS_impl_Term), .sl (r.2.2.2.2.2.2.2.2.1.map rS_impl_Term)], .c (.bool r.2.2.2.2.2.2.2.2.2)]) none [] none)
def p_spec_PutWord (n : Nat) (t0_0 : Int) (t0_1 : List UInt8) (t0_2 : List UInt8) (t0_3 : Int) (t0_4 : Int) (t0_5 : Int) (t0_6 : List UInt8) (t0_7 : List S_impl_Term) (t0_8 : List S_impl_Term) (t1_0 : Int) (t1_1 : Int) (t1_2 : List UInt8) (t1_3 : List S_impl_Term) : Option (Int × (List UInt8) × (List UInt8) × Int × Int × Int × (List UInt8) × (List S_impl_Term) × (List S_impl_Term) × Bool) :=
  (p_spec_l13Copy n t0_0 t0_1 t0_2 t0_3 t0_4 t0_5 t0_6 t0_7 t0_8).bind fun c8_1 => ((p_spec_WorkerOk n t0_0 t0_1 t0_2 t0_3 t0_4 t0_5 t0_6 t0_7 t0_8).bind fun c10_3 => bif !c10_3 then some true else (p_spec_TermOk n t1_0 t1_1 t1_2 t1_3).bind fun c14_5 => bif !c14_5 then some true else some (decide ((t0_8.length : Int) = (20 : Int)))).bind fun v22_2 => bif v22_2 then some (c8_1.1, c8_1.2.1, c8_1.2.2.1, c8_1.2.2.2.1, c8_1.2.2.2.2.1, c8_1.2.2.2.2.2.1, c8_1.2.2.2.2.2.2.1, c8_1.2.2.2.2.2.2.2.1, c8_1.2.2.2.2.2.2.2.2, false) else (p_spec_l2Copy n t1_0 t1_1 t1_2 t1_3).bind fun c27_8 => (app2 56 c8_1.2.2.2.2.2.2.2.2 ([S_impl_Term.mk c27_8.1 c27_8.2.1 c27_8.2.2.1 c27_8.2.2.2] : List S_impl_Term)).bind fun v29_9 => some (c8_1.1, c8_1.2.1, c8_1.2.2.1, c8_1.2.2.2.1, c8_1.2.2.2.2.1, c8_1.2.2.2.2.2.1, c8_1.2.2.2.2.2.2.1, c8_1.2.2.2.2.2.2.2.1, v29_9, true)
theorem big_spec_PutWord {n : Nat} : B_spec_PutWord (p_spec_PutWord n) := by
 intro t0_0 t0_1 t0_2 t0_3 t0_4 t0_5 t0_6 t0_7 t0_8 t1_0 t1_1 t1_2 t1_3 r h
 unfold p_spec_PutWord at h
 refine bF Try.func41 rfl rfl ?_
 refine cRs ?_
 refine xBx rfl ?_
 refine xBx rfl ?_
 refine xAz [.int .i64 0, .str [], .str [], .int .i64 0, .int .i64 0, .int .i64 0, .str [], .sl ([].map rS_impl_Term), .sl ([].map rS_impl_Term)] rfl ?_
 refine xAs rfl ?_
 refine oRs ?_
 refine xLd rfl ?_
 refine xC0 h (big_spec_l13Copy ·) rfl (fun c8_1 h => ?_)
 refine xAz [.int .i64 0, .str [], .str [], .int .i64 0, .int .i64 0, .int .i64 0, .str [], .sl ([].map rS_impl_Term), .sl ([].map rS_impl_Term)] rfl ?_
 refine xSt rfl ?_
 refine oNl ?_
 refine cSq ?_
 refine cRs ?_
 refine oJn h [(9, 22)] [] (fun v22_2 => (.n, [(22, Bo v22_2)], [])) (fun _ h => ?_) (fun v22_2 h => ?_)
 refine xLd rfl ?_
 refine xC0 h (big_spec_WorkerOk ·) rfl (fun c10_3 h => ?_)
 refine xNot rfl ?_
 refine xMv rfl ?_
 refine oIf 12 h rfl (fun q4 h => ?_) (fun q4 h => ?_)
 refine wSk rfl ?_
 refine wSk rfl ?_
 refine wSk rfl ?_
 refine xPk rfl ?_
 refine xMv rfl ?_
 refine wSk rfl ?_
 refine wSk rfl ?_
 refine wSk rfl ?_
 refine wSk rfl ?_
 refine xPk rfl ?_
 refine oNl ?_
 exact eJ h rfl
 refine xLd rfl ?_
 refine xC0 h (big_spec_TermOk ·) rfl (fun c14_5 h => ?_)
 refine xNot rfl ?_
 refine xPk rfl ?_
 refine xMv rfl ?_
 refine oIf 17 h rfl (fun q6 h => ?_) (fun q6 h => ?_)
 refine wSk rfl ?_
 refine wSk rfl ?_
 refine wSk rfl ?_
 refine wSk rfl ?_
 refine xPk rfl ?_
 refine oNl ?_
 exact eJ h rfl
 refine xFd rfl ?_
 refine xLd rfl ?_
 refine xLn rfl ?_
 refine xEq rfl ?_
 refine xPk rfl ?_
 refine oNl ?_
 exact eJ h rfl
 refine cIf h rfl (fun q7 h => ?_) (fun q7 h => ?_)
 refine cRs ?_
 refine xLd rfl ?_
 refine xSt rfl ?_
 refine xAs rfl ?_
 refine oNl ?_
 refine cRt ?_
 cases h
 exact eR rfl rfl rfl rfl
 refine cSk ?_
 refine cRs ?_
 refine xFd rfl ?_
 refine xLd rfl ?_
 refine xLd rfl ?_
 refine xC0 h (big_spec_l2Copy ·) rfl (fun c27_8 h => ?_)
 refine wLt' (L := ([S_impl_Term.mk c27_8.1 c27_8.2.1 c27_8.2.2.1 c27_8.2.2.2] : List S_impl_Term)) (f := rS_impl_Term) rfl rfl rfl rfl (by simp only [List.map, rS_impl_Term_mk] <;> rfl) rfl rfl ?_
 refine wAp (f := rS_impl_Term) h rfl rfl rfl rfl rfl rfl rfl rfl rfl (fun a => by rw [rS_impl_Term_eq]; rfl) rfl (fun v29_9 h => ?_)
 refine xFd rfl ?_
 refine xSt rfl ?_
 refine oRs ?_
 refine xLd rfl ?_
 refine xSt rfl ?_
 refine xAs rfl ?_
 refine oNl ?_
 refine cRt ?_
 cases h
 exact eR rfl rfl rfl rfl
abbrev B_impl_inRange (p : Int → Int → Int → Option (Bool)) : Prop := ∀ {t0_0 t1_0 t2_0 : Int} {r : Bool}, p t0_0 t1_0 t2_0 = some r → Big Try.prog τ An (.fn 57 [.one (.c (.int .i64 t0_0)), .one (.c (.int .i64 t1_0)), .one (.c (.int .i64 t2_0))] [] (.one (.c (.bool r))) none [] none)
def p_impl_inRange (n : Nat) (t0_0 : Int) (t1_0 : Int) (t2_0 : Int) : Option (Bool) :=
  (bif decide (t1_0 ≤ t0_0) then some (decide (t0_0 ≤ t2_0)) else some false).bind fun v6_1 => some v6_1
theorem big_impl_inRange {n : Nat} : B_impl_inRange (p_impl_inRange n) := by
 intro t0_0 t1_0 t2_0 r h
 unfold p_impl_inRange at h
 refine bF Try.func57 rfl rfl ?_
 refine cRs ?_
 refine xAs rfl ?_
 refine oRs ?_
 refine oJn h [(6, 14)] [] (fun v6_1 => (.n, [(6, Bo v6_1)], [])) (fun _ h => ?_) (fun v6_1 h => ?_)
 refine xMv rfl ?_
 refine xMv rfl ?_
 refine xGe rfl ?_
 refine xMv rfl ?_
 refine oIf 10 h rfl (fun q2 h => ?_) (fun q2 h => ?_)
 refine xMv rfl ?_
 refine xMv rfl ?_
 refine xLe rfl ?_
 refine xPk rfl ?_
 refine xAs rfl ?_
 refine oNl ?_
 exact eJ h rfl
 refine wSk rfl ?_
 refine wSk rfl ?_
 refine wSk rfl ?_
 refine xPk rfl ?_
 refine xAs rfl ?_
 refine oNl ?_
 exact eJ h rfl
 refine cRt ?_
 cases h
 exact eR rfl rfl rfl rfl
abbrev B_impl_isSmall (p : Int → Option (Bool)) : Prop := ∀ {t0_0 : Int} {r : Bool}, p t0_0 = some r → Big Try.prog τ An (.fn 108 [.one (.c (.int .u8 t0_0))] [] (.one (.c (.bool r))) none [] none)
def p_impl_isSmall (n : Nat) (t0_0 : Int) : Option (Bool) :=
  (bif decide ((97 : Int) ≤ t0_0) then some (decide (t0_0 ≤ (122 : Int))) else some false).bind fun v2_1 => some v2_1
theorem big_impl_isSmall {n : Nat} : B_impl_isSmall (p_impl_isSmall n) := by
 intro t0_0 r h
 unfold p_impl_isSmall at h
 refine bF Try.func108 rfl rfl ?_
 refine cRs ?_
 refine xAs rfl ?_
 refine oRs ?_
 refine oJn h [(2, 8)] [] (fun v2_1 => (.n, [(2, Bo v2_1)], [])) (fun _ h => ?_) (fun v2_1 h => ?_)
 refine xMv rfl ?_
 refine xGe rfl ?_
 refine xMv rfl ?_
 refine oIf 5 h rfl (fun q2 h => ?_) (fun q2 h => ?_)
 refine xMv rfl ?_
 refine xLe rfl ?_
 refine xPk rfl ?_
 refine xAs rfl ?_
 refine oNl ?_
 exact eJ h rfl
 refine wSk rfl ?_
 refine wSk rfl ?_
 refine xPk rfl ?_
 refine xAs rfl ?_
 refine oNl ?_
 exact eJ h rfl
 refine cRt ?_
 cases h
 exact eR rfl rfl rfl rfl
abbrev B_impl_isFigure (p : Int → Option (Bool)) : Prop := ∀ {t0_0 : Int} {r : Bool}, p t0_0 = some r → Big Try.prog τ An (.fn 109 [.one (.c (.int .u8 t0_0))] [] (.one (.c (.bool r))) none [] none)
def p_impl_isFigure (n : Nat) (t0_0 : Int) : Option (Bool) :=
  (bif decide ((48 : Int) ≤ t0_0) then some (decide (t0_0 ≤ (57 : Int))) else some false).bind fun v2_1 => some v2_1
theorem big_impl_isFigure {n : Nat} : B_impl_isFigure (p_impl_isFigure n) := by
 intro t0_0 r h
 unfold p_impl_isFigure at h
 refine bF Try.func109 rfl rfl ?_
 refine cRs ?_
 refine xAs rfl ?_
 refine oRs ?_
 refine oJn h [(2, 8)] [] (fun v2_1 => (.n, [(2, Bo v2_1)], [])) (fun _ h => ?_) (fun v2_1 h => ?_)
 refine xMv rfl ?_
 refine xGe rfl ?_
 refine xMv rfl ?_
 refine oIf 5 h rfl (fun q2 h => ?_) (fun q2 h => ?_)
 refine xMv rfl ?_
 refine xLe rfl ?_
 refine xPk rfl ?_
 refine xAs rfl ?_
 refine oNl ?_
 exact eJ h rfl
 refine wSk rfl ?_
 refine wSk rfl ?_
 refine xPk rfl ?_
 refine xAs rfl ?_
 refine oNl ?_
 exact eJ h rfl
 refine cRt ?_
 cases h
 exact eR rfl rfl rfl rfl
abbrev B_impl_AtomOk (p : (List UInt8) → Option (Bool)) : Prop := ∀ {t0_0 : List UInt8} {r : Bool}, p t0_0 = some r → Big Try.prog τ An (.fn 72 [.one (.c (.str t0_0))] [] (.one (.c (.bool r))) none [] none)
def p_impl_AtomOk_b1 (n : Nat) (t0_0 : List UInt8) : (Int) → Option ((Int) ⊕ ((Bool) ⊕ (Int × Bool)))
  | v3_1 => bif decide (v3_1 < (t0_0.length : Int)) then ((ixs t0_0 v3_1).bind fun e12_7 => (p_impl_isSmall n e12_7).bind fun c13_8 => bif !c13_8 then bif decide (v3_1 = (0 : Int)) then some true else (ixs t0_0 v3_1).bind fun e21_11 => (p_impl_isFigure n e21_11).bind fun c22_12 => bif !c22_12 then (ixs t0_0 v3_1).bind fun e27_14 => some (!decide (e27_14 = (95 : Int))) else some false else some false).bind fun v31_6 => bif v31_6 then some (.inr (.inl false)) else some (.inl (IntKind.wrap .i64 (v3_1 + (1 : Int)))) else some (.inr (.inr (v3_1, false)))
def p_impl_AtomOk (n : Nat) (t0_0 : List UInt8) : Option (Bool) :=
  (loopN (p_impl_AtomOk_b1 n t0_0) n (0 : Int)).bind fun q => (match q with | .inl v2_2 => some v2_2 | .inr (v3_3, v7_4) => (p_impl_inRange n (t0_0.length : Int) (1 : Int) (20 : Int)).bind fun c34_16 => some c34_16)
theorem big_impl_AtomOk {n : Nat} : B_impl_AtomOk (p_impl_AtomOk n) := by
 intro t0_0 r h
 unfold p_impl_AtomOk at h
 refine bF Try.func72 rfl rfl ?_
 refine cRs ?_
 refine xAs rfl ?_
 refine oNl ?_
 refine cSq ?_
 refine cRs ?_
 refine xAs rfl ?_
 refine oNl ?_
 refine cLp h [(2, 31)] [] (fun v3_1 => ([(3, I64 v3_1)], [])) (fun q => match q with | .inl v2_2 => (.r, [(2, Bo v2_2)], []) | .inr (v3_3, v7_4) => (.e 0, [(3, I64 v3_3), (7, Bo v7_4)], [])) rfl (fun v3_1 _ h => ?_) (fun q h => ?_)
 unfold p_impl_AtomOk_b1 at h
 refine cSq ?_
 refine cRs ?_
 refine xMv rfl ?_
 refine xMv rfl ?_
 refine xLs rfl ?_
 refine xLt rfl ?_
 refine oNl ?_
 refine cIf h rfl (fun q5 h => ?_) (fun q5 h => ?_)
 refine cSk ?_
 refine cSq ?_
 refine cBk ?_
 refine cRs ?_
 refine oJn h [(10, 31)] [] (fun v31_6 => (.n, [(31, Bo v31_6)], [])) (fun _ h => ?_) (fun v31_6 h => ?_)
 refine xMv rfl ?_
 refine xMv rfl ?_
 refine wIxs h rfl rfl rfl rfl rfl (fun e12_7 h => ?_)
 refine xC0 h (big_impl_isSmall ·) rfl (fun c13_8 h => ?_)
 refine xNot rfl ?_
 refine xMv rfl ?_
 refine oIf 15 h rfl (fun q9 h => ?_) (fun q9 h => ?_)
 refine xMv rfl ?_
 refine xEq rfl ?_
 refine xMv rfl ?_
 refine oIf 18 h rfl (fun q10 h => ?_) (fun q10 h => ?_)
 refine wSk rfl ?_
 refine wSk rfl ?_
 refine wSk rfl ?_
 refine wSk rfl ?_
 refine wSk rfl ?_
 refine wSk rfl ?_
 refine wSk rfl ?_
 refine wSk rfl ?_
 refine wSk rfl ?_
 refine wSk rfl ?_
 refine wSk rfl ?_
 refine xPk rfl ?_
 refine xPk rfl ?_
 refine oNl ?_
 exact eJ h rfl
 refine xMv rfl ?_
 refine xMv rfl ?_
 refine wIxs h rfl rfl rfl rfl rfl (fun e21_11 h => ?_)
 refine xC0 h (big_impl_isFigure ·) rfl (fun c22_12 h => ?_)
 refine xNot rfl ?_
 refine xMv rfl ?_
 refine oIf 24 h rfl (fun q13 h => ?_) (fun q13 h => ?_)
 refine xMv rfl ?_
 refine xMv rfl ?_
 refine wIxs h rfl rfl rfl rfl rfl (fun e27_14 h => ?_)
 refine xNe rfl ?_
 refine xPk rfl ?_
 refine xPk rfl ?_
 refine xPk rfl ?_
 refine oNl ?_
 exact eJ h rfl
 refine wSk rfl ?_
 refine wSk rfl ?_
 refine wSk rfl ?_
 refine wSk rfl ?_
 refine xPk rfl ?_
 refine xPk rfl ?_
 refine xPk rfl ?_
 refine oNl ?_
 exact eJ h rfl
 refine wSk rfl ?_
 refine wSk rfl ?_
 refine wSk rfl ?_
 refine wSk rfl ?_
 refine wSk rfl ?_
 refine wSk rfl ?_
 refine wSk rfl ?_
 refine wSk rfl ?_
 refine wSk rfl ?_
 refine wSk rfl ?_
 refine wSk rfl ?_
 refine wSk rfl ?_
 refine wSk rfl ?_
 refine wSk rfl ?_
 refine wSk rfl ?_
 refine xPk rfl ?_
 refine oNl ?_
 exact eJ h rfl
 refine cIf h rfl (fun q15 h => ?_) (fun q15 h => ?_)
 refine cRs ?_
 refine xAs rfl ?_
 refine oNl ?_
 refine cRt ?_
 exact eXr h rfl
 refine cSk ?_
 refine cRg ?_
 refine xMv rfl ?_
 refine xAdd rfl ?_
 refine xAs rfl ?_
 refine oNl ?_
 exact eL h rfl
 refine cEx ?_
 exact eX h rfl
 rcases q with v2_2 | ⟨v3_3, v7_4⟩
 cases h
 exact eR rfl rfl rfl rfl
 refine cRs ?_
 refine xMv rfl ?_
 refine xLs rfl ?_
 refine xC0 h (big_impl_inRange ·) rfl (fun c34_16 h => ?_)
 refine xAs rfl ?_
 refine oNl ?_
 refine cRt ?_
 cases h
 exact eR rfl rfl rfl rfl
abbrev B_impl_Term_plainOk (p : Int → Int → (List UInt8) → (List S_impl_Term) → Option (Bool)) : Prop := ∀ {t0_0 t0_1 : Int} {t0_2 : List UInt8} {t0_3 : List S_impl_Term} {r : Bool}, p t0_0 t0_1 t0_2 t0_3 = some r → Big Try.prog τ An (.fn 129 [.one (.ag [.int .i64 t0_0, .int .i64 t0_1, .str t0_2, .sl (t0_3.map rS_impl_Term)])] [] (.one (.c (.bool r))) none [] none)
def p_impl_Term_plainOk (n : Nat) (t0_0 : Int) (t0_1 : Int) (t0_2 : List UInt8) (t0_3 : List S_impl_Term) : Option (Bool) :=
  bif decide (t0_0 = (1 : Int)) then ((p_impl_inRange n t0_1 ((-1000000000000) : Int) (1000000000000 : Int)).bind fun c9_3 => bif c9_3 then bif decide (t0_2 = ([] : List UInt8)) then some (decide ((t0_3.length : Int) = (0 : Int))) else some false else some false).bind fun v2_2 => some v2_2 else bif decide (t0_0 = (2 : Int)) then (bif decide (t0_1 = (0 : Int)) then (p_impl_AtomOk n t0_2).bind fun c29_9 => bif c29_9 then some (decide ((t0_3.length : Int) = (0 : Int))) else some false else some false).bind fun v2_7 => some v2_7 else bif decide (t0_0 = (3 : Int)) then ((p_impl_inRange n t0_1 (0 : Int) (1000000 : Int)).bind fun c41_13 => bif c41_13 then bif decide (t0_2 = ([] : List UInt8)) then some (decide ((t0_3.length : Int) = (0 : Int))) else some false else some false).bind fun v2_12 => some v2_12 else bif decide (t0_0 = (4 : Int)) then (bif decide (t0_1 = (0 : Int)) then bif decide (t0_2 = ([] : List UInt8)) then some (decide ((t0_3.length : Int) ≤ (20 : Int))) else some false else some false).bind fun v2_17 => some v2_17 else bif decide (t0_0 = (5 : Int)) then (bif decide (t0_1 = (0 : Int)) then bif decide (t0_2 = ([] : List UInt8)) then some (decide ((t0_3.length : Int) ≤ (60 : Int))) else some false else some false).bind fun v2_21 => some v2_21 else some false
theorem big_impl_Term_plainOk {n : Nat} : B_impl_Term_plainOk (p_impl_Term_plainOk n) := by
 intro t0_0 t0_1 t0_2 t0_3 r h
 unfold p_impl_Term_plainOk at h
 refine bF Try.func129 rfl rfl ?_
 refine cRs ?_
 refine xBx rfl ?_
 refine xAs rfl ?_
 refine oNl ?_
 refine cSq ?_
 refine cRs ?_
 refine xFd rfl ?_
 refine xLd rfl ?_
 refine oNl ?_
 refine cBk ?_
 refine cRs ?_
 refine xEq rfl ?_
 refine xAs rfl ?_
 refine oNl ?_
 refine cIf h rfl (fun q1 h => ?_) (fun q1 h => ?_)
 refine cRs ?_
 refine oJn h [(2, 2), (7, 20)] [] (fun v2_2 => (.n, [(2, Bo v2_2)], [])) (fun _ h => ?_) (fun v2_2 h => ?_)
 refine xFd rfl ?_
 refine xLd rfl ?_
 refine xC0 h (big_impl_inRange ·) rfl (fun c9_3 h => ?_)
 refine xMv rfl ?_
 refine oIf 10 h rfl (fun q4 h => ?_) (fun q4 h => ?_)
 refine xFd rfl ?_
 refine xLd rfl ?_
 refine xEs rfl ?_
 refine xPk rfl ?_
 refine xMv rfl ?_
 refine oIf 15 h rfl (fun q5 h => ?_) (fun q5 h => ?_)
 refine xFd rfl ?_
 refine xLd rfl ?_
 refine xLn rfl ?_
 refine xEq rfl ?_
 refine xPk rfl ?_
 refine xAs rfl ?_
 refine oNl ?_
 exact eJ h rfl
 refine wSk rfl ?_
 refine wSk rfl ?_
 refine wSk rfl ?_
 refine wSk rfl ?_
 refine xPk rfl ?_
 refine xAs rfl ?_
 refine oNl ?_
 exact eJ h rfl
 refine wSk rfl ?_
 refine wSk rfl ?_
 refine wSk rfl ?_
 refine xPk rfl ?_
 refine xMv rfl ?_
 refine wSk rfl ?_
 refine wSk rfl ?_
 refine wSk rfl ?_
 refine wSk rfl ?_
 refine xPk rfl ?_
 refine xAs rfl ?_
 refine oNl ?_
 exact eJ h rfl
 refine cRt ?_
 cases h
 exact eR rfl rfl rfl rfl
 refine cRs ?_
 refine xEq rfl ?_
 refine xAs rfl ?_
 refine oNl ?_
 refine cIf h rfl (fun q6 h => ?_) (fun q6 h => ?_)
 refine cRs ?_
 refine oJn h [(2, 2), (23, 36)] [] (fun v2_7 => (.n, [(2, Bo v2_7)], [])) (fun _ h => ?_) (fun v2_7 h => ?_)
 refine xFd rfl ?_
 refine xLd rfl ?_
 refine xEq rfl ?_
 refine xMv rfl ?_
 refine oIf 26 h rfl (fun q8 h => ?_) (fun q8 h => ?_)
 refine xFd rfl ?_
 refine xLd rfl ?_
 refine xC0 h (big_impl_AtomOk ·) rfl (fun c29_9 h => ?_)
 refine xPk rfl ?_
 refine xMv rfl ?_
 refine oIf 31 h rfl (fun q10 h => ?_) (fun q10 h => ?_)
 refine xFd rfl ?_
 refine xLd rfl ?_
 refine xLn rfl ?_
 refine xEq rfl ?_
 refine xPk rfl ?_
 refine xAs rfl ?_
 refine oNl ?_
 exact eJ h rfl
 refine wSk rfl ?_
 refine wSk rfl ?_
 refine wSk rfl ?_
 refine wSk rfl ?_
 refine xPk rfl ?_
 refine xAs rfl ?_
 refine oNl ?_
 exact eJ h rfl
 refine wSk rfl ?_
 refine wSk rfl ?_
 refine wSk rfl ?_
 refine xPk rfl ?_
 refine xMv rfl ?_
 refine wSk rfl ?_
 refine wSk rfl ?_
 refine wSk rfl ?_
 refine wSk rfl ?_
 refine xPk rfl ?_
 refine xAs rfl ?_
 refine oNl ?_
 exact eJ h rfl
 refine cRt ?_
 cases h
 exact eR rfl rfl rfl rfl
 refine cRs ?_
 refine xEq rfl ?_
 refine xAs rfl ?_
 refine oNl ?_
 refine cIf h rfl (fun q11 h => ?_) (fun q11 h => ?_)
 refine cRs ?_
 refine oJn h [(2, 2), (39, 52)] [] (fun v2_12 => (.n, [(2, Bo v2_12)], [])) (fun _ h => ?_) (fun v2_12 h => ?_)
 refine xFd rfl ?_
 refine xLd rfl ?_
 refine xC0 h (big_impl_inRange ·) rfl (fun c41_13 h => ?_)
 refine xMv rfl ?_
 refine oIf 42 h rfl (fun q14 h => ?_) (fun q14 h => ?_)
 refine xFd rfl ?_
 refine xLd rfl ?_
 refine xEs rfl ?_
 refine xPk rfl ?_
 refine xMv rfl ?_
 refine oIf 47 h rfl (fun q15 h => ?_) (fun q15 h => ?_)
 refine xFd rfl ?_
 refine xLd rfl ?_
 refine xLn rfl ?_
 refine xEq rfl ?_
 refine xPk rfl ?_
 refine xAs rfl ?_
 refine oNl ?_
 exact eJ h rfl
 refine wSk rfl ?_
 refine wSk rfl ?_
 refine wSk rfl ?_
 refine wSk rfl ?_
 refine xPk rfl ?_
 refine xAs rfl ?_
 refine oNl ?_
 exact eJ h rfl
 refine wSk rfl ?_
 refine wSk rfl ?_
 refine wSk rfl ?_
 refine xPk rfl ?_
 refine xMv rfl ?_
 refine wSk rfl ?_
 refine wSk rfl ?_
 refine wSk rfl ?_
 refine wSk rfl ?_
 refine xPk rfl ?_
 refine xAs rfl ?_
 refine oNl ?_
 exact eJ h rfl
 refine cRt ?_
 cases h
 exact eR rfl rfl rfl rfl
 refine cRs ?_
 refine xEq rfl ?_
 refine xAs rfl ?_
 refine oNl ?_
 refine cIf h rfl (fun q16 h => ?_) (fun q16 h => ?_)
 refine cRs ?_
 refine oJn h [(2, 2), (55, 68)] [] (fun v2_17 => (.n, [(2, Bo v2_17)], [])) (fun _ h => ?_) (fun v2_17 h => ?_)
 refine xFd rfl ?_
 refine xLd rfl ?_
 refine xEq rfl ?_
 refine xMv rfl ?_
 refine oIf 58 h rfl (fun q18 h => ?_) (fun q18 h => ?_)
 refine xFd rfl ?_
 refine xLd rfl ?_
 refine xEs rfl ?_
 refine xPk rfl ?_
 refine xMv rfl ?_
 refine oIf 63 h rfl (fun q19 h => ?_) (fun q19 h => ?_)
 refine xFd rfl ?_
 refine xLd rfl ?_
 refine xLn rfl ?_
 refine xLe rfl ?_
 refine xPk rfl ?_
 refine xAs rfl ?_
 refine oNl ?_
 exact eJ h rfl
 refine wSk rfl ?_
 refine wSk rfl ?_
 refine wSk rfl ?_
 refine wSk rfl ?_
 refine xPk rfl ?_
 refine xAs rfl ?_
 refine oNl ?_
 exact eJ h rfl
 refine wSk rfl ?_
 refine wSk rfl ?_
 refine wSk rfl ?_
 refine xPk rfl ?_
 refine xMv rfl ?_
 refine wSk rfl ?_
 refine wSk rfl ?_
 refine wSk rfl ?_
 refine wSk rfl ?_
 refine xPk rfl ?_
 refine xAs rfl ?_
 refine oNl ?_
 exact eJ h rfl
 refine cRt ?_
 cases h
 exact eR rfl rfl rfl rfl
 refine cRs ?_
 refine xEq rfl ?_
 refine xAs rfl ?_
 refine oNl ?_
 refine cIf h rfl (fun q20 h => ?_) (fun q20 h => ?_)
 refine cRs ?_
 refine oJn h [(2, 2), (71, 84)] [] (fun v2_21 => (.n, [(2, Bo v2_21)], [])) (fun _ h => ?_) (fun v2_21 h => ?_)
 refine xFd rfl ?_
 refine xLd rfl ?_
 refine xEq rfl ?_
 refine xMv rfl ?_
 refine oIf 74 h rfl (fun q22 h => ?_) (fun q22 h => ?_)
 refine xFd rfl ?_
 refine xLd rfl ?_
 refine xEs rfl ?_
 refine xPk rfl ?_
 refine xMv rfl ?_
 refine oIf 79 h rfl (fun q23 h => ?_) (fun q23 h => ?_)
 refine xFd rfl ?_
 refine xLd rfl ?_
 refine xLn rfl ?_
 refine xLe rfl ?_
 refine xPk rfl ?_
 refine xAs rfl ?_
 refine oNl ?_
 exact eJ h rfl
 refine wSk rfl ?_
 refine wSk rfl ?_
 refine wSk rfl ?_
 refine wSk rfl ?_
 refine xPk rfl ?_
 refine xAs rfl ?_
 refine oNl ?_
 exact eJ h rfl
 refine wSk rfl ?_
 refine wSk rfl ?_
 refine wSk rfl ?_
 refine xPk rfl ?_
 refine xMv rfl ?_
 refine wSk rfl ?_
 refine wSk rfl ?_
 refine wSk rfl ?_
 refine wSk rfl ?_
 refine xPk rfl ?_
 refine xAs rfl ?_
 refine oNl ?_
 exact eJ h rfl
 refine cRt ?_
 cases h
 exact eR rfl rfl rfl rfl
 refine cSk ?_
 refine cRs ?_
 refine xAs rfl ?_
 refine oNl ?_
 refine cRt ?_
 cases h
 exact eR rfl rfl rfl rfl
abbrev B_impl_Term_measure (p : Int → Int → (List UInt8) → (List S_impl_Term) → Int → Option (Int)) : Prop := ∀ {t0_0 t0_1 : Int} {t0_2 : List UInt8} {t0_3 : List S_impl_Term} {t1_0 : Int} {r : Int}, p t0_0 t0_1 t0_2 t0_3 t1_0 = some r → Big Try.prog τ An (.fn 110 [.one (.ag [.int .i64 t0_0, .int .i64 t0_1, .str t0_2, .sl (t0_3.map rS_impl_Term)]), .one (.c (.int .i64 t1_0))] [] (.one (.c (.int .i64 r))) none [] none)
def p_impl_Term_measure_b1 (n : Nat) (r_impl_Term_measure : Int → Int → (List UInt8) → (List S_impl_Term) → Int → Option (Int)) (t1_0 : Int) (t0_3 : List S_impl_Term) : (Int × Int) → Option ((Int × Int) ⊕ ((Int) ⊕ (Int × Int × Bool)))
  | (v5_5, v18_6) => bif decide (v18_6 < (t0_3.length : Int)) then (ix t0_3 v18_6).bind fun e20_12 => (r_impl_Term_measure e20_12.f0 e20_12.f1 e20_12.f2 e20_12.f3 (IntKind.wrap .i64 (t1_0 + (1 : Int)))).bind fun c26_13 => bif decide ((300 : Int) < (IntKind.wrap .i64 (v5_5 + c26_13))) then some (.inr (.inl (301 : Int))) else some (.inl ((IntKind.wrap .i64 (v5_5 + c26_13)), (IntKind.wrap .i64 (v18_6 + (1 : Int))))) else some (.inr (.inr (v5_5, v18_6, false)))
def s_impl_Term_measure (n : Nat) (r_impl_Term_measure : Int → Int → (List UInt8) → (List S_impl_Term) → Int → Option (Int)) (t0_0 : Int) (t0_1 : Int) (t0_2 : List UInt8) (t0_3 : List S_impl_Term) (t1_0 : Int) : Option (Int) :=
  (bif decide ((8 : Int) < t1_0) then some true else (p_impl_Term_plainOk n t0_0 t0_1 t0_2 t0_3).bind fun c12_3 => some (!c12_3)).bind fun v14_1 => bif v14_1 then some (301 : Int) else (loopN (p_impl_Term_measure_b1 n r_impl_Term_measure t1_0 t0_3) n ((1 : Int), (0 : Int))).bind fun q => (match q with | .inl v4_7 => some v4_7 | .inr (v5_8, v18_9, v19_10) => some v5_8)
theorem step_impl_Term_measure {n : Nat} {r_impl_Term_measure : Int → Int → (List UInt8) → (List S_impl_Term) → Int → Option (Int)} (ih_impl_Term_measure : B_impl_Term_measure r_impl_Term_measure) : B_impl_Term_measure (s_impl_Term_measure n r_impl_Term_measure) := by
 intro t0_0 t0_1 t0_2 t0_3 t1_0 r h
 unfold s_impl_Term_measure at h
 refine bF Try.func110 rfl rfl ?_
 refine cRs ?_
 refine xBx rfl ?_
 refine xAs rfl ?_
 refine oNl ?_
 refine cSq ?_
 refine cRs ?_
 refine oJn h [(8, 14)] [] (fun v14_1 => (.n, [(14, Bo v14_1)], [])) (fun _ h => ?_) (fun v14_1 h => ?_)
 refine xMv rfl ?_
 refine xGt rfl ?_
 refine xMv rfl ?_
 refine oIf 10 h rfl (fun q2 h => ?_) (fun q2 h => ?_)
 refine wSk rfl ?_
 refine wSk rfl ?_
 refine wSk rfl ?_
 refine xPk rfl ?_
 refine oNl ?_
 exact eJ h rfl
 refine xLd rfl ?_
 refine xC0 h (big_impl_Term_plainOk ·) rfl (fun c12_3 h => ?_)
 refine xNot rfl ?_
 refine xPk rfl ?_
 refine oNl ?_
 exact eJ h rfl
 refine cIf h rfl (fun q4 h => ?_) (fun q4 h => ?_)
 refine cRs ?_
 refine xAs rfl ?_
 refine oNl ?_
 refine cRt ?_
 cases h
 exact eR rfl rfl rfl rfl
 refine cSk ?_
 refine cRs ?_
 refine xAs rfl ?_
 refine oNl ?_
 refine cSq ?_
 refine cRs ?_
 refine xFd rfl ?_
 refine xLd rfl ?_
 refine xLn rfl ?_
 refine xMv rfl ?_
 refine oNl ?_
 refine cLp h [(4, 5), (7, 7), (18, 30)] [(7, 7)] (fun (v5_5, v18_6) => ([(5, I64 v5_5), (18, I64 v18_6)], [])) (fun q => match q with | .inl v4_7 => (.r, [(4, I64 v4_7)], []) | .inr (v5_8, v18_9, v19_10) => (.e 0, [(5, I64 v5_8), (18, I64 v18_9), (19, Bo v19_10)], [])) rfl (fun st _ h => ?_) (fun q h => ?_)
 obtain ⟨v5_5, v18_6⟩ := st
 unfold p_impl_Term_measure_b1 at h
 refine cRs ?_
 refine xLt rfl ?_
 refine oNl ?_
 refine cSq ?_
 refine cIf h rfl (fun q11 h => ?_) (fun q11 h => ?_)
 refine cSk ?_
 refine cSq ?_
 refine cBk ?_
 refine cRs ?_
 refine xIx h rS_impl_Term_eq rfl (fun e20_12 h => ?_)
 refine xLd rfl ?_
 refine xAz [.int .i64 0, .int .i64 0, .str [], .sl ([].map rS_impl_Term)] rfl ?_
 refine xSt rfl ?_
 refine oRs ?_
 refine xMv rfl ?_
 refine xLd rfl ?_
 refine xMv rfl ?_
 refine xAdd rfl ?_
 refine xC0 h (ih_impl_Term_measure ·) rfl (fun c26_13 h => ?_)
 refine xAdd rfl ?_
 refine xAs rfl ?_
 refine oRs ?_
 refine xMv rfl ?_
 refine xGt rfl ?_
 refine oNl ?_
 refine cIf h rfl (fun q14 h => ?_) (fun q14 h => ?_)
 refine cRs ?_
 refine xAs rfl ?_
 refine oNl ?_
 refine cRt ?_
 exact eXr h rfl
 refine cSk ?_
 refine cRg ?_
 refine xAdd rfl ?_
 refine xMv rfl ?_
 refine oNl ?_
 exact eL h rfl
 refine cEx ?_
 exact eX h rfl
 rcases q with v4_7 | ⟨v5_8, v18_9, v19_10⟩
 cases h
 exact eR rfl rfl rfl rfl
 refine cRs ?_
 refine xMv rfl ?_
 refine xAs rfl ?_
 refine oNl ?_
 refine cRt ?_
 cases h
 exact eR rfl rfl rfl rfl
def q_impl_Term_measure : Nat → (Int → Int → (List UInt8) → (List S_impl_Term) → Int → Option (Int))
  | 0 => (fun _ _ _ _ _ => none)
  | n + 1 => s_impl_Term_measure n (q_impl_Term_measure n)
def p_impl_Term_measure (n : Nat) : Int → Int → (List UInt8) → (List S_impl_Term) → Int → Option (Int) := q_impl_Term_measure n
theorem bigs_impl_Term_measure (n : Nat) : B_impl_Term_measure (p_impl_Term_measure n) := by
  induction n with
  | zero => exact (fun h => nomatch h)
  | succ n ih => exact step_impl_Term_measure (n := n) ih
theorem big_impl_Term_measure {n : Nat} : B_impl_Term_measure (p_impl_Term_measure n) := (bigs_impl_Term_measure n)
theorem p_impl_Term_measure_succ (n : Nat) : p_impl_Term_measure (n + 1) = s_impl_Term_measure n (p_impl_Term_measure n) := rfl
abbrev B_impl_TermOk (p : Int → Int → (List UInt8) → (List S_impl_Term) → Option (Bool)) : Prop := ∀ {t0_0 t0_1 : Int} {t0_2 : List UInt8} {t0_3 : List S_impl_Term} {r : Bool}, p t0_0 t0_1 t0_2 t0_3 = some r → Big Try.prog τ An (.fn 73 [.one (.ag [.int .i64 t0_0, .int .i64 t0_1, .str t0_2, .sl (t0_3.map rS_impl_Term)])] [] (.one (.c (.bool r))) none [] none)
def p_impl_TermOk (n : Nat) (t0_0 : Int) (t0_1 : Int) (t0_2 : List UInt8) (t0_3 : List S_impl_Term) : Option (Bool) :=
  (p_impl_Term_measure n t0_0 t0_1 t0_2 t0_3 (1 : Int)).bind fun c4_1 => some (decide (c4_1 ≤ (300 : Int)))
theorem big_impl_TermOk {n : Nat} : B_impl_TermOk (p_impl_TermOk n) := by
 intro t0_0 t0_1 t0_2 t0_3 r h
 unfold p_impl_TermOk at h
 refine bF Try.func73 rfl rfl ?_
 refine cRs ?_
 refine xBx rfl ?_
 refine xAs rfl ?_
 refine oRs ?_
 refine xLd rfl ?_
 refine xC0 h (big_impl_Term_measure ·) rfl (fun c4_1 h => ?_)
 refine xLe rfl ?_
 refine xAs rfl ?_
 refine oNl ?_
 refine cRt ?_
 cases h
 exact eR rfl rfl rfl rfl
abbrev B_impl_termsOk (p : (List S_impl_Term) → Option (Bool)) : Prop := ∀ {t0_0 : List S_impl_Term} {r : Bool}, p t0_0 = some r → Big Try.prog τ An (.fn 74 [.one (.c (.sl (t0_0.map rS_impl_Term)))] [] (.one (.c (.bool r))) none [] none)
def p_impl_termsOk_b1 (n : Nat) (t0_0 : List S_impl_Term) : (Int) → Option ((Int) ⊕ ((Bool) ⊕ (Int × Bool)))
  | v7_1 => bif decide (v7_1 < (t0_0.length : Int)) then (ix t0_0 v7_1).bind fun e9_6 => (p_impl_TermOk n e9_6.f0 e9_6.f1 e9_6.f2 e9_6.f3).bind fun c12_7 => bif !c12_7 then some (.inr (.inl false)) else some (.inl (IntKind.wrap .i64 (v7_1 + (1 : Int)))) else some (.inr (.inr (v7_1, false)))
def p_impl_termsOk (n : Nat) (t0_0 : List S_impl_Term) : Option (Bool) :=
  (loopN (p_impl_termsOk_b1 n t0_0) n (0 : Int)).bind fun q => (match q with | .inl v2_2 => some v2_2 | .inr (v7_3, v8_4) => some true)
theorem big_impl_termsOk {n : Nat} : B_impl_termsOk (p_impl_termsOk n) := by
 intro t0_0 r h
 unfold p_impl_termsOk at h
 refine bF Try.func74 rfl rfl ?_
 refine cRs ?_
 refine xAs rfl ?_
 refine oNl ?_
 refine cSq ?_
 refine cRs ?_
 refine xMv rfl ?_
 refine xLn rfl ?_
 refine xMv rfl ?_
 refine oNl ?_
 refine cLp h [(2, 2), (4, 4), (7, 14)] [(4, 4)] (fun v7_1 => ([(7, I64 v7_1)], [])) (fun q => match q with | .inl v2_2 => (.r, [(2, Bo v2_2)], []) | .inr (v7_3, v8_4) => (.e 0, [(7, I64 v7_3), (8, Bo v8_4)], [])) rfl (fun v7_1 _ h => ?_) (fun q h => ?_)
 unfold p_impl_termsOk_b1 at h
 refine cRs ?_
 refine xLt rfl ?_
 refine oNl ?_
 refine cSq ?_
 refine cIf h rfl (fun q5 h => ?_) (fun q5 h => ?_)
 refine cSk ?_
 refine cSq ?_
 refine cBk ?_
 refine cRs ?_
 refine xIx h rS_impl_Term_eq rfl (fun e9_6 h => ?_)
 refine xLd rfl ?_
 refine xAz [.int .i64 0, .int .i64 0, .str [], .sl ([].map rS_impl_Term)] rfl ?_
 refine xSt rfl ?_
 refine oRs ?_
 refine xLd rfl ?_
 refine xC0 h (big_impl_TermOk ·) rfl (fun c12_7 h => ?_)
 refine xNot rfl ?_
 refine oNl ?_
 refine cIf h rfl (fun q8 h => ?_) (fun q8 h => ?_)
 refine cRs ?_
 refine xAs rfl ?_
 refine oNl ?_
 refine cRt ?_
 exact eXr h rfl
 refine cSk ?_
 refine cRg ?_
 refine xAdd rfl ?_
 refine xMv rfl ?_
 refine oNl ?_
 exact eL h rfl
 refine cEx ?_
 exact eX h rfl
 rcases q with v2_2 | ⟨v7_3, v8_4⟩
 cases h
 exact eR rfl rfl rfl rfl
 refine cRs ?_
 refine xAs rfl ?_
 refine oNl ?_
 refine cRt ?_
 cases h
 exact eR rfl rfl rfl rfl
abbrev B_impl_WorkerOk (p : Int → (List UInt8) → (List UInt8) → Int → Int → Int → (List UInt8) → (List S_impl_Term) → (List S_impl_Term) → Option (Bool)) : Prop := ∀ {t0_0 : Int} {t0_1 t0_2 : List UInt8} {t0_3 t0_4 t0_5 : Int} {t0_6 : List UInt8} {t0_7 t0_8 : List S_impl_Term} {r : Bool}, p t0_0 t0_1 t0_2 t0_3 t0_4 t0_5 t0_6 t0_7 t0_8 = some r → Big Try.prog τ An (.fn 27 [.one (.ag [.int .i64 t0_0, .str t0_1, .str t0_2, .int .i64 t0_3, .int .i64 t0_4, .int .i64 t0_5, .str t0_6, .sl (t0_7.map rS_impl_Term), .sl (t0_8.map rS_impl_Term)])] [] (.one (.c (.bool r))) none [] none)
def p_impl_WorkerOk (n : Nat) (t0_0 : Int) (t0_1 : List UInt8) (t0_2 : List UInt8) (t0_3 : Int) (t0_4 : Int) (t0_5 : Int) (t0_6 : List UInt8) (t0_7 : List S_impl_Term) (t0_8 : List S_impl_Term) : Option (Bool) :=
  ((p_impl_inRange n t0_0 (1 : Int) (1000000 : Int)).bind fun c5_2 => bif !c5_2 then some true else (p_impl_AtomOk n t0_1).bind fun c10_4 => bif !c10_4 then some true else (p_impl_AtomOk n t0_2).bind fun c16_6 => bif !c16_6 then some true else (p_impl_inRange n t0_3 (1 : Int) (10000 : Int)).bind fun c22_8 => some (!c22_8)).bind fun v24_1 => bif v24_1 then some false else ((p_impl_TermOk n t0_4 t0_5 t0_6 t0_7).bind fun c27_11 => bif c27_11 then bif decide ((t0_8.length : Int) ≤ (20 : Int)) then (p_impl_termsOk n t0_8).bind fun c37_14 => some c37_14 else some false else some false).bind fun v2_10 => some v2_10
theorem big_impl_WorkerOk {n : Nat} : B_impl_WorkerOk (p_impl_WorkerOk n) := by
 intro t0_0 t0_1 t0_2 t0_3 t0_4 t0_5 t0_6 t0_7 t0_8 r h
 unfold p_impl_WorkerOk at h
 refine bF Try.func27 rfl rfl ?_
 refine cRs ?_
 refine xBx rfl ?_
 refine xAs rfl ?_
 refine oNl ?_
 refine cSq ?_
 refine cRs ?_
 refine oJn h [(3, 24)] [] (fun v24_1 => (.n, [(24, Bo v24_1)], [])) (fun _ h => ?_) (fun v24_1 h => ?_)
 refine xFd rfl ?_
 refine xLd rfl ?_
 refine xC0 h (big_impl_inRange ·) rfl (fun c5_2 h => ?_)
 refine xNot rfl ?_
 refine xMv rfl ?_
 refine oIf 7 h rfl (fun q3 h => ?_) (fun q3 h => ?_)
 refine wSk rfl ?_
 refine wSk rfl ?_
 refine wSk rfl ?_
 refine wSk rfl ?_
 refine xPk rfl ?_
 refine xMv rfl ?_
 refine wSk rfl ?_
 refine wSk rfl ?_
 refine wSk rfl ?_
 refine wSk rfl ?_
 refine xPk rfl ?_
 refine xMv rfl ?_
 refine wSk rfl ?_
 refine wSk rfl ?_
 refine wSk rfl ?_
 refine wSk rfl ?_
 refine xPk rfl ?_
 refine oNl ?_
 exact eJ h rfl
 refine xFd rfl ?_
 refine xLd rfl ?_
 refine xC0 h (big_impl_AtomOk ·) rfl (fun c10_4 h => ?_)
 refine xNot rfl ?_
 refine xPk rfl ?_
 refine xMv rfl ?_
 refine oIf 13 h rfl (fun q5 h => ?_) (fun q5 h => ?_)
 refine wSk rfl ?_
 refine wSk rfl ?_
 refine wSk rfl ?_
 refine wSk rfl ?_
 refine xPk rfl ?_
 refine xMv rfl ?_
 refine wSk rfl ?_
 refine wSk rfl ?_
 refine wSk rfl ?_
 refine wSk rfl ?_
 refine xPk rfl ?_
 refine oNl ?_
 exact eJ h rfl
 refine xFd rfl ?_
 refine xLd rfl ?_
 refine xC0 h (big_impl_AtomOk ·) rfl (fun c16_6 h => ?_)
 refine xNot rfl ?_
 refine xPk rfl ?_
 refine xMv rfl ?_
 refine oIf 19 h rfl (fun q7 h => ?_) (fun q7 h => ?_)
 refine wSk rfl ?_
 refine wSk rfl ?_
 refine wSk rfl ?_
 refine wSk rfl ?_
 refine xPk rfl ?_
 refine oNl ?_
 exact eJ h rfl
 refine xFd rfl ?_
 refine xLd rfl ?_
 refine xC0 h (big_impl_inRange ·) rfl (fun c22_8 h => ?_)
 refine xNot rfl ?_
 refine xPk rfl ?_
 refine oNl ?_
 exact eJ h rfl
 refine cIf h rfl (fun q9 h => ?_) (fun q9 h => ?_)
 refine cRs ?_
 refine xAs rfl ?_
 refine oNl ?_
 refine cRt ?_
 cases h
 exact eR rfl rfl rfl rfl
 refine cSk ?_
 refine cRs ?_
 refine oJn h [(2, 2), (25, 38)] [] (fun v2_10 => (.n, [(2, Bo v2_10)], [])) (fun _ h => ?_) (fun v2_10 h => ?_)
 refine xFd rfl ?_
 refine xLd rfl ?_
 refine xC0 h (big_impl_TermOk ·) rfl (fun c27_11 h => ?_)
 refine xMv rfl ?_
 refine oIf 28 h rfl (fun q12 h => ?_) (fun q12 h => ?_)
 refine xFd rfl ?_
 refine xLd rfl ?_
 refine xLn rfl ?_
 refine xLe rfl ?_
 refine xPk rfl ?_
 refine xMv rfl ?_
 refine oIf 34 h rfl (fun q13 h => ?_) (fun q13 h => ?_)
 refine xFd rfl ?_
 refine xLd rfl ?_
 refine xC0 h (big_impl_termsOk ·) rfl (fun c37_14 h => ?_)
 refine xPk rfl ?_
 refine xAs rfl ?_
 refine oNl ?_
 exact eJ h rfl
 refine wSk rfl ?_
 refine wSk rfl ?_
 refine wSk rfl ?_
 refine xPk rfl ?_
 refine xAs rfl ?_
 refine oNl ?_
 exact eJ h rfl
 refine wSk rfl ?_
 refine wSk rfl ?_
 refine wSk rfl ?_
 refine wSk rfl ?_
 refine xPk rfl ?_
 refine xMv rfl ?_
 refine wSk rfl ?_
 refine wSk rfl ?_
 refine wSk rfl ?_
 refine xPk rfl ?_
 refine xAs rfl ?_
 refine oNl ?_
 exact eJ h rfl
 refine cRt ?_
 cases h
 exact eR rfl rfl rfl rfl
abbrev B_impl_copyTerms (p : (List S_impl_Term) → Option ((List S_impl_Term))) : Prop := ∀ {t0_0 : List S_impl_Term} {r : (List S_impl_Term)}, p t0_0 = some r → Big Try.prog τ An (.fn 106 [.one (.c (.sl (t0_0.map rS_impl_Term)))] [] (.one (.c (.sl (r.map rS_impl_Term)))) none [] none)
abbrev B_impl_copyTerm (p : Int → Int → (List UInt8) → (List S_impl_Term) → Option (Int × Int × (List UInt8) × (List S_impl_Term))) : Prop := ∀ {t0_0 t0_1 : Int} {t0_2 : List UInt8} {t0_3 : List S_impl_Term} {r : Int × Int × (List UInt8) × (List S_impl_Term)}, p t0_0 t0_1 t0_2 t0_3 = some r → Big Try.prog τ An (.fn 65 [.one (.ag [.int .i64 t0_0, .int .i64 t0_1, .str t0_2, .sl (t0_3.map rS_impl_Term)])] [] (.one (.ag [.int .i64 r.1, .int .i64 r.2.1, .str r.2.2.1, .sl (r.2.2.2.map rS_impl_Term)])) none [] none)
def p_impl_copyTerms_b1 (n : Nat) (r_impl_copyTerm : Int → Int → (List UInt8) → (List S_impl_Term) → Option (Int × Int × (List UInt8) × (List S_impl_Term))) (t0_0 : List S_impl_Term) : ((List S_impl_Term) × Int) → Option (((List S_impl_Term) × Int) ⊕ (((List S_impl_Term) × Int × Bool)))
  | (v3_1, v8_2) => bif decide (v8_2 < (t0_0.length : Int)) then (ix t0_0 v8_2).bind fun e10_7 => (r_impl_copyTerm e10_7.f0 e10_7.f1 e10_7.f2 e10_7.f3).bind fun c14_8 => (app2 56 v3_1 ([S_impl_Term.mk c14_8.1 c14_8.2.1 c14_8.2.2.1 c14_8.2.2.2] : List S_impl_Term)).bind fun v16_9 => some (.inl (v16_9, (IntKind.wrap .i64 (v8_2 + (1 : Int))))) else some (.inr (v3_1, v8_2, false))
def s_impl_copyTerms (n : Nat) (r_impl_copyTerm : Int → Int → (List UInt8) → (List S_impl_Term) → Option (Int × Int × (List UInt8) × (List S_impl_Term))) (r_impl_copyTerms : (List S_impl_Term) → Option ((List S_impl_Term))) (t0_0 : List S_impl_Term) : Option ((List S_impl_Term)) :=
  (loopN (p_impl_copyTerms_b1 n r_impl_copyTerm t0_0) n (([] : List S_impl_Term), (0 : Int))).bind fun (v3_3, v8_4, v9_5) => some v3_3
theorem step_impl_copyTerms {n : Nat} {r_impl_copyTerm : Int → Int → (List UInt8) → (List S_impl_Term) → Option (Int × Int × (List UInt8) × (List S_impl_Term))} (ih_impl_copyTerm : B_impl_copyTerm r_impl_copyTerm) {r_impl_copyTerms : (List S_impl_Term) → Option ((List S_impl_Term))} (ih_impl_copyTerms : B_impl_copyTerms r_impl_copyTerms) : B_impl_copyTerms (s_impl_copyTerms n r_impl_copyTerm r_impl_copyTerms) := by
 intro t0_0 r h
 unfold s_impl_copyTerms at h
 refine bF Try.func106 rfl rfl ?_
 refine cRs ?_
 refine wAe (Li rS_impl_Term []) rfl rfl rfl rfl ?_
 refine oRs ?_
 refine wAe (Li rS_impl_Term []) rfl rfl rfl rfl ?_
 refine oNl ?_
 refine cSq ?_
 refine cRs ?_
 refine xMv rfl ?_
 refine xLn rfl ?_
 refine xMv rfl ?_
 refine oNl ?_
 refine cLp h [(3, 3), (5, 5), (8, 17)] [(5, 5)] (fun (v3_1, v8_2) => ([(3, Li rS_impl_Term v3_1), (8, I64 v8_2)], [])) (fun (v3_3, v8_4, v9_5) => (.e 0, [(3, Li rS_impl_Term v3_3), (8, I64 v8_4), (9, Bo v9_5)], [])) rfl (fun st _ h => ?_) (fun q h => ?_)
 obtain ⟨v3_1, v8_2⟩ := st
 unfold p_impl_copyTerms_b1 at h
 refine cRs ?_
 refine xLt rfl ?_
 refine oNl ?_
 refine cSq ?_
 refine cIf h rfl (fun q6 h => ?_) (fun q6 h => ?_)
 refine cSk ?_
 refine cSq ?_
 refine cBk ?_
 refine cRs ?_
 refine xIx h rS_impl_Term_eq rfl (fun e10_7 h => ?_)
 refine xLd rfl ?_
 refine xAz [.int .i64 0, .int .i64 0, .str [], .sl ([].map rS_impl_Term)] rfl ?_
 refine xSt rfl ?_
 refine oNl ?_
 refine cRg ?_
 refine xMv rfl ?_
 refine xLd rfl ?_
 refine xC0 h (ih_impl_copyTerm ·) rfl (fun c14_8 h => ?_)
 refine wLt' (L := ([S_impl_Term.mk c14_8.1 c14_8.2.1 c14_8.2.2.1 c14_8.2.2.2] : List S_impl_Term)) (f := rS_impl_Term) rfl rfl rfl rfl (by simp only [List.map, rS_impl_Term_mk] <;> rfl) rfl rfl ?_
 refine wAp (f := rS_impl_Term) h rfl rfl rfl rfl rfl rfl rfl rfl rfl (fun a => by rw [rS_impl_Term_eq]; rfl) rfl (fun v16_9 h => ?_)
 refine xAs rfl ?_
 refine oNl ?_
 refine cRg ?_
 refine xAdd rfl ?_
 refine xMv rfl ?_
 refine oNl ?_
 exact eL h rfl
 refine cEx ?_
 exact eX h rfl
 obtain ⟨v3_3, v8_4, v9_5⟩ := q
 refine cRs ?_
 refine xMv rfl ?_
 refine xAs rfl ?_
 refine oNl ?_
 refine cRt ?_
 cases h
 exact eR rfl rfl rfl rfl
def s_impl_copyTerm (n : Nat) (r_impl_copyTerm : Int → Int → (List UInt8) → (List S_impl_Term) → Option (Int × Int × (List UInt8) × (List S_impl_Term))) (r_impl_copyTerms : (List S_impl_Term) → Option ((List S_impl_Term))) (t0_0 : Int) (t0_1 : Int) (t0_2 : List UInt8) (t0_3 : List S_impl_Term) : Option (Int × Int × (List UInt8) × (List S_impl_Term)) :=
  (r_impl_copyTerms t0_3).bind fun c5_1 => some (t0_0, t0_1, t0_2, c5_1)
theorem step_impl_copyTerm {n : Nat} {r_impl_copyTerm : Int → Int → (List UInt8) → (List S_impl_Term) → Option (Int × Int × (List UInt8) × (List S_impl_Term))} (ih_impl_copyTerm : B_impl_copyTerm r_impl_copyTerm) {r_impl_copyTerms : (List S_impl_Term) → Option ((List S_impl_Term))} (ih_impl_copyTerms : B_impl_copyTerms r_impl_copyTerms) : B_impl_copyTerm (s_impl_copyTerm n r_impl_copyTerm r_impl_copyTerms) := by
 intro t0_0 t0_1 t0_2 t0_3 r h
 unfold s_impl_copyTerm at h
 refine bF Try.func65 rfl rfl ?_
 refine cRs ?_
 refine xBx rfl ?_
 refine xAz [.int .i64 0, .int .i64 0, .str [], .sl ([].map rS_impl_Term)] rfl ?_
 refine oRs ?_
 refine xFd rfl ?_
 refine xLd rfl ?_
 refine xC0 h (ih_impl_copyTerms ·) rfl (fun c5_1 h => ?_)
 refine xFd rfl ?_
 refine xSt rfl ?_
 refine oRs ?_
 refine xLd rfl ?_
 refine xSt rfl ?_
 refine oNl ?_
 refine cRt ?_
 cases h
 exact eR rfl rfl rfl rfl
def q_impl_copyTerm : Nat → (Int → Int → (List UInt8) → (List S_impl_Term) → Option (Int × Int × (List UInt8) × (List S_impl_Term))) × ((List S_impl_Term) → Option ((List S_impl_Term)))
  | 0 => ((fun _ _ _ _ => none), (fun _ => none))
  | n + 1 => (s_impl_copyTerm n ((q_impl_copyTerm n).1) ((q_impl_copyTerm n).2), s_impl_copyTerms n ((q_impl_copyTerm n).1) ((q_impl_copyTerm n).2))
def p_impl_copyTerm (n : Nat) : Int → Int → (List UInt8) → (List S_impl_Term) → Option (Int × Int × (List UInt8) × (List S_impl_Term)) := (q_impl_copyTerm n).1
def p_impl_copyTerms (n : Nat) : (List S_impl_Term) → Option ((List S_impl_Term)) := (q_impl_copyTerm n).2
theorem bigs_impl_copyTerm (n : Nat) : B_impl_copyTerm (p_impl_copyTerm n) ∧ B_impl_copyTerms (p_impl_copyTerms n) := by
  induction n with
  | zero => exact ⟨(fun h => nomatch h), (fun h => nomatch h)⟩
  | succ n ih => exact ⟨step_impl_copyTerm (n := n) (ih.1) (ih.2), step_impl_copyTerms (n := n) (ih.1) (ih.2)⟩
theorem big_impl_copyTerm {n : Nat} : B_impl_copyTerm (p_impl_copyTerm n) := (bigs_impl_copyTerm n).1
theorem big_impl_copyTerms {n : Nat} : B_impl_copyTerms (p_impl_copyTerms n) := (bigs_impl_copyTerm n).2
theorem p_impl_copyTerm_succ (n : Nat) : p_impl_copyTerm (n + 1) = s_impl_copyTerm n (p_impl_copyTerm n) (p_impl_copyTerms n) := rfl
theorem p_impl_copyTerms_succ (n : Nat) : p_impl_copyTerms (n + 1) = s_impl_copyTerms n (p_impl_copyTerm n) (p_impl_copyTerms n) := rfl
abbrev B_impl_copyWorker (p : Int → (List UInt8) → (List UInt8) → Int → Int → Int → (List UInt8) → (List S_impl_Term) → (List S_impl_Term) → Option (Int × (List UInt8) × (List UInt8) × Int × Int × Int × (List UInt8) × (List S_impl_Term) × (List S_impl_Term))) : Prop := ∀ {t0_0 : Int} {t0_1 t0_2 : List UInt8} {t0_3 t0_4 t0_5 : Int} {t0_6 : List UInt8} {t0_7 t0_8 : List S_impl_Term} {r : Int × (List UInt8) × (List UInt8) × Int × Int × Int × (List UInt8) × (List S_impl_Term) × (List S_impl_Term)}, p t0_0 t0_1 t0_2 t0_3 t0_4 t0_5 t0_6 t0_7 t0_8 = some r → Big Try.prog τ An (.fn 86 [.one (.ag [.int .i64 t0_0, .str t0_1, .str t0_2, .int .i64 t0_3, .int .i64 t0_4, .int .i64 t0_5, .str t0_6, .sl (t0_7.map rS_impl_Term), .sl (t0_8.map rS_impl_Term)])] [] (.one (.ag [.int .i64 r.1, .str r.2.1, .str r.2.2.1, .int .i64 r.2.2.2.1, .int .i64 r.2.2.2.2.1, .int .i64 r.2.2.2.2.2.1, .str r.2.2.2.2.2.2.1, .sl (r.2.2.2.2.2.2.2.1.map rS_impl_Term), .sl (r.2.2.2.2.2.2.2.2.map rS_impl_Term)])) none [] none)
def p_impl_copyWorker (n : Nat) (t0_0 : Int) (t0_1 : List UInt8) (t0_2 : List UInt8) (t0_3 : Int) (t0_4 : Int) (t0_5 : Int) (t0_6 : List UInt8) (t0_7 : List S_impl_Term) (t0_8 : List S_impl_Term) : Option (Int × (List UInt8) × (List UInt8) × Int × Int × Int × (List UInt8) × (List S_impl_Term) × (List S_impl_Term)) :=
  (p_impl_copyTerm n t0_4 t0_5 t0_6 t0_7).bind fun c5_1 => (p_impl_copyTerms n t0_8).bind fun c9_2 => some (t0_0, t0_1, t0_2, t0_3, c5_1.1, c5_1.2.1, c5_1.2.2.1, c5_1.2.2.2, c9_2)
theorem big_impl_copyWorker {n : Nat} : B_impl_copyWorker (p_impl_copyWorker n) := by
 intro t0_0 t0_1 t0_2 t0_3 t0_4 t0_5 t0_6 t0_7 t0_8 r h
 unfold p_impl_copyWorker at h
 refine bF Try.func86 rfl rfl ?_
 refine cRs ?_
 refine xBx rfl ?_
 refine xAz [.int .i64 0, .str [], .str [], .int .i64 0, .int .i64 0, .int .i64 0, .str [], .sl ([].map rS_impl_Term), .sl ([].map rS_impl_Term)] rfl ?_
 refine oRs ?_
 refine xFd rfl ?_
 refine xLd rfl ?_
 refine xC0 h (big_impl_copyTerm ·) rfl (fun c5_1 h => ?_)
 refine xFd rfl ?_
 refine xSt rfl ?_
 refine oRs ?_
 refine xFd rfl ?_
 refine xLd rfl ?_
 refine xC0 h (big_impl_copyTerms ·) rfl (fun c9_2 h => ?_)
 refine xFd rfl ?_
 refine xSt rfl ?_
 refine oRs ?_
 refine xLd rfl ?_
 refine xSt rfl ?_
 refine oNl ?_
 refine cRt ?_
 cases h
 exact eR rfl rfl rfl rfl
abbrev B_impl_PutWord (p : Int → (List UInt8) → (List UInt8) → Int → Int → Int → (List UInt8) → (List S_impl_Term) → (List S_impl_Term) → Int → Int → (List UInt8) → (List S_impl_Term) → Option (Int × (List UInt8) × (List UInt8) × Int × Int × Int × (List UInt8) × (List S_impl_Term) × (List S_impl_Term) × Bool)) : Prop := ∀ {t0_0 : Int} {t0_1 t0_2 : List UInt8} {t0_3 t0_4 t0_5 : Int} {t0_6 : List UInt8} {t0_7 t0_8 : List S_impl_Term} {t1_0 t1_1 : Int} {t1_2 : List UInt8} {t1_3 : List S_impl_Term} {r : Int × (List UInt8) × (List UInt8) × Int × Int × Int × (List UInt8) × (List S_impl_Term) × (List S_impl_Term) × Bool}, p t0_0 t0_1 t0_2 t0_3 t0_4 t0_5 t0_6 t0_7 t0_8 t1_0 t1_1 t1_2 t1_3 = some r → Big Try.prog τ An (.fn 42 [.one (.ag [.int .i64 t0_0, .str t0_1, .str t0_2, .int .i64 t0_3, .int .i64 t0_4, .int .i64 t0_5, .str t0_6, .sl (t0_7.map rS_impl_Term), .sl (t0_8.map rS_impl_Term)]), .one (.ag [.int .i64 t1_0, .int .i64 t1_1, .str t1_2, .sl (t1_3.map rS_impl_Term)])] [] (.tup [.ag [.int .i64 r.1, .str r.2.1, .str r.2.2.1, .int .i64 r.2.2.2.1, .int .i64 r.2.2.2.2.1, .int .i64 r.2.2.2.2.2.1, .str r.2.2.2.2.2.2.1, .sl (r.2.2.2.2.2.2.2.1.map rS_impl_Term), .sl (r.2.2.2.2.2.2.2.2.1.map rS_impl_Term)], .c (.bool r.2.2.2.2.2.2.2.2.2)]) none [] none)
def p_impl_PutWord (n : Nat) (t0_0 : Int) (t0_1 : List UInt8) (t0_2 : List UInt8) (t0_3 : Int) (t0_4 : Int) (t0_5 : Int) (t0_6 : List UInt8) (t0_7 : List S_impl_Term) (t0_8 : List S_impl_Term) (t1_0 : Int) (t1_1 : Int) (t1_2 : List UInt8) (t1_3 : List S_impl_Term) : Option (Int × (List UInt8) × (List UInt8) × Int × Int × Int × (List UInt8) × (List S_impl_Term) × (List S_impl_Term) × Bool) :=
  (p_impl_copyWorker n t0_0 t0_1 t0_2 t0_3 t0_4 t0_5 t0_6 t0_7 t0_8).bind fun c8_1 => (bif decide ((20 : Int) ≤ (t0_8.length : Int)) then some true else (p_impl_TermOk n t1_0 t1_1 t1_2 t1_3).bind fun c15_4 => bif !c15_4 then some true else (p_impl_WorkerOk n t0_0 t0_1 t0_2 t0_3 t0_4 t0_5 t0_6 t0_7 t0_8).bind fun c20_6 => some (!c20_6)).bind fun v22_2 => bif v22_2 then some (c8_1.1, c8_1.2.1, c8_1.2.2.1, c8_1.2.2.2.1, c8_1.2.2.2.2.1, c8_1.2.2.2.2.2.1, c8_1.2.2.2.2.2.2.1, c8_1.2.2.2.2.2.2.2.1, c8_1.2.2.2.2.2.2.2.2, false) else (p_impl_copyTerm n t1_0 t1_1 t1_2 t1_3).bind fun c27_8 => (app2 56 c8_1.2.2.2.2.2.2.2.2 ([S_impl_Term.mk c27_8.1 c27_8.2.1 c27_8.2.2.1 c27_8.2.2.2] : List S_impl_Term)).bind fun v29_9 => some (c8_1.1, c8_1.2.1, c8_1.2.2.1, c8_1.2.2.2.1, c8_1.2.2.2.2.1, c8_1.2.2.2.2.2.1, c8_1.2.2.2.2.2.2.1, c8_1.2.2.2.2.2.2.2.1, v29_9, true)
theorem big_impl_PutWord {n : Nat} : B_impl_PutWord (p_impl_PutWord n) := by
 intro t0_0 t0_1 t0_2 t0_3 t0_4 t0_5 t0_6 t0_7 t0_8 t1_0 t1_1 t1_2 t1_3 r h
 unfold p_impl_PutWord at h
 refine bF Try.func42 rfl rfl ?_
 refine cRs ?_
 refine xBx rfl ?_
 refine xBx rfl ?_
 refine xAz [.int .i64 0, .str [], .str [], .int .i64 0, .int .i64 0, .int .i64 0, .str [], .sl ([].map rS_impl_Term), .sl ([].map rS_impl_Term)] rfl ?_
 refine xAs rfl ?_
 refine oRs ?_
 refine xLd rfl ?_
 refine xC0 h (big_impl_copyWorker ·) rfl (fun c8_1 h => ?_)
 refine xAz [.int .i64 0, .str [], .str [], .int .i64 0, .int .i64 0, .int .i64 0, .str [], .sl ([].map rS_impl_Term), .sl ([].map rS_impl_Term)] rfl ?_
 refine xSt rfl ?_
 refine oNl ?_
 refine cSq ?_
 refine cRs ?_
 refine oJn h [(9, 22)] [] (fun v22_2 => (.n, [(22, Bo v22_2)], [])) (fun _ h => ?_) (fun v22_2 h => ?_)
 refine xFd rfl ?_
 refine xLd rfl ?_
 refine xLn rfl ?_
 refine xGe rfl ?_
 refine xMv rfl ?_
 refine oIf 13 h rfl (fun q3 h => ?_) (fun q3 h => ?_)
 refine wSk rfl ?_
 refine wSk rfl ?_
 refine wSk rfl ?_
 refine xPk rfl ?_
 refine xMv rfl ?_
 refine wSk rfl ?_
 refine wSk rfl ?_
 refine wSk rfl ?_
 refine xPk rfl ?_
 refine oNl ?_
 exact eJ h rfl
 refine xLd rfl ?_
 refine xC0 h (big_impl_TermOk ·) rfl (fun c15_4 h => ?_)
 refine xNot rfl ?_
 refine xPk rfl ?_
 refine xMv rfl ?_
 refine oIf 18 h rfl (fun q5 h => ?_) (fun q5 h => ?_)
 refine wSk rfl ?_
 refine wSk rfl ?_
 refine wSk rfl ?_
 refine xPk rfl ?_
 refine oNl ?_
 exact eJ h rfl
 refine xLd rfl ?_
 refine xC0 h (big_impl_WorkerOk ·) rfl (fun c20_6 h => ?_)
 refine xNot rfl ?_
 refine xPk rfl ?_
 refine oNl ?_
 exact eJ h rfl
 refine cIf h rfl (fun q7 h => ?_) (fun q7 h => ?_)
 refine cRs ?_
 refine xLd rfl ?_
 refine xSt rfl ?_
 refine xAs rfl ?_
 refine oNl ?_
 refine cRt ?_
 cases h
 exact eR rfl rfl rfl rfl
 refine cSk ?_
 refine cRs ?_
 refine xFd rfl ?_
 refine xLd rfl ?_
 refine xLd rfl ?_
 refine xC0 h (big_impl_copyTerm ·) rfl (fun c27_8 h => ?_)
 refine wLt' (L := ([S_impl_Term.mk c27_8.1 c27_8.2.1 c27_8.2.2.1 c27_8.2.2.2] : List S_impl_Term)) (f := rS_impl_Term) rfl rfl rfl rfl (by simp only [List.map, rS_impl_Term_mk] <;> rfl) rfl rfl ?_
 refine wAp (f := rS_impl_Term) h rfl rfl rfl rfl rfl rfl rfl rfl rfl (fun a => by rw [rS_impl_Term_eq]; rfl) rfl (fun v29_9 h => ?_)
 refine xFd rfl ?_
 refine xSt rfl ?_
 refine oRs ?_
 refine xLd rfl ?_
 refine xSt rfl ?_
 refine xAs rfl ?_
 refine oNl ?_
 refine cRt ?_
 cases h
 exact eR rfl rfl rfl rfl
abbrev B_laws_markText (p : Int → Option ((List UInt8))) : Prop := ∀ {t0_0 : Int} {r : (List UInt8)}, p t0_0 = some r → Big Try.prog τ An (.fn 78 [.one (.c (.int .i64 t0_0))] [] (.one (.c (.str r))) none [] none)
def p_laws_markText_b1 (n : Nat) : (Int × (List UInt8)) → Option ((Int × (List UInt8)) ⊕ ((Int × (List UInt8) × Bool)))
  | (v0_2, v3_3) => bif decide ((0 : Int) < v0_2) then (toStr ([(IntKind.wrap .u8 (IntKind.wrap .i64 ((48 : Int) + (Int.tmod v0_2 (10 : Int)))))] : List Int)).bind fun v13_8 => (ck (decide (v13_8.length + v3_3.length ≤ 9223372036854775807))).bind fun _ => some (.inl ((IntKind.wrap .i64 (Int.tdiv v0_2 (10 : Int))), (v13_8 ++ v3_3))) else some (.inr (v0_2, v3_3, false))
def p_laws_markText (n : Nat) (t0_0 : Int) : Option ((List UInt8)) :=
  bif decide (t0_0 ≤ (0 : Int)) then some ([109, 48] : List UInt8) else (loopN (p_laws_markText_b1 n) n (t0_0, ([] : List UInt8))).bind fun (v0_4, v3_5, v7_6) => (ck (decide (([109] : List UInt8).length + v3_5.length ≤ 9223372036854775807))).bind fun _ => some (([109] : List UInt8) ++ v3_5)
theorem big_laws_markText {n : Nat} : B_laws_markText (p_laws_markText n) := by
 intro t0_0 r h
 unfold p_laws_markText at h
 refine bF Try.func78 rfl rfl ?_
 refine cRs ?_
 refine xAs rfl ?_
 refine oNl ?_
 refine cSq ?_
 refine cRs ?_
 refine xMv rfl ?_
 refine xLe rfl ?_
 refine oNl ?_
 refine cIf h rfl (fun q1 h => ?_) (fun q1 h => ?_)
 refine cRs ?_
 refine xAs rfl ?_
 refine oNl ?_
 refine cRt ?_
 cases h
 exact eR rfl rfl rfl rfl
 refine cSk ?_
 refine cRs ?_
 refine xAs rfl ?_
 refine oNl ?_
 refine cSq ?_
 refine cLp h [(0, 0), (3, 3), (6, 17)] [] (fun (v0_2, v3_3) => ([(0, I64 v0_2), (3, St' v3_3)], [])) (fun (v0_4, v3_5, v7_6) => (.e 0, [(0, I64 v0_4), (3, St' v3_5), (7, Bo v7_6)], [])) rfl (fun st _ h => ?_) (fun q h => ?_)
 obtain ⟨v0_2, v3_3⟩ := st
 unfold p_laws_markText_b1 at h
 refine cSq ?_
 refine cRs ?_
 refine xMv rfl ?_
 refine xGt rfl ?_
 refine oNl ?_
 refine cIf h rfl (fun q7 h => ?_) (fun q7 h => ?_)
 refine cSk ?_
 refine cBk ?_
 refine cRs ?_
 refine xMv rfl ?_
 refine wBi (.int .i64 (Int.tmod v0_2 (10 : Int))) rfl rfl rfl rfl rfl ?_
 refine xAdd rfl ?_
 refine wCv rfl rfl rfl rfl rfl ?_
 refine wLt' (L := ([(IntKind.wrap .u8 (IntKind.wrap .i64 ((48 : Int) + (Int.tmod v0_2 (10 : Int)))))] : List Int)) (f := rI_u8) rfl rfl rfl rfl rfl rfl rfl ?_
 refine wTs h rfl rfl ⟨rfl, rfl⟩ rfl rI_u8_eq rfl (fun v13_8 h => ?_)
 refine xMv rfl ?_
 refine oCk h (fun k15_8 h => ?_)
 refine wCat k15_8 rfl rfl rfl rfl ?_
 refine xAs rfl ?_
 refine oNl ?_
 refine cRg ?_
 refine xMv rfl ?_
 refine wBi (.int .i64 (IntKind.wrap .i64 (Int.tdiv v0_2 (10 : Int)))) rfl rfl rfl rfl rfl ?_
 refine xAs rfl ?_
 refine oNl ?_
 exact eL h rfl
 refine cEx ?_
 exact eX h rfl
 obtain ⟨v0_4, v3_5, v7_6⟩ := q
 refine cRs ?_
 refine xMv rfl ?_
 refine oCk h (fun k19_9 h => ?_)
 refine wCat k19_9 rfl rfl rfl rfl ?_
 refine xAs rfl ?_
 refine oNl ?_
 refine cRt ?_
 cases h
 exact eR rfl rfl rfl rfl
abbrev B_laws_heldTermS (p : (List S_impl_Term) → Int → Option (Int)) : Prop := ∀ {t0_0 : List S_impl_Term} {t1_0 : Int} {r : Int}, p t0_0 t1_0 = some r → Big Try.prog τ An (.fn 79 [.one (.c (.sl (t0_0.map rS_impl_Term))), .one (.c (.int .i64 t1_0))] [] (.one (.c (.int .i64 r))) none [] none)
def p_laws_heldTermS_b1 (n : Nat) (r_laws_heldTermS : (List S_impl_Term) → Int → Option (Int)) (t0_0 : List S_impl_Term) : (Int × Int) → Option ((Int × Int) ⊕ ((Int) ⊕ (Int × Int × Bool)))
  | (v1_1, v5_2) => bif decide (v5_2 < (t0_0.length : Int)) then (ix t0_0 v5_2).bind fun e14_8 => bif !decide (e14_8.f0 = v1_1) then some (.inr (.inl ((-1) : Int))) else (ix t0_0 v5_2).bind fun e23_10 => bif !decide (e23_10.f1 = (IntKind.wrap .i64 (v1_1 + (1 : Int)))) then some (.inr (.inl ((-1) : Int))) else (ix t0_0 v5_2).bind fun e32_12 => (p_laws_markText n (IntKind.wrap .i64 ((IntKind.wrap .i64 (v1_1 + (1 : Int))) + (1 : Int)))).bind fun c36_13 => bif !decide (e32_12.f2 = c36_13) then some (.inr (.inl ((-1) : Int))) else (ix t0_0 v5_2).bind fun e42_15 => (r_laws_heldTermS e42_15.f3 (IntKind.wrap .i64 ((IntKind.wrap .i64 ((IntKind.wrap .i64 (v1_1 + (1 : Int))) + (1 : Int))) + (1 : Int)))).bind fun c46_16 => bif decide (c46_16 < (0 : Int)) then some (.inr (.inl ((-1) : Int))) else some (.inl (c46_16, (IntKind.wrap .i64 (v5_2 + (1 : Int))))) else some (.inr (.inr (v1_1, v5_2, false)))
def s_laws_heldTermS (n : Nat) (r_laws_heldTermS : (List S_impl_Term) → Int → Option (Int)) (t0_0 : List S_impl_Term) (t1_0 : Int) : Option (Int) :=
  (loopN (p_laws_heldTermS_b1 n r_laws_heldTermS t0_0) n (t1_0, (0 : Int))).bind fun q => (match q with | .inl v4_3 => some v4_3 | .inr (v1_4, v5_5, v9_6) => some v1_4)
theorem step_laws_heldTermS {n : Nat} {r_laws_heldTermS : (List S_impl_Term) → Int → Option (Int)} (ih_laws_heldTermS : B_laws_heldTermS r_laws_heldTermS) : B_laws_heldTermS (s_laws_heldTermS n r_laws_heldTermS) := by
 intro t0_0 t1_0 r h
 unfold s_laws_heldTermS at h
 refine bF Try.func79 rfl rfl ?_
 refine cRs ?_
 refine xAs rfl ?_
 refine oNl ?_
 refine cSq ?_
 refine cRs ?_
 refine xAs rfl ?_
 refine oNl ?_
 refine cLp h [(1, 1), (4, 48)] [] (fun (v1_1, v5_2) => ([(1, I64 v1_1), (5, I64 v5_2)], [])) (fun q => match q with | .inl v4_3 => (.r, [(4, I64 v4_3)], []) | .inr (v1_4, v5_5, v9_6) => (.e 0, [(1, I64 v1_4), (5, I64 v5_5), (9, Bo v9_6)], [])) rfl (fun st _ h => ?_) (fun q h => ?_)
 obtain ⟨v1_1, v5_2⟩ := st
 unfold p_laws_heldTermS_b1 at h
 refine cSq ?_
 refine cRs ?_
 refine xMv rfl ?_
 refine xMv rfl ?_
 refine xLn rfl ?_
 refine xLt rfl ?_
 refine oNl ?_
 refine cIf h rfl (fun q7 h => ?_) (fun q7 h => ?_)
 refine cSk ?_
 refine cSq ?_
 refine cBk ?_
 refine cSq ?_
 refine cRs ?_
 refine xMv rfl ?_
 refine xMv rfl ?_
 refine xIx h rS_impl_Term_eq rfl (fun e14_8 h => ?_)
 refine xFd rfl ?_
 refine xLd rfl ?_
 refine xMv rfl ?_
 refine xNe rfl ?_
 refine oNl ?_
 refine cIf h rfl (fun q9 h => ?_) (fun q9 h => ?_)
 refine cRs ?_
 refine xAs rfl ?_
 refine oNl ?_
 refine cRt ?_
 exact eXr h rfl
 refine cSk ?_
 refine cRs ?_
 refine xMv rfl ?_
 refine xAdd rfl ?_
 refine xAs rfl ?_
 refine oNl ?_
 refine cSq ?_
 refine cRs ?_
 refine xMv rfl ?_
 refine xMv rfl ?_
 refine xIx h rS_impl_Term_eq rfl (fun e23_10 h => ?_)
 refine xFd rfl ?_
 refine xLd rfl ?_
 refine xMv rfl ?_
 refine xNe rfl ?_
 refine oNl ?_
 refine cIf h rfl (fun q11 h => ?_) (fun q11 h => ?_)
 refine cRs ?_
 refine xAs rfl ?_
 refine oNl ?_
 refine cRt ?_
 exact eXr h rfl
 refine cSk ?_
 refine cRs ?_
 refine xMv rfl ?_
 refine xAdd rfl ?_
 refine xAs rfl ?_
 refine oNl ?_
 refine cSq ?_
 refine cRs ?_
 refine xMv rfl ?_
 refine xMv rfl ?_
 refine xIx h rS_impl_Term_eq rfl (fun e32_12 h => ?_)
 refine xFd rfl ?_
 refine xLd rfl ?_
 refine xMv rfl ?_
 refine xC0 h (big_laws_markText ·) rfl (fun c36_13 h => ?_)
 refine xNs rfl ?_
 refine oNl ?_
 refine cIf h rfl (fun q14 h => ?_) (fun q14 h => ?_)
 refine cRs ?_
 refine xAs rfl ?_
 refine oNl ?_
 refine cRt ?_
 exact eXr h rfl
 refine cSk ?_
 refine cRs ?_
 refine xMv rfl ?_
 refine xAdd rfl ?_
 refine xAs rfl ?_
 refine oRs ?_
 refine xMv rfl ?_
 refine xMv rfl ?_
 refine xIx h rS_impl_Term_eq rfl (fun e42_15 h => ?_)
 refine xFd rfl ?_
 refine xLd rfl ?_
 refine xMv rfl ?_
 refine xC0 h (ih_laws_heldTermS ·) rfl (fun c46_16 h => ?_)
 refine xAs rfl ?_
 refine oRs ?_
 refine xMv rfl ?_
 refine xLt rfl ?_
 refine oNl ?_
 refine cIf h rfl (fun q17 h => ?_) (fun q17 h => ?_)
 refine cRs ?_
 refine xAs rfl ?_
 refine oNl ?_
 refine cRt ?_
 exact eXr h rfl
 refine cSk ?_
 refine cRg ?_
 refine xMv rfl ?_
 refine xAdd rfl ?_
 refine xAs rfl ?_
 refine oNl ?_
 exact eL h rfl
 refine cEx ?_
 exact eX h rfl
 rcases q with v4_3 | ⟨v1_4, v5_5, v9_6⟩
 cases h
 exact eR rfl rfl rfl rfl
 refine cRs ?_
 refine xMv rfl ?_
 refine xAs rfl ?_
 refine oNl ?_
 refine cRt ?_
 cases h
 exact eR rfl rfl rfl rfl
def q_laws_heldTermS : Nat → ((List S_impl_Term) → Int → Option (Int))
  | 0 => (fun _ _ => none)
  | n + 1 => s_laws_heldTermS n (q_laws_heldTermS n)
def p_laws_heldTermS (n : Nat) : (List S_impl_Term) → Int → Option (Int) := q_laws_heldTermS n
theorem bigs_laws_heldTermS (n : Nat) : B_laws_heldTermS (p_laws_heldTermS n) := by
  induction n with
  | zero => exact (fun h => nomatch h)
  | succ n ih => exact step_laws_heldTermS (n := n) ih
theorem big_laws_heldTermS {n : Nat} : B_laws_heldTermS (p_laws_heldTermS n) := (bigs_laws_heldTermS n)
theorem p_laws_heldTermS_succ (n : Nat) : p_laws_heldTermS (n + 1) = s_laws_heldTermS n (p_laws_heldTermS n) := rfl
abbrev B_laws_heldTerm (p : Int → Int → (List UInt8) → (List S_impl_Term) → Int → Option (Int)) : Prop := ∀ {t0_0 t0_1 : Int} {t0_2 : List UInt8} {t0_3 : List S_impl_Term} {t1_0 : Int} {r : Int}, p t0_0 t0_1 t0_2 t0_3 t1_0 = some r → Big Try.prog τ An (.fn 87 [.one (.ag [.int .i64 t0_0, .int .i64 t0_1, .str t0_2, .sl (t0_3.map rS_impl_Term)]), .one (.c (.int .i64 t1_0))] [] (.one (.c (.int .i64 r))) none [] none)
def p_laws_heldTerm (n : Nat) (t0_0 : Int) (t0_1 : Int) (t0_2 : List UInt8) (t0_3 : List S_impl_Term) (t1_0 : Int) : Option (Int) :=
  (p_laws_heldTermS n t0_3 t1_0).bind fun c8_1 => bif decide (c8_1 < (0 : Int)) then some ((-1) : Int) else some c8_1
theorem big_laws_heldTerm {n : Nat} : B_laws_heldTerm (p_laws_heldTerm n) := by
 intro t0_0 t0_1 t0_2 t0_3 t1_0 r h
 unfold p_laws_heldTerm at h
 refine bF Try.func87 rfl rfl ?_
 refine cRs ?_
 refine xBx rfl ?_
 refine xAs rfl ?_
 refine oRs ?_
 refine xFd rfl ?_
 refine xLd rfl ?_
 refine xMv rfl ?_
 refine xC0 h (big_laws_heldTermS ·) rfl (fun c8_1 h => ?_)
 refine xAs rfl ?_
 refine oNl ?_
 refine cSq ?_
 refine cRs ?_
 refine xMv rfl ?_
 refine xLt rfl ?_
 refine oNl ?_
 refine cIf h rfl (fun q2 h => ?_) (fun q2 h => ?_)
 refine cRs ?_
 refine xAs rfl ?_
 refine oNl ?_
 refine cRt ?_
 cases h
 exact eR rfl rfl rfl rfl
 refine cSk ?_
 refine cRs ?_
 refine xMv rfl ?_
 refine xAs rfl ?_
 refine oNl ?_
 refine cRt ?_
 cases h
 exact eR rfl rfl rfl rfl
abbrev B_laws_heldWorker (p : Int → (List UInt8) → (List UInt8) → Int → Int → Int → (List UInt8) → (List S_impl_Term) → (List S_impl_Term) → Int → Option (Int)) : Prop := ∀ {t0_0 : Int} {t0_1 t0_2 : List UInt8} {t0_3 t0_4 t0_5 : Int} {t0_6 : List UInt8} {t0_7 t0_8 : List S_impl_Term} {t1_0 : Int} {r : Int}, p t0_0 t0_1 t0_2 t0_3 t0_4 t0_5 t0_6 t0_7 t0_8 t1_0 = some r → Big Try.prog τ An (.fn 44 [.one (.ag [.int .i64 t0_0, .str t0_1, .str t0_2, .int .i64 t0_3, .int .i64 t0_4, .int .i64 t0_5, .str t0_6, .sl (t0_7.map rS_impl_Term), .sl (t0_8.map rS_impl_Term)]), .one (.c (.int .i64 t1_0))] [] (.one (.c (.int .i64 r))) none [] none)
def p_laws_heldWorker (n : Nat) (t0_0 : Int) (t0_1 : List UInt8) (t0_2 : List UInt8) (t0_3 : Int) (t0_4 : Int) (t0_5 : Int) (t0_6 : List UInt8) (t0_7 : List S_impl_Term) (t0_8 : List S_impl_Term) (t1_0 : Int) : Option (Int) :=
  (p_laws_heldTerm n t0_4 t0_5 t0_6 t0_7 t1_0).bind fun c8_1 => bif decide (c8_1 < (0 : Int)) then some ((-1) : Int) else (p_laws_heldTermS n t0_8 c8_1).bind fun c14_3 => bif decide (c14_3 < (0 : Int)) then some ((-1) : Int) else some c14_3
theorem big_laws_heldWorker {n : Nat} : B_laws_heldWorker (p_laws_heldWorker n) := by
 intro t0_0 t0_1 t0_2 t0_3 t0_4 t0_5 t0_6 t0_7 t0_8 t1_0 r h
 unfold p_laws_heldWorker at h
 refine bF Try.func44 rfl rfl ?_
 refine cRs ?_
 refine xBx rfl ?_
 refine xAs rfl ?_
 refine oRs ?_
 refine xFd rfl ?_
 refine xLd rfl ?_
 refine xMv rfl ?_
 refine xC0 h (big_laws_heldTerm ·) rfl (fun c8_1 h => ?_)
 refine xAs rfl ?_
 refine oNl ?_
 refine cSq ?_
 refine cRs ?_
 refine xMv rfl ?_
 refine xLt rfl ?_
 refine oNl ?_
 refine cIf h rfl (fun q2 h => ?_) (fun q2 h => ?_)
 refine cRs ?_
 refine xAs rfl ?_
 refine oNl ?_
 refine cRt ?_
 cases h
 exact eR rfl rfl rfl rfl
 refine cSk ?_
 refine cRs ?_
 refine xFd rfl ?_
 refine xLd rfl ?_
 refine xMv rfl ?_
 refine xC0 h (big_laws_heldTermS ·) rfl (fun c14_3 h => ?_)
 refine xAs rfl ?_
 refine oNl ?_
 refine cSq ?_
 refine cRs ?_
 refine xMv rfl ?_
 refine xLt rfl ?_
 refine oNl ?_
 refine cIf h rfl (fun q4 h => ?_) (fun q4 h => ?_)
 refine cRs ?_
 refine xAs rfl ?_
 refine oNl ?_
 refine cRt ?_
 cases h
 exact eR rfl rfl rfl rfl
 refine cSk ?_
 refine cRs ?_
 refine xMv rfl ?_
 refine xAs rfl ?_
 refine oNl ?_
 refine cRt ?_
 cases h
 exact eR rfl rfl rfl rfl
abbrev B_laws_markTermS (p : (List S_impl_Term) → Int → Option (Int × (List S_impl_Term))) : Prop := ∀ {t0_0 : List S_impl_Term} {t1_0 : Int} {r : Int × (List S_impl_Term)}, p t0_0 t1_0 = some r → Big Try.prog τ An (.fn 77 [.one (.c (.sl (t0_0.map rS_impl_Term))), .one (.c (.int .i64 t1_0))] [] (.one (.c (.int .i64 r.1))) (some (.sl (r.2.map rS_impl_Term))) [] none)
def p_laws_markTermS_b1 (n : Nat) (r_laws_markTermS : (List S_impl_Term) → Int → Option (Int × (List S_impl_Term))) : ((List S_impl_Term) × Int × Int) → Option (((List S_impl_Term) × Int × Int) ⊕ (((List S_impl_Term) × Int × Int × Bool)))
  | (v0_1, v1_2, v5_3) => bif decide (v5_3 < (v0_1.length : Int)) then (ix v0_1 v5_3).bind fun e15_9 => (ix (v0_1.set (Int.toNat v5_3) (S_impl_Term.mk v1_2 e15_9.f1 e15_9.f2 e15_9.f3)) v5_3).bind fun e22_10 => (p_laws_markText n (IntKind.wrap .i64 ((IntKind.wrap .i64 (v1_2 + (1 : Int))) + (1 : Int)))).bind fun c29_11 => (ix ((v0_1.set (Int.toNat v5_3) (S_impl_Term.mk v1_2 e15_9.f1 e15_9.f2 e15_9.f3)).set (Int.toNat v5_3) (S_impl_Term.mk e22_10.f0 (IntKind.wrap .i64 (v1_2 + (1 : Int))) e22_10.f2 e22_10.f3)) v5_3).bind fun e30_12 => (ix (((v0_1.set (Int.toNat v5_3) (S_impl_Term.mk v1_2 e15_9.f1 e15_9.f2 e15_9.f3)).set (Int.toNat v5_3) (S_impl_Term.mk e22_10.f0 (IntKind.wrap .i64 (v1_2 + (1 : Int))) e22_10.f2 e22_10.f3)).set (Int.toNat v5_3) (S_impl_Term.mk e30_12.f0 e30_12.f1 c29_11 e30_12.f3)) v5_3).bind fun e36_13 => (r_laws_markTermS e36_13.f3 (IntKind.wrap .i64 ((IntKind.wrap .i64 ((IntKind.wrap .i64 (v1_2 + (1 : Int))) + (1 : Int))) + (1 : Int)))).bind fun c40_14 => some (.inl (((((v0_1.set (Int.toNat v5_3) (S_impl_Term.mk v1_2 e15_9.f1 e15_9.f2 e15_9.f3)).set (Int.toNat v5_3) (S_impl_Term.mk e22_10.f0 (IntKind.wrap .i64 (v1_2 + (1 : Int))) e22_10.f2 e22_10.f3)).set (Int.toNat v5_3) (S_impl_Term.mk e30_12.f0 e30_12.f1 c29_11 e30_12.f3)).set (Int.toNat v5_3) (S_impl_Term.mk e36_13.f0 e36_13.f1 e36_13.f2 c40_14.2)), c40_14.1, (IntKind.wrap .i64 (v5_3 + (1 : Int))))) else some (.inr (v0_1, v1_2, v5_3, false))
def s_laws_markTermS (n : Nat) (r_laws_markTermS : (List S_impl_Term) → Int → Option (Int × (List S_impl_Term))) (t0_0 : List S_impl_Term) (t1_0 : Int) : Option (Int × (List S_impl_Term)) :=
  (loopN (p_laws_markTermS_b1 n r_laws_markTermS) n (t0_0, t1_0, (0 : Int))).bind fun (v0_4, v1_5, v5_6, v9_7) => some (v1_5, v0_4)
theorem step_laws_markTermS {n : Nat} {r_laws_markTermS : (List S_impl_Term) → Int → Option (Int × (List S_impl_Term))} (ih_laws_markTermS : B_laws_markTermS r_laws_markTermS) : B_laws_markTermS (s_laws_markTermS n r_laws_markTermS) := by
 intro t0_0 t1_0 r h
 unfold s_laws_markTermS at h
 refine bFi Try.func77 rfl rfl ?_
 refine cRs ?_
 refine xAs rfl ?_
 refine oNl ?_
 refine cSq ?_
 refine cRs ?_
 refine xAs rfl ?_
 refine oNl ?_
 refine cLp h [(0, 1), (5, 40)] [] (fun (v0_1, v1_2, v5_3) => ([(0, Li rS_impl_Term v0_1), (1, I64 v1_2), (5, I64 v5_3)], [])) (fun (v0_4, v1_5, v5_6, v9_7) => (.e 0, [(0, Li rS_impl_Term v0_4), (1, I64 v1_5), (5, I64 v5_6), (9, Bo v9_7)], [])) rfl (fun st _ h => ?_) (fun q h => ?_)
 obtain ⟨v0_1, v1_2, v5_3⟩ := st
 unfold p_laws_markTermS_b1 at h
 refine cSq ?_
 refine cRs ?_
 refine xMv rfl ?_
 refine xMv rfl ?_
 refine xLn rfl ?_
 refine xLt rfl ?_
 refine oNl ?_
 refine cIf h rfl (fun q8 h => ?_) (fun q8 h => ?_)
 refine cSk ?_
 refine cSq ?_
 refine cBk ?_
 refine cRs ?_
 refine wAl rfl rfl rfl rfl ?_
 refine xMv rfl ?_
 refine xMv rfl ?_
 refine wIp (f := rS_impl_Term) h rfl rfl rfl rfl rfl rfl (fun a => by rw [rS_impl_Term_eq]; rfl) rfl (fun e15_9 ke15_9 h => ?_)
 refine xFd rfl ?_
 refine wSp (f := rS_impl_Term) (v' := S_impl_Term.mk v1_2 e15_9.f1 e15_9.f2 e15_9.f3) ke15_9 rfl rfl rfl rfl rfl rfl rfl (by rw [rS_impl_Term_eq]; rfl) (by rw [rS_impl_Term_eq, rS_impl_Term_mk]; rfl) ?_
 refine oRs ?_
 refine xMv rfl ?_
 refine xAdd rfl ?_
 refine xAs rfl ?_
 refine oRs ?_
 refine wAl rfl rfl rfl rfl ?_
 refine xMv rfl ?_
 refine xMv rfl ?_
 refine wIp (f := rS_impl_Term) h rfl rfl rfl rfl rfl rfl (fun a => by rw [rS_impl_Term_eq]; rfl) rfl (fun e22_10 ke22_10 h => ?_)
 refine xFd rfl ?_
 refine wSp (f := rS_impl_Term) (v' := S_impl_Term.mk e22_10.f0 (IntKind.wrap .i64 (v1_2 + (1 : Int))) e22_10.f2 e22_10.f3) ke22_10 rfl rfl rfl rfl rfl rfl rfl (by rw [rS_impl_Term_eq]; rfl) (by rw [rS_impl_Term_eq, rS_impl_Term_mk]; rfl) ?_
 refine oRs ?_
 refine xMv rfl ?_
 refine xAdd rfl ?_
 refine xAs rfl ?_
 refine oRs ?_
 refine wAl rfl rfl rfl rfl ?_
 refine xMv rfl ?_
 refine xMv rfl ?_
 refine xC0 h (big_laws_markText ·) rfl (fun c29_11 h => ?_)
 refine wIp (f := rS_impl_Term) h rfl rfl rfl rfl rfl rfl (fun a => by rw [rS_impl_Term_eq]; rfl) rfl (fun e30_12 ke30_12 h => ?_)
 refine xFd rfl ?_
 refine wSp (f := rS_impl_Term) (v' := S_impl_Term.mk e30_12.f0 e30_12.f1 c29_11 e30_12.f3) ke30_12 rfl rfl rfl rfl rfl rfl rfl (by rw [rS_impl_Term_eq]; rfl) (by rw [rS_impl_Term_eq, rS_impl_Term_mk]; rfl) ?_
 refine oRs ?_
 refine xMv rfl ?_
 refine xAdd rfl ?_
 refine xAs rfl ?_
 refine oNl ?_
 refine cRg ?_
 refine wAl rfl rfl rfl rfl ?_
 refine xMv rfl ?_
 refine wIp (f := rS_impl_Term) h rfl rfl rfl rfl rfl rfl (fun a => by rw [rS_impl_Term_eq]; rfl) rfl (fun e36_13 ke36_13 h => ?_)
 refine xFd rfl ?_
 refine wLq (f := rS_impl_Term) ke36_13 rfl rfl rfl rfl rfl rfl rfl (by rw [rS_impl_Term_eq]) rfl rfl ?_
 refine xMv rfl ?_
 refine xIo (fun c40_14 => .sl (((((v0_1.set (Int.toNat v5_3) (S_impl_Term.mk v1_2 e15_9.f1 e15_9.f2 e15_9.f3)).set (Int.toNat v5_3) (S_impl_Term.mk e22_10.f0 (IntKind.wrap .i64 (v1_2 + (1 : Int))) e22_10.f2 e22_10.f3)).set (Int.toNat v5_3) (S_impl_Term.mk e30_12.f0 e30_12.f1 c29_11 e30_12.f3)).set (Int.toNat v5_3) (S_impl_Term.mk e36_13.f0 e36_13.f1 e36_13.f2 c40_14.2)).map rS_impl_Term)) h (ih_laws_markTermS ·) rfl (nav1 ke36_13 (by rw [rS_impl_Term_eq]; rfl)) (fun _ => setAt1 ke36_13 (by rw [rS_impl_Term_eq]; rfl) (by rw [rS_impl_Term_eq, rS_impl_Term_mk]; rfl)) (fun c40_14 h => ?_)
 refine xAs rfl ?_
 refine oNl ?_
 refine cRg ?_
 refine xMv rfl ?_
 refine xAdd rfl ?_
 refine xAs rfl ?_
 refine oNl ?_
 exact eL h rfl
 refine cEx ?_
 exact eX h rfl
 obtain ⟨v0_4, v1_5, v5_6, v9_7⟩ := q
 refine cRs ?_
 refine xMv rfl ?_
 refine xAs rfl ?_
 refine oNl ?_
 refine cRt ?_
 cases h
 exact eRi rfl rfl rfl rfl rfl
def q_laws_markTermS : Nat → ((List S_impl_Term) → Int → Option (Int × (List S_impl_Term)))
  | 0 => (fun _ _ => none)
  | n + 1 => s_laws_markTermS n (q_laws_markTermS n)
def p_laws_markTermS (n : Nat) : (List S_impl_Term) → Int → Option (Int × (List S_impl_Term)) := q_laws_markTermS n
theorem bigs_laws_markTermS (n : Nat) : B_laws_markTermS (p_laws_markTermS n) := by
  induction n with
  | zero => exact (fun h => nomatch h)
  | succ n ih => exact step_laws_markTermS (n := n) ih
theorem big_laws_markTermS {n : Nat} : B_laws_markTermS (p_laws_markTermS n) := (bigs_laws_markTermS n)
theorem p_laws_markTermS_succ (n : Nat) : p_laws_markTermS (n + 1) = s_laws_markTermS n (p_laws_markTermS n) := rfl
abbrev B_laws_FnExactPutWord (p : Int → (List UInt8) → (List UInt8) → Int → Int → Int → (List UInt8) → (List S_laws_Term) → (List S_laws_Term) → Int → Int → (List UInt8) → (List S_laws_Term) → Option (Bool)) : Prop := ∀ {t0_0 : Int} {t0_1 t0_2 : List UInt8} {t0_3 t0_4 t0_5 : Int} {t0_6 : List UInt8} {t0_7 t0_8 : List S_laws_Term} {t1_0 t1_1 : Int} {t1_2 : List UInt8} {t1_3 : List S_laws_Term} {r : Bool}, p t0_0 t0_1 t0_2 t0_3 t0_4 t0_5 t0_6 t0_7 t0_8 t1_0 t1_1 t1_2 t1_3 = some r → Big Try.prog τ An (.fn 9 [.one (.ag [.int .i64 t0_0, .str t0_1, .str t0_2, .int .i64 t0_3, .int .i64 t0_4, .int .i64 t0_5, .str t0_6, .sl (t0_7.map rS_laws_Term), .sl (t0_8.map rS_laws_Term)]), .one (.ag [.int .i64 t1_0, .int .i64 t1_1, .str t1_2, .sl (t1_3.map rS_laws_Term)])] [] (.one (.c (.bool r))) none [] none)
def p_laws_FnExactPutWord (n : Nat) (t0_0 : Int) (t0_1 : List UInt8) (t0_2 : List UInt8) (t0_3 : Int) (t0_4 : Int) (t0_5 : Int) (t0_6 : List UInt8) (t0_7 : List S_laws_Term) (t0_8 : List S_laws_Term) (t1_0 : Int) (t1_1 : Int) (t1_2 : List UInt8) (t1_3 : List S_laws_Term) : Option (Bool) :=
  (p_laws_szWorker n t0_0 t0_1 t0_2 t0_3 t0_4 t0_5 t0_6 t0_7 t0_8 (1048576 : Int)).bind fun c19_1 => bif decide (c19_1 < (0 : Int)) then some true else (p_laws_szTerm n t1_0 t1_1 t1_2 t1_3 c19_1).bind fun c24_3 => bif decide (c24_3 < (0 : Int)) then some true else (p_laws_toWorker n t0_0 t0_1 t0_2 t0_3 t0_4 t0_5 t0_6 t0_7 t0_8).bind fun c29_5 => (p_laws_toTerm n t1_0 t1_1 t1_2 t1_3).bind fun c31_6 => (p_spec_PutWord n c29_5.1 c29_5.2.1 c29_5.2.2.1 c29_5.2.2.2.1 c29_5.2.2.2.2.1 c29_5.2.2.2.2.2.1 c29_5.2.2.2.2.2.2.1 c29_5.2.2.2.2.2.2.2.1 c29_5.2.2.2.2.2.2.2.2 c31_6.1 c31_6.2.1 c31_6.2.2.1 c31_6.2.2.2).bind fun c32_7 => (p_laws_toWorker n t0_0 t0_1 t0_2 t0_3 t0_4 t0_5 t0_6 t0_7 t0_8).bind fun c36_8 => (p_laws_toTerm n t1_0 t1_1 t1_2 t1_3).bind fun c38_9 => (p_impl_PutWord n c36_8.1 c36_8.2.1 c36_8.2.2.1 c36_8.2.2.2.1 c36_8.2.2.2.2.1 c36_8.2.2.2.2.2.1 c36_8.2.2.2.2.2.2.1 c36_8.2.2.2.2.2.2.2.1 c36_8.2.2.2.2.2.2.2.2 c38_9.1 c38_9.2.1 c38_9.2.2.1 c38_9.2.2.2).bind fun c42_10 => ((p_laws_eqWorker n c42_10.1 c42_10.2.1 c42_10.2.2.1 c42_10.2.2.2.1 c42_10.2.2.2.2.1 c42_10.2.2.2.2.2.1 c42_10.2.2.2.2.2.2.1 c42_10.2.2.2.2.2.2.2.1 c42_10.2.2.2.2.2.2.2.2.1 c32_7.1 c32_7.2.1 c32_7.2.2.1 c32_7.2.2.2.1 c32_7.2.2.2.2.1 c32_7.2.2.2.2.2.1 c32_7.2.2.2.2.2.2.1 c32_7.2.2.2.2.2.2.2.1 c32_7.2.2.2.2.2.2.2.2.1).bind fun c47_12 => bif !c47_12 then some true else some (!(c42_10.2.2.2.2.2.2.2.2.2 == c32_7.2.2.2.2.2.2.2.2.2))).bind fun v53_11 => bif v53_11 then some false else (p_laws_toWorker n t0_0 t0_1 t0_2 t0_3 t0_4 t0_5 t0_6 t0_7 t0_8).bind fun c56_15 => (p_laws_eqWorker n c36_8.1 c36_8.2.1 c36_8.2.2.1 c36_8.2.2.2.1 c36_8.2.2.2.2.1 c36_8.2.2.2.2.2.1 c36_8.2.2.2.2.2.2.1 c36_8.2.2.2.2.2.2.2.1 c36_8.2.2.2.2.2.2.2.2 c56_15.1 c56_15.2.1 c56_15.2.2.1 c56_15.2.2.2.1 c56_15.2.2.2.2.1 c56_15.2.2.2.2.2.1 c56_15.2.2.2.2.2.2.1 c56_15.2.2.2.2.2.2.2.1 c56_15.2.2.2.2.2.2.2.2).bind fun c57_16 => bif !c57_16 then some false else (p_laws_toTerm n t1_0 t1_1 t1_2 t1_3).bind fun c61_18 => (p_laws_eqTerm n c38_9.1 c38_9.2.1 c38_9.2.2.1 c38_9.2.2.2 c61_18.1 c61_18.2.1 c61_18.2.2.1 c61_18.2.2.2).bind fun c62_19 => bif !c62_19 then some false else (p_laws_markTermS n c36_8.2.2.2.2.2.2.2.1 (1 : Int)).bind fun m19_21 => (p_laws_markTermS n c36_8.2.2.2.2.2.2.2.2 m19_21.1).bind fun m19_22 => (p_laws_markTermS n c38_9.2.2.2 m19_22.1).bind fun m20_23 => (bif decide (m20_23.1 < (0 : Int)) then some true else (p_laws_eqWorker n c42_10.1 c42_10.2.1 c42_10.2.2.1 c42_10.2.2.2.1 c42_10.2.2.2.2.1 c42_10.2.2.2.2.2.1 c42_10.2.2.2.2.2.2.1 c42_10.2.2.2.2.2.2.2.1 c42_10.2.2.2.2.2.2.2.2.1 c32_7.1 c32_7.2.1 c32_7.2.2.1 c32_7.2.2.2.1 c32_7.2.2.2.2.1 c32_7.2.2.2.2.2.1 c32_7.2.2.2.2.2.2.1 c32_7.2.2.2.2.2.2.2.1 c32_7.2.2.2.2.2.2.2.2.1).bind fun c75_26 => bif !c75_26 then some true else some (!(c42_10.2.2.2.2.2.2.2.2.2 == c32_7.2.2.2.2.2.2.2.2.2))).bind fun v82_24 => bif v82_24 then some false else (p_laws_markTermS n c42_10.2.2.2.2.2.2.2.1 (1 : Int)).bind fun m24_29 => (p_laws_markTermS n c42_10.2.2.2.2.2.2.2.2.1 m24_29.1).bind fun m24_30 => (p_laws_heldWorker n c42_10.1 c42_10.2.1 c42_10.2.2.1 c42_10.2.2.2.1 c42_10.2.2.2.2.1 c42_10.2.2.2.2.2.1 c42_10.2.2.2.2.2.2.1 m24_29.2 m24_30.2 (1 : Int)).bind fun c88_31 => bif decide (c88_31 < (0 : Int)) then some false else bif !decide (c88_31 = m24_30.1) then some false else (p_laws_toWorker n t0_0 t0_1 t0_2 t0_3 t0_4 t0_5 t0_6 t0_7 t0_8).bind fun c96_34 => (p_laws_toTerm n t1_0 t1_1 t1_2 t1_3).bind fun c98_35 => (p_impl_PutWord n c96_34.1 c96_34.2.1 c96_34.2.2.1 c96_34.2.2.2.1 c96_34.2.2.2.2.1 c96_34.2.2.2.2.2.1 c96_34.2.2.2.2.2.2.1 c96_34.2.2.2.2.2.2.2.1 c96_34.2.2.2.2.2.2.2.2 c98_35.1 c98_35.2.1 c98_35.2.2.1 c98_35.2.2.2).bind fun c99_36 => ((p_laws_eqWorker n c99_36.1 c99_36.2.1 c99_36.2.2.1 c99_36.2.2.2.1 c99_36.2.2.2.2.1 c99_36.2.2.2.2.2.1 c99_36.2.2.2.2.2.2.1 c99_36.2.2.2.2.2.2.2.1 c99_36.2.2.2.2.2.2.2.2.1 c32_7.1 c32_7.2.1 c32_7.2.2.1 c32_7.2.2.2.1 c32_7.2.2.2.2.1 c32_7.2.2.2.2.2.1 c32_7.2.2.2.2.2.2.1 c32_7.2.2.2.2.2.2.2.1 c32_7.2.2.2.2.2.2.2.2.1).bind fun c104_38 => bif !c104_38 then some true else some (!(c99_36.2.2.2.2.2.2.2.2.2 == c32_7.2.2.2.2.2.2.2.2.2))).bind fun v110_37 => bif v110_37 then some false else (p_laws_heldWorker n c42_10.1 c42_10.2.1 c42_10.2.2.1 c42_10.2.2.2.1 c42_10.2.2.2.2.1 c42_10.2.2.2.2.2.1 c42_10.2.2.2.2.2.2.1 m24_29.2 m24_30.2 (1 : Int)).bind fun c113_41 => bif decide (c113_41 < (0 : Int)) then some false else bif !decide (c113_41 = m24_30.1) then some false else some true
theorem big_laws_FnExactPutWord {n : Nat} : B_laws_FnExactPutWord (p_laws_FnExactPutWord n) := by
 intro t0_0 t0_1 t0_2 t0_3 t0_4 t0_5 t0_6 t0_7 t0_8 t1_0 t1_1 t1_2 t1_3 r h
 unfold p_laws_FnExactPutWord at h
 refine bF Try.func9 rfl rfl ?_
 refine cRs ?_
 refine xBx rfl ?_
 refine xBx rfl ?_
 refine xAs rfl ?_
 refine oRs ?_
 refine xAs rfl ?_
 refine oRs ?_
 refine xLd rfl ?_
 refine xMv rfl ?_
 refine xC0 h (big_laws_szWorker ·) rfl (fun c19_1 h => ?_)
 refine xAs rfl ?_
 refine oNl ?_
 refine cSq ?_
 refine cRs ?_
 refine xMv rfl ?_
 refine xLt rfl ?_
 refine oNl ?_
 refine cIf h rfl (fun q2 h => ?_) (fun q2 h => ?_)
 refine cRs ?_
 refine xAs rfl ?_
 refine oNl ?_
 refine cRt ?_
 cases h
 exact eR rfl rfl rfl rfl
 refine cSk ?_
 refine cRs ?_
 refine xLd rfl ?_
 refine xMv rfl ?_
 refine xC0 h (big_laws_szTerm ·) rfl (fun c24_3 h => ?_)
 refine xAs rfl ?_
 refine oNl ?_
 refine cSq ?_
 refine cRs ?_
 refine xMv rfl ?_
 refine xLt rfl ?_
 refine oNl ?_
 refine cIf h rfl (fun q4 h => ?_) (fun q4 h => ?_)
 refine cRs ?_
 refine xAs rfl ?_
 refine oNl ?_
 refine cRt ?_
 cases h
 exact eR rfl rfl rfl rfl
 refine cSk ?_
 refine cRs ?_
 refine xLd rfl ?_
 refine xC0 h (big_laws_toWorker ·) rfl (fun c29_5 h => ?_)
 refine xLd rfl ?_
 refine xC0 h (big_laws_toTerm ·) rfl (fun c31_6 h => ?_)
 refine xC0 h (big_spec_PutWord ·) rfl (fun c32_7 h => ?_)
 refine xMv rfl ?_
 refine xEt rfl ?_
 refine xEt rfl ?_
 refine xAz [.int .i64 0, .str [], .str [], .int .i64 0, .int .i64 0, .int .i64 0, .str [], .sl ([].map rS_impl_Term), .sl ([].map rS_impl_Term)] rfl ?_
 refine xSt rfl ?_
 refine xAs rfl ?_
 refine oRs ?_
 refine xLd rfl ?_
 refine xC0 h (big_laws_toWorker ·) rfl (fun c36_8 h => ?_)
 refine xAz [.int .i64 0, .str [], .str [], .int .i64 0, .int .i64 0, .int .i64 0, .str [], .sl ([].map rS_impl_Term), .sl ([].map rS_impl_Term)] rfl ?_
 refine xSt rfl ?_
 refine oRs ?_
 refine xLd rfl ?_
 refine xC0 h (big_laws_toTerm ·) rfl (fun c38_9 h => ?_)
 refine xAz [.int .i64 0, .int .i64 0, .str [], .sl ([].map rS_impl_Term)] rfl ?_
 refine xSt rfl ?_
 refine oRs ?_
 refine xLd rfl ?_
 refine xLd rfl ?_
 refine xC0 h (big_impl_PutWord ·) rfl (fun c42_10 h => ?_)
 refine xMv rfl ?_
 refine xEt rfl ?_
 refine xEt rfl ?_
 refine xAz [.int .i64 0, .str [], .str [], .int .i64 0, .int .i64 0, .int .i64 0, .str [], .sl ([].map rS_impl_Term), .sl ([].map rS_impl_Term)] rfl ?_
 refine xSt rfl ?_
 refine xAs rfl ?_
 refine oNl ?_
 refine cSq ?_
 refine cRs ?_
 refine oJn h [(45, 53)] [] (fun v53_11 => (.n, [(53, Bo v53_11)], [])) (fun _ h => ?_) (fun v53_11 h => ?_)
 refine xLd rfl ?_
 refine xLd rfl ?_
 refine xC0 h (big_laws_eqWorker ·) rfl (fun c47_12 h => ?_)
 refine xNot rfl ?_
 refine xMv rfl ?_
 refine oIf 49 h rfl (fun q13 h => ?_) (fun q13 h => ?_)
 refine wSk rfl ?_
 refine wSk rfl ?_
 refine wSk rfl ?_
 refine xPk rfl ?_
 refine oNl ?_
 exact eJ h rfl
 refine xMv rfl ?_
 refine xMv rfl ?_
 refine wBi (.bool (!(c42_10.2.2.2.2.2.2.2.2.2 == c32_7.2.2.2.2.2.2.2.2.2))) rfl rfl rfl rfl rfl ?_
 refine xPk rfl ?_
 refine oNl ?_
 exact eJ h rfl
 refine cIf h rfl (fun q14 h => ?_) (fun q14 h => ?_)
 refine cRs ?_
 refine xAs rfl ?_
 refine oNl ?_
 refine cRt ?_
 cases h
 exact eR rfl rfl rfl rfl
 refine cSk ?_
 refine cSq ?_
 refine cRs ?_
 refine xLd rfl ?_
 refine xLd rfl ?_
 refine xC0 h (big_laws_toWorker ·) rfl (fun c56_15 h => ?_)
 refine xC0 h (big_laws_eqWorker ·) rfl (fun c57_16 h => ?_)
 refine xNot rfl ?_
 refine oNl ?_
 refine cIf h rfl (fun q17 h => ?_) (fun q17 h => ?_)
 refine cRs ?_
 refine xAs rfl ?_
 refine oNl ?_
 refine cRt ?_
 cases h
 exact eR rfl rfl rfl rfl
 refine cSk ?_
 refine cSq ?_
 refine cRs ?_
 refine xLd rfl ?_
 refine xLd rfl ?_
 refine xC0 h (big_laws_toTerm ·) rfl (fun c61_18 h => ?_)
 refine xC0 h (big_laws_eqTerm ·) rfl (fun c62_19 h => ?_)
 refine xNot rfl ?_
 refine oNl ?_
 refine cIf h rfl (fun q20 h => ?_) (fun q20 h => ?_)
 refine cRs ?_
 refine xAs rfl ?_
 refine oNl ?_
 refine cRt ?_
 cases h
 exact eR rfl rfl rfl rfl
 refine cSk ?_
 refine cRs ?_
 refine xAs rfl ?_
 refine oNl ?_
 obtain ⟨m19_21, em19_21, h⟩ := bind_some h
 obtain ⟨m19_22, em19_22, h⟩ := bind_some h
 refine cMk [⟨7, 77, c36_8.2.2.2.2.2.2.2.1.map rS_impl_Term, m19_21.2.map rS_impl_Term, 1, m19_21.1⟩, ⟨8, 77, c36_8.2.2.2.2.2.2.2.2.map rS_impl_Term, m19_22.2.map rS_impl_Term, m19_21.1, m19_22.1⟩] marks_43 ⟨big_laws_markTermS em19_21, big_laws_markTermS em19_22, trivial⟩ rfl rfl ⟨rfl, rfl, rfl, rfl, rfl, rfl⟩ ?_
 obtain ⟨m20_23, em20_23, h⟩ := bind_some h
 refine cMk [⟨3, 77, c38_9.2.2.2.map rS_impl_Term, m20_23.2.map rS_impl_Term, m19_22.1, m20_23.1⟩] marks_33 ⟨big_laws_markTermS em20_23, trivial⟩ rfl rfl ⟨rfl, rfl, rfl, rfl⟩ ?_
 refine cSq ?_
 refine cRs ?_
 refine oJn h [(70, 82)] [] (fun v82_24 => (.n, [(82, Bo v82_24)], [])) (fun _ h => ?_) (fun v82_24 h => ?_)
 refine xMv rfl ?_
 refine xLt rfl ?_
 refine xMv rfl ?_
 refine oIf 72 h rfl (fun q25 h => ?_) (fun q25 h => ?_)
 refine wSk rfl ?_
 refine wSk rfl ?_
 refine wSk rfl ?_
 refine wSk rfl ?_
 refine xPk rfl ?_
 refine xMv rfl ?_
 refine wSk rfl ?_
 refine wSk rfl ?_
 refine wSk rfl ?_
 refine xPk rfl ?_
 refine oNl ?_
 exact eJ h rfl
 refine xLd rfl ?_
 refine xLd rfl ?_
 refine xC0 h (big_laws_eqWorker ·) rfl (fun c75_26 h => ?_)
 refine xNot rfl ?_
 refine xPk rfl ?_
 refine xMv rfl ?_
 refine oIf 78 h rfl (fun q27 h => ?_) (fun q27 h => ?_)
 refine wSk rfl ?_
 refine wSk rfl ?_
 refine wSk rfl ?_
 refine xPk rfl ?_
 refine oNl ?_
 exact eJ h rfl
 refine xMv rfl ?_
 refine xMv rfl ?_
 refine wBi (.bool (!(c42_10.2.2.2.2.2.2.2.2.2 == c32_7.2.2.2.2.2.2.2.2.2))) rfl rfl rfl rfl rfl ?_
 refine xPk rfl ?_
 refine oNl ?_
 exact eJ h rfl
 refine cIf h rfl (fun q28 h => ?_) (fun q28 h => ?_)
 refine cRs ?_
 refine xAs rfl ?_
 refine oNl ?_
 refine cRt ?_
 cases h
 exact eR rfl rfl rfl rfl
 refine cSk ?_
 refine cRs ?_
 refine xAs rfl ?_
 refine oNl ?_
 obtain ⟨m24_29, em24_29, h⟩ := bind_some h
 obtain ⟨m24_30, em24_30, h⟩ := bind_some h
 refine cMk [⟨7, 77, c42_10.2.2.2.2.2.2.2.1.map rS_impl_Term, m24_29.2.map rS_impl_Term, 1, m24_29.1⟩, ⟨8, 77, c42_10.2.2.2.2.2.2.2.2.1.map rS_impl_Term, m24_30.2.map rS_impl_Term, m24_29.1, m24_30.1⟩] marks_43 ⟨big_laws_markTermS em24_29, big_laws_markTermS em24_30, trivial⟩ rfl rfl ⟨rfl, rfl, rfl, rfl, rfl, rfl⟩ ?_
 refine cRs ?_
 refine xAs rfl ?_
 refine oRs ?_
 refine xLd rfl ?_
 refine xMv rfl ?_
 refine xC0 h (big_laws_heldWorker ·) rfl (fun c88_31 h => ?_)
 refine xAs rfl ?_
 refine oNl ?_
 refine cSq ?_
 refine cRs ?_
 refine xMv rfl ?_
 refine xLt rfl ?_
 refine oNl ?_
 refine cIf h rfl (fun q32 h => ?_) (fun q32 h => ?_)
 refine cRs ?_
 refine xAs rfl ?_
 refine oNl ?_
 refine cRt ?_
 cases h
 exact eR rfl rfl rfl rfl
 refine cSk ?_
 refine cSq ?_
 refine cRs ?_
 refine xMv rfl ?_
 refine xMv rfl ?_
 refine xNe rfl ?_
 refine oNl ?_
 refine cIf h rfl (fun q33 h => ?_) (fun q33 h => ?_)
 refine cRs ?_
 refine xAs rfl ?_
 refine oNl ?_
 refine cRt ?_
 cases h
 exact eR rfl rfl rfl rfl
 refine cSk ?_
 refine cRs ?_
 refine xLd rfl ?_
 refine xC0 h (big_laws_toWorker ·) rfl (fun c96_34 h => ?_)
 refine xLd rfl ?_
 refine xC0 h (big_laws_toTerm ·) rfl (fun c98_35 h => ?_)
 refine xC0 h (big_impl_PutWord ·) rfl (fun c99_36 h => ?_)
 refine xMv rfl ?_
 refine xEt rfl ?_
 refine xEt rfl ?_
 refine xAz [.int .i64 0, .str [], .str [], .int .i64 0, .int .i64 0, .int .i64 0, .str [], .sl ([].map rS_impl_Term), .sl ([].map rS_impl_Term)] rfl ?_
 refine xSt rfl ?_
 refine xAs rfl ?_
 refine oNl ?_
 refine cSq ?_
 refine cRs ?_
 refine oJn h [(102, 110)] [] (fun v110_37 => (.n, [(110, Bo v110_37)], [])) (fun _ h => ?_) (fun v110_37 h => ?_)
 refine xLd rfl ?_
 refine xLd rfl ?_
 refine xC0 h (big_laws_eqWorker ·) rfl (fun c104_38 h => ?_)
 refine xNot rfl ?_
 refine xMv rfl ?_
 refine oIf 106 h rfl (fun q39 h => ?_) (fun q39 h => ?_)
 refine wSk rfl ?_
 refine wSk rfl ?_
 refine wSk rfl ?_
 refine xPk rfl ?_
 refine oNl ?_
 exact eJ h rfl
 refine xMv rfl ?_
 refine xMv rfl ?_
 refine wBi (.bool (!(c99_36.2.2.2.2.2.2.2.2.2 == c32_7.2.2.2.2.2.2.2.2.2))) rfl rfl rfl rfl rfl ?_
 refine xPk rfl ?_
 refine oNl ?_
 exact eJ h rfl
 refine cIf h rfl (fun q40 h => ?_) (fun q40 h => ?_)
 refine cRs ?_
 refine xAs rfl ?_
 refine oNl ?_
 refine cRt ?_
 cases h
 exact eR rfl rfl rfl rfl
 refine cSk ?_
 refine cRs ?_
 refine xAs rfl ?_
 refine oRs ?_
 refine xLd rfl ?_
 refine xMv rfl ?_
 refine xC0 h (big_laws_heldWorker ·) rfl (fun c113_41 h => ?_)
 refine xAs rfl ?_
 refine oNl ?_
 refine cSq ?_
 refine cRs ?_
 refine xMv rfl ?_
 refine xLt rfl ?_
 refine oNl ?_
 refine cIf h rfl (fun q42 h => ?_) (fun q42 h => ?_)
 refine cRs ?_
 refine xAs rfl ?_
 refine oNl ?_
 refine cRt ?_
 cases h
 exact eR rfl rfl rfl rfl
 refine cSk ?_
 refine cSq ?_
 refine cRs ?_
 refine xMv rfl ?_
 refine xMv rfl ?_
 refine xNe rfl ?_
 refine oNl ?_
 refine cIf h rfl (fun q43 h => ?_) (fun q43 h => ?_)
 refine cRs ?_
 refine xAs rfl ?_
 refine oNl ?_
 refine cRt ?_
 cases h
 exact eR rfl rfl rfl rfl
 refine cSk ?_
 refine cRs ?_
 refine xAs rfl ?_
 refine oNl ?_
 refine cRt ?_
 cases h
 exact eR rfl rfl rfl rfl
end Go.Own
