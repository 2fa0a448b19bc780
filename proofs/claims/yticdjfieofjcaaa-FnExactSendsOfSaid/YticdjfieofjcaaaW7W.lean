/- Each function on plain data, and its walk. No conditions. -/
import Derived.Test.YticdjfieofjcaaaW7A
set_option linter.unusedVariables false
set_option linter.unusedSimpArgs false
set_option linter.unnecessarySimpa false
namespace Go.Own
open Go Go.Proofs
def rI_u8 (a : Int) : List T := [.int .u8 a]
theorem rI_u8_eq (a : Int) : rI_u8 a = [.int .u8 a] := rfl
def rI_i64 (a : Int) : List T := [.int .i64 a]
theorem rI_i64_eq (a : Int) : rI_i64 a = [.int .i64 a] := rfl
inductive S_impl_Term where
  | mk (f0 : Int) (f1 : Int) (f2 : List UInt8) (f3 : List S_impl_Term)
def S_impl_Term.f0 : S_impl_Term → Int
  | .mk a _ _ _ => a
def S_impl_Term.f1 : S_impl_Term → Int
  | .mk _ a _ _ => a
def S_impl_Term.f2 : S_impl_Term → List UInt8
  | .mk _ _ a _ => a
def S_impl_Term.f3 : S_impl_Term → List S_impl_Term
  | .mk _ _ _ a => a
mutual
def rS_impl_Term : S_impl_Term → List T
  | .mk a0 a1 a2 a3 => [.int .i64 a0, .int .i64 a1, .str a2, .sl (rS_impl_Terms a3)]
def rS_impl_Terms : List S_impl_Term → List (List T)
  | [] => []
  | x :: r => rS_impl_Term x :: rS_impl_Terms r
end
theorem rS_impl_Terms_map : ∀ l : List S_impl_Term, rS_impl_Terms l = l.map rS_impl_Term
  | [] => by simp [rS_impl_Terms]
  | x :: r => by simp [rS_impl_Terms, rS_impl_Terms_map r]
theorem rS_impl_Term_eq (a : S_impl_Term) : rS_impl_Term a = [.int .i64 a.f0, .int .i64 a.f1, .str a.f2, .sl (a.f3.map rS_impl_Term)] := by
  cases a
  simp [rS_impl_Term, rS_impl_Terms_map, S_impl_Term.f0, S_impl_Term.f1, S_impl_Term.f2, S_impl_Term.f3]
theorem rS_impl_Term_mk (a0 : Int) (a1 : Int) (a2 : List UInt8) (a3 : List S_impl_Term) : rS_impl_Term (.mk a0 a1 a2 a3) = [.int .i64 a0, .int .i64 a1, .str a2, .sl (a3.map rS_impl_Term)] := by simp [rS_impl_Term, rS_impl_Terms_map]
structure S_impl_Send where
  f0 : Int
  f1 : Int
  f2 : List UInt8
  f3 : List S_impl_Term
  f4 : Int
  f5 : Int
  f6 : List UInt8
  f7 : List S_impl_Term
def rS_impl_Send (a : S_impl_Send) : List T := [.int .i64 a.f0, .int .i64 a.f1, .str a.f2, .sl (a.f3.map rS_impl_Term), .int .i64 a.f4, .int .i64 a.f5, .str a.f6, .sl (a.f7.map rS_impl_Term)]
theorem rS_impl_Send_eq (a : S_impl_Send) : rS_impl_Send a = [.int .i64 a.f0, .int .i64 a.f1, .str a.f2, .sl (a.f3.map rS_impl_Term), .int .i64 a.f4, .int .i64 a.f5, .str a.f6, .sl (a.f7.map rS_impl_Term)] := rfl
inductive S_laws_Term where
  | mk (f0 : Int) (f1 : Int) (f2 : List UInt8) (f3 : List S_laws_Term)
def S_laws_Term.f0 : S_laws_Term → Int
  | .mk a _ _ _ => a
def S_laws_Term.f1 : S_laws_Term → Int
  | .mk _ a _ _ => a
def S_laws_Term.f2 : S_laws_Term → List UInt8
  | .mk _ _ a _ => a
def S_laws_Term.f3 : S_laws_Term → List S_laws_Term
  | .mk _ _ _ a => a
mutual
def rS_laws_Term : S_laws_Term → List T
  | .mk a0 a1 a2 a3 => [.int .i64 a0, .int .i64 a1, .str a2, .sl (rS_laws_Terms a3)]
def rS_laws_Terms : List S_laws_Term → List (List T)
  | [] => []
  | x :: r => rS_laws_Term x :: rS_laws_Terms r
end
theorem rS_laws_Terms_map : ∀ l : List S_laws_Term, rS_laws_Terms l = l.map rS_laws_Term
  | [] => by simp [rS_laws_Terms]
  | x :: r => by simp [rS_laws_Terms, rS_laws_Terms_map r]
theorem rS_laws_Term_eq (a : S_laws_Term) : rS_laws_Term a = [.int .i64 a.f0, .int .i64 a.f1, .str a.f2, .sl (a.f3.map rS_laws_Term)] := by
  cases a
  simp [rS_laws_Term, rS_laws_Terms_map, S_laws_Term.f0, S_laws_Term.f1, S_laws_Term.f2, S_laws_Term.f3]
theorem rS_laws_Term_mk (a0 : Int) (a1 : Int) (a2 : List UInt8) (a3 : List S_laws_Term) : rS_laws_Term (.mk a0 a1 a2 a3) = [.int .i64 a0, .int .i64 a1, .str a2, .sl (a3.map rS_laws_Term)] := by simp [rS_laws_Term, rS_laws_Terms_map]
abbrev B_impl_isAddress (p : Int → Int → (List UInt8) → (List S_impl_Term) → Option (Bool)) : Prop := ∀ {t0_0 t0_1 : Int} {t0_2 : List UInt8} {t0_3 : List S_impl_Term} {r : Bool}, p t0_0 t0_1 t0_2 t0_3 = some r → Big Try.prog τ An (.fn 64 [.one (.ag [.int .i64 t0_0, .int .i64 t0_1, .str t0_2, .sl (t0_3.map rS_impl_Term)])] [] (.one (.c (.bool r))) none [] none)
def p_impl_isAddress (n : Nat) (t0_0 : Int) (t0_1 : Int) (t0_2 : List UInt8) (t0_3 : List S_impl_Term) : Option (Bool) :=
  (bif decide (t0_0 = (2 : Int)) then some true else some (decide (t0_0 = (3 : Int)))).bind fun v2_1 => some v2_1
theorem big_impl_isAddress {n : Nat} : B_impl_isAddress (p_impl_isAddress n) := by
 intro t0_0 t0_1 t0_2 t0_3 r h
 unfold p_impl_isAddress at h
 refine bF Try.func64 rfl rfl ?_
 refine cRs ?_
 refine xBx rfl ?_
 refine xAs rfl ?_
 refine oRs ?_
 refine oJn h [(2, 10)] [] (fun v2_1 => (.n, [(2, Bo v2_1)], [])) (fun _ h => ?_) (fun v2_1 h => ?_)
 refine xFd rfl ?_
 refine xLd rfl ?_
 refine xEq rfl ?_
 refine xMv rfl ?_
 refine oIf 6 h rfl (fun q2 h => ?_) (fun q2 h => ?_)
 refine wSk rfl ?_
 refine wSk rfl ?_
 refine wSk rfl ?_
 refine xPk rfl ?_
 refine xAs rfl ?_
 refine oNl ?_
 exact eJ h rfl
 refine xFd rfl ?_
 refine xLd rfl ?_
 refine xEq rfl ?_
 refine xPk rfl ?_
 refine xAs rfl ?_
 refine oNl ?_
 exact eJ h rfl
 refine cRt ?_
 cases h
 exact eR rfl rfl rfl rfl
abbrev B_impl_copyTerms (p : (List S_impl_Term) → Option ((List S_impl_Term))) : Prop := ∀ {t0_0 : List S_impl_Term} {r : (List S_impl_Term)}, p t0_0 = some r → Big Try.prog τ An (.fn 106 [.one (.c (.sl (t0_0.map rS_impl_Term)))] [] (.one (.c (.sl (r.map rS_impl_Term)))) none [] none)
abbrev B_impl_copyTerm (p : Int → Int → (List UInt8) → (List S_impl_Term) → Option (Int × Int × (List UInt8) × (List S_impl_Term))) : Prop := ∀ {t0_0 t0_1 : Int} {t0_2 : List UInt8} {t0_3 : List S_impl_Term} {r : Int × Int × (List UInt8) × (List S_impl_Term)}, p t0_0 t0_1 t0_2 t0_3 = some r → Big Try.prog τ An (.fn 65 [.one (.ag [.int .i64 t0_0, .int .i64 t0_1, .str t0_2, .sl (t0_3.map rS_impl_Term)])] [] (.one (.ag [.int .i64 r.1, .int .i64 r.2.1, .str r.2.2.1, .sl (r.2.2.2.map rS_impl_Term)])) none [] none)
def p_impl_copyTerms_b1 (n : Nat) (r_impl_copyTerm : Int → Int → (List UInt8) → (List S_impl_Term) → Option (Int × Int × (List UInt8) × (List S_impl_Term))) (t0_0 : List S_impl_Term) : ((List S_impl_Term) × Int) → Option (((List S_impl_Term) × Int) ⊕ (((List S_impl_Term) × Int × Bool)))
  | (v3_1, v8_2) => bif decide (v8_2 < (t0_0.length : Int)) then (ix t0_0 v8_2).bind fun e10_7 => (r_impl_copyTerm e10_7.f0 e10_7.f1 e10_7.f2 e10_7.f3).bind fun c14_8 => (app2 56 v3_1 ([S_impl_Term.mk c14_8.1 c14_8.2.1 c14_8.2.2.1 c14_8.2.2.2] : List S_impl_Term)).bind fun v16_9 => some (.inl (v16_9, (IntKind.wrap .i64 (v8_2 + (1 : Int))))) else some (.inr (v3_1, v8_2, false))
def s_impl_copyTerms (n : Nat) (r_impl_copyTerm : Int → Int → (List UInt8) → (List S_impl_Term) → Option (Int × Int × (List UInt8) × (List S_impl_Term))) (r_impl_copyTerms : (List S_impl_Term) → Option ((List S_impl_Term))) (t0_0 : List S_impl_Term) : Option ((List S_impl_Term)) :=
  (loopN (p_impl_copyTerms_b1 n r_impl_copyTerm t0_0) n (([] : List S_impl_Term), (0 : Int))).bind fun (v3_3, v8_4, v9_5) => some v3_3
theorem step_impl_copyTerms {n : Nat} {r_impl_copyTerm : Int → Int → (List UInt8) → (List S_impl_Term) → Option (Int × Int × (List UInt8) × (List S_impl_Term))} (ih_impl_copyTerm : B_impl_copyTerm r_impl_copyTerm) {r_impl_copyTerms : (List S_impl_Term) → Option ((List S_impl_Term))} (ih_impl_copyTerms : B_impl_copyTerms r_impl_copyTerms) : B_impl_copyTerms (s_impl_copyTerms n r_impl_copyTerm r_impl_copyTerms) := by
 intro t0_0 r h
 unfold s_impl_copyTerms at h
 refine bF Try.func106 rfl rfl ?_
 refine cRs ?_
 refine wAe (Li rS_impl_Term []) rfl rfl rfl rfl ?_
 refine oRs ?_
 refine wAe (Li rS_impl_Term []) rfl rfl rfl rfl ?_
 refine oNl ?_
 refine cSq ?_
 refine cRs ?_
 refine xMv rfl ?_
 refine xLn rfl ?_
 refine xMv rfl ?_
 refine oNl ?_
 refine cLp h [(3, 3), (5, 5), (8, 17)] [(5, 5)] (fun (v3_1, v8_2) => ([(3, Li rS_impl_Term v3_1), (8, I64 v8_2)], [])) (fun (v3_3, v8_4, v9_5) => (.e 0, [(3, Li rS_impl_Term v3_3), (8, I64 v8_4), (9, Bo v9_5)], [])) rfl (fun st _ h => ?_) (fun q h => ?_)
 obtain ⟨v3_1, v8_2⟩ := st
 unfold p_impl_copyTerms_b1 at h
 refine cRs ?_
 refine xLt rfl ?_
 refine oNl ?_
 refine cSq ?_
 refine cIf h rfl (fun q6 h => ?_) (fun q6 h => ?_)
 refine cSk ?_
 refine cSq ?_
 refine cBk ?_
 refine cRs ?_
 refine xIx h rS_impl_Term_eq rfl (fun e10_7 h => ?_)
 refine xLd rfl ?_
 refine xAz [.int .i64 0, .int .i64 0, .str [], .sl ([].map rS_impl_Term)] rfl ?_
 refine xSt rfl ?_
 refine oNl ?_
 refine cRg ?_
 refine xMv rfl ?_
 refine xLd rfl ?_
 refine xC0 h (ih_impl_copyTerm ·) rfl (fun c14_8 h => ?_)
 refine wLt' (L := ([S_impl_Term.mk c14_8.1 c14_8.2.1 c14_8.2.2.1 c14_8.2.2.2] : List S_impl_Term)) (f := rS_impl_Term) rfl rfl rfl rfl (by simp only [List.map, rS_impl_Term_mk] <;> rfl) rfl rfl ?_
 refine wAp (f := rS_impl_Term) h rfl rfl rfl rfl rfl rfl rfl rfl rfl (fun a => by rw [rS_impl_Term_eq]; rfl) rfl (fun v16_9 h => ?_)
 refine xAs rfl ?_
 refine oNl ?_
 refine cRg ?_
 refine xAdd rfl ?_
 refine xMv rfl ?_
 refine oNl ?_
 exact eL h rfl
 refine cEx ?_
 exact eX h rfl
 obtain ⟨v3_3, v8_4, v9_5⟩ := q
 refine cRs ?_
 refine xMv rfl ?_
 refine xAs rfl ?_
 refine oNl ?_
 refine cRt ?_
 cases h
 exact eR rfl rfl rfl rfl
def s_impl_copyTerm (n : Nat) (r_impl_copyTerm : Int → Int → (List UInt8) → (List S_impl_Term) → Option (Int × Int × (List UInt8) × (List S_impl_Term))) (r_impl_copyTerms : (List S_impl_Term) → Option ((List S_impl_Term))) (t0_0 : Int) (t0_1 : Int) (t0_2 : List UInt8) (t0_3 : List S_impl_Term) : Option (Int × Int × (List UInt8) × (List S_impl_Term)) :=
  (r_impl_copyTerms t0_3).bind fun c5_1 => some (t0_0, t0_1, t0_2, c5_1)
theorem step_impl_copyTerm {n : Nat} {r_impl_copyTerm : Int → Int → (List UInt8) → (List S_impl_Term) → Option (Int × Int × (List UInt8) × (List S_impl_Term))} (ih_impl_copyTerm : B_impl_copyTerm r_impl_copyTerm) {r_impl_copyTerms : (List S_impl_Term) → Option ((List S_impl_Term))} (ih_impl_copyTerms : B_impl_copyTerms r_impl_copyTerms) : B_impl_copyTerm (s_impl_copyTerm n r_impl_copyTerm r_impl_copyTerms) := by
 intro t0_0 t0_1 t0_2 t0_3 r h
 unfold s_impl_copyTerm at h
 refine bF Try.func65 rfl rfl ?_
 refine cRs ?_
 refine xBx rfl ?_
 refine xAz [.int .i64 0, .int .i64 0, .str [], .sl ([].map rS_impl_Term)] rfl ?_
 refine oRs ?_
 refine xFd rfl ?_
 refine xLd rfl ?_
 refine xC0 h (ih_impl_copyTerms ·) rfl (fun c5_1 h => ?_)
 refine xFd rfl ?_
 refine xSt rfl ?_
 refine oRs ?_
 refine xLd rfl ?_
 refine xSt rfl ?_
 refine oNl ?_
 refine cRt ?_
 cases h
 exact eR rfl rfl rfl rfl
def q_impl_copyTerm : Nat → (Int → Int → (List UInt8) → (List S_impl_Term) → Option (Int × Int × (List UInt8) × (List S_impl_Term))) × ((List S_impl_Term) → Option ((List S_impl_Term)))
  | 0 => ((fun _ _ _ _ => none), (fun _ => none))
  | n + 1 => (s_impl_copyTerm n ((q_impl_copyTerm n).1) ((q_impl_copyTerm n).2), s_impl_copyTerms n ((q_impl_copyTerm n).1) ((q_impl_copyTerm n).2))
def p_impl_copyTerm (n : Nat) : Int → Int → (List UInt8) → (List S_impl_Term) → Option (Int × Int × (List UInt8) × (List S_impl_Term)) := (q_impl_copyTerm n).1
def p_impl_copyTerms (n : Nat) : (List S_impl_Term) → Option ((List S_impl_Term)) := (q_impl_copyTerm n).2
theorem bigs_impl_copyTerm (n : Nat) : B_impl_copyTerm (p_impl_copyTerm n) ∧ B_impl_copyTerms (p_impl_copyTerms n) := by
  induction n with
  | zero => exact ⟨(fun h => nomatch h), (fun h => nomatch h)⟩
  | succ n ih => exact ⟨step_impl_copyTerm (n := n) (ih.1) (ih.2), step_impl_copyTerms (n := n) (ih.1) (ih.2)⟩
theorem big_impl_copyTerm {n : Nat} : B_impl_copyTerm (p_impl_copyTerm n) := (bigs_impl_copyTerm n).1
theorem big_impl_copyTerms {n : Nat} : B_impl_copyTerms (p_impl_copyTerms n) := (bigs_impl_copyTerm n).2
theorem p_impl_copyTerm_succ (n : Nat) : p_impl_copyTerm (n + 1) = s_impl_copyTerm n (p_impl_copyTerm n) (p_impl_copyTerms n) := rfl
theorem p_impl_copyTerms_succ (n : Nat) : p_impl_copyTerms (n + 1) = s_impl_copyTerms n (p_impl_copyTerm n) (p_impl_copyTerms n) := rfl
abbrev B_impl_SendsOf (p : Int → Int → (List UInt8) → (List S_impl_Term) → Option ((List S_impl_Send) × Bool)) : Prop := ∀ {t0_0 t0_1 : Int} {t0_2 : List UInt8} {t0_3 : List S_impl_Term} {r : (List S_impl_Send) × Bool}, p t0_0 t0_1 t0_2 t0_3 = some r → Big Try.prog τ An (.fn 21 [.one (.ag [.int .i64 t0_0, .int .i64 t0_1, .str t0_2, .sl (t0_3.map rS_impl_Term)])] [] (.tup [.c (.sl (r.1.map rS_impl_Send)), .c (.bool r.2)]) none [] none)
def p_impl_SendsOf_b1 (n : Nat) (t0_3 : List S_impl_Term) : ((List S_impl_Send) × Int) → Option (((List S_impl_Send) × Int) ⊕ (((List S_impl_Send) × Bool) ⊕ ((List S_impl_Send) × Int × Bool)))
  | (v4_2, v13_3) => bif decide (v13_3 < (t0_3.length : Int)) then (ix t0_3 v13_3).bind fun e15_10 => (bif !decide (e15_10.f0 = (4 : Int)) then some true else bif !decide ((e15_10.f3.length : Int) = (2 : Int)) then some true else (ix e15_10.f3 (0 : Int)).bind fun e29_14 => (p_impl_isAddress n e29_14.f0 e29_14.f1 e29_14.f2 e29_14.f3).bind fun c31_15 => some (!c31_15)).bind fun v33_11 => bif v33_11 then some (.inr (.inl (([] : List S_impl_Send), false))) else (ix e15_10.f3 (0 : Int)).bind fun e37_17 => (p_impl_copyTerm n e37_17.f0 e37_17.f1 e37_17.f2 e37_17.f3).bind fun c39_18 => (ix e15_10.f3 (1 : Int)).bind fun e42_19 => (p_impl_copyTerm n e42_19.f0 e42_19.f1 e42_19.f2 e42_19.f3).bind fun c44_20 => (app2 112 v4_2 ([S_impl_Send.mk c39_18.1 c39_18.2.1 c39_18.2.2.1 c39_18.2.2.2 c44_20.1 c44_20.2.1 c44_20.2.2.1 c44_20.2.2.2] : List S_impl_Send)).bind fun v47_21 => some (.inl (v47_21, (IntKind.wrap .i64 (v13_3 + (1 : Int))))) else some (.inr (.inr (v4_2, v13_3, false)))
def p_impl_SendsOf (n : Nat) (t0_0 : Int) (t0_1 : Int) (t0_2 : List UInt8) (t0_3 : List S_impl_Term) : Option ((List S_impl_Send) × Bool) :=
  bif !decide (t0_0 = (5 : Int)) then some (([] : List S_impl_Send), false) else (loopN (p_impl_SendsOf_b1 n t0_3) n (([] : List S_impl_Send), (0 : Int))).bind fun q => (match q with | .inl (v2_4, v3_5) => some (v2_4, v3_5) | .inr (v4_6, v13_7, v14_8) => some (v4_6, true))
theorem big_impl_SendsOf {n : Nat} : B_impl_SendsOf (p_impl_SendsOf n) := by
 intro t0_0 t0_1 t0_2 t0_3 r h
 unfold p_impl_SendsOf at h
 refine bF Try.func21 rfl rfl ?_
 refine cRs ?_
 refine xBx rfl ?_
 refine wAe (Li rS_impl_Send []) rfl rfl rfl rfl ?_
 refine xAs rfl ?_
 refine oNl ?_
 refine cSq ?_
 refine cRs ?_
 refine xFd rfl ?_
 refine xLd rfl ?_
 refine xNe rfl ?_
 refine oNl ?_
 refine cIf h rfl (fun q1 h => ?_) (fun q1 h => ?_)
 refine cRs ?_
 refine wAe (Li rS_impl_Send []) rfl rfl rfl rfl ?_
 refine xAs rfl ?_
 refine oNl ?_
 refine cRt ?_
 cases h
 exact eR rfl rfl rfl rfl
 refine cSk ?_
 refine cRs ?_
 refine wAe (Li rS_impl_Send []) rfl rfl rfl rfl ?_
 refine oNl ?_
 refine cSq ?_
 refine cRs ?_
 refine xFd rfl ?_
 refine xLd rfl ?_
 refine xLn rfl ?_
 refine xMv rfl ?_
 refine oNl ?_
 refine cLp h [(2, 4), (6, 6), (13, 48)] [(6, 6)] (fun (v4_2, v13_3) => ([(4, Li rS_impl_Send v4_2), (13, I64 v13_3)], [])) (fun q => match q with | .inl (v2_4, v3_5) => (.r, [(2, Li rS_impl_Send v2_4), (3, Bo v3_5)], []) | .inr (v4_6, v13_7, v14_8) => (.e 0, [(4, Li rS_impl_Send v4_6), (13, I64 v13_7), (14, Bo v14_8)], [])) rfl (fun st _ h => ?_) (fun q h => ?_)
 obtain ⟨v4_2, v13_3⟩ := st
 unfold p_impl_SendsOf_b1 at h
 refine cRs ?_
 refine xLt rfl ?_
 refine oNl ?_
 refine cSq ?_
 refine cIf h rfl (fun q9 h => ?_) (fun q9 h => ?_)
 refine cSk ?_
 refine cSq ?_
 refine cBk ?_
 refine cRs ?_
 refine xIx h rS_impl_Term_eq rfl (fun e15_10 h => ?_)
 refine xLd rfl ?_
 refine xAz [.int .i64 0, .int .i64 0, .str [], .sl ([].map rS_impl_Term)] rfl ?_
 refine xSt rfl ?_
 refine oNl ?_
 refine cSq ?_
 refine cRs ?_
 refine oJn h [(17, 33)] [] (fun v33_11 => (.n, [(33, Bo v33_11)], [])) (fun _ h => ?_) (fun v33_11 h => ?_)
 refine xFd rfl ?_
 refine xLd rfl ?_
 refine xNe rfl ?_
 refine xMv rfl ?_
 refine oIf 20 h rfl (fun q12 h => ?_) (fun q12 h => ?_)
 refine wSk rfl ?_
 refine wSk rfl ?_
 refine wSk rfl ?_
 refine wSk rfl ?_
 refine xPk rfl ?_
 refine xMv rfl ?_
 refine wSk rfl ?_
 refine wSk rfl ?_
 refine wSk rfl ?_
 refine wSk rfl ?_
 refine wSk rfl ?_
 refine wSk rfl ?_
 refine xPk rfl ?_
 refine oNl ?_
 exact eJ h rfl
 refine xFd rfl ?_
 refine xLd rfl ?_
 refine xLn rfl ?_
 refine xNe rfl ?_
 refine xPk rfl ?_
 refine xMv rfl ?_
 refine oIf 26 h rfl (fun q13 h => ?_) (fun q13 h => ?_)
 refine wSk rfl ?_
 refine wSk rfl ?_
 refine wSk rfl ?_
 refine wSk rfl ?_
 refine wSk rfl ?_
 refine wSk rfl ?_
 refine xPk rfl ?_
 refine oNl ?_
 exact eJ h rfl
 refine xFd rfl ?_
 refine xLd rfl ?_
 refine xIx h rS_impl_Term_eq rfl (fun e29_14 h => ?_)
 refine xLd rfl ?_
 refine xC0 h (big_impl_isAddress ·) rfl (fun c31_15 h => ?_)
 refine xNot rfl ?_
 refine xPk rfl ?_
 refine oNl ?_
 exact eJ h rfl
 refine cIf h rfl (fun q16 h => ?_) (fun q16 h => ?_)
 refine cRs ?_
 refine wAe (Li rS_impl_Send []) rfl rfl rfl rfl ?_
 refine xAs rfl ?_
 refine oNl ?_
 refine cRt ?_
 exact eXr h rfl
 refine cSk ?_
 refine cRg ?_
 refine xMv rfl ?_
 refine xFd rfl ?_
 refine xLd rfl ?_
 refine xIx h rS_impl_Term_eq rfl (fun e37_17 h => ?_)
 refine xLd rfl ?_
 refine xC0 h (big_impl_copyTerm ·) rfl (fun c39_18 h => ?_)
 refine xFd rfl ?_
 refine xLd rfl ?_
 refine xIx h rS_impl_Term_eq rfl (fun e42_19 h => ?_)
 refine xLd rfl ?_
 refine xC0 h (big_impl_copyTerm ·) rfl (fun c44_20 h => ?_)
 refine wBd [.int .i64 c39_18.1, .int .i64 c39_18.2.1, .str c39_18.2.2.1, .sl (c39_18.2.2.2.map rS_impl_Term), .int .i64 c44_20.1, .int .i64 c44_20.2.1, .str c44_20.2.2.1, .sl (c44_20.2.2.2.map rS_impl_Term)] rfl rfl rfl rfl rfl rfl ?_
 refine wLt' (L := ([S_impl_Send.mk c39_18.1 c39_18.2.1 c39_18.2.2.1 c39_18.2.2.2 c44_20.1 c44_20.2.1 c44_20.2.2.1 c44_20.2.2.2] : List S_impl_Send)) (f := rS_impl_Send) rfl rfl rfl rfl rfl rfl rfl ?_
 refine wAp (f := rS_impl_Send) h rfl rfl rfl rfl rfl rfl rfl rfl rfl (fun _ => rfl) rfl (fun v47_21 h => ?_)
 refine xAs rfl ?_
 refine oNl ?_
 refine cRg ?_
 refine xAdd rfl ?_
 refine xMv rfl ?_
 refine oNl ?_
 exact eL h rfl
 refine cEx ?_
 exact eX h rfl
 rcases q with ⟨v2_4, v3_5⟩ | ⟨v4_6, v13_7, v14_8⟩
 cases h
 exact eR rfl rfl rfl rfl
 refine cRs ?_
 refine xMv rfl ?_
 refine xAs rfl ?_
 refine xAs rfl ?_
 refine oNl ?_
 refine cRt ?_
 cases h
 exact eR rfl rfl rfl rfl
abbrev B_spec_l2Copy (p : Int → Int → (List UInt8) → (List S_impl_Term) → Option (Int × Int × (List UInt8) × (List S_impl_Term))) : Prop := ∀ {t0_0 t0_1 : Int} {t0_2 : List UInt8} {t0_3 : List S_impl_Term} {r : Int × Int × (List UInt8) × (List S_impl_Term)}, p t0_0 t0_1 t0_2 t0_3 = some r → Big Try.prog τ An (.fn 66 [.one (.ag [.int .i64 t0_0, .int .i64 t0_1, .str t0_2, .sl (t0_3.map rS_impl_Term)])] [] (.one (.ag [.int .i64 r.1, .int .i64 r.2.1, .str r.2.2.1, .sl (r.2.2.2.map rS_impl_Term)])) none [] none)
def p_spec_l2Copy_b1 (n : Nat) (r_spec_l2Copy : Int → Int → (List UInt8) → (List S_impl_Term) → Option (Int × Int × (List UInt8) × (List S_impl_Term))) (t0_3 : List S_impl_Term) : (Int × Int × Int × (List UInt8) × (List S_impl_Term)) → Option ((Int × Int × Int × (List UInt8) × (List S_impl_Term)) ⊕ ((Int × Bool × Int × Int × (List UInt8) × (List S_impl_Term))))
  | (v4_1, w3_2, w3_3, w3_4, w3_5) => bif decide (v4_1 < (t0_3.length : Int)) then (ix t0_3 v4_1).bind fun e20_13 => (r_spec_l2Copy e20_13.f0 e20_13.f1 e20_13.f2 e20_13.f3).bind fun c22_14 => (app2 56 w3_5 ([S_impl_Term.mk c22_14.1 c22_14.2.1 c22_14.2.2.1 c22_14.2.2.2] : List S_impl_Term)).bind fun v24_15 => some (.inl ((IntKind.wrap .i64 (v4_1 + (1 : Int))), w3_2, w3_3, w3_4, v24_15)) else some (.inr (v4_1, false, w3_2, w3_3, w3_4, w3_5))
def s_spec_l2Copy (n : Nat) (r_spec_l2Copy : Int → Int → (List UInt8) → (List S_impl_Term) → Option (Int × Int × (List UInt8) × (List S_impl_Term))) (t0_0 : Int) (t0_1 : Int) (t0_2 : List UInt8) (t0_3 : List S_impl_Term) : Option (Int × Int × (List UInt8) × (List S_impl_Term)) :=
  (loopN (p_spec_l2Copy_b1 n r_spec_l2Copy t0_3) n ((0 : Int), t0_0, t0_1, t0_2, ([] : List S_impl_Term))).bind fun (v4_6, v12_7, w3_8, w3_9, w3_10, w3_11) => some (w3_8, w3_9, w3_10, w3_11)
theorem step_spec_l2Copy {n : Nat} {r_spec_l2Copy : Int → Int → (List UInt8) → (List S_impl_Term) → Option (Int × Int × (List UInt8) × (List S_impl_Term))} (ih_spec_l2Copy : B_spec_l2Copy r_spec_l2Copy) : B_spec_l2Copy (s_spec_l2Copy n r_spec_l2Copy) := by
 intro t0_0 t0_1 t0_2 t0_3 r h
 unfold s_spec_l2Copy at h
 refine bF Try.func66 rfl rfl ?_
 refine cRs ?_
 refine xBx rfl ?_
 refine xAz [.int .i64 0, .int .i64 0, .str [], .sl ([].map rS_impl_Term)] rfl ?_
 refine oRs ?_
 refine xLd rfl ?_
 refine xAz [.int .i64 0, .int .i64 0, .str [], .sl ([].map rS_impl_Term)] rfl ?_
 refine xSt rfl ?_
 refine oRs ?_
 refine wLt' (L := ([] : List S_impl_Term)) (f := rS_impl_Term) rfl rfl rfl rfl rfl rfl rfl ?_
 refine xFd rfl ?_
 refine xSt rfl ?_
 refine oNl ?_
 refine cSq ?_
 refine cRs ?_
 refine xAs rfl ?_
 refine oNl ?_
 refine cLp h [(4, 4), (8, 25)] [(3, 3)] (fun (v4_1, w3_2, w3_3, w3_4, w3_5) => ([(4, I64 v4_1)], [(3, [.int .i64 w3_2, .int .i64 w3_3, .str w3_4, .sl (w3_5.map rS_impl_Term)])])) (fun (v4_6, v12_7, w3_8, w3_9, w3_10, w3_11) => (.e 0, [(4, I64 v4_6), (12, Bo v12_7)], [(3, [.int .i64 w3_8, .int .i64 w3_9, .str w3_10, .sl (w3_11.map rS_impl_Term)])])) rfl (fun st _ h => ?_) (fun q h => ?_)
 obtain ⟨v4_1, w3_2, w3_3, w3_4, w3_5⟩ := st
 unfold p_spec_l2Copy_b1 at h
 refine cSq ?_
 refine cRs ?_
 refine xMv rfl ?_
 refine xFd rfl ?_
 refine xLd rfl ?_
 refine xLn rfl ?_
 refine xLt rfl ?_
 refine oNl ?_
 refine cIf h rfl (fun q12 h => ?_) (fun q12 h => ?_)
 refine cSk ?_
 refine cSq ?_
 refine cBk ?_
 refine cRg ?_
 refine xFd rfl ?_
 refine xLd rfl ?_
 refine xFd rfl ?_
 refine xLd rfl ?_
 refine xMv rfl ?_
 refine xIx h rS_impl_Term_eq rfl (fun e20_13 h => ?_)
 refine xLd rfl ?_
 refine xC0 h (ih_spec_l2Copy ·) rfl (fun c22_14 h => ?_)
 refine wLt' (L := ([S_impl_Term.mk c22_14.1 c22_14.2.1 c22_14.2.2.1 c22_14.2.2.2] : List S_impl_Term)) (f := rS_impl_Term) rfl rfl rfl rfl (by simp only [List.map, rS_impl_Term_mk] <;> rfl) rfl rfl ?_
 refine wAp (f := rS_impl_Term) h rfl rfl rfl rfl rfl rfl rfl rfl rfl (fun a => by rw [rS_impl_Term_eq]; rfl) rfl (fun v24_15 h => ?_)
 refine xFd rfl ?_
 refine xSt rfl ?_
 refine oNl ?_
 refine cRg ?_
 refine xMv rfl ?_
 refine xAdd rfl ?_
 refine xAs rfl ?_
 refine oNl ?_
 exact eL h rfl
 refine cEx ?_
 exact eX h rfl
 obtain ⟨v4_6, v12_7, w3_8, w3_9, w3_10, w3_11⟩ := q
 refine cRs ?_
 refine xLd rfl ?_
 refine xSt rfl ?_
 refine oNl ?_
 refine cRt ?_
 cases h
 exact eR rfl rfl rfl rfl
def q_spec_l2Copy : Nat → (Int → Int → (List UInt8) → (List S_impl_Term) → Option (Int × Int × (List UInt8) × (List S_impl_Term)))
  | 0 => (fun _ _ _ _ => none)
  | n + 1 => s_spec_l2Copy n (q_spec_l2Copy n)
def p_spec_l2Copy (n : Nat) : Int → Int → (List UInt8) → (List S_impl_Term) → Option (Int × Int × (List UInt8) × (List S_impl_Term)) := q_spec_l2Copy n
theorem bigs_spec_l2Copy (n : Nat) : B_spec_l2Copy (p_spec_l2Copy n) := by
  induction n with
  | zero => exact (fun h => nomatch h)
  | succ n ih => exact step_spec_l2Copy (n := n) ih
theorem big_spec_l2Copy {n : Nat} : B_spec_l2Copy (p_spec_l2Copy n) := (bigs_spec_l2Copy n)
theorem p_spec_l2Copy_succ (n : Nat) : p_spec_l2Copy (n + 1) = s_spec_l2Copy n (p_spec_l2Copy n) := rfl
abbrev B_spec_SendsOf (p : Int → Int → (List UInt8) → (List S_impl_Term) → Option ((List S_impl_Send) × Bool)) : Prop := ∀ {t0_0 t0_1 : Int} {t0_2 : List UInt8} {t0_3 : List S_impl_Term} {r : (List S_impl_Send) × Bool}, p t0_0 t0_1 t0_2 t0_3 = some r → Big Try.prog τ An (.fn 22 [.one (.ag [.int .i64 t0_0, .int .i64 t0_1, .str t0_2, .sl (t0_3.map rS_impl_Term)])] [] (.tup [.c (.sl (r.1.map rS_impl_Send)), .c (.bool r.2)]) none [] none)
def p_spec_SendsOf_b1 (n : Nat) (t0_3 : List S_impl_Term) : ((List S_impl_Send) × Int) → Option (((List S_impl_Send) × Int) ⊕ (((List S_impl_Send) × Bool) ⊕ ((List S_impl_Send) × Int × Bool)))
  | (v4_2, v5_3) => bif decide (v5_3 < (t0_3.length : Int)) then (ix t0_3 v5_3).bind fun e22_10 => (bif !decide (e22_10.f0 = (4 : Int)) then some true else bif !decide ((e22_10.f3.length : Int) = (2 : Int)) then some true else (ix e22_10.f3 (0 : Int)).bind fun e36_14 => bif !decide (e36_14.f0 = (2 : Int)) then (ix e22_10.f3 (0 : Int)).bind fun e43_16 => some (!decide (e43_16.f0 = (3 : Int))) else some false).bind fun v48_11 => bif v48_11 then some (.inr (.inl (([] : List S_impl_Send), false))) else (ix e22_10.f3 (0 : Int)).bind fun e53_18 => (p_spec_l2Copy n e53_18.f0 e53_18.f1 e53_18.f2 e53_18.f3).bind fun c55_19 => (ix e22_10.f3 (1 : Int)).bind fun e58_20 => (p_spec_l2Copy n e58_20.f0 e58_20.f1 e58_20.f2 e58_20.f3).bind fun c60_21 => (app2 112 v4_2 ([S_impl_Send.mk c55_19.1 c55_19.2.1 c55_19.2.2.1 c55_19.2.2.2 c60_21.1 c60_21.2.1 c60_21.2.2.1 c60_21.2.2.2] : List S_impl_Send)).bind fun v63_22 => some (.inl (v63_22, (IntKind.wrap .i64 (v5_3 + (1 : Int))))) else some (.inr (.inr (v4_2, v5_3, false)))
def p_spec_SendsOf (n : Nat) (t0_0 : Int) (t0_1 : Int) (t0_2 : List UInt8) (t0_3 : List S_impl_Term) : Option ((List S_impl_Send) × Bool) :=
  bif !decide (t0_0 = (5 : Int)) then some (([] : List S_impl_Send), false) else (loopN (p_spec_SendsOf_b1 n t0_3) n (([] : List S_impl_Send), (0 : Int))).bind fun q => (match q with | .inl (v2_4, v3_5) => some (v2_4, v3_5) | .inr (v4_6, v5_7, v16_8) => some (v4_6, true))
theorem big_spec_SendsOf {n : Nat} : B_spec_SendsOf (p_spec_SendsOf n) := by
 intro t0_0 t0_1 t0_2 t0_3 r h
 unfold p_spec_SendsOf at h
 refine bF Try.func22 rfl rfl ?_
 refine cRs ?_
 refine xBx rfl ?_
 refine wAe (Li rS_impl_Send []) rfl rfl rfl rfl ?_
 refine xAs rfl ?_
 refine oRs ?_
 refine wLt' (L := ([] : List S_impl_Send)) (f := rS_impl_Send) rfl rfl rfl rfl rfl rfl rfl ?_
 refine xAs rfl ?_
 refine oNl ?_
 refine cSq ?_
 refine cRs ?_
 refine xFd rfl ?_
 refine xLd rfl ?_
 refine xNe rfl ?_
 refine oNl ?_
 refine cIf h rfl (fun q1 h => ?_) (fun q1 h => ?_)
 refine cRs ?_
 refine xMv rfl ?_
 refine xAs rfl ?_
 refine xAs rfl ?_
 refine oNl ?_
 refine cRt ?_
 cases h
 exact eR rfl rfl rfl rfl
 refine cSk ?_
 refine cSq ?_
 refine cRs ?_
 refine xAs rfl ?_
 refine oNl ?_
 refine cLp h [(2, 6), (12, 63)] [(6, 6)] (fun (v4_2, v5_3) => ([(4, Li rS_impl_Send v4_2), (5, I64 v5_3)], [])) (fun q => match q with | .inl (v2_4, v3_5) => (.r, [(2, Li rS_impl_Send v2_4), (3, Bo v3_5)], []) | .inr (v4_6, v5_7, v16_8) => (.e 0, [(4, Li rS_impl_Send v4_6), (5, I64 v5_7), (16, Bo v16_8)], [])) rfl (fun st _ h => ?_) (fun q h => ?_)
 obtain ⟨v4_2, v5_3⟩ := st
 unfold p_spec_SendsOf_b1 at h
 refine cSq ?_
 refine cRs ?_
 refine xMv rfl ?_
 refine xFd rfl ?_
 refine xLd rfl ?_
 refine xLn rfl ?_
 refine xLt rfl ?_
 refine oNl ?_
 refine cIf h rfl (fun q9 h => ?_) (fun q9 h => ?_)
 refine cSk ?_
 refine cSq ?_
 refine cBk ?_
 refine cRs ?_
 refine xFd rfl ?_
 refine xLd rfl ?_
 refine xMv rfl ?_
 refine xIx h rS_impl_Term_eq rfl (fun e22_10 h => ?_)
 refine xLd rfl ?_
 refine xAz [.int .i64 0, .int .i64 0, .str [], .sl ([].map rS_impl_Term)] rfl ?_
 refine xSt rfl ?_
 refine oNl ?_
 refine cSq ?_
 refine cRs ?_
 refine oJn h [(24, 48)] [] (fun v48_11 => (.n, [(48, Bo v48_11)], [])) (fun _ h => ?_) (fun v48_11 h => ?_)
 refine xFd rfl ?_
 refine xLd rfl ?_
 refine xNe rfl ?_
 refine xMv rfl ?_
 refine oIf 27 h rfl (fun q12 h => ?_) (fun q12 h => ?_)
 refine wSk rfl ?_
 refine wSk rfl ?_
 refine wSk rfl ?_
 refine wSk rfl ?_
 refine xPk rfl ?_
 refine xMv rfl ?_
 refine wSk rfl ?_
 refine wSk rfl ?_
 refine wSk rfl ?_
 refine wSk rfl ?_
 refine wSk rfl ?_
 refine wSk rfl ?_
 refine wSk rfl ?_
 refine wSk rfl ?_
 refine wSk rfl ?_
 refine wSk rfl ?_
 refine wSk rfl ?_
 refine wSk rfl ?_
 refine wSk rfl ?_
 refine wSk rfl ?_
 refine xPk rfl ?_
 refine oNl ?_
 exact eJ h rfl
 refine xFd rfl ?_
 refine xLd rfl ?_
 refine xLn rfl ?_
 refine xNe rfl ?_
 refine xPk rfl ?_
 refine xMv rfl ?_
 refine oIf 33 h rfl (fun q13 h => ?_) (fun q13 h => ?_)
 refine wSk rfl ?_
 refine wSk rfl ?_
 refine wSk rfl ?_
 refine wSk rfl ?_
 refine wSk rfl ?_
 refine wSk rfl ?_
 refine wSk rfl ?_
 refine wSk rfl ?_
 refine wSk rfl ?_
 refine wSk rfl ?_
 refine wSk rfl ?_
 refine wSk rfl ?_
 refine wSk rfl ?_
 refine wSk rfl ?_
 refine xPk rfl ?_
 refine oNl ?_
 exact eJ h rfl
 refine xFd rfl ?_
 refine xLd rfl ?_
 refine xIx h rS_impl_Term_eq rfl (fun e36_14 h => ?_)
 refine xFd rfl ?_
 refine xLd rfl ?_
 refine xNe rfl ?_
 refine xMv rfl ?_
 refine oIf 40 h rfl (fun q15 h => ?_) (fun q15 h => ?_)
 refine xFd rfl ?_
 refine xLd rfl ?_
 refine xIx h rS_impl_Term_eq rfl (fun e43_16 h => ?_)
 refine xFd rfl ?_
 refine xLd rfl ?_
 refine xNe rfl ?_
 refine xPk rfl ?_
 refine xPk rfl ?_
 refine oNl ?_
 exact eJ h rfl
 refine wSk rfl ?_
 refine wSk rfl ?_
 refine wSk rfl ?_
 refine wSk rfl ?_
 refine wSk rfl ?_
 refine wSk rfl ?_
 refine xPk rfl ?_
 refine xPk rfl ?_
 refine oNl ?_
 exact eJ h rfl
 refine cIf h rfl (fun q17 h => ?_) (fun q17 h => ?_)
 refine cRs ?_
 refine wLt' (L := ([] : List S_impl_Send)) (f := rS_impl_Send) rfl rfl rfl rfl rfl rfl rfl ?_
 refine xAs rfl ?_
 refine xAs rfl ?_
 refine oNl ?_
 refine cRt ?_
 exact eXr h rfl
 refine cSk ?_
 refine cRg ?_
 refine xMv rfl ?_
 refine xFd rfl ?_
 refine xLd rfl ?_
 refine xIx h rS_impl_Term_eq rfl (fun e53_18 h => ?_)
 refine xLd rfl ?_
 refine xC0 h (big_spec_l2Copy ·) rfl (fun c55_19 h => ?_)
 refine xFd rfl ?_
 refine xLd rfl ?_
 refine xIx h rS_impl_Term_eq rfl (fun e58_20 h => ?_)
 refine xLd rfl ?_
 refine xC0 h (big_spec_l2Copy ·) rfl (fun c60_21 h => ?_)
 refine wBd [.int .i64 c55_19.1, .int .i64 c55_19.2.1, .str c55_19.2.2.1, .sl (c55_19.2.2.2.map rS_impl_Term), .int .i64 c60_21.1, .int .i64 c60_21.2.1, .str c60_21.2.2.1, .sl (c60_21.2.2.2.map rS_impl_Term)] rfl rfl rfl rfl rfl rfl ?_
 refine wLt' (L := ([S_impl_Send.mk c55_19.1 c55_19.2.1 c55_19.2.2.1 c55_19.2.2.2 c60_21.1 c60_21.2.1 c60_21.2.2.1 c60_21.2.2.2] : List S_impl_Send)) (f := rS_impl_Send) rfl rfl rfl rfl rfl rfl rfl ?_
 refine wAp (f := rS_impl_Send) h rfl rfl rfl rfl rfl rfl rfl rfl rfl (fun _ => rfl) rfl (fun v63_22 h => ?_)
 refine xAs rfl ?_
 refine oNl ?_
 refine cRg ?_
 refine xMv rfl ?_
 refine xAdd rfl ?_
 refine xAs rfl ?_
 refine oNl ?_
 exact eL h rfl
 refine cEx ?_
 exact eX h rfl
 rcases q with ⟨v2_4, v3_5⟩ | ⟨v4_6, v5_7, v16_8⟩
 cases h
 exact eR rfl rfl rfl rfl
 refine cRs ?_
 refine xMv rfl ?_
 refine xAs rfl ?_
 refine xAs rfl ?_
 refine oNl ?_
 refine cRt ?_
 cases h
 exact eR rfl rfl rfl rfl
abbrev B_laws_szTermS (p : (List S_laws_Term) → Int → Option (Int)) : Prop := ∀ {t0_0 : List S_laws_Term} {t1_0 : Int} {r : Int}, p t0_0 t1_0 = some r → Big Try.prog τ An (.fn 68 [.one (.c (.sl (t0_0.map rS_laws_Term))), .one (.c (.int .i64 t1_0))] [] (.one (.c (.int .i64 r))) none [] none)
abbrev B_laws_szTerm (p : Int → Int → (List UInt8) → (List S_laws_Term) → Int → Option (Int)) : Prop := ∀ {t0_0 t0_1 : Int} {t0_2 : List UInt8} {t0_3 : List S_laws_Term} {t1_0 : Int} {r : Int}, p t0_0 t0_1 t0_2 t0_3 t1_0 = some r → Big Try.prog τ An (.fn 29 [.one (.ag [.int .i64 t0_0, .int .i64 t0_1, .str t0_2, .sl (t0_3.map rS_laws_Term)]), .one (.c (.int .i64 t1_0))] [] (.one (.c (.int .i64 r))) none [] none)
def p_laws_szTermS_b1 (n : Nat) (r_laws_szTerm : Int → Int → (List UInt8) → (List S_laws_Term) → Int → Option (Int)) (t0_0 : List S_laws_Term) : (Int × Int) → Option ((Int × Int) ⊕ ((Int) ⊕ (Int × Int × Bool)))
  | (v1_2, v5_3) => bif decide (v5_3 < (t0_0.length : Int)) then (ix t0_0 v5_3).bind fun e20_9 => (r_laws_szTerm e20_9.f0 e20_9.f1 e20_9.f2 e20_9.f3 v1_2).bind fun c23_10 => bif decide (c23_10 < (0 : Int)) then some (.inr (.inl ((-1) : Int))) else some (.inl (c23_10, (IntKind.wrap .i64 (v5_3 + (1 : Int))))) else some (.inr (.inr (v1_2, v5_3, false)))
def s_laws_szTermS (n : Nat) (r_laws_szTerm : Int → Int → (List UInt8) → (List S_laws_Term) → Int → Option (Int)) (r_laws_szTermS : (List S_laws_Term) → Int → Option (Int)) (t0_0 : List S_laws_Term) (t1_0 : Int) : Option (Int) :=
  bif decide ((IntKind.wrap .i64 (t1_0 - (t0_0.length : Int))) < (0 : Int)) then some ((-1) : Int) else (loopN (p_laws_szTermS_b1 n r_laws_szTerm t0_0) n ((IntKind.wrap .i64 (t1_0 - (t0_0.length : Int))), (0 : Int))).bind fun q => (match q with | .inl v4_4 => some v4_4 | .inr (v1_5, v5_6, v15_7) => some v1_5)
theorem step_laws_szTermS {n : Nat} {r_laws_szTerm : Int → Int → (List UInt8) → (List S_laws_Term) → Int → Option (Int)} (ih_laws_szTerm : B_laws_szTerm r_laws_szTerm) {r_laws_szTermS : (List S_laws_Term) → Int → Option (Int)} (ih_laws_szTermS : B_laws_szTermS r_laws_szTermS) : B_laws_szTermS (s_laws_szTermS n r_laws_szTerm r_laws_szTermS) := by
 intro t0_0 t1_0 r h
 unfold s_laws_szTermS at h
 refine bF Try.func68 rfl rfl ?_
 refine cRs ?_
 refine xAs rfl ?_
 refine oRs ?_
 refine xMv rfl ?_
 refine xMv rfl ?_
 refine xLn rfl ?_
 refine xSub rfl ?_
 refine xAs rfl ?_
 refine oNl ?_
 refine cSq ?_
 refine cRs ?_
 refine xMv rfl ?_
 refine xLt rfl ?_
 refine oNl ?_
 refine cIf h rfl (fun q1 h => ?_) (fun q1 h => ?_)
 refine cRs ?_
 refine xAs rfl ?_
 refine oNl ?_
 refine cRt ?_
 cases h
 exact eR rfl rfl rfl rfl
 refine cSk ?_
 refine cSq ?_
 refine cRs ?_
 refine xAs rfl ?_
 refine oNl ?_
 refine cLp h [(1, 1), (4, 5), (12, 25)] [] (fun (v1_2, v5_3) => ([(1, I64 v1_2), (5, I64 v5_3)], [])) (fun q => match q with | .inl v4_4 => (.r, [(4, I64 v4_4)], []) | .inr (v1_5, v5_6, v15_7) => (.e 0, [(1, I64 v1_5), (5, I64 v5_6), (15, Bo v15_7)], [])) rfl (fun st _ h => ?_) (fun q h => ?_)
 obtain ⟨v1_2, v5_3⟩ := st
 unfold p_laws_szTermS_b1 at h
 refine cSq ?_
 refine cRs ?_
 refine xMv rfl ?_
 refine xMv rfl ?_
 refine xLn rfl ?_
 refine xLt rfl ?_
 refine oNl ?_
 refine cIf h rfl (fun q8 h => ?_) (fun q8 h => ?_)
 refine cSk ?_
 refine cSq ?_
 refine cBk ?_
 refine cRs ?_
 refine xMv rfl ?_
 refine xMv rfl ?_
 refine xIx h rS_laws_Term_eq rfl (fun e20_9 h => ?_)
 refine xLd rfl ?_
 refine xMv rfl ?_
 refine xC0 h (ih_laws_szTerm ·) rfl (fun c23_10 h => ?_)
 refine xAs rfl ?_
 refine oRs ?_
 refine xMv rfl ?_
 refine xLt rfl ?_
 refine oNl ?_
 refine cIf h rfl (fun q11 h => ?_) (fun q11 h => ?_)
 refine cRs ?_
 refine xAs rfl ?_
 refine oNl ?_
 refine cRt ?_
 exact eXr h rfl
 refine cSk ?_
 refine cRg ?_
 refine xMv rfl ?_
 refine xAdd rfl ?_
 refine xAs rfl ?_
 refine oNl ?_
 exact eL h rfl
 refine cEx ?_
 exact eX h rfl
 rcases q with v4_4 | ⟨v1_5, v5_6, v15_7⟩
 cases h
 exact eR rfl rfl rfl rfl
 refine cRs ?_
 refine xMv rfl ?_
 refine xAs rfl ?_
 refine oNl ?_
 refine cRt ?_
 cases h
 exact eR rfl rfl rfl rfl
def s_laws_szTerm (n : Nat) (r_laws_szTerm : Int → Int → (List UInt8) → (List S_laws_Term) → Int → Option (Int)) (r_laws_szTermS : (List S_laws_Term) → Int → Option (Int)) (t0_0 : Int) (t0_1 : Int) (t0_2 : List UInt8) (t0_3 : List S_laws_Term) (t1_0 : Int) : Option (Int) :=
  bif decide ((IntKind.wrap .i64 (t1_0 - (t0_2.length : Int))) < (0 : Int)) then some ((-1) : Int) else (r_laws_szTermS t0_3 (IntKind.wrap .i64 (t1_0 - (t0_2.length : Int)))).bind fun c15_2 => bif decide (c15_2 < (0 : Int)) then some ((-1) : Int) else some c15_2
theorem step_laws_szTerm {n : Nat} {r_laws_szTerm : Int → Int → (List UInt8) → (List S_laws_Term) → Int → Option (Int)} (ih_laws_szTerm : B_laws_szTerm r_laws_szTerm) {r_laws_szTermS : (List S_laws_Term) → Int → Option (Int)} (ih_laws_szTermS : B_laws_szTermS r_laws_szTermS) : B_laws_szTerm (s_laws_szTerm n r_laws_szTerm r_laws_szTermS) := by
 intro t0_0 t0_1 t0_2 t0_3 t1_0 r h
 unfold s_laws_szTerm at h
 refine bF Try.func29 rfl rfl ?_
 refine cRs ?_
 refine xBx rfl ?_
 refine xAs rfl ?_
 refine oRs ?_
 refine xMv rfl ?_
 refine xFd rfl ?_
 refine xLd rfl ?_
 refine xLs rfl ?_
 refine xSub rfl ?_
 refine xAs rfl ?_
 refine oNl ?_
 refine cSq ?_
 refine cRs ?_
 refine xMv rfl ?_
 refine xLt rfl ?_
 refine oNl ?_
 refine cIf h rfl (fun q1 h => ?_) (fun q1 h => ?_)
 refine cRs ?_
 refine xAs rfl ?_
 refine oNl ?_
 refine cRt ?_
 cases h
 exact eR rfl rfl rfl rfl
 refine cSk ?_
 refine cRs ?_
 refine xFd rfl ?_
 refine xLd rfl ?_
 refine xMv rfl ?_
 refine xC0 h (ih_laws_szTermS ·) rfl (fun c15_2 h => ?_)
 refine xAs rfl ?_
 refine oNl ?_
 refine cSq ?_
 refine cRs ?_
 refine xMv rfl ?_
 refine xLt rfl ?_
 refine oNl ?_
 refine cIf h rfl (fun q3 h => ?_) (fun q3 h => ?_)
 refine cRs ?_
 refine xAs rfl ?_
 refine oNl ?_
 refine cRt ?_
 cases h
 exact eR rfl rfl rfl rfl
 refine cSk ?_
 refine cRs ?_
 refine xMv rfl ?_
 refine xAs rfl ?_
 refine oNl ?_
 refine cRt ?_
 cases h
 exact eR rfl rfl rfl rfl
def q_laws_szTerm : Nat → (Int → Int → (List UInt8) → (List S_laws_Term) → Int → Option (Int)) × ((List S_laws_Term) → Int → Option (Int))
  | 0 => ((fun _ _ _ _ _ => none), (fun _ _ => none))
  | n + 1 => (s_laws_szTerm n ((q_laws_szTerm n).1) ((q_laws_szTerm n).2), s_laws_szTermS n ((q_laws_szTerm n).1) ((q_laws_szTerm n).2))
def p_laws_szTerm (n : Nat) : Int → Int → (List UInt8) → (List S_laws_Term) → Int → Option (Int) := (q_laws_szTerm n).1
def p_laws_szTermS (n : Nat) : (List S_laws_Term) → Int → Option (Int) := (q_laws_szTerm n).2
theorem bigs_laws_szTerm (n : Nat) : B_laws_szTerm (p_laws_szTerm n) ∧ B_laws_szTermS (p_laws_szTermS n) := by
  induction n with
  | zero => exact ⟨(fun h => nomatch h), (fun h => nomatch h)⟩
  | succ n ih => exact ⟨step_laws_szTerm (n := n) (ih.1) (ih.2), step_laws_szTermS (n := n) (ih.1) (ih.2)⟩
theorem big_laws_szTerm {n : Nat} : B_laws_szTerm (p_laws_szTerm n) := (bigs_laws_szTerm n).1
theorem big_laws_szTermS {n : Nat} : B_laws_szTermS (p_laws_szTermS n) := (bigs_laws_szTerm n).2
theorem p_laws_szTerm_succ (n : Nat) : p_laws_szTerm (n + 1) = s_laws_szTerm n (p_laws_szTerm n) (p_laws_szTermS n) := rfl
theorem p_laws_szTermS_succ (n : Nat) : p_laws_szTermS (n + 1) = s_laws_szTermS n (p_laws_szTerm n) (p_laws_szTermS n) := rfl
abbrev B_laws_toTermS (p : (List S_laws_Term) → Option ((List S_impl_Term))) : Prop := ∀ {t0_0 : List S_laws_Term} {r : (List S_impl_Term)}, p t0_0 = some r → Big Try.prog τ An (.fn 71 [.one (.c (.sl (t0_0.map rS_laws_Term)))] [] (.one (.c (.sl (r.map rS_impl_Term)))) none [] none)
abbrev B_laws_toTerm (p : Int → Int → (List UInt8) → (List S_laws_Term) → Option (Int × Int × (List UInt8) × (List S_impl_Term))) : Prop := ∀ {t0_0 t0_1 : Int} {t0_2 : List UInt8} {t0_3 : List S_laws_Term} {r : Int × Int × (List UInt8) × (List S_impl_Term)}, p t0_0 t0_1 t0_2 t0_3 = some r → Big Try.prog τ An (.fn 30 [.one (.ag [.int .i64 t0_0, .int .i64 t0_1, .str t0_2, .sl (t0_3.map rS_laws_Term)])] [] (.one (.ag [.int .i64 r.1, .int .i64 r.2.1, .str r.2.2.1, .sl (r.2.2.2.map rS_impl_Term)])) none [] none)
def p_laws_toTermS_b1 (n : Nat) (r_laws_toTerm : Int → Int → (List UInt8) → (List S_laws_Term) → Option (Int × Int × (List UInt8) × (List S_impl_Term))) (t0_0 : List S_laws_Term) : ((List S_impl_Term) × Int) → Option (((List S_impl_Term) × Int) ⊕ (((List S_impl_Term) × Int × Bool)))
  | (v3_2, v4_3) => bif decide (v4_3 < (t0_0.length : Int)) then (ix t0_0 v4_3).bind fun e18_8 => (r_laws_toTerm e18_8.f0 e18_8.f1 e18_8.f2 e18_8.f3).bind fun c20_9 => (ix v3_2 v4_3).bind fun e21_10 => some (.inl ((v3_2.set (Int.toNat v4_3) (S_impl_Term.mk c20_9.1 c20_9.2.1 c20_9.2.2.1 c20_9.2.2.2)), (IntKind.wrap .i64 (v4_3 + (1 : Int))))) else some (.inr (v3_2, v4_3, false))
def s_laws_toTermS (n : Nat) (r_laws_toTerm : Int → Int → (List UInt8) → (List S_laws_Term) → Option (Int × Int × (List UInt8) × (List S_impl_Term))) (r_laws_toTermS : (List S_laws_Term) → Option ((List S_impl_Term))) (t0_0 : List S_laws_Term) : Option ((List S_impl_Term)) :=
  (ck (decide (0 ≤ (t0_0.length : Int) ∧ (t0_0.length : Int) ≤ maxLen ∧ 56 * (t0_0.length : Int) ≤ 281474976710656))).bind fun _ => (loopN (p_laws_toTermS_b1 n r_laws_toTerm t0_0) n ((List.replicate (Int.toNat (t0_0.length : Int)) (S_impl_Term.mk (0 : Int) (0 : Int) ([] : List UInt8) ([] : List S_impl_Term))), (0 : Int))).bind fun (v3_4, v4_5, v11_6) => some v3_4
theorem step_laws_toTermS {n : Nat} {r_laws_toTerm : Int → Int → (List UInt8) → (List S_laws_Term) → Option (Int × Int × (List UInt8) × (List S_impl_Term))} (ih_laws_toTerm : B_laws_toTerm r_laws_toTerm) {r_laws_toTermS : (List S_laws_Term) → Option ((List S_impl_Term))} (ih_laws_toTermS : B_laws_toTermS r_laws_toTermS) : B_laws_toTermS (s_laws_toTermS n r_laws_toTerm r_laws_toTermS) := by
 intro t0_0 r h
 unfold s_laws_toTermS at h
 refine bF Try.func71 rfl rfl ?_
 refine cRs ?_
 refine wAe (Li rS_impl_Term []) rfl rfl rfl rfl ?_
 refine oRs ?_
 refine xMv rfl ?_
 refine xLn rfl ?_
 refine oCk h (fun k7_0 h => ?_)
 refine wMk (z := S_impl_Term.mk (0 : Int) (0 : Int) ([] : List UInt8) ([] : List S_impl_Term)) (f := rS_impl_Term) k7_0 rfl rfl rfl rfl rfl rfl rfl ?_
 refine xAs rfl ?_
 refine oNl ?_
 refine cSq ?_
 refine cRs ?_
 refine xAs rfl ?_
 refine oNl ?_
 refine cLp h [(3, 4), (8, 21)] [] (fun (v3_2, v4_3) => ([(3, Li rS_impl_Term v3_2), (4, I64 v4_3)], [])) (fun (v3_4, v4_5, v11_6) => (.e 0, [(3, Li rS_impl_Term v3_4), (4, I64 v4_5), (11, Bo v11_6)], [])) rfl (fun st _ h => ?_) (fun q h => ?_)
 obtain ⟨v3_2, v4_3⟩ := st
 unfold p_laws_toTermS_b1 at h
 refine cSq ?_
 refine cRs ?_
 refine xMv rfl ?_
 refine xMv rfl ?_
 refine xLn rfl ?_
 refine xLt rfl ?_
 refine oNl ?_
 refine cIf h rfl (fun q7 h => ?_) (fun q7 h => ?_)
 refine cSk ?_
 refine cSq ?_
 refine cBk ?_
 refine cRg ?_
 refine wAl rfl rfl rfl rfl ?_
 refine xMv rfl ?_
 refine xMv rfl ?_
 refine xMv rfl ?_
 refine xIx h rS_laws_Term_eq rfl (fun e18_8 h => ?_)
 refine xLd rfl ?_
 refine xC0 h (ih_laws_toTerm ·) rfl (fun c20_9 h => ?_)
 refine wIp (f := rS_impl_Term) h rfl rfl rfl rfl rfl rfl (fun a => by rw [rS_impl_Term_eq]; rfl) rfl (fun e21_10 ke21_10 h => ?_)
 refine wSp (f := rS_impl_Term) (v' := S_impl_Term.mk c20_9.1 c20_9.2.1 c20_9.2.2.1 c20_9.2.2.2) ke21_10 rfl rfl rfl rfl rfl rfl rfl (by rw [rS_impl_Term_eq]; rfl) (by rw [rS_impl_Term_eq, rS_impl_Term_mk]; rfl) ?_
 refine oNl ?_
 refine cRg ?_
 refine xMv rfl ?_
 refine xAdd rfl ?_
 refine xAs rfl ?_
 refine oNl ?_
 exact eL h rfl
 refine cEx ?_
 exact eX h rfl
 obtain ⟨v3_4, v4_5, v11_6⟩ := q
 refine cRs ?_
 refine xMv rfl ?_
 refine xAs rfl ?_
 refine oNl ?_
 refine cRt ?_
 cases h
 exact eR rfl rfl rfl rfl
def s_laws_toTerm (n : Nat) (r_laws_toTerm : Int → Int → (List UInt8) → (List S_laws_Term) → Option (Int × Int × (List UInt8) × (List S_impl_Term))) (r_laws_toTermS : (List S_laws_Term) → Option ((List S_impl_Term))) (t0_0 : Int) (t0_1 : Int) (t0_2 : List UInt8) (t0_3 : List S_laws_Term) : Option (Int × Int × (List UInt8) × (List S_impl_Term)) :=
  (r_laws_toTermS t0_3).bind fun c15_1 => some (t0_0, t0_1, t0_2, c15_1)
theorem step_laws_toTerm {n : Nat} {r_laws_toTerm : Int → Int → (List UInt8) → (List S_laws_Term) → Option (Int × Int × (List UInt8) × (List S_impl_Term))} (ih_laws_toTerm : B_laws_toTerm r_laws_toTerm) {r_laws_toTermS : (List S_laws_Term) → Option ((List S_impl_Term))} (ih_laws_toTermS : B_laws_toTermS r_laws_toTermS) : B_laws_toTerm (s_laws_toTerm n r_laws_toTerm r_laws_toTermS) := by
 intro t0_0 t0_1 t0_2 t0_3 r h
 unfold s_laws_toTerm at h
 refine bF Try.func30 rfl rfl ?_
 refine cRs ?_
 refine xBx rfl ?_
 refine xAz [.int .i64 0, .int .i64 0, .str [], .sl ([].map rS_impl_Term)] rfl ?_
 refine oRs ?_
 refine xAz [.int .i64 0, .int .i64 0, .str [], .sl ([].map rS_impl_Term)] rfl ?_
 refine oRs ?_
 refine xFd rfl ?_
 refine xLd rfl ?_
 refine xFd rfl ?_
 refine xSt rfl ?_
 refine oRs ?_
 refine xFd rfl ?_
 refine xLd rfl ?_
 refine xFd rfl ?_
 refine xSt rfl ?_
 refine oRs ?_
 refine xFd rfl ?_
 refine xLd rfl ?_
 refine xFd rfl ?_
 refine xSt rfl ?_
 refine oRs ?_
 refine xFd rfl ?_
 refine xLd rfl ?_
 refine xC0 h (ih_laws_toTermS ·) rfl (fun c15_1 h => ?_)
 refine xFd rfl ?_
 refine xSt rfl ?_
 refine oRs ?_
 refine xLd rfl ?_
 refine xSt rfl ?_
 refine oNl ?_
 refine cRt ?_
 cases h
 exact eR rfl rfl rfl rfl
def q_laws_toTerm : Nat → (Int → Int → (List UInt8) → (List S_laws_Term) → Option (Int × Int × (List UInt8) × (List S_impl_Term))) × ((List S_laws_Term) → Option ((List S_impl_Term)))
  | 0 => ((fun _ _ _ _ => none), (fun _ => none))
  | n + 1 => (s_laws_toTerm n ((q_laws_toTerm n).1) ((q_laws_toTerm n).2), s_laws_toTermS n ((q_laws_toTerm n).1) ((q_laws_toTerm n).2))
def p_laws_toTerm (n : Nat) : Int → Int → (List UInt8) → (List S_laws_Term) → Option (Int × Int × (List UInt8) × (List S_impl_Term)) := (q_laws_toTerm n).1
def p_laws_toTermS (n : Nat) : (List S_laws_Term) → Option ((List S_impl_Term)) := (q_laws_toTerm n).2
theorem bigs_laws_toTerm (n : Nat) : B_laws_toTerm (p_laws_toTerm n) ∧ B_laws_toTermS (p_laws_toTermS n) := by
  induction n with
  | zero => exact ⟨(fun h => nomatch h), (fun h => nomatch h)⟩
  | succ n ih => exact ⟨step_laws_toTerm (n := n) (ih.1) (ih.2), step_laws_toTermS (n := n) (ih.1) (ih.2)⟩
theorem big_laws_toTerm {n : Nat} : B_laws_toTerm (p_laws_toTerm n) := (bigs_laws_toTerm n).1
theorem big_laws_toTermS {n : Nat} : B_laws_toTermS (p_laws_toTermS n) := (bigs_laws_toTerm n).2
theorem p_laws_toTerm_succ (n : Nat) : p_laws_toTerm (n + 1) = s_laws_toTerm n (p_laws_toTerm n) (p_laws_toTermS n) := rfl
theorem p_laws_toTermS_succ (n : Nat) : p_laws_toTermS (n + 1) = s_laws_toTermS n (p_laws_toTerm n) (p_laws_toTermS n) := rfl
abbrev B_laws_eqTermS (p : (List S_impl_Term) → (List S_impl_Term) → Option (Bool)) : Prop := ∀ {t0_0 t1_0 : List S_impl_Term} {r : Bool}, p t0_0 t1_0 = some r → Big Try.prog τ An (.fn 75 [.one (.c (.sl (t0_0.map rS_impl_Term))), .one (.c (.sl (t1_0.map rS_impl_Term)))] [] (.one (.c (.bool r))) none [] none)
abbrev B_laws_eqTerm (p : Int → Int → (List UInt8) → (List S_impl_Term) → Int → Int → (List UInt8) → (List S_impl_Term) → Option (Bool)) : Prop := ∀ {t0_0 t0_1 : Int} {t0_2 : List UInt8} {t0_3 : List S_impl_Term} {t1_0 t1_1 : Int} {t1_2 : List UInt8} {t1_3 : List S_impl_Term} {r : Bool}, p t0_0 t0_1 t0_2 t0_3 t1_0 t1_1 t1_2 t1_3 = some r → Big Try.prog τ An (.fn 32 [.one (.ag [.int .i64 t0_0, .int .i64 t0_1, .str t0_2, .sl (t0_3.map rS_impl_Term)]), .one (.ag [.int .i64 t1_0, .int .i64 t1_1, .str t1_2, .sl (t1_3.map rS_impl_Term)])] [] (.one (.c (.bool r))) none [] none)
def p_laws_eqTermS_b1 (n : Nat) (r_laws_eqTerm : Int → Int → (List UInt8) → (List S_impl_Term) → Int → Int → (List UInt8) → (List S_impl_Term) → Option (Bool)) (t0_0 : List S_impl_Term) (t1_0 : List S_impl_Term) : (Int) → Option ((Int) ⊕ ((Bool) ⊕ (Int × Bool)))
  | v5_2 => bif decide (v5_2 < (t0_0.length : Int)) then (ix t0_0 v5_2).bind fun e19_7 => (ix t1_0 v5_2).bind fun e23_8 => (r_laws_eqTerm e19_7.f0 e19_7.f1 e19_7.f2 e19_7.f3 e23_8.f0 e23_8.f1 e23_8.f2 e23_8.f3).bind fun c25_9 => bif !c25_9 then some (.inr (.inl false)) else some (.inl (IntKind.wrap .i64 (v5_2 + (1 : Int)))) else some (.inr (.inr (v5_2, false)))
def s_laws_eqTermS (n : Nat) (r_laws_eqTerm : Int → Int → (List UInt8) → (List S_impl_Term) → Int → Int → (List UInt8) → (List S_impl_Term) → Option (Bool)) (r_laws_eqTermS : (List S_impl_Term) → (List S_impl_Term) → Option (Bool)) (t0_0 : List S_impl_Term) (t1_0 : List S_impl_Term) : Option (Bool) :=
  bif !decide ((t0_0.length : Int) = (t1_0.length : Int)) then some false else (loopN (p_laws_eqTermS_b1 n r_laws_eqTerm t0_0 t1_0) n (0 : Int)).bind fun q => (match q with | .inl v4_3 => some v4_3 | .inr (v5_4, v14_5) => some true)
theorem step_laws_eqTermS {n : Nat} {r_laws_eqTerm : Int → Int → (List UInt8) → (List S_impl_Term) → Int → Int → (List UInt8) → (List S_impl_Term) → Option (Bool)} (ih_laws_eqTerm : B_laws_eqTerm r_laws_eqTerm) {r_laws_eqTermS : (List S_impl_Term) → (List S_impl_Term) → Option (Bool)} (ih_laws_eqTermS : B_laws_eqTermS r_laws_eqTermS) : B_laws_eqTermS (s_laws_eqTermS n r_laws_eqTerm r_laws_eqTermS) := by
 intro t0_0 t1_0 r h
 unfold s_laws_eqTermS at h
 refine bF Try.func75 rfl rfl ?_
 refine cRs ?_
 refine xAs rfl ?_
 refine oNl ?_
 refine cSq ?_
 refine cRs ?_
 refine xMv rfl ?_
 refine xLn rfl ?_
 refine xMv rfl ?_
 refine xLn rfl ?_
 refine xNe rfl ?_
 refine oNl ?_
 refine cIf h rfl (fun q1 h => ?_) (fun q1 h => ?_)
 refine cRs ?_
 refine xAs rfl ?_
 refine oNl ?_
 refine cRt ?_
 cases h
 exact eR rfl rfl rfl rfl
 refine cSk ?_
 refine cSq ?_
 refine cRs ?_
 refine xAs rfl ?_
 refine oNl ?_
 refine cLp h [(4, 5), (11, 26)] [] (fun v5_2 => ([(5, I64 v5_2)], [])) (fun q => match q with | .inl v4_3 => (.r, [(4, Bo v4_3)], []) | .inr (v5_4, v14_5) => (.e 0, [(5, I64 v5_4), (14, Bo v14_5)], [])) rfl (fun v5_2 _ h => ?_) (fun q h => ?_)
 unfold p_laws_eqTermS_b1 at h
 refine cSq ?_
 refine cRs ?_
 refine xMv rfl ?_
 refine xMv rfl ?_
 refine xLn rfl ?_
 refine xLt rfl ?_
 refine oNl ?_
 refine cIf h rfl (fun q6 h => ?_) (fun q6 h => ?_)
 refine cSk ?_
 refine cSq ?_
 refine cBk ?_
 refine cRs ?_
 refine xMv rfl ?_
 refine xMv rfl ?_
 refine xIx h rS_impl_Term_eq rfl (fun e19_7 h => ?_)
 refine xLd rfl ?_
 refine xMv rfl ?_
 refine xMv rfl ?_
 refine xIx h rS_impl_Term_eq rfl (fun e23_8 h => ?_)
 refine xLd rfl ?_
 refine xC0 h (ih_laws_eqTerm ·) rfl (fun c25_9 h => ?_)
 refine xNot rfl ?_
 refine oNl ?_
 refine cIf h rfl (fun q10 h => ?_) (fun q10 h => ?_)
 refine cRs ?_
 refine xAs rfl ?_
 refine oNl ?_
 refine cRt ?_
 exact eXr h rfl
 refine cSk ?_
 refine cRg ?_
 refine xMv rfl ?_
 refine xAdd rfl ?_
 refine xAs rfl ?_
 refine oNl ?_
 exact eL h rfl
 refine cEx ?_
 exact eX h rfl
 rcases q with v4_3 | ⟨v5_4, v14_5⟩
 cases h
 exact eR rfl rfl rfl rfl
 refine cRs ?_
 refine xAs rfl ?_
 refine oNl ?_
 refine cRt ?_
 cases h
 exact eR rfl rfl rfl rfl
def s_laws_eqTerm (n : Nat) (r_laws_eqTerm : Int → Int → (List UInt8) → (List S_impl_Term) → Int → Int → (List UInt8) → (List S_impl_Term) → Option (Bool)) (r_laws_eqTermS : (List S_impl_Term) → (List S_impl_Term) → Option (Bool)) (t0_0 : Int) (t0_1 : Int) (t0_2 : List UInt8) (t0_3 : List S_impl_Term) (t1_0 : Int) (t1_1 : Int) (t1_2 : List UInt8) (t1_3 : List S_impl_Term) : Option (Bool) :=
  bif !decide (t0_0 = t1_0) then some false else bif !decide (t0_1 = t1_1) then some false else bif !decide (t0_2 = t1_2) then some false else (r_laws_eqTermS t0_3 t1_3).bind fun c24_4 => bif !c24_4 then some false else some true
theorem step_laws_eqTerm {n : Nat} {r_laws_eqTerm : Int → Int → (List UInt8) → (List S_impl_Term) → Int → Int → (List UInt8) → (List S_impl_Term) → Option (Bool)} (ih_laws_eqTerm : B_laws_eqTerm r_laws_eqTerm) {r_laws_eqTermS : (List S_impl_Term) → (List S_impl_Term) → Option (Bool)} (ih_laws_eqTermS : B_laws_eqTermS r_laws_eqTermS) : B_laws_eqTerm (s_laws_eqTerm n r_laws_eqTerm r_laws_eqTermS) := by
 intro t0_0 t0_1 t0_2 t0_3 t1_0 t1_1 t1_2 t1_3 r h
 unfold s_laws_eqTerm at h
 refine bF Try.func32 rfl rfl ?_
 refine cRs ?_
 refine xBx rfl ?_
 refine xBx rfl ?_
 refine xAs rfl ?_
 refine oNl ?_
 refine cSq ?_
 refine cRs ?_
 refine xFd rfl ?_
 refine xLd rfl ?_
 refine xFd rfl ?_
 refine xLd rfl ?_
 refine xNe rfl ?_
 refine oNl ?_
 refine cIf h rfl (fun q1 h => ?_) (fun q1 h => ?_)
 refine cRs ?_
 refine xAs rfl ?_
 refine oNl ?_
 refine cRt ?_
 cases h
 exact eR rfl rfl rfl rfl
 refine cSk ?_
 refine cSq ?_
 refine cRs ?_
 refine xFd rfl ?_
 refine xLd rfl ?_
 refine xFd rfl ?_
 refine xLd rfl ?_
 refine xNe rfl ?_
 refine oNl ?_
 refine cIf h rfl (fun q2 h => ?_) (fun q2 h => ?_)
 refine cRs ?_
 refine xAs rfl ?_
 refine oNl ?_
 refine cRt ?_
 cases h
 exact eR rfl rfl rfl rfl
 refine cSk ?_
 refine cSq ?_
 refine cRs ?_
 refine xFd rfl ?_
 refine xLd rfl ?_
 refine xFd rfl ?_
 refine xLd rfl ?_
 refine xNs rfl ?_
 refine oNl ?_
 refine cIf h rfl (fun q3 h => ?_) (fun q3 h => ?_)
 refine cRs ?_
 refine xAs rfl ?_
 refine oNl ?_
 refine cRt ?_
 cases h
 exact eR rfl rfl rfl rfl
 refine cSk ?_
 refine cSq ?_
 refine cRs ?_
 refine xFd rfl ?_
 refine xLd rfl ?_
 refine xFd rfl ?_
 refine xLd rfl ?_
 refine xC0 h (ih_laws_eqTermS ·) rfl (fun c24_4 h => ?_)
 refine xNot rfl ?_
 refine oNl ?_
 refine cIf h rfl (fun q5 h => ?_) (fun q5 h => ?_)
 refine cRs ?_
 refine xAs rfl ?_
 refine oNl ?_
 refine cRt ?_
 cases h
 exact eR rfl rfl rfl rfl
 refine cSk ?_
 refine cRs ?_
 refine xAs rfl ?_
 refine oNl ?_
 refine cRt ?_
 cases h
 exact eR rfl rfl rfl rfl
def q_laws_eqTerm : Nat → (Int → Int → (List UInt8) → (List S_impl_Term) → Int → Int → (List UInt8) → (List S_impl_Term) → Option (Bool)) × ((List S_impl_Term) → (List S_impl_Term) → Option (Bool))
  | 0 => ((fun _ _ _ _ _ _ _ _ => none), (fun _ _ => none))
  | n + 1 => (s_laws_eqTerm n ((q_laws_eqTerm n).1) ((q_laws_eqTerm n).2), s_laws_eqTermS n ((q_laws_eqTerm n).1) ((q_laws_eqTerm n).2))
def p_laws_eqTerm (n : Nat) : Int → Int → (List UInt8) → (List S_impl_Term) → Int → Int → (List UInt8) → (List S_impl_Term) → Option (Bool) := (q_laws_eqTerm n).1
def p_laws_eqTermS (n : Nat) : (List S_impl_Term) → (List S_impl_Term) → Option (Bool) := (q_laws_eqTerm n).2
theorem bigs_laws_eqTerm (n : Nat) : B_laws_eqTerm (p_laws_eqTerm n) ∧ B_laws_eqTermS (p_laws_eqTermS n) := by
  induction n with
  | zero => exact ⟨(fun h => nomatch h), (fun h => nomatch h)⟩
  | succ n ih => exact ⟨step_laws_eqTerm (n := n) (ih.1) (ih.2), step_laws_eqTermS (n := n) (ih.1) (ih.2)⟩
theorem big_laws_eqTerm {n : Nat} : B_laws_eqTerm (p_laws_eqTerm n) := (bigs_laws_eqTerm n).1
theorem big_laws_eqTermS {n : Nat} : B_laws_eqTermS (p_laws_eqTermS n) := (bigs_laws_eqTerm n).2
theorem p_laws_eqTerm_succ (n : Nat) : p_laws_eqTerm (n + 1) = s_laws_eqTerm n (p_laws_eqTerm n) (p_laws_eqTermS n) := rfl
theorem p_laws_eqTermS_succ (n : Nat) : p_laws_eqTermS (n + 1) = s_laws_eqTermS n (p_laws_eqTerm n) (p_laws_eqTermS n) := rfl
abbrev B_laws_eqSend (p : Int → Int → (List UInt8) → (List S_impl_Term) → Int → Int → (List UInt8) → (List S_impl_Term) → Int → Int → (List UInt8) → (List S_impl_Term) → Int → Int → (List UInt8) → (List S_impl_Term) → Option (Bool)) : Prop := ∀ {t0_0 t0_1 : Int} {t0_2 : List UInt8} {t0_3 : List S_impl_Term} {t0_4 t0_5 : Int} {t0_6 : List UInt8} {t0_7 : List S_impl_Term} {t1_0 t1_1 : Int} {t1_2 : List UInt8} {t1_3 : List S_impl_Term} {t1_4 t1_5 : Int} {t1_6 : List UInt8} {t1_7 : List S_impl_Term} {r : Bool}, p t0_0 t0_1 t0_2 t0_3 t0_4 t0_5 t0_6 t0_7 t1_0 t1_1 t1_2 t1_3 t1_4 t1_5 t1_6 t1_7 = some r → Big Try.prog τ An (.fn 76 [.one (.ag [.int .i64 t0_0, .int .i64 t0_1, .str t0_2, .sl (t0_3.map rS_impl_Term), .int .i64 t0_4, .int .i64 t0_5, .str t0_6, .sl (t0_7.map rS_impl_Term)]), .one (.ag [.int .i64 t1_0, .int .i64 t1_1, .str t1_2, .sl (t1_3.map rS_impl_Term), .int .i64 t1_4, .int .i64 t1_5, .str t1_6, .sl (t1_7.map rS_impl_Term)])] [] (.one (.c (.bool r))) none [] none)
def p_laws_eqSend (n : Nat) (t0_0 : Int) (t0_1 : Int) (t0_2 : List UInt8) (t0_3 : List S_impl_Term) (t0_4 : Int) (t0_5 : Int) (t0_6 : List UInt8) (t0_7 : List S_impl_Term) (t1_0 : Int) (t1_1 : Int) (t1_2 : List UInt8) (t1_3 : List S_impl_Term) (t1_4 : Int) (t1_5 : Int) (t1_6 : List UInt8) (t1_7 : List S_impl_Term) : Option (Bool) :=
  (p_laws_eqTerm n t0_0 t0_1 t0_2 t0_3 t1_0 t1_1 t1_2 t1_3).bind fun c9_1 => bif !c9_1 then some false else (p_laws_eqTerm n t0_4 t0_5 t0_6 t0_7 t1_4 t1_5 t1_6 t1_7).bind fun c15_3 => bif !c15_3 then some false else some true
theorem big_laws_eqSend {n : Nat} : B_laws_eqSend (p_laws_eqSend n) := by
 intro t0_0 t0_1 t0_2 t0_3 t0_4 t0_5 t0_6 t0_7 t1_0 t1_1 t1_2 t1_3 t1_4 t1_5 t1_6 t1_7 r h
 unfold p_laws_eqSend at h
 refine bF Try.func76 rfl rfl ?_
 refine cRs ?_
 refine xBx rfl ?_
 refine xBx rfl ?_
 refine xAs rfl ?_
 refine oNl ?_
 refine cSq ?_
 refine cRs ?_
 refine xFd rfl ?_
 refine xLd rfl ?_
 refine xFd rfl ?_
 refine xLd rfl ?_
 refine xC0 h (big_laws_eqTerm ·) rfl (fun c9_1 h => ?_)
 refine xNot rfl ?_
 refine oNl ?_
 refine cIf h rfl (fun q2 h => ?_) (fun q2 h => ?_)
 refine cRs ?_
 refine xAs rfl ?_
 refine oNl ?_
 refine cRt ?_
 cases h
 exact eR rfl rfl rfl rfl
 refine cSk ?_
 refine cSq ?_
 refine cRs ?_
 refine xFd rfl ?_
 refine xLd rfl ?_
 refine xFd rfl ?_
 refine xLd rfl ?_
 refine xC0 h (big_laws_eqTerm ·) rfl (fun c15_3 h => ?_)
 refine xNot rfl ?_
 refine oNl ?_
 refine cIf h rfl (fun q4 h => ?_) (fun q4 h => ?_)
 refine cRs ?_
 refine xAs rfl ?_
 refine oNl ?_
 refine cRt ?_
 cases h
 exact eR rfl rfl rfl rfl
 refine cSk ?_
 refine cRs ?_
 refine xAs rfl ?_
 refine oNl ?_
 refine cRt ?_
 cases h
 exact eR rfl rfl rfl rfl
abbrev B_laws_eqSendS (p : (List S_impl_Send) → (List S_impl_Send) → Option (Bool)) : Prop := ∀ {t0_0 t1_0 : List S_impl_Send} {r : Bool}, p t0_0 t1_0 = some r → Big Try.prog τ An (.fn 31 [.one (.c (.sl (t0_0.map rS_impl_Send))), .one (.c (.sl (t1_0.map rS_impl_Send)))] [] (.one (.c (.bool r))) none [] none)
def p_laws_eqSendS_b1 (n : Nat) (t0_0 : List S_impl_Send) (t1_0 : List S_impl_Send) : (Int) → Option ((Int) ⊕ ((Bool) ⊕ (Int × Bool)))
  | v5_2 => bif decide (v5_2 < (t0_0.length : Int)) then (ix t0_0 v5_2).bind fun e19_7 => (ix t1_0 v5_2).bind fun e23_8 => (p_laws_eqSend n e19_7.f0 e19_7.f1 e19_7.f2 e19_7.f3 e19_7.f4 e19_7.f5 e19_7.f6 e19_7.f7 e23_8.f0 e23_8.f1 e23_8.f2 e23_8.f3 e23_8.f4 e23_8.f5 e23_8.f6 e23_8.f7).bind fun c25_9 => bif !c25_9 then some (.inr (.inl false)) else some (.inl (IntKind.wrap .i64 (v5_2 + (1 : Int)))) else some (.inr (.inr (v5_2, false)))
def p_laws_eqSendS (n : Nat) (t0_0 : List S_impl_Send) (t1_0 : List S_impl_Send) : Option (Bool) :=
  bif !decide ((t0_0.length : Int) = (t1_0.length : Int)) then some false else (loopN (p_laws_eqSendS_b1 n t0_0 t1_0) n (0 : Int)).bind fun q => (match q with | .inl v4_3 => some v4_3 | .inr (v5_4, v14_5) => some true)
theorem big_laws_eqSendS {n : Nat} : B_laws_eqSendS (p_laws_eqSendS n) := by
 intro t0_0 t1_0 r h
 unfold p_laws_eqSendS at h
 refine bF Try.func31 rfl rfl ?_
 refine cRs ?_
 refine xAs rfl ?_
 refine oNl ?_
 refine cSq ?_
 refine cRs ?_
 refine xMv rfl ?_
 refine xLn rfl ?_
 refine xMv rfl ?_
 refine xLn rfl ?_
 refine xNe rfl ?_
 refine oNl ?_
 refine cIf h rfl (fun q1 h => ?_) (fun q1 h => ?_)
 refine cRs ?_
 refine xAs rfl ?_
 refine oNl ?_
 refine cRt ?_
 cases h
 exact eR rfl rfl rfl rfl
 refine cSk ?_
 refine cSq ?_
 refine cRs ?_
 refine xAs rfl ?_
 refine oNl ?_
 refine cLp h [(4, 5), (11, 26)] [] (fun v5_2 => ([(5, I64 v5_2)], [])) (fun q => match q with | .inl v4_3 => (.r, [(4, Bo v4_3)], []) | .inr (v5_4, v14_5) => (.e 0, [(5, I64 v5_4), (14, Bo v14_5)], [])) rfl (fun v5_2 _ h => ?_) (fun q h => ?_)
 unfold p_laws_eqSendS_b1 at h
 refine cSq ?_
 refine cRs ?_
 refine xMv rfl ?_
 refine xMv rfl ?_
 refine xLn rfl ?_
 refine xLt rfl ?_
 refine oNl ?_
 refine cIf h rfl (fun q6 h => ?_) (fun q6 h => ?_)
 refine cSk ?_
 refine cSq ?_
 refine cBk ?_
 refine cRs ?_
 refine xMv rfl ?_
 refine xMv rfl ?_
 refine xIx h rS_impl_Send_eq rfl (fun e19_7 h => ?_)
 refine xLd rfl ?_
 refine xMv rfl ?_
 refine xMv rfl ?_
 refine xIx h rS_impl_Send_eq rfl (fun e23_8 h => ?_)
 refine xLd rfl ?_
 refine xC0 h (big_laws_eqSend ·) rfl (fun c25_9 h => ?_)
 refine xNot rfl ?_
 refine oNl ?_
 refine cIf h rfl (fun q10 h => ?_) (fun q10 h => ?_)
 refine cRs ?_
 refine xAs rfl ?_
 refine oNl ?_
 refine cRt ?_
 exact eXr h rfl
 refine cSk ?_
 refine cRg ?_
 refine xMv rfl ?_
 refine xAdd rfl ?_
 refine xAs rfl ?_
 refine oNl ?_
 exact eL h rfl
 refine cEx ?_
 exact eX h rfl
 rcases q with v4_3 | ⟨v5_4, v14_5⟩
 cases h
 exact eR rfl rfl rfl rfl
 refine cRs ?_
 refine xAs rfl ?_
 refine oNl ?_
 refine cRt ?_
 cases h
 exact eR rfl rfl rfl rfl
abbrev B_laws_markText (p : Int → Option ((List UInt8))) : Prop := ∀ {t0_0 : Int} {r : (List UInt8)}, p t0_0 = some r → Big Try.prog τ An (.fn 78 [.one (.c (.int .i64 t0_0))] [] (.one (.c (.str r))) none [] none)
def p_laws_markText_b1 (n : Nat) : (Int × (List UInt8)) → Option ((Int × (List UInt8)) ⊕ ((Int × (List UInt8) × Bool)))
  | (v0_2, v3_3) => bif decide ((0 : Int) < v0_2) then (toStr ([(IntKind.wrap .u8 (IntKind.wrap .i64 ((48 : Int) + (Int.tmod v0_2 (10 : Int)))))] : List Int)).bind fun v13_8 => (ck (decide (v13_8.length + v3_3.length ≤ 9223372036854775807))).bind fun _ => some (.inl ((IntKind.wrap .i64 (Int.tdiv v0_2 (10 : Int))), (v13_8 ++ v3_3))) else some (.inr (v0_2, v3_3, false))
def p_laws_markText (n : Nat) (t0_0 : Int) : Option ((List UInt8)) :=
  bif decide (t0_0 ≤ (0 : Int)) then some ([109, 48] : List UInt8) else (loopN (p_laws_markText_b1 n) n (t0_0, ([] : List UInt8))).bind fun (v0_4, v3_5, v7_6) => (ck (decide (([109] : List UInt8).length + v3_5.length ≤ 9223372036854775807))).bind fun _ => some (([109] : List UInt8) ++ v3_5)
theorem big_laws_markText {n : Nat} : B_laws_markText (p_laws_markText n) := by
 intro t0_0 r h
 unfold p_laws_markText at h
 refine bF Try.func78 rfl rfl ?_
 refine cRs ?_
 refine xAs rfl ?_
 refine oNl ?_
 refine cSq ?_
 refine cRs ?_
 refine xMv rfl ?_
 refine xLe rfl ?_
 refine oNl ?_
 refine cIf h rfl (fun q1 h => ?_) (fun q1 h => ?_)
 refine cRs ?_
 refine xAs rfl ?_
 refine oNl ?_
 refine cRt ?_
 cases h
 exact eR rfl rfl rfl rfl
 refine cSk ?_
 refine cRs ?_
 refine xAs rfl ?_
 refine oNl ?_
 refine cSq ?_
 refine cLp h [(0, 0), (3, 3), (6, 17)] [] (fun (v0_2, v3_3) => ([(0, I64 v0_2), (3, St' v3_3)], [])) (fun (v0_4, v3_5, v7_6) => (.e 0, [(0, I64 v0_4), (3, St' v3_5), (7, Bo v7_6)], [])) rfl (fun st _ h => ?_) (fun q h => ?_)
 obtain ⟨v0_2, v3_3⟩ := st
 unfold p_laws_markText_b1 at h
 refine cSq ?_
 refine cRs ?_
 refine xMv rfl ?_
 refine xGt rfl ?_
 refine oNl ?_
 refine cIf h rfl (fun q7 h => ?_) (fun q7 h => ?_)
 refine cSk ?_
 refine cBk ?_
 refine cRs ?_
 refine xMv rfl ?_
 refine wBi (.int .i64 (Int.tmod v0_2 (10 : Int))) rfl rfl rfl rfl rfl ?_
 refine xAdd rfl ?_
 refine wCv rfl rfl rfl rfl rfl ?_
 refine wLt' (L := ([(IntKind.wrap .u8 (IntKind.wrap .i64 ((48 : Int) + (Int.tmod v0_2 (10 : Int)))))] : List Int)) (f := rI_u8) rfl rfl rfl rfl rfl rfl rfl ?_
 refine wTs h rfl rfl ⟨rfl, rfl⟩ rfl rI_u8_eq rfl (fun v13_8 h => ?_)
 refine xMv rfl ?_
 refine oCk h (fun k15_8 h => ?_)
 refine wCat k15_8 rfl rfl rfl rfl ?_
 refine xAs rfl ?_
 refine oNl ?_
 refine cRg ?_
 refine xMv rfl ?_
 refine wBi (.int .i64 (IntKind.wrap .i64 (Int.tdiv v0_2 (10 : Int)))) rfl rfl rfl rfl rfl ?_
 refine xAs rfl ?_
 refine oNl ?_
 exact eL h rfl
 refine cEx ?_
 exact eX h rfl
 obtain ⟨v0_4, v3_5, v7_6⟩ := q
 refine cRs ?_
 refine xMv rfl ?_
 refine oCk h (fun k19_9 h => ?_)
 refine wCat k19_9 rfl rfl rfl rfl ?_
 refine xAs rfl ?_
 refine oNl ?_
 refine cRt ?_
 cases h
 exact eR rfl rfl rfl rfl
abbrev B_laws_markTermS (p : (List S_impl_Term) → Int → Option (Int × (List S_impl_Term))) : Prop := ∀ {t0_0 : List S_impl_Term} {t1_0 : Int} {r : Int × (List S_impl_Term)}, p t0_0 t1_0 = some r → Big Try.prog τ An (.fn 77 [.one (.c (.sl (t0_0.map rS_impl_Term))), .one (.c (.int .i64 t1_0))] [] (.one (.c (.int .i64 r.1))) (some (.sl (r.2.map rS_impl_Term))) [] none)
def p_laws_markTermS_b1 (n : Nat) (r_laws_markTermS : (List S_impl_Term) → Int → Option (Int × (List S_impl_Term))) : ((List S_impl_Term) × Int × Int) → Option (((List S_impl_Term) × Int × Int) ⊕ (((List S_impl_Term) × Int × Int × Bool)))
  | (v0_1, v1_2, v5_3) => bif decide (v5_3 < (v0_1.length : Int)) then (ix v0_1 v5_3).bind fun e15_9 => (ix (v0_1.set (Int.toNat v5_3) (S_impl_Term.mk v1_2 e15_9.f1 e15_9.f2 e15_9.f3)) v5_3).bind fun e22_10 => (p_laws_markText n (IntKind.wrap .i64 ((IntKind.wrap .i64 (v1_2 + (1 : Int))) + (1 : Int)))).bind fun c29_11 => (ix ((v0_1.set (Int.toNat v5_3) (S_impl_Term.mk v1_2 e15_9.f1 e15_9.f2 e15_9.f3)).set (Int.toNat v5_3) (S_impl_Term.mk e22_10.f0 (IntKind.wrap .i64 (v1_2 + (1 : Int))) e22_10.f2 e22_10.f3)) v5_3).bind fun e30_12 => (ix (((v0_1.set (Int.toNat v5_3) (S_impl_Term.mk v1_2 e15_9.f1 e15_9.f2 e15_9.f3)).set (Int.toNat v5_3) (S_impl_Term.mk e22_10.f0 (IntKind.wrap .i64 (v1_2 + (1 : Int))) e22_10.f2 e22_10.f3)).set (Int.toNat v5_3) (S_impl_Term.mk e30_12.f0 e30_12.f1 c29_11 e30_12.f3)) v5_3).bind fun e36_13 => (r_laws_markTermS e36_13.f3 (IntKind.wrap .i64 ((IntKind.wrap .i64 ((IntKind.wrap .i64 (v1_2 + (1 : Int))) + (1 : Int))) + (1 : Int)))).bind fun c40_14 => some (.inl (((((v0_1.set (Int.toNat v5_3) (S_impl_Term.mk v1_2 e15_9.f1 e15_9.f2 e15_9.f3)).set (Int.toNat v5_3) (S_impl_Term.mk e22_10.f0 (IntKind.wrap .i64 (v1_2 + (1 : Int))) e22_10.f2 e22_10.f3)).set (Int.toNat v5_3) (S_impl_Term.mk e30_12.f0 e30_12.f1 c29_11 e30_12.f3)).set (Int.toNat v5_3) (S_impl_Term.mk e36_13.f0 e36_13.f1 e36_13.f2 c40_14.2)), c40_14.1, (IntKind.wrap .i64 (v5_3 + (1 : Int))))) else some (.inr (v0_1, v1_2, v5_3, false))
def s_laws_markTermS (n : Nat) (r_laws_markTermS : (List S_impl_Term) → Int → Option (Int × (List S_impl_Term))) (t0_0 : List S_impl_Term) (t1_0 : Int) : Option (Int × (List S_impl_Term)) :=
  (loopN (p_laws_markTermS_b1 n r_laws_markTermS) n (t0_0, t1_0, (0 : Int))).bind fun (v0_4, v1_5, v5_6, v9_7) => some (v1_5, v0_4)
theorem step_laws_markTermS {n : Nat} {r_laws_markTermS : (List S_impl_Term) → Int → Option (Int × (List S_impl_Term))} (ih_laws_markTermS : B_laws_markTermS r_laws_markTermS) : B_laws_markTermS (s_laws_markTermS n r_laws_markTermS) := by
 intro t0_0 t1_0 r h
 unfold s_laws_markTermS at h
 refine bFi Try.func77 rfl rfl ?_
 refine cRs ?_
 refine xAs rfl ?_
 refine oNl ?_
 refine cSq ?_
 refine cRs ?_
 refine xAs rfl ?_
 refine oNl ?_
 refine cLp h [(0, 1), (5, 40)] [] (fun (v0_1, v1_2, v5_3) => ([(0, Li rS_impl_Term v0_1), (1, I64 v1_2), (5, I64 v5_3)], [])) (fun (v0_4, v1_5, v5_6, v9_7) => (.e 0, [(0, Li rS_impl_Term v0_4), (1, I64 v1_5), (5, I64 v5_6), (9, Bo v9_7)], [])) rfl (fun st _ h => ?_) (fun q h => ?_)
 obtain ⟨v0_1, v1_2, v5_3⟩ := st
 unfold p_laws_markTermS_b1 at h
 refine cSq ?_
 refine cRs ?_
 refine xMv rfl ?_
 refine xMv rfl ?_
 refine xLn rfl ?_
 refine xLt rfl ?_
 refine oNl ?_
 refine cIf h rfl (fun q8 h => ?_) (fun q8 h => ?_)
 refine cSk ?_
 refine cSq ?_
 refine cBk ?_
 refine cRs ?_
 refine wAl rfl rfl rfl rfl ?_
 refine xMv rfl ?_
 refine xMv rfl ?_
 refine wIp (f := rS_impl_Term) h rfl rfl rfl rfl rfl rfl (fun a => by rw [rS_impl_Term_eq]; rfl) rfl (fun e15_9 ke15_9 h => ?_)
 refine xFd rfl ?_
 refine wSp (f := rS_impl_Term) (v' := S_impl_Term.mk v1_2 e15_9.f1 e15_9.f2 e15_9.f3) ke15_9 rfl rfl rfl rfl rfl rfl rfl (by rw [rS_impl_Term_eq]; rfl) (by rw [rS_impl_Term_eq, rS_impl_Term_mk]; rfl) ?_
 refine oRs ?_
 refine xMv rfl ?_
 refine xAdd rfl ?_
 refine xAs rfl ?_
 refine oRs ?_
 refine wAl rfl rfl rfl rfl ?_
 refine xMv rfl ?_
 refine xMv rfl ?_
 refine wIp (f := rS_impl_Term) h rfl rfl rfl rfl rfl rfl (fun a => by rw [rS_impl_Term_eq]; rfl) rfl (fun e22_10 ke22_10 h => ?_)
 refine xFd rfl ?_
 refine wSp (f := rS_impl_Term) (v' := S_impl_Term.mk e22_10.f0 (IntKind.wrap .i64 (v1_2 + (1 : Int))) e22_10.f2 e22_10.f3) ke22_10 rfl rfl rfl rfl rfl rfl rfl (by rw [rS_impl_Term_eq]; rfl) (by rw [rS_impl_Term_eq, rS_impl_Term_mk]; rfl) ?_
 refine oRs ?_
 refine xMv rfl ?_
 refine xAdd rfl ?_
 refine xAs rfl ?_
 refine oRs ?_
 refine wAl rfl rfl rfl rfl ?_
 refine xMv rfl ?_
 refine xMv rfl ?_
 refine xC0 h (big_laws_markText ·) rfl (fun c29_11 h => ?_)
 refine wIp (f := rS_impl_Term) h rfl rfl rfl rfl rfl rfl (fun a => by rw [rS_impl_Term_eq]; rfl) rfl (fun e30_12 ke30_12 h => ?_)
 refine xFd rfl ?_
 refine wSp (f := rS_impl_Term) (v' := S_impl_Term.mk e30_12.f0 e30_12.f1 c29_11 e30_12.f3) ke30_12 rfl rfl rfl rfl rfl rfl rfl (by rw [rS_impl_Term_eq]; rfl) (by rw [rS_impl_Term_eq, rS_impl_Term_mk]; rfl) ?_
 refine oRs ?_
 refine xMv rfl ?_
 refine xAdd rfl ?_
 refine xAs rfl ?_
 refine oNl ?_
 refine cRg ?_
 refine wAl rfl rfl rfl rfl ?_
 refine xMv rfl ?_
 refine wIp (f := rS_impl_Term) h rfl rfl rfl rfl rfl rfl (fun a => by rw [rS_impl_Term_eq]; rfl) rfl (fun e36_13 ke36_13 h => ?_)
 refine xFd rfl ?_
 refine wLq (f := rS_impl_Term) ke36_13 rfl rfl rfl rfl rfl rfl rfl (by rw [rS_impl_Term_eq]) rfl rfl ?_
 refine xMv rfl ?_
 refine xIo (fun c40_14 => .sl (((((v0_1.set (Int.toNat v5_3) (S_impl_Term.mk v1_2 e15_9.f1 e15_9.f2 e15_9.f3)).set (Int.toNat v5_3) (S_impl_Term.mk e22_10.f0 (IntKind.wrap .i64 (v1_2 + (1 : Int))) e22_10.f2 e22_10.f3)).set (Int.toNat v5_3) (S_impl_Term.mk e30_12.f0 e30_12.f1 c29_11 e30_12.f3)).set (Int.toNat v5_3) (S_impl_Term.mk e36_13.f0 e36_13.f1 e36_13.f2 c40_14.2)).map rS_impl_Term)) h (ih_laws_markTermS ·) rfl (nav1 ke36_13 (by rw [rS_impl_Term_eq]; rfl)) (fun _ => setAt1 ke36_13 (by rw [rS_impl_Term_eq]; rfl) (by rw [rS_impl_Term_eq, rS_impl_Term_mk]; rfl)) (fun c40_14 h => ?_)
 refine xAs rfl ?_
 refine oNl ?_
 refine cRg ?_
 refine xMv rfl ?_
 refine xAdd rfl ?_
 refine xAs rfl ?_
 refine oNl ?_
 exact eL h rfl
 refine cEx ?_
 exact eX h rfl
 obtain ⟨v0_4, v1_5, v5_6, v9_7⟩ := q
 refine cRs ?_
 refine xMv rfl ?_
 refine xAs rfl ?_
 refine oNl ?_
 refine cRt ?_
 cases h
 exact eRi rfl rfl rfl rfl rfl
def q_laws_markTermS : Nat → ((List S_impl_Term) → Int → Option (Int × (List S_impl_Term)))
  | 0 => (fun _ _ => none)
  | n + 1 => s_laws_markTermS n (q_laws_markTermS n)
def p_laws_markTermS (n : Nat) : (List S_impl_Term) → Int → Option (Int × (List S_impl_Term)) := q_laws_markTermS n
theorem bigs_laws_markTermS (n : Nat) : B_laws_markTermS (p_laws_markTermS n) := by
  induction n with
  | zero => exact (fun h => nomatch h)
  | succ n ih => exact step_laws_markTermS (n := n) ih
theorem big_laws_markTermS {n : Nat} : B_laws_markTermS (p_laws_markTermS n) := (bigs_laws_markTermS n)
theorem p_laws_markTermS_succ (n : Nat) : p_laws_markTermS (n + 1) = s_laws_markTermS n (p_laws_markTermS n) := rfl
abbrev B_laws_markTerm (p : Int → Int → (List UInt8) → (List S_impl_Term) → Int → Option (Int)) : Prop := ∀ {t0_0 t0_1 : Int} {t0_2 : List UInt8} {t0_3 : List S_impl_Term} {t1_0 : Int} {r : Int}, p t0_0 t0_1 t0_2 t0_3 t1_0 = some r → Big Try.prog τ An (.fn 33 [.one (.ag [.int .i64 t0_0, .int .i64 t0_1, .str t0_2, .sl (t0_3.map rS_impl_Term)]), .one (.c (.int .i64 t1_0))] [] (.one (.c (.int .i64 r))) none [] none)
def p_laws_markTerm (n : Nat) (t0_0 : Int) (t0_1 : Int) (t0_2 : List UInt8) (t0_3 : List S_impl_Term) (t1_0 : Int) : Option (Int) :=
  (p_laws_markTermS n t0_3 t1_0).bind fun c8_1 => some c8_1.1
theorem big_laws_markTerm {n : Nat} : B_laws_markTerm (p_laws_markTerm n) := by
 intro t0_0 t0_1 t0_2 t0_3 t1_0 r h
 unfold p_laws_markTerm at h
 refine bF Try.func33 rfl rfl ?_
 refine cRs ?_
 refine xBx rfl ?_
 refine xAs rfl ?_
 refine oRs ?_
 refine xFd rfl ?_
 refine wLa rfl rfl rfl rfl rfl rfl rfl ?_
 refine xMv rfl ?_
 refine xIo (fun c8_1 => .sl (c8_1.2.map rS_impl_Term)) h (big_laws_markTermS ·) rfl (nav0 _) (fun _ => setAt0 _ _) (fun c8_1 h => ?_)
 refine xAs rfl ?_
 refine oRs ?_
 refine xMv rfl ?_
 refine xAs rfl ?_
 refine oNl ?_
 refine cRt ?_
 cases h
 exact eR rfl rfl rfl rfl
abbrev B_laws_markSendS (p : (List S_impl_Send) → Int → Option (Int × (List S_impl_Send))) : Prop := ∀ {t0_0 : List S_impl_Send} {t1_0 : Int} {r : Int × (List S_impl_Send)}, p t0_0 t1_0 = some r → Big Try.prog τ An (.fn 34 [.one (.c (.sl (t0_0.map rS_impl_Send))), .one (.c (.int .i64 t1_0))] [] (.one (.c (.int .i64 r.1))) (some (.sl (r.2.map rS_impl_Send))) [] none)
def p_laws_markSendS_b1 (n : Nat) : ((List S_impl_Send) × Int × Int) → Option (((List S_impl_Send) × Int × Int) ⊕ (((List S_impl_Send) × Int × Int × Bool)))
  | (v0_1, v1_2, v5_3) => bif decide (v5_3 < (v0_1.length : Int)) then (ix v0_1 v5_3).bind fun e15_9 => (ix (v0_1.set (Int.toNat v5_3) (S_impl_Send.mk v1_2 e15_9.f1 e15_9.f2 e15_9.f3 e15_9.f4 e15_9.f5 e15_9.f6 e15_9.f7)) v5_3).bind fun e23_10 => (p_laws_markText n (IntKind.wrap .i64 ((IntKind.wrap .i64 (v1_2 + (1 : Int))) + (1 : Int)))).bind fun c31_11 => (ix ((v0_1.set (Int.toNat v5_3) (S_impl_Send.mk v1_2 e15_9.f1 e15_9.f2 e15_9.f3 e15_9.f4 e15_9.f5 e15_9.f6 e15_9.f7)).set (Int.toNat v5_3) (S_impl_Send.mk e23_10.f0 (IntKind.wrap .i64 (v1_2 + (1 : Int))) e23_10.f2 e23_10.f3 e23_10.f4 e23_10.f5 e23_10.f6 e23_10.f7)) v5_3).bind fun e32_12 => (ix (((v0_1.set (Int.toNat v5_3) (S_impl_Send.mk v1_2 e15_9.f1 e15_9.f2 e15_9.f3 e15_9.f4 e15_9.f5 e15_9.f6 e15_9.f7)).set (Int.toNat v5_3) (S_impl_Send.mk e23_10.f0 (IntKind.wrap .i64 (v1_2 + (1 : Int))) e23_10.f2 e23_10.f3 e23_10.f4 e23_10.f5 e23_10.f6 e23_10.f7)).set (Int.toNat v5_3) (S_impl_Send.mk e32_12.f0 e32_12.f1 c31_11 e32_12.f3 e32_12.f4 e32_12.f5 e32_12.f6 e32_12.f7)) v5_3).bind fun e39_13 => (p_laws_markTermS n e39_13.f3 (IntKind.wrap .i64 ((IntKind.wrap .i64 ((IntKind.wrap .i64 (v1_2 + (1 : Int))) + (1 : Int))) + (1 : Int)))).bind fun c44_14 => (ix ((((v0_1.set (Int.toNat v5_3) (S_impl_Send.mk v1_2 e15_9.f1 e15_9.f2 e15_9.f3 e15_9.f4 e15_9.f5 e15_9.f6 e15_9.f7)).set (Int.toNat v5_3) (S_impl_Send.mk e23_10.f0 (IntKind.wrap .i64 (v1_2 + (1 : Int))) e23_10.f2 e23_10.f3 e23_10.f4 e23_10.f5 e23_10.f6 e23_10.f7)).set (Int.toNat v5_3) (S_impl_Send.mk e32_12.f0 e32_12.f1 c31_11 e32_12.f3 e32_12.f4 e32_12.f5 e32_12.f6 e32_12.f7)).set (Int.toNat v5_3) (S_impl_Send.mk e39_13.f0 e39_13.f1 e39_13.f2 c44_14.2 e39_13.f4 e39_13.f5 e39_13.f6 e39_13.f7)) v5_3).bind fun e48_15 => (ix (((((v0_1.set (Int.toNat v5_3) (S_impl_Send.mk v1_2 e15_9.f1 e15_9.f2 e15_9.f3 e15_9.f4 e15_9.f5 e15_9.f6 e15_9.f7)).set (Int.toNat v5_3) (S_impl_Send.mk e23_10.f0 (IntKind.wrap .i64 (v1_2 + (1 : Int))) e23_10.f2 e23_10.f3 e23_10.f4 e23_10.f5 e23_10.f6 e23_10.f7)).set (Int.toNat v5_3) (S_impl_Send.mk e32_12.f0 e32_12.f1 c31_11 e32_12.f3 e32_12.f4 e32_12.f5 e32_12.f6 e32_12.f7)).set (Int.toNat v5_3) (S_impl_Send.mk e39_13.f0 e39_13.f1 e39_13.f2 c44_14.2 e39_13.f4 e39_13.f5 e39_13.f6 e39_13.f7)).set (Int.toNat v5_3) (S_impl_Send.mk e48_15.f0 e48_15.f1 e48_15.f2 e48_15.f3 c44_14.1 e48_15.f5 e48_15.f6 e48_15.f7)) v5_3).bind fun e56_16 => (p_laws_markText n (IntKind.wrap .i64 ((IntKind.wrap .i64 (c44_14.1 + (1 : Int))) + (1 : Int)))).bind fun c64_17 => (ix ((((((v0_1.set (Int.toNat v5_3) (S_impl_Send.mk v1_2 e15_9.f1 e15_9.f2 e15_9.f3 e15_9.f4 e15_9.f5 e15_9.f6 e15_9.f7)).set (Int.toNat v5_3) (S_impl_Send.mk e23_10.f0 (IntKind.wrap .i64 (v1_2 + (1 : Int))) e23_10.f2 e23_10.f3 e23_10.f4 e23_10.f5 e23_10.f6 e23_10.f7)).set (Int.toNat v5_3) (S_impl_Send.mk e32_12.f0 e32_12.f1 c31_11 e32_12.f3 e32_12.f4 e32_12.f5 e32_12.f6 e32_12.f7)).set (Int.toNat v5_3) (S_impl_Send.mk e39_13.f0 e39_13.f1 e39_13.f2 c44_14.2 e39_13.f4 e39_13.f5 e39_13.f6 e39_13.f7)).set (Int.toNat v5_3) (S_impl_Send.mk e48_15.f0 e48_15.f1 e48_15.f2 e48_15.f3 c44_14.1 e48_15.f5 e48_15.f6 e48_15.f7)).set (Int.toNat v5_3) (S_impl_Send.mk e56_16.f0 e56_16.f1 e56_16.f2 e56_16.f3 e56_16.f4 (IntKind.wrap .i64 (c44_14.1 + (1 : Int))) e56_16.f6 e56_16.f7)) v5_3).bind fun e65_18 => (ix (((((((v0_1.set (Int.toNat v5_3) (S_impl_Send.mk v1_2 e15_9.f1 e15_9.f2 e15_9.f3 e15_9.f4 e15_9.f5 e15_9.f6 e15_9.f7)).set (Int.toNat v5_3) (S_impl_Send.mk e23_10.f0 (IntKind.wrap .i64 (v1_2 + (1 : Int))) e23_10.f2 e23_10.f3 e23_10.f4 e23_10.f5 e23_10.f6 e23_10.f7)).set (Int.toNat v5_3) (S_impl_Send.mk e32_12.f0 e32_12.f1 c31_11 e32_12.f3 e32_12.f4 e32_12.f5 e32_12.f6 e32_12.f7)).set (Int.toNat v5_3) (S_impl_Send.mk e39_13.f0 e39_13.f1 e39_13.f2 c44_14.2 e39_13.f4 e39_13.f5 e39_13.f6 e39_13.f7)).set (Int.toNat v5_3) (S_impl_Send.mk e48_15.f0 e48_15.f1 e48_15.f2 e48_15.f3 c44_14.1 e48_15.f5 e48_15.f6 e48_15.f7)).set (Int.toNat v5_3) (S_impl_Send.mk e56_16.f0 e56_16.f1 e56_16.f2 e56_16.f3 e56_16.f4 (IntKind.wrap .i64 (c44_14.1 + (1 : Int))) e56_16.f6 e56_16.f7)).set (Int.toNat v5_3) (S_impl_Send.mk e65_18.f0 e65_18.f1 e65_18.f2 e65_18.f3 e65_18.f4 e65_18.f5 c64_17 e65_18.f7)) v5_3).bind fun e72_19 => (p_laws_markTermS n e72_19.f7 (IntKind.wrap .i64 ((IntKind.wrap .i64 ((IntKind.wrap .i64 (c44_14.1 + (1 : Int))) + (1 : Int))) + (1 : Int)))).bind fun c77_20 => some (.inl (((((((((v0_1.set (Int.toNat v5_3) (S_impl_Send.mk v1_2 e15_9.f1 e15_9.f2 e15_9.f3 e15_9.f4 e15_9.f5 e15_9.f6 e15_9.f7)).set (Int.toNat v5_3) (S_impl_Send.mk e23_10.f0 (IntKind.wrap .i64 (v1_2 + (1 : Int))) e23_10.f2 e23_10.f3 e23_10.f4 e23_10.f5 e23_10.f6 e23_10.f7)).set (Int.toNat v5_3) (S_impl_Send.mk e32_12.f0 e32_12.f1 c31_11 e32_12.f3 e32_12.f4 e32_12.f5 e32_12.f6 e32_12.f7)).set (Int.toNat v5_3) (S_impl_Send.mk e39_13.f0 e39_13.f1 e39_13.f2 c44_14.2 e39_13.f4 e39_13.f5 e39_13.f6 e39_13.f7)).set (Int.toNat v5_3) (S_impl_Send.mk e48_15.f0 e48_15.f1 e48_15.f2 e48_15.f3 c44_14.1 e48_15.f5 e48_15.f6 e48_15.f7)).set (Int.toNat v5_3) (S_impl_Send.mk e56_16.f0 e56_16.f1 e56_16.f2 e56_16.f3 e56_16.f4 (IntKind.wrap .i64 (c44_14.1 + (1 : Int))) e56_16.f6 e56_16.f7)).set (Int.toNat v5_3) (S_impl_Send.mk e65_18.f0 e65_18.f1 e65_18.f2 e65_18.f3 e65_18.f4 e65_18.f5 c64_17 e65_18.f7)).set (Int.toNat v5_3) (S_impl_Send.mk e72_19.f0 e72_19.f1 e72_19.f2 e72_19.f3 e72_19.f4 e72_19.f5 e72_19.f6 c77_20.2)), c77_20.1, (IntKind.wrap .i64 (v5_3 + (1 : Int))))) else some (.inr (v0_1, v1_2, v5_3, false))
def p_laws_markSendS (n : Nat) (t0_0 : List S_impl_Send) (t1_0 : Int) : Option (Int × (List S_impl_Send)) :=
  (loopN (p_laws_markSendS_b1 n) n (t0_0, t1_0, (0 : Int))).bind fun (v0_4, v1_5, v5_6, v9_7) => some (v1_5, v0_4)
theorem big_laws_markSendS {n : Nat} : B_laws_markSendS (p_laws_markSendS n) := by
 intro t0_0 t1_0 r h
 unfold p_laws_markSendS at h
 refine bFi Try.func34 rfl rfl ?_
 refine cRs ?_
 refine xAs rfl ?_
 refine oNl ?_
 refine cSq ?_
 refine cRs ?_
 refine xAs rfl ?_
 refine oNl ?_
 refine cLp h [(0, 1), (5, 77)] [] (fun (v0_1, v1_2, v5_3) => ([(0, Li rS_impl_Send v0_1), (1, I64 v1_2), (5, I64 v5_3)], [])) (fun (v0_4, v1_5, v5_6, v9_7) => (.e 0, [(0, Li rS_impl_Send v0_4), (1, I64 v1_5), (5, I64 v5_6), (9, Bo v9_7)], [])) rfl (fun st _ h => ?_) (fun q h => ?_)
 obtain ⟨v0_1, v1_2, v5_3⟩ := st
 unfold p_laws_markSendS_b1 at h
 refine cSq ?_
 refine cRs ?_
 refine xMv rfl ?_
 refine xMv rfl ?_
 refine xLn rfl ?_
 refine xLt rfl ?_
 refine oNl ?_
 refine cIf h rfl (fun q8 h => ?_) (fun q8 h => ?_)
 refine cSk ?_
 refine cSq ?_
 refine cBk ?_
 refine cRs ?_
 refine wAl rfl rfl rfl rfl ?_
 refine xMv rfl ?_
 refine xMv rfl ?_
 refine wIp (f := rS_impl_Send) h rfl rfl rfl rfl rfl rfl (fun _ => rfl) rfl (fun e15_9 ke15_9 h => ?_)
 refine xFd rfl ?_
 refine xFd rfl ?_
 refine wSp (f := rS_impl_Send) (v' := S_impl_Send.mk v1_2 e15_9.f1 e15_9.f2 e15_9.f3 e15_9.f4 e15_9.f5 e15_9.f6 e15_9.f7) ke15_9 rfl rfl rfl rfl rfl rfl rfl rfl rfl ?_
 refine oRs ?_
 refine xMv rfl ?_
 refine xAdd rfl ?_
 refine xAs rfl ?_
 refine oRs ?_
 refine wAl rfl rfl rfl rfl ?_
 refine xMv rfl ?_
 refine xMv rfl ?_
 refine wIp (f := rS_impl_Send) h rfl rfl rfl rfl rfl rfl (fun _ => rfl) rfl (fun e23_10 ke23_10 h => ?_)
 refine xFd rfl ?_
 refine xFd rfl ?_
 refine wSp (f := rS_impl_Send) (v' := S_impl_Send.mk e23_10.f0 (IntKind.wrap .i64 (v1_2 + (1 : Int))) e23_10.f2 e23_10.f3 e23_10.f4 e23_10.f5 e23_10.f6 e23_10.f7) ke23_10 rfl rfl rfl rfl rfl rfl rfl rfl rfl ?_
 refine oRs ?_
 refine xMv rfl ?_
 refine xAdd rfl ?_
 refine xAs rfl ?_
 refine oRs ?_
 refine wAl rfl rfl rfl rfl ?_
 refine xMv rfl ?_
 refine xMv rfl ?_
 refine xC0 h (big_laws_markText ·) rfl (fun c31_11 h => ?_)
 refine wIp (f := rS_impl_Send) h rfl rfl rfl rfl rfl rfl (fun _ => rfl) rfl (fun e32_12 ke32_12 h => ?_)
 refine xFd rfl ?_
 refine xFd rfl ?_
 refine wSp (f := rS_impl_Send) (v' := S_impl_Send.mk e32_12.f0 e32_12.f1 c31_11 e32_12.f3 e32_12.f4 e32_12.f5 e32_12.f6 e32_12.f7) ke32_12 rfl rfl rfl rfl rfl rfl rfl rfl rfl ?_
 refine oRs ?_
 refine xMv rfl ?_
 refine xAdd rfl ?_
 refine xAs rfl ?_
 refine oRs ?_
 refine wAl rfl rfl rfl rfl ?_
 refine xMv rfl ?_
 refine wIp (f := rS_impl_Send) h rfl rfl rfl rfl rfl rfl (fun _ => rfl) rfl (fun e39_13 ke39_13 h => ?_)
 refine xFd rfl ?_
 refine xFd rfl ?_
 refine wLq (f := rS_impl_Send) ke39_13 rfl rfl rfl rfl rfl rfl rfl rfl rfl rfl ?_
 refine xMv rfl ?_
 refine xIo (fun c44_14 => .sl (((((v0_1.set (Int.toNat v5_3) (S_impl_Send.mk v1_2 e15_9.f1 e15_9.f2 e15_9.f3 e15_9.f4 e15_9.f5 e15_9.f6 e15_9.f7)).set (Int.toNat v5_3) (S_impl_Send.mk e23_10.f0 (IntKind.wrap .i64 (v1_2 + (1 : Int))) e23_10.f2 e23_10.f3 e23_10.f4 e23_10.f5 e23_10.f6 e23_10.f7)).set (Int.toNat v5_3) (S_impl_Send.mk e32_12.f0 e32_12.f1 c31_11 e32_12.f3 e32_12.f4 e32_12.f5 e32_12.f6 e32_12.f7)).set (Int.toNat v5_3) (S_impl_Send.mk e39_13.f0 e39_13.f1 e39_13.f2 c44_14.2 e39_13.f4 e39_13.f5 e39_13.f6 e39_13.f7)).map rS_impl_Send)) h (big_laws_markTermS ·) rfl (nav1 ke39_13 rfl) (fun _ => setAt1 ke39_13 rfl rfl) (fun c44_14 h => ?_)
 refine xAs rfl ?_
 refine oRs ?_
 refine wAl rfl rfl rfl rfl ?_
 refine xMv rfl ?_
 refine xMv rfl ?_
 refine wIp (f := rS_impl_Send) h rfl rfl rfl rfl rfl rfl (fun _ => rfl) rfl (fun e48_15 ke48_15 h => ?_)
 refine xFd rfl ?_
 refine xFd rfl ?_
 refine wSp (f := rS_impl_Send) (v' := S_impl_Send.mk e48_15.f0 e48_15.f1 e48_15.f2 e48_15.f3 c44_14.1 e48_15.f5 e48_15.f6 e48_15.f7) ke48_15 rfl rfl rfl rfl rfl rfl rfl rfl rfl ?_
 refine oRs ?_
 refine xMv rfl ?_
 refine xAdd rfl ?_
 refine xAs rfl ?_
 refine oRs ?_
 refine wAl rfl rfl rfl rfl ?_
 refine xMv rfl ?_
 refine xMv rfl ?_
 refine wIp (f := rS_impl_Send) h rfl rfl rfl rfl rfl rfl (fun _ => rfl) rfl (fun e56_16 ke56_16 h => ?_)
 refine xFd rfl ?_
 refine xFd rfl ?_
 refine wSp (f := rS_impl_Send) (v' := S_impl_Send.mk e56_16.f0 e56_16.f1 e56_16.f2 e56_16.f3 e56_16.f4 (IntKind.wrap .i64 (c44_14.1 + (1 : Int))) e56_16.f6 e56_16.f7) ke56_16 rfl rfl rfl rfl rfl rfl rfl rfl rfl ?_
 refine oRs ?_
 refine xMv rfl ?_
 refine xAdd rfl ?_
 refine xAs rfl ?_
 refine oRs ?_
 refine wAl rfl rfl rfl rfl ?_
 refine xMv rfl ?_
 refine xMv rfl ?_
 refine xC0 h (big_laws_markText ·) rfl (fun c64_17 h => ?_)
 refine wIp (f := rS_impl_Send) h rfl rfl rfl rfl rfl rfl (fun _ => rfl) rfl (fun e65_18 ke65_18 h => ?_)
 refine xFd rfl ?_
 refine xFd rfl ?_
 refine wSp (f := rS_impl_Send) (v' := S_impl_Send.mk e65_18.f0 e65_18.f1 e65_18.f2 e65_18.f3 e65_18.f4 e65_18.f5 c64_17 e65_18.f7) ke65_18 rfl rfl rfl rfl rfl rfl rfl rfl rfl ?_
 refine oRs ?_
 refine xMv rfl ?_
 refine xAdd rfl ?_
 refine xAs rfl ?_
 refine oNl ?_
 refine cRg ?_
 refine wAl rfl rfl rfl rfl ?_
 refine xMv rfl ?_
 refine wIp (f := rS_impl_Send) h rfl rfl rfl rfl rfl rfl (fun _ => rfl) rfl (fun e72_19 ke72_19 h => ?_)
 refine xFd rfl ?_
 refine xFd rfl ?_
 refine wLq (f := rS_impl_Send) ke72_19 rfl rfl rfl rfl rfl rfl rfl rfl rfl rfl ?_
 refine xMv rfl ?_
 refine xIo (fun c77_20 => .sl (((((((((v0_1.set (Int.toNat v5_3) (S_impl_Send.mk v1_2 e15_9.f1 e15_9.f2 e15_9.f3 e15_9.f4 e15_9.f5 e15_9.f6 e15_9.f7)).set (Int.toNat v5_3) (S_impl_Send.mk e23_10.f0 (IntKind.wrap .i64 (v1_2 + (1 : Int))) e23_10.f2 e23_10.f3 e23_10.f4 e23_10.f5 e23_10.f6 e23_10.f7)).set (Int.toNat v5_3) (S_impl_Send.mk e32_12.f0 e32_12.f1 c31_11 e32_12.f3 e32_12.f4 e32_12.f5 e32_12.f6 e32_12.f7)).set (Int.toNat v5_3) (S_impl_Send.mk e39_13.f0 e39_13.f1 e39_13.f2 c44_14.2 e39_13.f4 e39_13.f5 e39_13.f6 e39_13.f7)).set (Int.toNat v5_3) (S_impl_Send.mk e48_15.f0 e48_15.f1 e48_15.f2 e48_15.f3 c44_14.1 e48_15.f5 e48_15.f6 e48_15.f7)).set (Int.toNat v5_3) (S_impl_Send.mk e56_16.f0 e56_16.f1 e56_16.f2 e56_16.f3 e56_16.f4 (IntKind.wrap .i64 (c44_14.1 + (1 : Int))) e56_16.f6 e56_16.f7)).set (Int.toNat v5_3) (S_impl_Send.mk e65_18.f0 e65_18.f1 e65_18.f2 e65_18.f3 e65_18.f4 e65_18.f5 c64_17 e65_18.f7)).set (Int.toNat v5_3) (S_impl_Send.mk e72_19.f0 e72_19.f1 e72_19.f2 e72_19.f3 e72_19.f4 e72_19.f5 e72_19.f6 c77_20.2)).map rS_impl_Send)) h (big_laws_markTermS ·) rfl (nav1 ke72_19 rfl) (fun _ => setAt1 ke72_19 rfl rfl) (fun c77_20 h => ?_)
 refine xAs rfl ?_
 refine oNl ?_
 refine cRg ?_
 refine xMv rfl ?_
 refine xAdd rfl ?_
 refine xAs rfl ?_
 refine oNl ?_
 exact eL h rfl
 refine cEx ?_
 exact eX h rfl
 obtain ⟨v0_4, v1_5, v5_6, v9_7⟩ := q
 refine cRs ?_
 refine xMv rfl ?_
 refine xAs rfl ?_
 refine oNl ?_
 refine cRt ?_
 cases h
 exact eRi rfl rfl rfl rfl rfl
abbrev B_laws_heldTermS (p : (List S_impl_Term) → Int → Option (Int)) : Prop := ∀ {t0_0 : List S_impl_Term} {t1_0 : Int} {r : Int}, p t0_0 t1_0 = some r → Big Try.prog τ An (.fn 79 [.one (.c (.sl (t0_0.map rS_impl_Term))), .one (.c (.int .i64 t1_0))] [] (.one (.c (.int .i64 r))) none [] none)
def p_laws_heldTermS_b1 (n : Nat) (r_laws_heldTermS : (List S_impl_Term) → Int → Option (Int)) (t0_0 : List S_impl_Term) : (Int × Int) → Option ((Int × Int) ⊕ ((Int) ⊕ (Int × Int × Bool)))
  | (v1_1, v5_2) => bif decide (v5_2 < (t0_0.length : Int)) then (ix t0_0 v5_2).bind fun e14_8 => bif !decide (e14_8.f0 = v1_1) then some (.inr (.inl ((-1) : Int))) else (ix t0_0 v5_2).bind fun e23_10 => bif !decide (e23_10.f1 = (IntKind.wrap .i64 (v1_1 + (1 : Int)))) then some (.inr (.inl ((-1) : Int))) else (ix t0_0 v5_2).bind fun e32_12 => (p_laws_markText n (IntKind.wrap .i64 ((IntKind.wrap .i64 (v1_1 + (1 : Int))) + (1 : Int)))).bind fun c36_13 => bif !decide (e32_12.f2 = c36_13) then some (.inr (.inl ((-1) : Int))) else (ix t0_0 v5_2).bind fun e42_15 => (r_laws_heldTermS e42_15.f3 (IntKind.wrap .i64 ((IntKind.wrap .i64 ((IntKind.wrap .i64 (v1_1 + (1 : Int))) + (1 : Int))) + (1 : Int)))).bind fun c46_16 => bif decide (c46_16 < (0 : Int)) then some (.inr (.inl ((-1) : Int))) else some (.inl (c46_16, (IntKind.wrap .i64 (v5_2 + (1 : Int))))) else some (.inr (.inr (v1_1, v5_2, false)))
def s_laws_heldTermS (n : Nat) (r_laws_heldTermS : (List S_impl_Term) → Int → Option (Int)) (t0_0 : List S_impl_Term) (t1_0 : Int) : Option (Int) :=
  (loopN (p_laws_heldTermS_b1 n r_laws_heldTermS t0_0) n (t1_0, (0 : Int))).bind fun q => (match q with | .inl v4_3 => some v4_3 | .inr (v1_4, v5_5, v9_6) => some v1_4)
theorem step_laws_heldTermS {n : Nat} {r_laws_heldTermS : (List S_impl_Term) → Int → Option (Int)} (ih_laws_heldTermS : B_laws_heldTermS r_laws_heldTermS) : B_laws_heldTermS (s_laws_heldTermS n r_laws_heldTermS) := by
 intro t0_0 t1_0 r h
 unfold s_laws_heldTermS at h
 refine bF Try.func79 rfl rfl ?_
 refine cRs ?_
 refine xAs rfl ?_
 refine oNl ?_
 refine cSq ?_
 refine cRs ?_
 refine xAs rfl ?_
 refine oNl ?_
 refine cLp h [(1, 1), (4, 48)] [] (fun (v1_1, v5_2) => ([(1, I64 v1_1), (5, I64 v5_2)], [])) (fun q => match q with | .inl v4_3 => (.r, [(4, I64 v4_3)], []) | .inr (v1_4, v5_5, v9_6) => (.e 0, [(1, I64 v1_4), (5, I64 v5_5), (9, Bo v9_6)], [])) rfl (fun st _ h => ?_) (fun q h => ?_)
 obtain ⟨v1_1, v5_2⟩ := st
 unfold p_laws_heldTermS_b1 at h
 refine cSq ?_
 refine cRs ?_
 refine xMv rfl ?_
 refine xMv rfl ?_
 refine xLn rfl ?_
 refine xLt rfl ?_
 refine oNl ?_
 refine cIf h rfl (fun q7 h => ?_) (fun q7 h => ?_)
 refine cSk ?_
 refine cSq ?_
 refine cBk ?_
 refine cSq ?_
 refine cRs ?_
 refine xMv rfl ?_
 refine xMv rfl ?_
 refine xIx h rS_impl_Term_eq rfl (fun e14_8 h => ?_)
 refine xFd rfl ?_
 refine xLd rfl ?_
 refine xMv rfl ?_
 refine xNe rfl ?_
 refine oNl ?_
 refine cIf h rfl (fun q9 h => ?_) (fun q9 h => ?_)
 refine cRs ?_
 refine xAs rfl ?_
 refine oNl ?_
 refine cRt ?_
 exact eXr h rfl
 refine cSk ?_
 refine cRs ?_
 refine xMv rfl ?_
 refine xAdd rfl ?_
 refine xAs rfl ?_
 refine oNl ?_
 refine cSq ?_
 refine cRs ?_
 refine xMv rfl ?_
 refine xMv rfl ?_
 refine xIx h rS_impl_Term_eq rfl (fun e23_10 h => ?_)
 refine xFd rfl ?_
 refine xLd rfl ?_
 refine xMv rfl ?_
 refine xNe rfl ?_
 refine oNl ?_
 refine cIf h rfl (fun q11 h => ?_) (fun q11 h => ?_)
 refine cRs ?_
 refine xAs rfl ?_
 refine oNl ?_
 refine cRt ?_
 exact eXr h rfl
 refine cSk ?_
 refine cRs ?_
 refine xMv rfl ?_
 refine xAdd rfl ?_
 refine xAs rfl ?_
 refine oNl ?_
 refine cSq ?_
 refine cRs ?_
 refine xMv rfl ?_
 refine xMv rfl ?_
 refine xIx h rS_impl_Term_eq rfl (fun e32_12 h => ?_)
 refine xFd rfl ?_
 refine xLd rfl ?_
 refine xMv rfl ?_
 refine xC0 h (big_laws_markText ·) rfl (fun c36_13 h => ?_)
 refine xNs rfl ?_
 refine oNl ?_
 refine cIf h rfl (fun q14 h => ?_) (fun q14 h => ?_)
 refine cRs ?_
 refine xAs rfl ?_
 refine oNl ?_
 refine cRt ?_
 exact eXr h rfl
 refine cSk ?_
 refine cRs ?_
 refine xMv rfl ?_
 refine xAdd rfl ?_
 refine xAs rfl ?_
 refine oRs ?_
 refine xMv rfl ?_
 refine xMv rfl ?_
 refine xIx h rS_impl_Term_eq rfl (fun e42_15 h => ?_)
 refine xFd rfl ?_
 refine xLd rfl ?_
 refine xMv rfl ?_
 refine xC0 h (ih_laws_heldTermS ·) rfl (fun c46_16 h => ?_)
 refine xAs rfl ?_
 refine oRs ?_
 refine xMv rfl ?_
 refine xLt rfl ?_
 refine oNl ?_
 refine cIf h rfl (fun q17 h => ?_) (fun q17 h => ?_)
 refine cRs ?_
 refine xAs rfl ?_
 refine oNl ?_
 refine cRt ?_
 exact eXr h rfl
 refine cSk ?_
 refine cRg ?_
 refine xMv rfl ?_
 refine xAdd rfl ?_
 refine xAs rfl ?_
 refine oNl ?_
 exact eL h rfl
 refine cEx ?_
 exact eX h rfl
 rcases q with v4_3 | ⟨v1_4, v5_5, v9_6⟩
 cases h
 exact eR rfl rfl rfl rfl
 refine cRs ?_
 refine xMv rfl ?_
 refine xAs rfl ?_
 refine oNl ?_
 refine cRt ?_
 cases h
 exact eR rfl rfl rfl rfl
def q_laws_heldTermS : Nat → ((List S_impl_Term) → Int → Option (Int))
  | 0 => (fun _ _ => none)
  | n + 1 => s_laws_heldTermS n (q_laws_heldTermS n)
def p_laws_heldTermS (n : Nat) : (List S_impl_Term) → Int → Option (Int) := q_laws_heldTermS n
theorem bigs_laws_heldTermS (n : Nat) : B_laws_heldTermS (p_laws_heldTermS n) := by
  induction n with
  | zero => exact (fun h => nomatch h)
  | succ n ih => exact step_laws_heldTermS (n := n) ih
theorem big_laws_heldTermS {n : Nat} : B_laws_heldTermS (p_laws_heldTermS n) := (bigs_laws_heldTermS n)
theorem p_laws_heldTermS_succ (n : Nat) : p_laws_heldTermS (n + 1) = s_laws_heldTermS n (p_laws_heldTermS n) := rfl
abbrev B_laws_heldSendS (p : (List S_impl_Send) → Int → Option (Int)) : Prop := ∀ {t0_0 : List S_impl_Send} {t1_0 : Int} {r : Int}, p t0_0 t1_0 = some r → Big Try.prog τ An (.fn 35 [.one (.c (.sl (t0_0.map rS_impl_Send))), .one (.c (.int .i64 t1_0))] [] (.one (.c (.int .i64 r))) none [] none)
def p_laws_heldSendS_b1 (n : Nat) (t0_0 : List S_impl_Send) : (Int × Int) → Option ((Int × Int) ⊕ ((Int) ⊕ (Int × Int × Bool)))
  | (v1_1, v5_2) => bif decide (v5_2 < (t0_0.length : Int)) then (ix t0_0 v5_2).bind fun e14_8 => bif !decide (e14_8.f0 = v1_1) then some (.inr (.inl ((-1) : Int))) else (ix t0_0 v5_2).bind fun e24_10 => bif !decide (e24_10.f1 = (IntKind.wrap .i64 (v1_1 + (1 : Int)))) then some (.inr (.inl ((-1) : Int))) else (ix t0_0 v5_2).bind fun e34_12 => (p_laws_markText n (IntKind.wrap .i64 ((IntKind.wrap .i64 (v1_1 + (1 : Int))) + (1 : Int)))).bind fun c39_13 => bif !decide (e34_12.f2 = c39_13) then some (.inr (.inl ((-1) : Int))) else (ix t0_0 v5_2).bind fun e45_15 => (p_laws_heldTermS n e45_15.f3 (IntKind.wrap .i64 ((IntKind.wrap .i64 ((IntKind.wrap .i64 (v1_1 + (1 : Int))) + (1 : Int))) + (1 : Int)))).bind fun c50_16 => bif decide (c50_16 < (0 : Int)) then some (.inr (.inl ((-1) : Int))) else (ix t0_0 v5_2).bind fun e55_18 => bif !decide (e55_18.f4 = c50_16) then some (.inr (.inl ((-1) : Int))) else (ix t0_0 v5_2).bind fun e65_20 => bif !decide (e65_20.f5 = (IntKind.wrap .i64 (c50_16 + (1 : Int)))) then some (.inr (.inl ((-1) : Int))) else (ix t0_0 v5_2).bind fun e75_22 => (p_laws_markText n (IntKind.wrap .i64 ((IntKind.wrap .i64 (c50_16 + (1 : Int))) + (1 : Int)))).bind fun c80_23 => bif !decide (e75_22.f6 = c80_23) then some (.inr (.inl ((-1) : Int))) else (ix t0_0 v5_2).bind fun e86_25 => (p_laws_heldTermS n e86_25.f7 (IntKind.wrap .i64 ((IntKind.wrap .i64 ((IntKind.wrap .i64 (c50_16 + (1 : Int))) + (1 : Int))) + (1 : Int)))).bind fun c91_26 => bif decide (c91_26 < (0 : Int)) then some (.inr (.inl ((-1) : Int))) else some (.inl (c91_26, (IntKind.wrap .i64 (v5_2 + (1 : Int))))) else some (.inr (.inr (v1_1, v5_2, false)))
def p_laws_heldSendS (n : Nat) (t0_0 : List S_impl_Send) (t1_0 : Int) : Option (Int) :=
  (loopN (p_laws_heldSendS_b1 n t0_0) n (t1_0, (0 : Int))).bind fun q => (match q with | .inl v4_3 => some v4_3 | .inr (v1_4, v5_5, v9_6) => some v1_4)
theorem big_laws_heldSendS {n : Nat} : B_laws_heldSendS (p_laws_heldSendS n) := by
 intro t0_0 t1_0 r h
 unfold p_laws_heldSendS at h
 refine bF Try.func35 rfl rfl ?_
 refine cRs ?_
 refine xAs rfl ?_
 refine oNl ?_
 refine cSq ?_
 refine cRs ?_
 refine xAs rfl ?_
 refine oNl ?_
 refine cLp h [(1, 1), (4, 93)] [] (fun (v1_1, v5_2) => ([(1, I64 v1_1), (5, I64 v5_2)], [])) (fun q => match q with | .inl v4_3 => (.r, [(4, I64 v4_3)], []) | .inr (v1_4, v5_5, v9_6) => (.e 0, [(1, I64 v1_4), (5, I64 v5_5), (9, Bo v9_6)], [])) rfl (fun st _ h => ?_) (fun q h => ?_)
 obtain ⟨v1_1, v5_2⟩ := st
 unfold p_laws_heldSendS_b1 at h
 refine cSq ?_
 refine cRs ?_
 refine xMv rfl ?_
 refine xMv rfl ?_
 refine xLn rfl ?_
 refine xLt rfl ?_
 refine oNl ?_
 refine cIf h rfl (fun q7 h => ?_) (fun q7 h => ?_)
 refine cSk ?_
 refine cSq ?_
 refine cBk ?_
 refine cSq ?_
 refine cRs ?_
 refine xMv rfl ?_
 refine xMv rfl ?_
 refine xIx h rS_impl_Send_eq rfl (fun e14_8 h => ?_)
 refine xFd rfl ?_
 refine xFd rfl ?_
 refine xLd rfl ?_
 refine xMv rfl ?_
 refine xNe rfl ?_
 refine oNl ?_
 refine cIf h rfl (fun q9 h => ?_) (fun q9 h => ?_)
 refine cRs ?_
 refine xAs rfl ?_
 refine oNl ?_
 refine cRt ?_
 exact eXr h rfl
 refine cSk ?_
 refine cRs ?_
 refine xMv rfl ?_
 refine xAdd rfl ?_
 refine xAs rfl ?_
 refine oNl ?_
 refine cSq ?_
 refine cRs ?_
 refine xMv rfl ?_
 refine xMv rfl ?_
 refine xIx h rS_impl_Send_eq rfl (fun e24_10 h => ?_)
 refine xFd rfl ?_
 refine xFd rfl ?_
 refine xLd rfl ?_
 refine xMv rfl ?_
 refine xNe rfl ?_
 refine oNl ?_
 refine cIf h rfl (fun q11 h => ?_) (fun q11 h => ?_)
 refine cRs ?_
 refine xAs rfl ?_
 refine oNl ?_
 refine cRt ?_
 exact eXr h rfl
 refine cSk ?_
 refine cRs ?_
 refine xMv rfl ?_
 refine xAdd rfl ?_
 refine xAs rfl ?_
 refine oNl ?_
 refine cSq ?_
 refine cRs ?_
 refine xMv rfl ?_
 refine xMv rfl ?_
 refine xIx h rS_impl_Send_eq rfl (fun e34_12 h => ?_)
 refine xFd rfl ?_
 refine xFd rfl ?_
 refine xLd rfl ?_
 refine xMv rfl ?_
 refine xC0 h (big_laws_markText ·) rfl (fun c39_13 h => ?_)
 refine xNs rfl ?_
 refine oNl ?_
 refine cIf h rfl (fun q14 h => ?_) (fun q14 h => ?_)
 refine cRs ?_
 refine xAs rfl ?_
 refine oNl ?_
 refine cRt ?_
 exact eXr h rfl
 refine cSk ?_
 refine cRs ?_
 refine xMv rfl ?_
 refine xAdd rfl ?_
 refine xAs rfl ?_
 refine oRs ?_
 refine xMv rfl ?_
 refine xMv rfl ?_
 refine xIx h rS_impl_Send_eq rfl (fun e45_15 h => ?_)
 refine xFd rfl ?_
 refine xFd rfl ?_
 refine xLd rfl ?_
 refine xMv rfl ?_
 refine xC0 h (big_laws_heldTermS ·) rfl (fun c50_16 h => ?_)
 refine xAs rfl ?_
 refine oNl ?_
 refine cSq ?_
 refine cRs ?_
 refine xMv rfl ?_
 refine xLt rfl ?_
 refine oNl ?_
 refine cIf h rfl (fun q17 h => ?_) (fun q17 h => ?_)
 refine cRs ?_
 refine xAs rfl ?_
 refine oNl ?_
 refine cRt ?_
 exact eXr h rfl
 refine cSk ?_
 refine cSq ?_
 refine cRs ?_
 refine xMv rfl ?_
 refine xMv rfl ?_
 refine xIx h rS_impl_Send_eq rfl (fun e55_18 h => ?_)
 refine xFd rfl ?_
 refine xFd rfl ?_
 refine xLd rfl ?_
 refine xMv rfl ?_
 refine xNe rfl ?_
 refine oNl ?_
 refine cIf h rfl (fun q19 h => ?_) (fun q19 h => ?_)
 refine cRs ?_
 refine xAs rfl ?_
 refine oNl ?_
 refine cRt ?_
 exact eXr h rfl
 refine cSk ?_
 refine cRs ?_
 refine xMv rfl ?_
 refine xAdd rfl ?_
 refine xAs rfl ?_
 refine oNl ?_
 refine cSq ?_
 refine cRs ?_
 refine xMv rfl ?_
 refine xMv rfl ?_
 refine xIx h rS_impl_Send_eq rfl (fun e65_20 h => ?_)
 refine xFd rfl ?_
 refine xFd rfl ?_
 refine xLd rfl ?_
 refine xMv rfl ?_
 refine xNe rfl ?_
 refine oNl ?_
 refine cIf h rfl (fun q21 h => ?_) (fun q21 h => ?_)
 refine cRs ?_
 refine xAs rfl ?_
 refine oNl ?_
 refine cRt ?_
 exact eXr h rfl
 refine cSk ?_
 refine cRs ?_
 refine xMv rfl ?_
 refine xAdd rfl ?_
 refine xAs rfl ?_
 refine oNl ?_
 refine cSq ?_
 refine cRs ?_
 refine xMv rfl ?_
 refine xMv rfl ?_
 refine xIx h rS_impl_Send_eq rfl (fun e75_22 h => ?_)
 refine xFd rfl ?_
 refine xFd rfl ?_
 refine xLd rfl ?_
 refine xMv rfl ?_
 refine xC0 h (big_laws_markText ·) rfl (fun c80_23 h => ?_)
 refine xNs rfl ?_
 refine oNl ?_
 refine cIf h rfl (fun q24 h => ?_) (fun q24 h => ?_)
 refine cRs ?_
 refine xAs rfl ?_
 refine oNl ?_
 refine cRt ?_
 exact eXr h rfl
 refine cSk ?_
 refine cRs ?_
 refine xMv rfl ?_
 refine xAdd rfl ?_
 refine xAs rfl ?_
 refine oRs ?_
 refine xMv rfl ?_
 refine xMv rfl ?_
 refine xIx h rS_impl_Send_eq rfl (fun e86_25 h => ?_)
 refine xFd rfl ?_
 refine xFd rfl ?_
 refine xLd rfl ?_
 refine xMv rfl ?_
 refine xC0 h (big_laws_heldTermS ·) rfl (fun c91_26 h => ?_)
 refine xAs rfl ?_
 refine oRs ?_
 refine xMv rfl ?_
 refine xLt rfl ?_
 refine oNl ?_
 refine cIf h rfl (fun q27 h => ?_) (fun q27 h => ?_)
 refine cRs ?_
 refine xAs rfl ?_
 refine oNl ?_
 refine cRt ?_
 exact eXr h rfl
 refine cSk ?_
 refine cRg ?_
 refine xMv rfl ?_
 refine xAdd rfl ?_
 refine xAs rfl ?_
 refine oNl ?_
 exact eL h rfl
 refine cEx ?_
 exact eX h rfl
 rcases q with v4_3 | ⟨v1_4, v5_5, v9_6⟩
 cases h
 exact eR rfl rfl rfl rfl
 refine cRs ?_
 refine xMv rfl ?_
 refine xAs rfl ?_
 refine oNl ?_
 refine cRt ?_
 cases h
 exact eR rfl rfl rfl rfl
abbrev B_laws_FnExactSendsOf (p : Int → Int → (List UInt8) → (List S_laws_Term) → Option (Bool)) : Prop := ∀ {t0_0 t0_1 : Int} {t0_2 : List UInt8} {t0_3 : List S_laws_Term} {r : Bool}, p t0_0 t0_1 t0_2 t0_3 = some r → Big Try.prog τ An (.fn 7 [.one (.ag [.int .i64 t0_0, .int .i64 t0_1, .str t0_2, .sl (t0_3.map rS_laws_Term)])] [] (.one (.c (.bool r))) none [] none)
def p_laws_FnExactSendsOf (n : Nat) (t0_0 : Int) (t0_1 : Int) (t0_2 : List UInt8) (t0_3 : List S_laws_Term) : Option (Bool) :=
  (p_laws_szTerm n t0_0 t0_1 t0_2 t0_3 (1048576 : Int)).bind fun c16_1 => bif decide (c16_1 < (0 : Int)) then some true else (p_laws_toTerm n t0_0 t0_1 t0_2 t0_3).bind fun c21_3 => (p_spec_SendsOf n c21_3.1 c21_3.2.1 c21_3.2.2.1 c21_3.2.2.2).bind fun c22_4 => (p_laws_toTerm n t0_0 t0_1 t0_2 t0_3).bind fun c26_5 => (p_impl_SendsOf n c26_5.1 c26_5.2.1 c26_5.2.2.1 c26_5.2.2.2).bind fun c29_6 => ((p_laws_eqSendS n c29_6.1 c22_4.1).bind fun c34_8 => bif !c34_8 then some true else some (!(c29_6.2 == c22_4.2))).bind fun v40_7 => bif v40_7 then some false else (p_laws_toTerm n t0_0 t0_1 t0_2 t0_3).bind fun c43_11 => (p_laws_eqTerm n c26_5.1 c26_5.2.1 c26_5.2.2.1 c26_5.2.2.2 c43_11.1 c43_11.2.1 c43_11.2.2.1 c43_11.2.2.2).bind fun c44_12 => bif !c44_12 then some false else (p_laws_markTerm n c26_5.1 c26_5.2.1 c26_5.2.2.1 c26_5.2.2.2 (1 : Int)).bind fun c48_14 => (bif decide (c48_14 < (0 : Int)) then some true else (p_laws_eqSendS n c29_6.1 c22_4.1).bind fun c54_17 => bif !c54_17 then some true else some (!(c29_6.2 == c22_4.2))).bind fun v61_15 => bif v61_15 then some false else (p_laws_markSendS n c29_6.1 (1 : Int)).bind fun c64_20 => (p_laws_heldSendS n c64_20.2 (1 : Int)).bind fun c67_21 => bif decide (c67_21 < (0 : Int)) then some false else bif !decide (c67_21 = c64_20.1) then some false else (p_laws_toTerm n t0_0 t0_1 t0_2 t0_3).bind fun c75_24 => (p_impl_SendsOf n c75_24.1 c75_24.2.1 c75_24.2.2.1 c75_24.2.2.2).bind fun c76_25 => ((p_laws_eqSendS n c76_25.1 c22_4.1).bind fun c81_27 => bif !c81_27 then some true else some (!(c76_25.2 == c22_4.2))).bind fun v87_26 => bif v87_26 then some false else (p_laws_heldSendS n c64_20.2 (1 : Int)).bind fun c90_30 => bif decide (c90_30 < (0 : Int)) then some false else bif !decide (c90_30 = c64_20.1) then some false else some true
theorem big_laws_FnExactSendsOf {n : Nat} : B_laws_FnExactSendsOf (p_laws_FnExactSendsOf n) := by
 intro t0_0 t0_1 t0_2 t0_3 r h
 unfold p_laws_FnExactSendsOf at h
 refine bF Try.func7 rfl rfl ?_
 refine cRs ?_
 refine xBx rfl ?_
 refine xAs rfl ?_
 refine oRs ?_
 refine xAs rfl ?_
 refine oRs ?_
 refine xLd rfl ?_
 refine xMv rfl ?_
 refine xC0 h (big_laws_szTerm ·) rfl (fun c16_1 h => ?_)
 refine xAs rfl ?_
 refine oNl ?_
 refine cSq ?_
 refine cRs ?_
 refine xMv rfl ?_
 refine xLt rfl ?_
 refine oNl ?_
 refine cIf h rfl (fun q2 h => ?_) (fun q2 h => ?_)
 refine cRs ?_
 refine xAs rfl ?_
 refine oNl ?_
 refine cRt ?_
 cases h
 exact eR rfl rfl rfl rfl
 refine cSk ?_
 refine cRs ?_
 refine xLd rfl ?_
 refine xC0 h (big_laws_toTerm ·) rfl (fun c21_3 h => ?_)
 refine xC0 h (big_spec_SendsOf ·) rfl (fun c22_4 h => ?_)
 refine xMv rfl ?_
 refine xEt rfl ?_
 refine xEt rfl ?_
 refine xAs rfl ?_
 refine xAs rfl ?_
 refine oRs ?_
 refine xLd rfl ?_
 refine xC0 h (big_laws_toTerm ·) rfl (fun c26_5 h => ?_)
 refine xAz [.int .i64 0, .int .i64 0, .str [], .sl ([].map rS_impl_Term)] rfl ?_
 refine xSt rfl ?_
 refine oRs ?_
 refine xLd rfl ?_
 refine xC0 h (big_impl_SendsOf ·) rfl (fun c29_6 h => ?_)
 refine xMv rfl ?_
 refine xEt rfl ?_
 refine xEt rfl ?_
 refine xAs rfl ?_
 refine xAs rfl ?_
 refine oNl ?_
 refine cSq ?_
 refine cRs ?_
 refine oJn h [(32, 40)] [] (fun v40_7 => (.n, [(40, Bo v40_7)], [])) (fun _ h => ?_) (fun v40_7 h => ?_)
 refine xMv rfl ?_
 refine xMv rfl ?_
 refine xC0 h (big_laws_eqSendS ·) rfl (fun c34_8 h => ?_)
 refine xNot rfl ?_
 refine xMv rfl ?_
 refine oIf 36 h rfl (fun q9 h => ?_) (fun q9 h => ?_)
 refine wSk rfl ?_
 refine wSk rfl ?_
 refine wSk rfl ?_
 refine xPk rfl ?_
 refine oNl ?_
 exact eJ h rfl
 refine xMv rfl ?_
 refine xMv rfl ?_
 refine wBi (.bool (!(c29_6.2 == c22_4.2))) rfl rfl rfl rfl rfl ?_
 refine xPk rfl ?_
 refine oNl ?_
 exact eJ h rfl
 refine cIf h rfl (fun q10 h => ?_) (fun q10 h => ?_)
 refine cRs ?_
 refine xAs rfl ?_
 refine oNl ?_
 refine cRt ?_
 cases h
 exact eR rfl rfl rfl rfl
 refine cSk ?_
 refine cSq ?_
 refine cRs ?_
 refine xLd rfl ?_
 refine xLd rfl ?_
 refine xC0 h (big_laws_toTerm ·) rfl (fun c43_11 h => ?_)
 refine xC0 h (big_laws_eqTerm ·) rfl (fun c44_12 h => ?_)
 refine xNot rfl ?_
 refine oNl ?_
 refine cIf h rfl (fun q13 h => ?_) (fun q13 h => ?_)
 refine cRs ?_
 refine xAs rfl ?_
 refine oNl ?_
 refine cRt ?_
 cases h
 exact eR rfl rfl rfl rfl
 refine cSk ?_
 refine cRs ?_
 refine xAs rfl ?_
 refine oRs ?_
 refine xLd rfl ?_
 refine xMv rfl ?_
 refine xC0 h (big_laws_markTerm ·) rfl (fun c48_14 h => ?_)
 refine xAs rfl ?_
 refine oNl ?_
 refine cSq ?_
 refine cRs ?_
 refine oJn h [(49, 61)] [] (fun v61_15 => (.n, [(61, Bo v61_15)], [])) (fun _ h => ?_) (fun v61_15 h => ?_)
 refine xMv rfl ?_
 refine xLt rfl ?_
 refine xMv rfl ?_
 refine oIf 51 h rfl (fun q16 h => ?_) (fun q16 h => ?_)
 refine wSk rfl ?_
 refine wSk rfl ?_
 refine wSk rfl ?_
 refine wSk rfl ?_
 refine xPk rfl ?_
 refine xMv rfl ?_
 refine wSk rfl ?_
 refine wSk rfl ?_
 refine wSk rfl ?_
 refine xPk rfl ?_
 refine oNl ?_
 exact eJ h rfl
 refine xMv rfl ?_
 refine xMv rfl ?_
 refine xC0 h (big_laws_eqSendS ·) rfl (fun c54_17 h => ?_)
 refine xNot rfl ?_
 refine xPk rfl ?_
 refine xMv rfl ?_
 refine oIf 57 h rfl (fun q18 h => ?_) (fun q18 h => ?_)
 refine wSk rfl ?_
 refine wSk rfl ?_
 refine wSk rfl ?_
 refine xPk rfl ?_
 refine oNl ?_
 exact eJ h rfl
 refine xMv rfl ?_
 refine xMv rfl ?_
 refine wBi (.bool (!(c29_6.2 == c22_4.2))) rfl rfl rfl rfl rfl ?_
 refine xPk rfl ?_
 refine oNl ?_
 exact eJ h rfl
 refine cIf h rfl (fun q19 h => ?_) (fun q19 h => ?_)
 refine cRs ?_
 refine xAs rfl ?_
 refine oNl ?_
 refine cRt ?_
 cases h
 exact eR rfl rfl rfl rfl
 refine cSk ?_
 refine cRs ?_
 refine xAs rfl ?_
 refine oRs ?_
 refine wAl rfl rfl rfl rfl ?_
 refine xMv rfl ?_
 refine xIo (fun c64_20 => .sl (c64_20.2.map rS_impl_Send)) h (big_laws_markSendS ·) rfl (nav0 _) (fun _ => setAt0 _ _) (fun c64_20 h => ?_)
 refine xAs rfl ?_
 refine oRs ?_
 refine xAs rfl ?_
 refine oRs ?_
 refine xMv rfl ?_
 refine xMv rfl ?_
 refine xC0 h (big_laws_heldSendS ·) rfl (fun c67_21 h => ?_)
 refine xAs rfl ?_
 refine oNl ?_
 refine cSq ?_
 refine cRs ?_
 refine xMv rfl ?_
 refine xLt rfl ?_
 refine oNl ?_
 refine cIf h rfl (fun q22 h => ?_) (fun q22 h => ?_)
 refine cRs ?_
 refine xAs rfl ?_
 refine oNl ?_
 refine cRt ?_
 cases h
 exact eR rfl rfl rfl rfl
 refine cSk ?_
 refine cSq ?_
 refine cRs ?_
 refine xMv rfl ?_
 refine xMv rfl ?_
 refine xNe rfl ?_
 refine oNl ?_
 refine cIf h rfl (fun q23 h => ?_) (fun q23 h => ?_)
 refine cRs ?_
 refine xAs rfl ?_
 refine oNl ?_
 refine cRt ?_
 cases h
 exact eR rfl rfl rfl rfl
 refine cSk ?_
 refine cRs ?_
 refine xLd rfl ?_
 refine xC0 h (big_laws_toTerm ·) rfl (fun c75_24 h => ?_)
 refine xC0 h (big_impl_SendsOf ·) rfl (fun c76_25 h => ?_)
 refine xMv rfl ?_
 refine xEt rfl ?_
 refine xEt rfl ?_
 refine xAs rfl ?_
 refine xAs rfl ?_
 refine oNl ?_
 refine cSq ?_
 refine cRs ?_
 refine oJn h [(79, 87)] [] (fun v87_26 => (.n, [(87, Bo v87_26)], [])) (fun _ h => ?_) (fun v87_26 h => ?_)
 refine xMv rfl ?_
 refine xMv rfl ?_
 refine xC0 h (big_laws_eqSendS ·) rfl (fun c81_27 h => ?_)
 refine xNot rfl ?_
 refine xMv rfl ?_
 refine oIf 83 h rfl (fun q28 h => ?_) (fun q28 h => ?_)
 refine wSk rfl ?_
 refine wSk rfl ?_
 refine wSk rfl ?_
 refine xPk rfl ?_
 refine oNl ?_
 exact eJ h rfl
 refine xMv rfl ?_
 refine xMv rfl ?_
 refine wBi (.bool (!(c76_25.2 == c22_4.2))) rfl rfl rfl rfl rfl ?_
 refine xPk rfl ?_
 refine oNl ?_
 exact eJ h rfl
 refine cIf h rfl (fun q29 h => ?_) (fun q29 h => ?_)
 refine cRs ?_
 refine xAs rfl ?_
 refine oNl ?_
 refine cRt ?_
 cases h
 exact eR rfl rfl rfl rfl
 refine cSk ?_
 refine cRs ?_
 refine xAs rfl ?_
 refine oRs ?_
 refine xMv rfl ?_
 refine xMv rfl ?_
 refine xC0 h (big_laws_heldSendS ·) rfl (fun c90_30 h => ?_)
 refine xAs rfl ?_
 refine oNl ?_
 refine cSq ?_
 refine cRs ?_
 refine xMv rfl ?_
 refine xLt rfl ?_
 refine oNl ?_
 refine cIf h rfl (fun q31 h => ?_) (fun q31 h => ?_)
 refine cRs ?_
 refine xAs rfl ?_
 refine oNl ?_
 refine cRt ?_
 cases h
 exact eR rfl rfl rfl rfl
 refine cSk ?_
 refine cSq ?_
 refine cRs ?_
 refine xMv rfl ?_
 refine xMv rfl ?_
 refine xNe rfl ?_
 refine oNl ?_
 refine cIf h rfl (fun q32 h => ?_) (fun q32 h => ?_)
 refine cRs ?_
 refine xAs rfl ?_
 refine oNl ?_
 refine cRt ?_
 cases h
 exact eR rfl rfl rfl rfl
 refine cSk ?_
 refine cRs ?_
 refine xAs rfl ?_
 refine oNl ?_
 refine cRt ?_
 cases h
 exact eR rfl rfl rfl rfl
end Go.Own
