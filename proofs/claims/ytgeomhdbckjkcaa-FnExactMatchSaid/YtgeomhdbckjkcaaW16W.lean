/- Each function on plain data, and its walk. No conditions. -/
import Derived.Test.YtgeomhdbckjkcaaW16V
set_option linter.unusedVariables false
set_option linter.unusedSimpArgs false
set_option linter.unnecessarySimpa false
namespace Go.Own
open Go Go.Proofs
def p_spec_l2Look_b1 (n : Nat) (r_spec_l2Look : Y_spec_l2Look) (t1_0 : Int) (t0_3 : List S_impl_Term) : (Int × Int) → Option ((Int × Int) ⊕ ((Int × Int × Bool)))
  | (v2_6, v7_7) => (bif decide (v7_7 < (t0_3.length : Int)) then some (decide ((0 : Int) ≤ v2_6)) else some false).bind fun v29_11 => bif v29_11 then (ix t0_3 v7_7).bind fun e35_14 => (r_spec_l2Look e35_14.f0 e35_14.f1 e35_14.f2 e35_14.f3 (IntKind.wrap .i64 (t1_0 - (1 : Int))) v2_6).bind fun c40_15 => some (.inl (c40_15, (IntKind.wrap .i64 (v7_7 + (1 : Int))))) else some (.inr (v2_6, v7_7, false))
def s_spec_l2Look (n : Nat) (r_spec_l2Look : Y_spec_l2Look) (t0_0 : Int) (t0_1 : Int) (t0_2 : List UInt8) (t0_3 : List S_impl_Term) (t1_0 : Int) (t2_0 : Int) : Option (Int) :=
  (bif decide (t1_0 < (1 : Int)) then some true else bif decide (t2_0 < (1 : Int)) then some true else (p_spec_l2Shape n t0_0 t0_1 t0_2 t0_3).bind fun c16_4 => some (!c16_4)).bind fun v18_1 => bif v18_1 then some ((-1) : Int) else (loopN (p_spec_l2Look_b1 n r_spec_l2Look t1_0 t0_3) n ((IntKind.wrap .i64 (t2_0 - (1 : Int))), (0 : Int))).bind fun (v2_8, v7_9, v29_10) => some v2_8
theorem step_spec_l2Look {n : Nat} {r_spec_l2Look : Y_spec_l2Look} (ih_spec_l2Look : B_spec_l2Look r_spec_l2Look) : B_spec_l2Look (s_spec_l2Look n r_spec_l2Look) := by
 intro t0_0 t0_1 t0_2 t0_3 t1_0 t2_0 r h
 unfold s_spec_l2Look at h
 refine bF Try.func185 rfl rfl <| cRs <| xBx rfl <| xAs rfl <| oNl <| cSq <| cRs <| oJn h [(8, 18)] [] (fun v18_1 => (.n, [(18, Bo v18_1)], [])) (fun _ h => ?_) (fun v18_1 h => ?_)
 refine xMv rfl <| xLt rfl <| xMv rfl <| oIf 10 h rfl (fun q2 h => ?_) (fun q2 h => ?_)
 exact wSk rfl <| wSk rfl <| xPk rfl <| xMv rfl <| wSk rfl <| wSk rfl <| wSk rfl <| xPk rfl <| oNl <| eJ h rfl
 refine xMv rfl <| xLt rfl <| xPk rfl <| xMv rfl <| oIf 14 h rfl (fun q3 h => ?_) (fun q3 h => ?_)
 exact wSk rfl <| wSk rfl <| wSk rfl <| xPk rfl <| oNl <| eJ h rfl
 refine xLd rfl <| xC0 h (big_spec_l2Shape ·) rfl (fun c16_4 h => ?_)
 exact xNot rfl <| xPk rfl <| oNl <| eJ h rfl
 refine cIf h rfl (fun q5 h => ?_) (fun q5 h => ?_)
 refine cRs <| xAs rfl <| oNl <| cRt ?_
 cases h
 exact eR rfl rfl rfl rfl
 refine cSk <| cRs <| xMv rfl <| xSub rfl <| xAs rfl <| oNl <| cSq <| cRs <| xAs rfl <| oNl <| cLp h [(2, 2), (7, 7), (21, 40)] [] (fun (v2_6, v7_7) => ([(2, I64 v2_6), (7, I64 v7_7)], [])) (fun (v2_8, v7_9, v29_10) => (.e 0, [(2, I64 v2_8), (7, I64 v7_9), (29, Bo v29_10)], [])) rfl (fun st _ h => ?_) (fun q h => ?_)
 obtain ⟨v2_6, v7_7⟩ := st
 unfold p_spec_l2Look_b1 at h
 refine cSq <| cRs <| oJn h [(21, 29)] [] (fun v29_11 => (.n, [(29, Bo v29_11)], [])) (fun _ h => ?_) (fun v29_11 h => ?_)
 refine xMv rfl <| xFd rfl <| xLd rfl <| xLn rfl <| xLt rfl <| xMv rfl <| oIf 26 h rfl (fun q12 h => ?_) (fun q12 h => ?_)
 exact xMv rfl <| xGe rfl <| xPk rfl <| oNl <| eJ h rfl
 exact wSk rfl <| wSk rfl <| xPk rfl <| oNl <| eJ h rfl
 refine cIf h rfl (fun q13 h => ?_) (fun q13 h => ?_)
 refine cSk <| cSq <| cBk <| cRg <| xFd rfl <| xLd rfl <| xMv rfl <| xIx h rS_impl_Term_eq rfl (fun e35_14 h => ?_)
 refine xLd rfl <| xMv rfl <| xSub rfl <| xMv rfl <| xC0 h (ih_spec_l2Look ·) rfl (fun c40_15 h => ?_)
 exact xAs rfl <| oNl <| cRg <| xMv rfl <| xAdd rfl <| xAs rfl <| oNl <| eL h rfl
 exact cEx <| eX h rfl
 obtain ⟨v2_8, v7_9, v29_10⟩ := q
 refine cRs <| xMv rfl <| xAs rfl <| oNl <| cRt ?_
 cases h
 exact eR rfl rfl rfl rfl
def q_spec_l2Look : Nat → (Y_spec_l2Look)
  | 0 => (fun _ _ _ _ _ _ => none)
  | n + 1 => s_spec_l2Look n (q_spec_l2Look n)
def p_spec_l2Look (n : Nat) : Y_spec_l2Look := q_spec_l2Look n
theorem bigs_spec_l2Look (n : Nat) : B_spec_l2Look (p_spec_l2Look n) := by
  induction n with
  | zero => exact (fun h => nomatch h)
  | succ n ih => exact step_spec_l2Look (n := n) ih
theorem big_spec_l2Look {n : Nat} : B_spec_l2Look (p_spec_l2Look n) := (bigs_spec_l2Look n)
theorem p_spec_l2Look_succ (n : Nat) : p_spec_l2Look (n + 1) = s_spec_l2Look n (p_spec_l2Look n) := rfl
abbrev B_spec_TermOk (p : Int → Int → (List UInt8) → (List S_impl_Term) → Option (Bool)) : Prop := ∀ {t0_0 t0_1 : Int} {t0_2 : List UInt8} {t0_3 : List S_impl_Term} {r : Bool}, p t0_0 t0_1 t0_2 t0_3 = some r → Big Try.prog τ An (.fn 108 [.one (.ag [.int .i64 t0_0, .int .i64 t0_1, .str t0_2, .sl (t0_3.map rS_impl_Term)])] [] (.one (.c (.bool r))) none [] none)
def p_spec_TermOk (n : Nat) (t0_0 : Int) (t0_1 : Int) (t0_2 : List UInt8) (t0_3 : List S_impl_Term) : Option (Bool) :=
  (p_spec_l2Look n t0_0 t0_1 t0_2 t0_3 (8 : Int) (300 : Int)).bind fun c4_1 => some (decide ((0 : Int) ≤ c4_1))
theorem big_spec_TermOk {n : Nat} : B_spec_TermOk (p_spec_TermOk n) := by
 intro t0_0 t0_1 t0_2 t0_3 r h
 unfold p_spec_TermOk at h
 refine bF Try.func108 rfl rfl <| cRs <| xBx rfl <| xAs rfl <| oRs <| xLd rfl <| xC0 h (big_spec_l2Look ·) rfl (fun c4_1 h => ?_)
 refine xGe rfl <| xAs rfl <| oNl <| cRt ?_
 cases h
 exact eR rfl rfl rfl rfl
abbrev Y_spec_l2Copy : Type := Int → Int → (List UInt8) → (List S_impl_Term) → Option (Int × Int × (List UInt8) × (List S_impl_Term))
abbrev B_spec_l2Copy (p : Y_spec_l2Copy) : Prop := ∀ {t0_0 t0_1 : Int} {t0_2 : List UInt8} {t0_3 : List S_impl_Term} {r : Int × Int × (List UInt8) × (List S_impl_Term)}, p t0_0 t0_1 t0_2 t0_3 = some r → Big Try.prog τ An (.fn 182 [.one (.ag [.int .i64 t0_0, .int .i64 t0_1, .str t0_2, .sl (t0_3.map rS_impl_Term)])] [] (.one (.ag [.int .i64 r.1, .int .i64 r.2.1, .str r.2.2.1, .sl (r.2.2.2.map rS_impl_Term)])) none [] none)
def p_spec_l2Copy_b1 (n : Nat) (r_spec_l2Copy : Y_spec_l2Copy) (t0_3 : List S_impl_Term) : (Int × Int × Int × (List UInt8) × (List S_impl_Term)) → Option ((Int × Int × Int × (List UInt8) × (List S_impl_Term)) ⊕ ((Int × Bool × Int × Int × (List UInt8) × (List S_impl_Term))))
  | (v4_1, w3_2, w3_3, w3_4, w3_5) => bif decide (v4_1 < (t0_3.length : Int)) then (ix t0_3 v4_1).bind fun e20_13 => (r_spec_l2Copy e20_13.f0 e20_13.f1 e20_13.f2 e20_13.f3).bind fun c22_14 => (app2 56 w3_5 ([S_impl_Term.mk c22_14.1 c22_14.2.1 c22_14.2.2.1 c22_14.2.2.2] : List S_impl_Term)).bind fun v24_15 => some (.inl ((IntKind.wrap .i64 (v4_1 + (1 : Int))), w3_2, w3_3, w3_4, v24_15)) else some (.inr (v4_1, false, w3_2, w3_3, w3_4, w3_5))
def s_spec_l2Copy (n : Nat) (r_spec_l2Copy : Y_spec_l2Copy) (t0_0 : Int) (t0_1 : Int) (t0_2 : List UInt8) (t0_3 : List S_impl_Term) : Option (Int × Int × (List UInt8) × (List S_impl_Term)) :=
  (loopN (p_spec_l2Copy_b1 n r_spec_l2Copy t0_3) n ((0 : Int), t0_0, t0_1, t0_2, ([] : List S_impl_Term))).bind fun (v4_6, v12_7, w3_8, w3_9, w3_10, w3_11) => some (w3_8, w3_9, w3_10, w3_11)
theorem step_spec_l2Copy {n : Nat} {r_spec_l2Copy : Y_spec_l2Copy} (ih_spec_l2Copy : B_spec_l2Copy r_spec_l2Copy) : B_spec_l2Copy (s_spec_l2Copy n r_spec_l2Copy) := by
 intro t0_0 t0_1 t0_2 t0_3 r h
 unfold s_spec_l2Copy at h
 refine bF Try.func182 rfl rfl <| cRs <| xBx rfl <| xAz [.int .i64 0, .int .i64 0, .str [], .sl ([].map rS_impl_Term)] rfl <| oRs <| xLd rfl <| xAz [.int .i64 0, .int .i64 0, .str [], .sl ([].map rS_impl_Term)] rfl <| xSt rfl <| oRs <| wLt' (L := ([] : List S_impl_Term)) (f := rS_impl_Term) rfl rfl rfl rfl rfl rfl rfl <| xFd rfl <| xSt rfl <| oNl <| cSq ?_
 refine cRs <| xAs rfl <| oNl <| cLp h [(4, 4), (8, 25)] [(3, 3)] (fun (v4_1, w3_2, w3_3, w3_4, w3_5) => ([(4, I64 v4_1)], [(3, [.int .i64 w3_2, .int .i64 w3_3, .str w3_4, .sl (w3_5.map rS_impl_Term)])])) (fun (v4_6, v12_7, w3_8, w3_9, w3_10, w3_11) => (.e 0, [(4, I64 v4_6), (12, Bo v12_7)], [(3, [.int .i64 w3_8, .int .i64 w3_9, .str w3_10, .sl (w3_11.map rS_impl_Term)])])) rfl (fun st _ h => ?_) (fun q h => ?_)
 obtain ⟨v4_1, w3_2, w3_3, w3_4, w3_5⟩ := st
 unfold p_spec_l2Copy_b1 at h
 refine cSq <| cRs <| xMv rfl <| xFd rfl <| xLd rfl <| xLn rfl <| xLt rfl <| oNl <| cIf h rfl (fun q12 h => ?_) (fun q12 h => ?_)
 refine cSk <| cSq <| cBk <| cRg <| xFd rfl <| xLd rfl <| xFd rfl <| xLd rfl <| xMv rfl <| xIx h rS_impl_Term_eq rfl (fun e20_13 h => ?_)
 refine xLd rfl <| xC0 h (ih_spec_l2Copy ·) rfl (fun c22_14 h => ?_)
 refine wLt' (L := ([S_impl_Term.mk c22_14.1 c22_14.2.1 c22_14.2.2.1 c22_14.2.2.2] : List S_impl_Term)) (f := rS_impl_Term) rfl rfl rfl rfl (by simp only [List.map, rS_impl_Term_mk] <;> rfl) rfl rfl <| wAp (f := rS_impl_Term) h rfl rfl rfl rfl rfl rfl rfl rfl rfl (fun a => by rw [rS_impl_Term_eq]; rfl) rfl (fun v24_15 h => ?_)
 exact xFd rfl <| xSt rfl <| oNl <| cRg <| xMv rfl <| xAdd rfl <| xAs rfl <| oNl <| eL h rfl
 exact cEx <| eX h rfl
 obtain ⟨v4_6, v12_7, w3_8, w3_9, w3_10, w3_11⟩ := q
 refine cRs <| xLd rfl <| xSt rfl <| oNl <| cRt ?_
 cases h
 exact eR rfl rfl rfl rfl
def q_spec_l2Copy : Nat → (Y_spec_l2Copy)
  | 0 => (fun _ _ _ _ => none)
  | n + 1 => s_spec_l2Copy n (q_spec_l2Copy n)
def p_spec_l2Copy (n : Nat) : Y_spec_l2Copy := q_spec_l2Copy n
theorem bigs_spec_l2Copy (n : Nat) : B_spec_l2Copy (p_spec_l2Copy n) := by
  induction n with
  | zero => exact (fun h => nomatch h)
  | succ n ih => exact step_spec_l2Copy (n := n) ih
theorem big_spec_l2Copy {n : Nat} : B_spec_l2Copy (p_spec_l2Copy n) := (bigs_spec_l2Copy n)
theorem p_spec_l2Copy_succ (n : Nat) : p_spec_l2Copy (n + 1) = s_spec_l2Copy n (p_spec_l2Copy n) := rfl
abbrev Y_spec_l7Each : Type := (List S_impl_Expr) → (List S_impl_Term) → (List S_impl_Bind) → Option (Bool × (List S_impl_Bind))
abbrev B_spec_l7Each (p : Y_spec_l7Each) : Prop := ∀ {t0_0 : List S_impl_Expr} {t1_0 : List S_impl_Term} {o0_0 : List S_impl_Bind} {r : Bool × (List S_impl_Bind)}, p t0_0 t1_0 o0_0 = some r → Big Try.prog τ An (.fn 186 [.one (.c (.sl (t0_0.map rS_impl_Expr))), .one (.c (.sl (t1_0.map rS_impl_Term))), .one (.ptr 1000000 0)] [[.sl (o0_0.map rS_impl_Bind)]] (.one (.c (.bool r.1))) none [[.sl (r.2.map rS_impl_Bind)]] none)
abbrev Y_spec_l7Match : Type := Int → Int → (List UInt8) → (List S_impl_Expr) → (List S_impl_Clause) → Int → Int → (List UInt8) → (List S_impl_Term) → (List S_impl_Bind) → Option (Bool × (List S_impl_Bind))
abbrev B_spec_l7Match (p : Y_spec_l7Match) : Prop := ∀ {t0_0 t0_1 : Int} {t0_2 : List UInt8} {t0_3 : List S_impl_Expr} {t0_4 : List S_impl_Clause} {t1_0 t1_1 : Int} {t1_2 : List UInt8} {t1_3 : List S_impl_Term} {o0_0 : List S_impl_Bind} {r : Bool × (List S_impl_Bind)}, p t0_0 t0_1 t0_2 t0_3 t0_4 t1_0 t1_1 t1_2 t1_3 o0_0 = some r → Big Try.prog τ An (.fn 109 [.one (.ag [.int .i64 t0_0, .int .i64 t0_1, .str t0_2, .sl (t0_3.map rS_impl_Expr), .sl (t0_4.map rS_impl_Clause)]), .one (.ag [.int .i64 t1_0, .int .i64 t1_1, .str t1_2, .sl (t1_3.map rS_impl_Term)]), .one (.ptr 1000000 0)] [[.sl (o0_0.map rS_impl_Bind)]] (.one (.c (.bool r.1))) none [[.sl (r.2.map rS_impl_Bind)]] none)
def p_spec_l7Each_b1 (n : Nat) (r_spec_l7Match : Y_spec_l7Match) (t0_0 : List S_impl_Expr) (t1_0 : List S_impl_Term) : (Int × (List S_impl_Bind)) → Option ((Int × (List S_impl_Bind)) ⊕ ((Bool × (List S_impl_Bind)) ⊕ (Int × Bool × (List S_impl_Bind))))
  | (v7_1, w1000000_2) => bif decide (v7_1 < (t0_0.length : Int)) then (ix t0_0 v7_1).bind fun e16_9 => (ix t1_0 v7_1).bind fun e20_10 => (r_spec_l7Match e16_9.f0 e16_9.f1 e16_9.f2 e16_9.f3 e16_9.f4 e20_10.f0 e20_10.f1 e20_10.f2 e20_10.f3 w1000000_2).bind fun c23_11 => bif !c23_11.1 then some (.inr (.inl (false, c23_11.2))) else some (.inl ((IntKind.wrap .i64 (v7_1 + (1 : Int))), c23_11.2)) else some (.inr (.inr (v7_1, false, w1000000_2)))
def s_spec_l7Each (n : Nat) (r_spec_l7Match : Y_spec_l7Match) (r_spec_l7Each : Y_spec_l7Each) (t0_0 : List S_impl_Expr) (t1_0 : List S_impl_Term) (o0_0 : List S_impl_Bind) : Option (Bool × (List S_impl_Bind)) :=
  (loopN (p_spec_l7Each_b1 n r_spec_l7Match t0_0 t1_0) n ((0 : Int), o0_0)).bind fun q => (match q with | .inl (v6_3, w1000000_4) => some (v6_3, w1000000_4) | .inr (v7_5, v11_6, w1000000_7) => some (true, w1000000_7))
theorem step_spec_l7Each {n : Nat} {r_spec_l7Match : Y_spec_l7Match} (ih_spec_l7Match : B_spec_l7Match r_spec_l7Match) {r_spec_l7Each : Y_spec_l7Each} (ih_spec_l7Each : B_spec_l7Each r_spec_l7Each) : B_spec_l7Each (s_spec_l7Each n r_spec_l7Match r_spec_l7Each) := by
 intro t0_0 t1_0 o0_0 r h
 unfold s_spec_l7Each at h
 refine bF Try.func186 rfl rfl <| cRs <| xAs rfl <| oNl <| cSq <| cRs <| xAs rfl <| oNl <| cLp h [(6, 24)] [(1000000, 1000000)] (fun (v7_1, w1000000_2) => ([(7, I64 v7_1)], [(1000000, [.sl (w1000000_2.map rS_impl_Bind)])])) (fun q => match q with | .inl (v6_3, w1000000_4) => (.r, [(6, Bo v6_3)], [(1000000, [.sl (w1000000_4.map rS_impl_Bind)])]) | .inr (v7_5, v11_6, w1000000_7) => (.e 0, [(7, I64 v7_5), (11, Bo v11_6)], [(1000000, [.sl (w1000000_7.map rS_impl_Bind)])])) rfl (fun st _ h => ?_) (fun q h => ?_)
 obtain ⟨v7_1, w1000000_2⟩ := st
 unfold p_spec_l7Each_b1 at h
 refine cSq <| cRs <| xMv rfl <| xMv rfl <| xLn rfl <| xLt rfl <| oNl <| cIf h rfl (fun q8 h => ?_) (fun q8 h => ?_)
 refine cSk <| cSq <| cBk <| cRs <| xMv rfl <| xMv rfl <| xIx h rS_impl_Expr_eq rfl (fun e16_9 h => ?_)
 refine xLd rfl <| xMv rfl <| xMv rfl <| xIx h rS_impl_Term_eq rfl (fun e20_10 h => ?_)
 refine xLd rfl <| xMv rfl <| xC1 h (ih_spec_l7Match ·) rfl (fun c23_11 h => ?_)
 refine xNot rfl <| oNl <| cIf h rfl (fun q12 h => ?_) (fun q12 h => ?_)
 exact cRs <| xAs rfl <| oNl <| cRt <| eXr h rfl
 exact cSk <| cRg <| xMv rfl <| xAdd rfl <| xAs rfl <| oNl <| eL h rfl
 exact cEx <| eX h rfl
 rcases q with ⟨v6_3, w1000000_4⟩ | ⟨v7_5, v11_6, w1000000_7⟩
 cases h
 exact eR rfl rfl rfl rfl
 refine cRs <| xAs rfl <| oNl <| cRt ?_
 cases h
 exact eR rfl rfl rfl rfl
def s_spec_l7Match (n : Nat) (r_spec_l7Match : Y_spec_l7Match) (r_spec_l7Each : Y_spec_l7Each) (t0_0 : Int) (t0_1 : Int) (t0_2 : List UInt8) (t0_3 : List S_impl_Expr) (t0_4 : List S_impl_Clause) (t1_0 : Int) (t1_1 : Int) (t1_2 : List UInt8) (t1_3 : List S_impl_Term) (o0_0 : List S_impl_Bind) : Option (Bool × (List S_impl_Bind)) :=
  bif decide (t0_0 = (1 : Int)) then (bif decide (t1_0 = (1 : Int)) then some (decide (t1_1 = t0_1)) else some false).bind fun v6_2 => some (v6_2, o0_0) else bif decide (t0_0 = (2 : Int)) then (bif decide (t1_0 = (2 : Int)) then some (decide (t1_2 = t0_2)) else some false).bind fun v6_5 => some (v6_5, o0_0) else bif decide (t0_0 = (3 : Int)) then bif !decide (t0_2 = ([95] : List UInt8)) then (p_spec_l2Copy n t1_0 t1_1 t1_2 t1_3).bind fun c46_9 => (app2 72 o0_0 ([S_impl_Bind.mk t0_2 c46_9.1 c46_9.2.1 c46_9.2.2.1 c46_9.2.2.2] : List S_impl_Bind)).bind fun v49_10 => some (true, v49_10) else some (true, o0_0) else bif decide (t0_0 = (4 : Int)) then (bif decide (t1_0 = (4 : Int)) then bif decide ((t1_3.length : Int) = (t0_3.length : Int)) then (r_spec_l7Each t0_3 t1_3 o0_0).bind fun c71_16 => some (c71_16.1, c71_16.2) else some (false, o0_0) else some (false, o0_0)).bind fun (v6_12, w1000000_13) => some (v6_12, w1000000_13) else bif decide (t0_0 = (5 : Int)) then (bif decide (t1_0 = (5 : Int)) then bif decide ((t1_3.length : Int) = (t0_3.length : Int)) then (r_spec_l7Each t0_3 t1_3 o0_0).bind fun c93_22 => some (c93_22.1, c93_22.2) else some (false, o0_0) else some (false, o0_0)).bind fun (v6_18, w1000000_19) => some (v6_18, w1000000_19) else (bif !decide (t1_0 = (5 : Int)) then some (true, o0_0) else bif decide ((t1_3.length : Int) < (IntKind.wrap .i64 ((t0_3.length : Int) - (1 : Int)))) then some (true, o0_0) else (sub t0_3 none (some (IntKind.wrap .i64 ((t0_3.length : Int) - (1 : Int))))).bind fun v113_27 => (r_spec_l7Each v113_27 t1_3 o0_0).bind fun c117_28 => some ((!c117_28.1), c117_28.2)).bind fun (v119_23, w1000000_24) => bif v119_23 then some (false, w1000000_24) else (ix t0_3 (IntKind.wrap .i64 ((t0_3.length : Int) - (1 : Int)))).bind fun e123_30 => (sub t1_3 (some (IntKind.wrap .i64 ((t0_3.length : Int) - (1 : Int)))) none).bind fun v128_31 => (r_spec_l7Match e123_30.f0 e123_30.f1 e123_30.f2 e123_30.f3 e123_30.f4 (5 : Int) (0 : Int) ([] : List UInt8) v128_31 w1000000_24).bind fun c131_32 => some (c131_32.1, c131_32.2)
theorem step_spec_l7Match {n : Nat} {r_spec_l7Match : Y_spec_l7Match} (ih_spec_l7Match : B_spec_l7Match r_spec_l7Match) {r_spec_l7Each : Y_spec_l7Each} (ih_spec_l7Each : B_spec_l7Each r_spec_l7Each) : B_spec_l7Match (s_spec_l7Match n r_spec_l7Match r_spec_l7Each) := by
 intro t0_0 t0_1 t0_2 t0_3 t0_4 t1_0 t1_1 t1_2 t1_3 o0_0 r h
 unfold s_spec_l7Match at h
 refine bF Try.func109 rfl rfl <| cRs <| xBx rfl <| xBx rfl <| xAs rfl <| oNl <| cSq <| cRs <| xFd rfl <| xLd rfl <| oNl <| cBk <| cRs <| xEq rfl ?_
 refine xAs rfl <| oNl <| cIf h rfl (fun q1 h => ?_) (fun q1 h => ?_)
 refine cRs <| oJn h [(6, 6), (12, 21)] [] (fun v6_2 => (.n, [(6, Bo v6_2)], [])) (fun _ h => ?_) (fun v6_2 h => ?_)
 refine xFd rfl <| xLd rfl <| xEq rfl <| xMv rfl <| oIf 15 h rfl (fun q3 h => ?_) (fun q3 h => ?_)
 exact xFd rfl <| xLd rfl <| xFd rfl <| xLd rfl <| xEq rfl <| xPk rfl <| xAs rfl <| oNl <| eJ h rfl
 exact wSk rfl <| wSk rfl <| wSk rfl <| wSk rfl <| wSk rfl <| xPk rfl <| xAs rfl <| oNl <| eJ h rfl
 refine cRt ?_
 cases h
 exact eR rfl rfl rfl rfl
 refine cRs <| xEq rfl <| xAs rfl <| oNl <| cIf h rfl (fun q4 h => ?_) (fun q4 h => ?_)
 refine cRs <| oJn h [(6, 6), (24, 33)] [] (fun v6_5 => (.n, [(6, Bo v6_5)], [])) (fun _ h => ?_) (fun v6_5 h => ?_)
 refine xFd rfl <| xLd rfl <| xEq rfl <| xMv rfl <| oIf 27 h rfl (fun q6 h => ?_) (fun q6 h => ?_)
 exact xFd rfl <| xLd rfl <| xFd rfl <| xLd rfl <| xEs rfl <| xPk rfl <| xAs rfl <| oNl <| eJ h rfl
 exact wSk rfl <| wSk rfl <| wSk rfl <| wSk rfl <| wSk rfl <| xPk rfl <| xAs rfl <| oNl <| eJ h rfl
 refine cRt ?_
 cases h
 exact eR rfl rfl rfl rfl
 refine cRs <| xEq rfl <| xAs rfl <| oNl <| cIf h rfl (fun q7 h => ?_) (fun q7 h => ?_)
 refine cSq <| cRs <| xFd rfl <| xLd rfl <| xNs rfl <| oNl <| cIf h rfl (fun q8 h => ?_) (fun q8 h => ?_)
 refine cRg <| xMv rfl <| xMv rfl <| xNc rfl <| xLd rfl <| xFd rfl <| xLd rfl <| xLd rfl <| xC0 h (big_spec_l2Copy ·) rfl (fun c46_9 h => ?_)
 refine wBd [.str t0_2, .int .i64 c46_9.1, .int .i64 c46_9.2.1, .str c46_9.2.2.1, .sl (c46_9.2.2.2.map rS_impl_Term)] rfl rfl rfl rfl rfl rfl <| wLt' (L := ([S_impl_Bind.mk t0_2 c46_9.1 c46_9.2.1 c46_9.2.2.1 c46_9.2.2.2] : List S_impl_Bind)) (f := rS_impl_Bind) rfl rfl rfl rfl rfl rfl rfl <| wAp (f := rS_impl_Bind) h rfl rfl rfl rfl rfl rfl rfl rfl rfl (fun _ => rfl) rfl (fun v49_10 h => ?_)
 refine xNc rfl <| xSt rfl <| oNl <| cRs <| xAs rfl <| oNl <| cRt ?_
 cases h
 exact eR rfl rfl rfl rfl
 refine cSk <| cRs <| xAs rfl <| oNl <| cRt ?_
 cases h
 exact eR rfl rfl rfl rfl
 refine cRs <| xEq rfl <| xAs rfl <| oNl <| cIf h rfl (fun q11 h => ?_) (fun q11 h => ?_)
 refine cRs <| oJn h [(6, 6), (53, 72)] [(1000000, 1000000)] (fun (v6_12, w1000000_13) => (.n, [(6, Bo v6_12)], [(1000000, [.sl (w1000000_13.map rS_impl_Bind)])])) (fun _ h => ?_) (fun q h => ?_)
 refine xFd rfl <| xLd rfl <| xEq rfl <| xMv rfl <| oIf 56 h rfl (fun q14 h => ?_) (fun q14 h => ?_)
 refine xFd rfl <| xLd rfl <| xLn rfl <| xFd rfl <| xLd rfl <| xLn rfl <| xEq rfl <| xPk rfl <| xMv rfl <| oIf 65 h rfl (fun q15 h => ?_) (fun q15 h => ?_)
 refine xFd rfl <| xLd rfl <| xFd rfl <| xLd rfl <| xMv rfl <| xC1 h (ih_spec_l7Each ·) rfl (fun c71_16 h => ?_)
 exact xPk rfl <| xAs rfl <| oNl <| eJ h rfl
 exact wSk rfl <| wSk rfl <| wSk rfl <| wSk rfl <| wSk rfl <| wSk rfl <| xPk rfl <| xAs rfl <| oNl <| eJ h rfl
 refine wSk rfl <| wSk rfl <| wSk rfl <| wSk rfl <| wSk rfl <| wSk rfl <| wSk rfl <| xPk rfl <| xMv rfl <| wSk rfl <| wSk rfl <| wSk rfl <| wSk rfl <| wSk rfl ?_
 exact wSk rfl <| xPk rfl <| xAs rfl <| oNl <| eJ h rfl
 obtain ⟨v6_12, w1000000_13⟩ := q
 refine cRt ?_
 cases h
 exact eR rfl rfl rfl rfl
 refine cRs <| xEq rfl <| xAs rfl <| oNl <| cIf h rfl (fun q17 h => ?_) (fun q17 h => ?_)
 refine cRs <| oJn h [(6, 6), (75, 94)] [(1000000, 1000000)] (fun (v6_18, w1000000_19) => (.n, [(6, Bo v6_18)], [(1000000, [.sl (w1000000_19.map rS_impl_Bind)])])) (fun _ h => ?_) (fun q h => ?_)
 refine xFd rfl <| xLd rfl <| xEq rfl <| xMv rfl <| oIf 78 h rfl (fun q20 h => ?_) (fun q20 h => ?_)
 refine xFd rfl <| xLd rfl <| xLn rfl <| xFd rfl <| xLd rfl <| xLn rfl <| xEq rfl <| xPk rfl <| xMv rfl <| oIf 87 h rfl (fun q21 h => ?_) (fun q21 h => ?_)
 refine xFd rfl <| xLd rfl <| xFd rfl <| xLd rfl <| xMv rfl <| xC1 h (ih_spec_l7Each ·) rfl (fun c93_22 h => ?_)
 exact xPk rfl <| xAs rfl <| oNl <| eJ h rfl
 exact wSk rfl <| wSk rfl <| wSk rfl <| wSk rfl <| wSk rfl <| wSk rfl <| xPk rfl <| xAs rfl <| oNl <| eJ h rfl
 refine wSk rfl <| wSk rfl <| wSk rfl <| wSk rfl <| wSk rfl <| wSk rfl <| wSk rfl <| xPk rfl <| xMv rfl <| wSk rfl <| wSk rfl <| wSk rfl <| wSk rfl <| wSk rfl ?_
 exact wSk rfl <| xPk rfl <| xAs rfl <| oNl <| eJ h rfl
 obtain ⟨v6_18, w1000000_19⟩ := q
 refine cRt ?_
 cases h
 exact eR rfl rfl rfl rfl
 refine cSk <| cRs <| xFd rfl <| xLd rfl <| xLn rfl <| xSub rfl <| xAs rfl <| oNl <| cSq <| cRs <| oJn h [(99, 119)] [(1000000, 1000000)] (fun (v119_23, w1000000_24) => (.n, [(119, Bo v119_23)], [(1000000, [.sl (w1000000_24.map rS_impl_Bind)])])) (fun _ h => ?_) (fun q h => ?_)
 refine xFd rfl <| xLd rfl <| xNe rfl <| xMv rfl <| oIf 102 h rfl (fun q25 h => ?_) (fun q25 h => ?_)
 refine wSk rfl <| wSk rfl <| wSk rfl <| wSk rfl <| wSk rfl <| xPk rfl <| xMv rfl <| wSk rfl <| wSk rfl <| wSk rfl <| wSk rfl <| wSk rfl <| wSk rfl <| wSk rfl ?_
 exact wSk rfl <| wSk rfl <| xPk rfl <| oNl <| eJ h rfl
 refine xFd rfl <| xLd rfl <| xLn rfl <| xMv rfl <| xLt rfl <| xPk rfl <| xMv rfl <| oIf 109 h rfl (fun q26 h => ?_) (fun q26 h => ?_)
 exact wSk rfl <| wSk rfl <| wSk rfl <| wSk rfl <| wSk rfl <| wSk rfl <| wSk rfl <| wSk rfl <| wSk rfl <| xPk rfl <| oNl <| eJ h rfl
 refine xFd rfl <| xLd rfl <| xMv rfl <| wSl (rf := rS_impl_Expr) h rfl rfl rfl rfl .no (.so rfl) (fun a => by rw [rS_impl_Expr_eq]; rfl) rfl (fun v113_27 h => ?_)
 refine xFd rfl <| xLd rfl <| xMv rfl <| xC1 h (ih_spec_l7Each ·) rfl (fun c117_28 h => ?_)
 exact xNot rfl <| xPk rfl <| oNl <| eJ h rfl
 obtain ⟨v119_23, w1000000_24⟩ := q
 refine cIf h rfl (fun q29 h => ?_) (fun q29 h => ?_)
 refine cRs <| xAs rfl <| oNl <| cRt ?_
 cases h
 exact eR rfl rfl rfl rfl
 refine cSk <| cRs <| xFd rfl <| xLd rfl <| xMv rfl <| xIx h rS_impl_Expr_eq rfl (fun e123_30 h => ?_)
 refine xLd rfl <| xFd rfl <| xLd rfl <| xMv rfl <| wSl (rf := rS_impl_Term) h rfl rfl rfl rfl (.so rfl) .no (fun a => by rw [rS_impl_Term_eq]; rfl) rfl (fun v128_31 h => ?_)
 refine wBd [.int .i64 5, .int .i64 0, .str [], .sl (v128_31.map rS_impl_Term)] rfl rfl rfl rfl rfl rfl <| xMv rfl <| xC1 h (ih_spec_l7Match ·) rfl (fun c131_32 h => ?_)
 refine xAs rfl <| oNl <| cRt ?_
 cases h
 exact eR rfl rfl rfl rfl
def q_spec_l7Match : Nat → (Y_spec_l7Match) × (Y_spec_l7Each)
  | 0 => ((fun _ _ _ _ _ _ _ _ _ _ => none), (fun _ _ _ => none))
  | n + 1 => (s_spec_l7Match n ((q_spec_l7Match n).1) ((q_spec_l7Match n).2), s_spec_l7Each n ((q_spec_l7Match n).1) ((q_spec_l7Match n).2))
def p_spec_l7Match (n : Nat) : Y_spec_l7Match := (q_spec_l7Match n).1
def p_spec_l7Each (n : Nat) : Y_spec_l7Each := (q_spec_l7Match n).2
theorem bigs_spec_l7Match (n : Nat) : B_spec_l7Match (p_spec_l7Match n) ∧ B_spec_l7Each (p_spec_l7Each n) := by
  induction n with
  | zero => exact ⟨(fun h => nomatch h), (fun h => nomatch h)⟩
  | succ n ih => exact ⟨step_spec_l7Match (n := n) (ih.1) (ih.2), step_spec_l7Each (n := n) (ih.1) (ih.2)⟩
theorem big_spec_l7Match {n : Nat} : B_spec_l7Match (p_spec_l7Match n) := (bigs_spec_l7Match n).1
theorem big_spec_l7Each {n : Nat} : B_spec_l7Each (p_spec_l7Each n) := (bigs_spec_l7Match n).2
theorem p_spec_l7Match_succ (n : Nat) : p_spec_l7Match (n + 1) = s_spec_l7Match n (p_spec_l7Match n) (p_spec_l7Each n) := rfl
theorem p_spec_l7Each_succ (n : Nat) : p_spec_l7Each (n + 1) = s_spec_l7Each n (p_spec_l7Match n) (p_spec_l7Each n) := rfl
abbrev B_spec_Match (p : Int → Int → (List UInt8) → (List S_impl_Expr) → (List S_impl_Clause) → Int → Int → (List UInt8) → (List S_impl_Term) → Option ((List S_impl_Bind) × Bool)) : Prop := ∀ {t0_0 t0_1 : Int} {t0_2 : List UInt8} {t0_3 : List S_impl_Expr} {t0_4 : List S_impl_Clause} {t1_0 t1_1 : Int} {t1_2 : List UInt8} {t1_3 : List S_impl_Term} {r : (List S_impl_Bind) × Bool}, p t0_0 t0_1 t0_2 t0_3 t0_4 t1_0 t1_1 t1_2 t1_3 = some r → Big Try.prog τ An (.fn 51 [.one (.ag [.int .i64 t0_0, .int .i64 t0_1, .str t0_2, .sl (t0_3.map rS_impl_Expr), .sl (t0_4.map rS_impl_Clause)]), .one (.ag [.int .i64 t1_0, .int .i64 t1_1, .str t1_2, .sl (t1_3.map rS_impl_Term)])] [] (.tup [.c (.sl (r.1.map rS_impl_Bind)), .c (.bool r.2)]) none [] none)
def p_spec_Match (n : Nat) (t0_0 : Int) (t0_1 : Int) (t0_2 : List UInt8) (t0_3 : List S_impl_Expr) (t0_4 : List S_impl_Clause) (t1_0 : Int) (t1_1 : Int) (t1_2 : List UInt8) (t1_3 : List S_impl_Term) : Option ((List S_impl_Bind) × Bool) :=
  ((p_spec_PatOk n t0_0 t0_1 t0_2 t0_3 t0_4).bind fun c9_3 => bif !c9_3 then some (true, ([] : List S_impl_Bind)) else (p_spec_TermOk n t1_0 t1_1 t1_2 t1_3).bind fun c13_5 => bif !c13_5 then some (true, ([] : List S_impl_Bind)) else (p_spec_l7Match n t0_0 t0_1 t0_2 t0_3 t0_4 t1_0 t1_1 t1_2 t1_3 ([] : List S_impl_Bind)).bind fun c19_7 => some ((!c19_7.1), c19_7.2)).bind fun (v21_1, w6_2) => bif v21_1 then some (([] : List S_impl_Bind), false) else some (w6_2, true)
theorem big_spec_Match {n : Nat} : B_spec_Match (p_spec_Match n) := by
 intro t0_0 t0_1 t0_2 t0_3 t0_4 t1_0 t1_1 t1_2 t1_3 r h
 unfold p_spec_Match at h
 refine bF Try.func51 rfl rfl <| cRs <| xBx rfl <| xBx rfl <| wAe (Li rS_impl_Bind []) rfl rfl rfl rfl <| xAs rfl <| oRs <| wLt' (L := ([] : List S_impl_Bind)) (f := rS_impl_Bind) rfl rfl rfl rfl rfl rfl rfl <| xAz [.sl ([].map rS_impl_Bind)] rfl <| xSt rfl <| oNl <| cSq <| cRs <| oJn h [(8, 21)] [(6, 6)] (fun (v21_1, w6_2) => (.n, [(21, Bo v21_1)], [(6, [.sl (w6_2.map rS_impl_Bind)])])) (fun _ h => ?_) (fun q h => ?_)
 refine xLd rfl <| xC0 h (big_spec_PatOk ·) rfl (fun c9_3 h => ?_)
 refine xNot rfl <| xMv rfl <| oIf 11 h rfl (fun q4 h => ?_) (fun q4 h => ?_)
 exact wSk rfl <| wSk rfl <| wSk rfl <| xPk rfl <| xMv rfl <| wSk rfl <| wSk rfl <| wSk rfl <| wSk rfl <| xPk rfl <| oNl <| eJ h rfl
 refine xLd rfl <| xC0 h (big_spec_TermOk ·) rfl (fun c13_5 h => ?_)
 refine xNot rfl <| xPk rfl <| xMv rfl <| oIf 16 h rfl (fun q6 h => ?_) (fun q6 h => ?_)
 exact wSk rfl <| wSk rfl <| wSk rfl <| wSk rfl <| xPk rfl <| oNl <| eJ h rfl
 refine xLd rfl <| xLd rfl <| xC1 h (big_spec_l7Match ·) rfl (fun c19_7 h => ?_)
 exact xNot rfl <| xPk rfl <| oNl <| eJ h rfl
 obtain ⟨v21_1, w6_2⟩ := q
 refine cIf h rfl (fun q8 h => ?_) (fun q8 h => ?_)
 refine cRs <| wLt' (L := ([] : List S_impl_Bind)) (f := rS_impl_Bind) rfl rfl rfl rfl rfl rfl rfl <| xAs rfl <| xAs rfl <| oNl <| cRt ?_
 cases h
 exact eR rfl rfl rfl rfl
 refine cSk <| cRs <| xLd rfl <| xAs rfl <| xAs rfl <| oNl <| cRt ?_
 cases h
 exact eR rfl rfl rfl rfl
abbrev Y_laws_toTermS : Type := (List S_laws_Term) → Option ((List S_impl_Term))
abbrev B_laws_toTermS (p : Y_laws_toTermS) : Prop := ∀ {t0_0 : List S_laws_Term} {r : (List S_impl_Term)}, p t0_0 = some r → Big Try.prog τ An (.fn 35 [.one (.c (.sl (t0_0.map rS_laws_Term)))] [] (.one (.c (.sl (r.map rS_impl_Term)))) none [] none)
abbrev Y_laws_toTerm : Type := Int → Int → (List UInt8) → (List S_laws_Term) → Option (Int × Int × (List UInt8) × (List S_impl_Term))
abbrev B_laws_toTerm (p : Y_laws_toTerm) : Prop := ∀ {t0_0 t0_1 : Int} {t0_2 : List UInt8} {t0_3 : List S_laws_Term} {r : Int × Int × (List UInt8) × (List S_impl_Term)}, p t0_0 t0_1 t0_2 t0_3 = some r → Big Try.prog τ An (.fn 52 [.one (.ag [.int .i64 t0_0, .int .i64 t0_1, .str t0_2, .sl (t0_3.map rS_laws_Term)])] [] (.one (.ag [.int .i64 r.1, .int .i64 r.2.1, .str r.2.2.1, .sl (r.2.2.2.map rS_impl_Term)])) none [] none)
def p_laws_toTermS_b1 (n : Nat) (r_laws_toTerm : Y_laws_toTerm) (t0_0 : List S_laws_Term) : ((List S_impl_Term) × Int) → Option (((List S_impl_Term) × Int) ⊕ (((List S_impl_Term) × Int × Bool)))
  | (v3_2, v4_3) => bif decide (v4_3 < (t0_0.length : Int)) then (ix t0_0 v4_3).bind fun e18_8 => (r_laws_toTerm e18_8.f0 e18_8.f1 e18_8.f2 e18_8.f3).bind fun c20_9 => (ix v3_2 v4_3).bind fun e21_10 => (some (v3_2.set (Int.toNat v4_3) (S_impl_Term.mk c20_9.1 c20_9.2.1 c20_9.2.2.1 c20_9.2.2.2))).bind fun u3_11 => some (.inl (u3_11, (IntKind.wrap .i64 (v4_3 + (1 : Int))))) else some (.inr (v3_2, v4_3, false))
def s_laws_toTermS (n : Nat) (r_laws_toTermS : Y_laws_toTermS) (r_laws_toTerm : Y_laws_toTerm) (t0_0 : List S_laws_Term) : Option ((List S_impl_Term)) :=
  (ck (decide (0 ≤ (t0_0.length : Int) ∧ (t0_0.length : Int) ≤ maxLen ∧ 56 * (t0_0.length : Int) ≤ 281474976710656))).bind fun _ => (loopN (p_laws_toTermS_b1 n r_laws_toTerm t0_0) n ((List.replicate (Int.toNat (t0_0.length : Int)) (S_impl_Term.mk (0 : Int) (0 : Int) ([] : List UInt8) ([] : List S_impl_Term))), (0 : Int))).bind fun (v3_4, v4_5, v11_6) => some v3_4
theorem step_laws_toTermS {n : Nat} {r_laws_toTermS : Y_laws_toTermS} (ih_laws_toTermS : B_laws_toTermS r_laws_toTermS) {r_laws_toTerm : Y_laws_toTerm} (ih_laws_toTerm : B_laws_toTerm r_laws_toTerm) : B_laws_toTermS (s_laws_toTermS n r_laws_toTermS r_laws_toTerm) := by
 intro t0_0 r h
 unfold s_laws_toTermS at h
 refine bF Try.func35 rfl rfl <| cRs <| wAe (Li rS_impl_Term []) rfl rfl rfl rfl <| oRs <| xMv rfl <| xLn rfl <| oCk h (fun k7_0 h => ?_)
 refine wMk (z := S_impl_Term.mk (0 : Int) (0 : Int) ([] : List UInt8) ([] : List S_impl_Term)) (f := rS_impl_Term) k7_0 rfl rfl rfl rfl rfl rfl rfl <| xAs rfl <| oNl <| cSq <| cRs <| xAs rfl <| oNl <| cLp h [(3, 4), (8, 21)] [] (fun (v3_2, v4_3) => ([(3, Li rS_impl_Term v3_2), (4, I64 v4_3)], [])) (fun (v3_4, v4_5, v11_6) => (.e 0, [(3, Li rS_impl_Term v3_4), (4, I64 v4_5), (11, Bo v11_6)], [])) rfl (fun st _ h => ?_) (fun q h => ?_)
 obtain ⟨v3_2, v4_3⟩ := st
 unfold p_laws_toTermS_b1 at h
 refine cSq <| cRs <| xMv rfl <| xMv rfl <| xLn rfl <| xLt rfl <| oNl <| cIf h rfl (fun q7 h => ?_) (fun q7 h => ?_)
 refine cSk <| cSq <| cBk <| cRg <| wAl rfl rfl rfl rfl <| xMv rfl <| xMv rfl <| xMv rfl <| xIx h rS_laws_Term_eq rfl (fun e18_8 h => ?_)
 refine xLd rfl <| xC0 h (ih_laws_toTerm ·) rfl (fun c20_9 h => ?_)
 refine wIp (f := rS_impl_Term) h rfl rfl rfl rfl rfl rfl (fun a => by rw [rS_impl_Term_eq]; rfl) rfl (fun e21_10 ke21_10 h => ?_)
 refine wSpN (f := rS_impl_Term) (v' := S_impl_Term.mk c20_9.1 c20_9.2.1 c20_9.2.2.1 c20_9.2.2.2) h ke21_10 rfl rfl rfl rfl rfl rfl rfl (by rw [rS_impl_Term_eq]; rfl) (by rw [rS_impl_Term_eq, rS_impl_Term_mk]; rfl) (fun u3_11 h => ?_)
 exact oNl <| cRg <| xMv rfl <| xAdd rfl <| xAs rfl <| oNl <| eL h rfl
 exact cEx <| eX h rfl
 obtain ⟨v3_4, v4_5, v11_6⟩ := q
 refine cRs <| xMv rfl <| xAs rfl <| oNl <| cRt ?_
 cases h
 exact eR rfl rfl rfl rfl
def s_laws_toTerm (n : Nat) (r_laws_toTermS : Y_laws_toTermS) (r_laws_toTerm : Y_laws_toTerm) (t0_0 : Int) (t0_1 : Int) (t0_2 : List UInt8) (t0_3 : List S_laws_Term) : Option (Int × Int × (List UInt8) × (List S_impl_Term)) :=
  (r_laws_toTermS t0_3).bind fun c15_1 => some (t0_0, t0_1, t0_2, c15_1)
theorem step_laws_toTerm {n : Nat} {r_laws_toTermS : Y_laws_toTermS} (ih_laws_toTermS : B_laws_toTermS r_laws_toTermS) {r_laws_toTerm : Y_laws_toTerm} (ih_laws_toTerm : B_laws_toTerm r_laws_toTerm) : B_laws_toTerm (s_laws_toTerm n r_laws_toTermS r_laws_toTerm) := by
 intro t0_0 t0_1 t0_2 t0_3 r h
 unfold s_laws_toTerm at h
 refine bF Try.func52 rfl rfl <| cRs <| xBx rfl <| xAz [.int .i64 0, .int .i64 0, .str [], .sl ([].map rS_impl_Term)] rfl <| oRs <| xAz [.int .i64 0, .int .i64 0, .str [], .sl ([].map rS_impl_Term)] rfl <| oRs <| xFd rfl <| xLd rfl <| xFd rfl <| xSt rfl <| oRs <| xFd rfl <| xLd rfl ?_
 refine xFd rfl <| xSt rfl <| oRs <| xFd rfl <| xLd rfl <| xFd rfl <| xSt rfl <| oRs <| xFd rfl <| xLd rfl <| xC0 h (ih_laws_toTermS ·) rfl (fun c15_1 h => ?_)
 refine xFd rfl <| xSt rfl <| oRs <| xLd rfl <| xSt rfl <| oNl <| cRt ?_
 cases h
 exact eR rfl rfl rfl rfl
def q_laws_toTermS : Nat → (Y_laws_toTermS) × (Y_laws_toTerm)
  | 0 => ((fun _ => none), (fun _ _ _ _ => none))
  | n + 1 => (s_laws_toTermS n ((q_laws_toTermS n).1) ((q_laws_toTermS n).2), s_laws_toTerm n ((q_laws_toTermS n).1) ((q_laws_toTermS n).2))
def p_laws_toTermS (n : Nat) : Y_laws_toTermS := (q_laws_toTermS n).1
def p_laws_toTerm (n : Nat) : Y_laws_toTerm := (q_laws_toTermS n).2
theorem bigs_laws_toTermS (n : Nat) : B_laws_toTermS (p_laws_toTermS n) ∧ B_laws_toTerm (p_laws_toTerm n) := by
  induction n with
  | zero => exact ⟨(fun h => nomatch h), (fun h => nomatch h)⟩
  | succ n ih => exact ⟨step_laws_toTermS (n := n) (ih.1) (ih.2), step_laws_toTerm (n := n) (ih.1) (ih.2)⟩
theorem big_laws_toTermS {n : Nat} : B_laws_toTermS (p_laws_toTermS n) := (bigs_laws_toTermS n).1
theorem big_laws_toTerm {n : Nat} : B_laws_toTerm (p_laws_toTerm n) := (bigs_laws_toTermS n).2
theorem p_laws_toTermS_succ (n : Nat) : p_laws_toTermS (n + 1) = s_laws_toTermS n (p_laws_toTermS n) (p_laws_toTerm n) := rfl
theorem p_laws_toTerm_succ (n : Nat) : p_laws_toTerm (n + 1) = s_laws_toTerm n (p_laws_toTermS n) (p_laws_toTerm n) := rfl
abbrev B_laws_eqBind (p : (List UInt8) → Int → Int → (List UInt8) → (List S_impl_Term) → (List UInt8) → Int → Int → (List UInt8) → (List S_impl_Term) → Option (Bool)) : Prop := ∀ {t0_0 : List UInt8} {t0_1 t0_2 : Int} {t0_3 : List UInt8} {t0_4 : List S_impl_Term} {t1_0 : List UInt8} {t1_1 t1_2 : Int} {t1_3 : List UInt8} {t1_4 : List S_impl_Term} {r : Bool}, p t0_0 t0_1 t0_2 t0_3 t0_4 t1_0 t1_1 t1_2 t1_3 t1_4 = some r → Big Try.prog τ An (.fn 125 [.one (.ag [.str t0_0, .int .i64 t0_1, .int .i64 t0_2, .str t0_3, .sl (t0_4.map rS_impl_Term)]), .one (.ag [.str t1_0, .int .i64 t1_1, .int .i64 t1_2, .str t1_3, .sl (t1_4.map rS_impl_Term)])] [] (.one (.c (.bool r))) none [] none)
def p_laws_eqBind (n : Nat) (t0_0 : List UInt8) (t0_1 : Int) (t0_2 : Int) (t0_3 : List UInt8) (t0_4 : List S_impl_Term) (t1_0 : List UInt8) (t1_1 : Int) (t1_2 : Int) (t1_3 : List UInt8) (t1_4 : List S_impl_Term) : Option (Bool) :=
  bif !decide (t0_0 = t1_0) then some false else (p_laws_eqTerm n t0_1 t0_2 t0_3 t0_4 t1_1 t1_2 t1_3 t1_4).bind fun c14_2 => bif !c14_2 then some false else some true
theorem big_laws_eqBind {n : Nat} : B_laws_eqBind (p_laws_eqBind n) := by
 intro t0_0 t0_1 t0_2 t0_3 t0_4 t1_0 t1_1 t1_2 t1_3 t1_4 r h
 unfold p_laws_eqBind at h
 refine bF Try.func125 rfl rfl <| cRs <| xBx rfl <| xBx rfl <| xAs rfl <| oNl <| cSq <| cRs <| xFd rfl <| xLd rfl <| xFd rfl <| xLd rfl <| xNs rfl <| oNl <| cIf h rfl (fun q1 h => ?_) (fun q1 h => ?_)
 refine cRs <| xAs rfl <| oNl <| cRt ?_
 cases h
 exact eR rfl rfl rfl rfl
 refine cSk <| cSq <| cRs <| xFd rfl <| xLd rfl <| xFd rfl <| xLd rfl <| xC0 h (big_laws_eqTerm ·) rfl (fun c14_2 h => ?_)
 refine xNot rfl <| oNl <| cIf h rfl (fun q3 h => ?_) (fun q3 h => ?_)
 refine cRs <| xAs rfl <| oNl <| cRt ?_
 cases h
 exact eR rfl rfl rfl rfl
 refine cSk <| cRs <| xAs rfl <| oNl <| cRt ?_
 cases h
 exact eR rfl rfl rfl rfl
abbrev B_laws_eqBindS (p : (List S_impl_Bind) → (List S_impl_Bind) → Option (Bool)) : Prop := ∀ {t0_0 t1_0 : List S_impl_Bind} {r : Bool}, p t0_0 t1_0 = some r → Big Try.prog τ An (.fn 53 [.one (.c (.sl (t0_0.map rS_impl_Bind))), .one (.c (.sl (t1_0.map rS_impl_Bind)))] [] (.one (.c (.bool r))) none [] none)
def p_laws_eqBindS_b1 (n : Nat) (t0_0 : List S_impl_Bind) (t1_0 : List S_impl_Bind) : (Int) → Option ((Int) ⊕ ((Bool) ⊕ (Int × Bool)))
  | v5_2 => bif decide (v5_2 < (t0_0.length : Int)) then (ix t0_0 v5_2).bind fun e19_7 => (ix t1_0 v5_2).bind fun e23_8 => (p_laws_eqBind n e19_7.f0 e19_7.f1 e19_7.f2 e19_7.f3 e19_7.f4 e23_8.f0 e23_8.f1 e23_8.f2 e23_8.f3 e23_8.f4).bind fun c25_9 => bif !c25_9 then some (.inr (.inl false)) else some (.inl (IntKind.wrap .i64 (v5_2 + (1 : Int)))) else some (.inr (.inr (v5_2, false)))
def p_laws_eqBindS (n : Nat) (t0_0 : List S_impl_Bind) (t1_0 : List S_impl_Bind) : Option (Bool) :=
  bif !decide ((t0_0.length : Int) = (t1_0.length : Int)) then some false else (loopN (p_laws_eqBindS_b1 n t0_0 t1_0) n (0 : Int)).bind fun q => (match q with | .inl v4_3 => some v4_3 | .inr (v5_4, v14_5) => some true)
theorem big_laws_eqBindS {n : Nat} : B_laws_eqBindS (p_laws_eqBindS n) := by
 intro t0_0 t1_0 r h
 unfold p_laws_eqBindS at h
 refine bF Try.func53 rfl rfl <| cRs <| xAs rfl <| oNl <| cSq <| cRs <| xMv rfl <| xLn rfl <| xMv rfl <| xLn rfl <| xNe rfl <| oNl <| cIf h rfl (fun q1 h => ?_) (fun q1 h => ?_)
 refine cRs <| xAs rfl <| oNl <| cRt ?_
 cases h
 exact eR rfl rfl rfl rfl
 refine cSk <| cSq <| cRs <| xAs rfl <| oNl <| cLp h [(4, 5), (11, 26)] [] (fun v5_2 => ([(5, I64 v5_2)], [])) (fun q => match q with | .inl v4_3 => (.r, [(4, Bo v4_3)], []) | .inr (v5_4, v14_5) => (.e 0, [(5, I64 v5_4), (14, Bo v14_5)], [])) rfl (fun v5_2 _ h => ?_) (fun q h => ?_)
 unfold p_laws_eqBindS_b1 at h
 refine cSq <| cRs <| xMv rfl <| xMv rfl <| xLn rfl <| xLt rfl <| oNl <| cIf h rfl (fun q6 h => ?_) (fun q6 h => ?_)
 refine cSk <| cSq <| cBk <| cRs <| xMv rfl <| xMv rfl <| xIx h rS_impl_Bind_eq rfl (fun e19_7 h => ?_)
 refine xLd rfl <| xMv rfl <| xMv rfl <| xIx h rS_impl_Bind_eq rfl (fun e23_8 h => ?_)
 refine xLd rfl <| xC0 h (big_laws_eqBind ·) rfl (fun c25_9 h => ?_)
 refine xNot rfl <| oNl <| cIf h rfl (fun q10 h => ?_) (fun q10 h => ?_)
 exact cRs <| xAs rfl <| oNl <| cRt <| eXr h rfl
 exact cSk <| cRg <| xMv rfl <| xAdd rfl <| xAs rfl <| oNl <| eL h rfl
 exact cEx <| eX h rfl
 rcases q with v4_3 | ⟨v5_4, v14_5⟩
 cases h
 exact eR rfl rfl rfl rfl
 refine cRs <| xAs rfl <| oNl <| cRt ?_
 cases h
 exact eR rfl rfl rfl rfl
abbrev B_laws_markBindS (p : (List S_impl_Bind) → Int → Option (Int × (List S_impl_Bind))) : Prop := ∀ {t0_0 : List S_impl_Bind} {t1_0 : Int} {r : Int × (List S_impl_Bind)}, p t0_0 t1_0 = some r → Big Try.prog τ An (.fn 54 [.one (.c (.sl (t0_0.map rS_impl_Bind))), .one (.c (.int .i64 t1_0))] [] (.one (.c (.int .i64 r.1))) (some (.sl (r.2.map rS_impl_Bind))) [] none)
def p_laws_markBindS_b1 (n : Nat) : ((List S_impl_Bind) × Int × Int) → Option (((List S_impl_Bind) × Int × Int) ⊕ (((List S_impl_Bind) × Int × Int × Bool)))
  | (v0_1, v1_2, v5_3) => bif decide (v5_3 < (v0_1.length : Int)) then (p_laws_markText n v1_2).bind fun c15_9 => (ix v0_1 v5_3).bind fun e16_10 => (some (v0_1.set (Int.toNat v5_3) (S_impl_Bind.mk c15_9 e16_10.f1 e16_10.f2 e16_10.f3 e16_10.f4))).bind fun u0_11 => (ix u0_11 v5_3).bind fun e23_12 => (some (u0_11.set (Int.toNat v5_3) (S_impl_Bind.mk e23_12.f0 (IntKind.wrap .i64 (v1_2 + (1 : Int))) e23_12.f2 e23_12.f3 e23_12.f4))).bind fun u0_13 => (ix u0_13 v5_3).bind fun e31_14 => (some (u0_13.set (Int.toNat v5_3) (S_impl_Bind.mk e31_14.f0 e31_14.f1 (IntKind.wrap .i64 ((IntKind.wrap .i64 (v1_2 + (1 : Int))) + (1 : Int))) e31_14.f3 e31_14.f4))).bind fun u0_15 => (p_laws_markText n (IntKind.wrap .i64 ((IntKind.wrap .i64 ((IntKind.wrap .i64 (v1_2 + (1 : Int))) + (1 : Int))) + (1 : Int)))).bind fun c39_16 => (ix u0_15 v5_3).bind fun e40_17 => (some (u0_15.set (Int.toNat v5_3) (S_impl_Bind.mk e40_17.f0 e40_17.f1 e40_17.f2 c39_16 e40_17.f4))).bind fun u0_18 => (ix u0_18 v5_3).bind fun e47_19 => (p_laws_markTermS n e47_19.f4 (IntKind.wrap .i64 ((IntKind.wrap .i64 ((IntKind.wrap .i64 ((IntKind.wrap .i64 (v1_2 + (1 : Int))) + (1 : Int))) + (1 : Int))) + (1 : Int)))).bind fun c52_20 => (some (u0_18.set (Int.toNat v5_3) (S_impl_Bind.mk e47_19.f0 e47_19.f1 e47_19.f2 e47_19.f3 c52_20.2))).bind fun u0_21 => some (.inl (u0_21, c52_20.1, (IntKind.wrap .i64 (v5_3 + (1 : Int))))) else some (.inr (v0_1, v1_2, v5_3, false))
def p_laws_markBindS (n : Nat) (t0_0 : List S_impl_Bind) (t1_0 : Int) : Option (Int × (List S_impl_Bind)) :=
  (loopN (p_laws_markBindS_b1 n) n (t0_0, t1_0, (0 : Int))).bind fun (v0_4, v1_5, v5_6, v9_7) => some (v1_5, v0_4)
theorem big_laws_markBindS {n : Nat} : B_laws_markBindS (p_laws_markBindS n) := by
 intro t0_0 t1_0 r h
 unfold p_laws_markBindS at h
 refine bFi Try.func54 rfl rfl <| cRs <| xAs rfl <| oNl <| cSq <| cRs <| xAs rfl <| oNl <| cLp h [(0, 1), (5, 52)] [] (fun (v0_1, v1_2, v5_3) => ([(0, Li rS_impl_Bind v0_1), (1, I64 v1_2), (5, I64 v5_3)], [])) (fun (v0_4, v1_5, v5_6, v9_7) => (.e 0, [(0, Li rS_impl_Bind v0_4), (1, I64 v1_5), (5, I64 v5_6), (9, Bo v9_7)], [])) rfl (fun st _ h => ?_) (fun q h => ?_)
 obtain ⟨v0_1, v1_2, v5_3⟩ := st
 unfold p_laws_markBindS_b1 at h
 refine cSq <| cRs <| xMv rfl <| xMv rfl <| xLn rfl <| xLt rfl <| oNl <| cIf h rfl (fun q8 h => ?_) (fun q8 h => ?_)
 refine cSk <| cSq <| cBk <| cRs <| wAl rfl rfl rfl rfl <| xMv rfl <| xMv rfl <| xC0 h (big_laws_markText ·) rfl (fun c15_9 h => ?_)
 refine wIp (f := rS_impl_Bind) h rfl rfl rfl rfl rfl rfl (fun _ => rfl) rfl (fun e16_10 ke16_10 h => ?_)
 refine xFd rfl <| wSpN (f := rS_impl_Bind) (v' := S_impl_Bind.mk c15_9 e16_10.f1 e16_10.f2 e16_10.f3 e16_10.f4) h ke16_10 rfl rfl rfl rfl rfl rfl rfl rfl rfl (fun u0_11 h => ?_)
 refine oRs <| xMv rfl <| xAdd rfl <| xAs rfl <| oRs <| wAl rfl rfl rfl rfl <| xMv rfl <| xMv rfl <| wIp (f := rS_impl_Bind) h rfl rfl rfl rfl rfl rfl (fun _ => rfl) rfl (fun e23_12 ke23_12 h => ?_)
 refine xFd rfl <| xFd rfl <| wSpN (f := rS_impl_Bind) (v' := S_impl_Bind.mk e23_12.f0 (IntKind.wrap .i64 (v1_2 + (1 : Int))) e23_12.f2 e23_12.f3 e23_12.f4) h ke23_12 rfl rfl rfl rfl rfl rfl rfl rfl rfl (fun u0_13 h => ?_)
 refine oRs <| xMv rfl <| xAdd rfl <| xAs rfl <| oRs <| wAl rfl rfl rfl rfl <| xMv rfl <| xMv rfl <| wIp (f := rS_impl_Bind) h rfl rfl rfl rfl rfl rfl (fun _ => rfl) rfl (fun e31_14 ke31_14 h => ?_)
 refine xFd rfl <| xFd rfl <| wSpN (f := rS_impl_Bind) (v' := S_impl_Bind.mk e31_14.f0 e31_14.f1 (IntKind.wrap .i64 ((IntKind.wrap .i64 (v1_2 + (1 : Int))) + (1 : Int))) e31_14.f3 e31_14.f4) h ke31_14 rfl rfl rfl rfl rfl rfl rfl rfl rfl (fun u0_15 h => ?_)
 refine oRs <| xMv rfl <| xAdd rfl <| xAs rfl <| oRs <| wAl rfl rfl rfl rfl <| xMv rfl <| xMv rfl <| xC0 h (big_laws_markText ·) rfl (fun c39_16 h => ?_)
 refine wIp (f := rS_impl_Bind) h rfl rfl rfl rfl rfl rfl (fun _ => rfl) rfl (fun e40_17 ke40_17 h => ?_)
 refine xFd rfl <| xFd rfl <| wSpN (f := rS_impl_Bind) (v' := S_impl_Bind.mk e40_17.f0 e40_17.f1 e40_17.f2 c39_16 e40_17.f4) h ke40_17 rfl rfl rfl rfl rfl rfl rfl rfl rfl (fun u0_18 h => ?_)
 refine oRs <| xMv rfl <| xAdd rfl <| xAs rfl <| oNl <| cRg <| wAl rfl rfl rfl rfl <| xMv rfl <| wIp (f := rS_impl_Bind) h rfl rfl rfl rfl rfl rfl (fun _ => rfl) rfl (fun e47_19 ke47_19 h => ?_)
 refine xFd rfl <| xFd rfl <| wLq (f := rS_impl_Bind) ke47_19 rfl rfl rfl rfl rfl rfl rfl rfl rfl rfl <| xMv rfl <| xIoN rS_impl_Bind (fun c52_20 => u0_18.set (Int.toNat v5_3) (S_impl_Bind.mk e47_19.f0 e47_19.f1 e47_19.f2 e47_19.f3 c52_20.2)) h (big_laws_markTermS ·) rfl (nav1 ke47_19 rfl) (fun _ => setAt1 ke47_19 rfl rfl) (fun c52_20 u0_21 h => ?_)
 exact xAs rfl <| oNl <| cRg <| xMv rfl <| xAdd rfl <| xAs rfl <| oNl <| eL h rfl
 exact cEx <| eX h rfl
 obtain ⟨v0_4, v1_5, v5_6, v9_7⟩ := q
 refine cRs <| xMv rfl <| xAs rfl <| oNl <| cRt ?_
 cases h
 exact eRi rfl rfl rfl rfl rfl
abbrev Y_laws_heldTermS : Type := (List S_impl_Term) → Int → Option (Int)
abbrev B_laws_heldTermS (p : Y_laws_heldTermS) : Prop := ∀ {t0_0 : List S_impl_Term} {t1_0 : Int} {r : Int}, p t0_0 t1_0 = some r → Big Try.prog τ An (.fn 44 [.one (.c (.sl (t0_0.map rS_impl_Term))), .one (.c (.int .i64 t1_0))] [] (.one (.c (.int .i64 r))) none [] none)
def p_laws_heldTermS_b1 (n : Nat) (r_laws_heldTermS : Y_laws_heldTermS) (t0_0 : List S_impl_Term) : (Int × Int) → Option ((Int × Int) ⊕ ((Int) ⊕ (Int × Int × Bool)))
  | (v1_1, v5_2) => bif decide (v5_2 < (t0_0.length : Int)) then (ix t0_0 v5_2).bind fun e14_8 => bif !decide (e14_8.f0 = v1_1) then some (.inr (.inl ((-1) : Int))) else (ix t0_0 v5_2).bind fun e23_10 => bif !decide (e23_10.f1 = (IntKind.wrap .i64 (v1_1 + (1 : Int)))) then some (.inr (.inl ((-1) : Int))) else (ix t0_0 v5_2).bind fun e32_12 => (p_laws_markText n (IntKind.wrap .i64 ((IntKind.wrap .i64 (v1_1 + (1 : Int))) + (1 : Int)))).bind fun c36_13 => bif !decide (e32_12.f2 = c36_13) then some (.inr (.inl ((-1) : Int))) else (ix t0_0 v5_2).bind fun e42_15 => (r_laws_heldTermS e42_15.f3 (IntKind.wrap .i64 ((IntKind.wrap .i64 ((IntKind.wrap .i64 (v1_1 + (1 : Int))) + (1 : Int))) + (1 : Int)))).bind fun c46_16 => bif decide (c46_16 < (0 : Int)) then some (.inr (.inl ((-1) : Int))) else some (.inl (c46_16, (IntKind.wrap .i64 (v5_2 + (1 : Int))))) else some (.inr (.inr (v1_1, v5_2, false)))
def s_laws_heldTermS (n : Nat) (r_laws_heldTermS : Y_laws_heldTermS) (t0_0 : List S_impl_Term) (t1_0 : Int) : Option (Int) :=
  (loopN (p_laws_heldTermS_b1 n r_laws_heldTermS t0_0) n (t1_0, (0 : Int))).bind fun q => (match q with | .inl v4_3 => some v4_3 | .inr (v1_4, v5_5, v9_6) => some v1_4)
theorem step_laws_heldTermS {n : Nat} {r_laws_heldTermS : Y_laws_heldTermS} (ih_laws_heldTermS : B_laws_heldTermS r_laws_heldTermS) : B_laws_heldTermS (s_laws_heldTermS n r_laws_heldTermS) := by
 intro t0_0 t1_0 r h
 unfold s_laws_heldTermS at h
 refine bF Try.func44 rfl rfl <| cRs <| xAs rfl <| oNl <| cSq <| cRs <| xAs rfl <| oNl <| cLp h [(1, 1), (4, 48)] [] (fun (v1_1, v5_2) => ([(1, I64 v1_1), (5, I64 v5_2)], [])) (fun q => match q with | .inl v4_3 => (.r, [(4, I64 v4_3)], []) | .inr (v1_4, v5_5, v9_6) => (.e 0, [(1, I64 v1_4), (5, I64 v5_5), (9, Bo v9_6)], [])) rfl (fun st _ h => ?_) (fun q h => ?_)
 obtain ⟨v1_1, v5_2⟩ := st
 unfold p_laws_heldTermS_b1 at h
 refine cSq <| cRs <| xMv rfl <| xMv rfl <| xLn rfl <| xLt rfl <| oNl <| cIf h rfl (fun q7 h => ?_) (fun q7 h => ?_)
 refine cSk <| cSq <| cBk <| cSq <| cRs <| xMv rfl <| xMv rfl <| xIx h rS_impl_Term_eq rfl (fun e14_8 h => ?_)
 refine xFd rfl <| xLd rfl <| xMv rfl <| xNe rfl <| oNl <| cIf h rfl (fun q9 h => ?_) (fun q9 h => ?_)
 exact cRs <| xAs rfl <| oNl <| cRt <| eXr h rfl
 refine cSk <| cRs <| xMv rfl <| xAdd rfl <| xAs rfl <| oNl <| cSq <| cRs <| xMv rfl <| xMv rfl <| xIx h rS_impl_Term_eq rfl (fun e23_10 h => ?_)
 refine xFd rfl <| xLd rfl <| xMv rfl <| xNe rfl <| oNl <| cIf h rfl (fun q11 h => ?_) (fun q11 h => ?_)
 exact cRs <| xAs rfl <| oNl <| cRt <| eXr h rfl
 refine cSk <| cRs <| xMv rfl <| xAdd rfl <| xAs rfl <| oNl <| cSq <| cRs <| xMv rfl <| xMv rfl <| xIx h rS_impl_Term_eq rfl (fun e32_12 h => ?_)
 refine xFd rfl <| xLd rfl <| xMv rfl <| xC0 h (big_laws_markText ·) rfl (fun c36_13 h => ?_)
 refine xNs rfl <| oNl <| cIf h rfl (fun q14 h => ?_) (fun q14 h => ?_)
 exact cRs <| xAs rfl <| oNl <| cRt <| eXr h rfl
 refine cSk <| cRs <| xMv rfl <| xAdd rfl <| xAs rfl <| oRs <| xMv rfl <| xMv rfl <| xIx h rS_impl_Term_eq rfl (fun e42_15 h => ?_)
 refine xFd rfl <| xLd rfl <| xMv rfl <| xC0 h (ih_laws_heldTermS ·) rfl (fun c46_16 h => ?_)
 refine xAs rfl <| oRs <| xMv rfl <| xLt rfl <| oNl <| cIf h rfl (fun q17 h => ?_) (fun q17 h => ?_)
 exact cRs <| xAs rfl <| oNl <| cRt <| eXr h rfl
 exact cSk <| cRg <| xMv rfl <| xAdd rfl <| xAs rfl <| oNl <| eL h rfl
 exact cEx <| eX h rfl
 rcases q with v4_3 | ⟨v1_4, v5_5, v9_6⟩
 cases h
 exact eR rfl rfl rfl rfl
 refine cRs <| xMv rfl <| xAs rfl <| oNl <| cRt ?_
 cases h
 exact eR rfl rfl rfl rfl
def q_laws_heldTermS : Nat → (Y_laws_heldTermS)
  | 0 => (fun _ _ => none)
  | n + 1 => s_laws_heldTermS n (q_laws_heldTermS n)
def p_laws_heldTermS (n : Nat) : Y_laws_heldTermS := q_laws_heldTermS n
theorem bigs_laws_heldTermS (n : Nat) : B_laws_heldTermS (p_laws_heldTermS n) := by
  induction n with
  | zero => exact (fun h => nomatch h)
  | succ n ih => exact step_laws_heldTermS (n := n) ih
theorem big_laws_heldTermS {n : Nat} : B_laws_heldTermS (p_laws_heldTermS n) := (bigs_laws_heldTermS n)
theorem p_laws_heldTermS_succ (n : Nat) : p_laws_heldTermS (n + 1) = s_laws_heldTermS n (p_laws_heldTermS n) := rfl
abbrev B_laws_heldBindS (p : (List S_impl_Bind) → Int → Option (Int)) : Prop := ∀ {t0_0 : List S_impl_Bind} {t1_0 : Int} {r : Int}, p t0_0 t1_0 = some r → Big Try.prog τ An (.fn 55 [.one (.c (.sl (t0_0.map rS_impl_Bind))), .one (.c (.int .i64 t1_0))] [] (.one (.c (.int .i64 r))) none [] none)
def p_laws_heldBindS_b1 (n : Nat) (t0_0 : List S_impl_Bind) : (Int × Int) → Option ((Int × Int) ⊕ ((Int) ⊕ (Int × Int × Bool)))
  | (v1_1, v5_2) => bif decide (v5_2 < (t0_0.length : Int)) then (ix t0_0 v5_2).bind fun e14_8 => (p_laws_markText n v1_1).bind fun c18_9 => bif !decide (e14_8.f0 = c18_9) then some (.inr (.inl ((-1) : Int))) else (ix t0_0 v5_2).bind fun e24_11 => bif !decide (e24_11.f1 = (IntKind.wrap .i64 (v1_1 + (1 : Int)))) then some (.inr (.inl ((-1) : Int))) else (ix t0_0 v5_2).bind fun e34_13 => bif !decide (e34_13.f2 = (IntKind.wrap .i64 ((IntKind.wrap .i64 (v1_1 + (1 : Int))) + (1 : Int)))) then some (.inr (.inl ((-1) : Int))) else (ix t0_0 v5_2).bind fun e44_15 => (p_laws_markText n (IntKind.wrap .i64 ((IntKind.wrap .i64 ((IntKind.wrap .i64 (v1_1 + (1 : Int))) + (1 : Int))) + (1 : Int)))).bind fun c49_16 => bif !decide (e44_15.f3 = c49_16) then some (.inr (.inl ((-1) : Int))) else (ix t0_0 v5_2).bind fun e55_18 => (p_laws_heldTermS n e55_18.f4 (IntKind.wrap .i64 ((IntKind.wrap .i64 ((IntKind.wrap .i64 ((IntKind.wrap .i64 (v1_1 + (1 : Int))) + (1 : Int))) + (1 : Int))) + (1 : Int)))).bind fun c60_19 => bif decide (c60_19 < (0 : Int)) then some (.inr (.inl ((-1) : Int))) else some (.inl (c60_19, (IntKind.wrap .i64 (v5_2 + (1 : Int))))) else some (.inr (.inr (v1_1, v5_2, false)))
def p_laws_heldBindS (n : Nat) (t0_0 : List S_impl_Bind) (t1_0 : Int) : Option (Int) :=
  (loopN (p_laws_heldBindS_b1 n t0_0) n (t1_0, (0 : Int))).bind fun q => (match q with | .inl v4_3 => some v4_3 | .inr (v1_4, v5_5, v9_6) => some v1_4)
theorem big_laws_heldBindS {n : Nat} : B_laws_heldBindS (p_laws_heldBindS n) := by
 intro t0_0 t1_0 r h
 unfold p_laws_heldBindS at h
 refine bF Try.func55 rfl rfl <| cRs <| xAs rfl <| oNl <| cSq <| cRs <| xAs rfl <| oNl <| cLp h [(1, 1), (4, 62)] [] (fun (v1_1, v5_2) => ([(1, I64 v1_1), (5, I64 v5_2)], [])) (fun q => match q with | .inl v4_3 => (.r, [(4, I64 v4_3)], []) | .inr (v1_4, v5_5, v9_6) => (.e 0, [(1, I64 v1_4), (5, I64 v5_5), (9, Bo v9_6)], [])) rfl (fun st _ h => ?_) (fun q h => ?_)
 obtain ⟨v1_1, v5_2⟩ := st
 unfold p_laws_heldBindS_b1 at h
 refine cSq <| cRs <| xMv rfl <| xMv rfl <| xLn rfl <| xLt rfl <| oNl <| cIf h rfl (fun q7 h => ?_) (fun q7 h => ?_)
 refine cSk <| cSq <| cBk <| cSq <| cRs <| xMv rfl <| xMv rfl <| xIx h rS_impl_Bind_eq rfl (fun e14_8 h => ?_)
 refine xFd rfl <| xLd rfl <| xMv rfl <| xC0 h (big_laws_markText ·) rfl (fun c18_9 h => ?_)
 refine xNs rfl <| oNl <| cIf h rfl (fun q10 h => ?_) (fun q10 h => ?_)
 exact cRs <| xAs rfl <| oNl <| cRt <| eXr h rfl
 refine cSk <| cRs <| xMv rfl <| xAdd rfl <| xAs rfl <| oNl <| cSq <| cRs <| xMv rfl <| xMv rfl <| xIx h rS_impl_Bind_eq rfl (fun e24_11 h => ?_)
 refine xFd rfl <| xFd rfl <| xLd rfl <| xMv rfl <| xNe rfl <| oNl <| cIf h rfl (fun q12 h => ?_) (fun q12 h => ?_)
 exact cRs <| xAs rfl <| oNl <| cRt <| eXr h rfl
 refine cSk <| cRs <| xMv rfl <| xAdd rfl <| xAs rfl <| oNl <| cSq <| cRs <| xMv rfl <| xMv rfl <| xIx h rS_impl_Bind_eq rfl (fun e34_13 h => ?_)
 refine xFd rfl <| xFd rfl <| xLd rfl <| xMv rfl <| xNe rfl <| oNl <| cIf h rfl (fun q14 h => ?_) (fun q14 h => ?_)
 exact cRs <| xAs rfl <| oNl <| cRt <| eXr h rfl
 refine cSk <| cRs <| xMv rfl <| xAdd rfl <| xAs rfl <| oNl <| cSq <| cRs <| xMv rfl <| xMv rfl <| xIx h rS_impl_Bind_eq rfl (fun e44_15 h => ?_)
 refine xFd rfl <| xFd rfl <| xLd rfl <| xMv rfl <| xC0 h (big_laws_markText ·) rfl (fun c49_16 h => ?_)
 refine xNs rfl <| oNl <| cIf h rfl (fun q17 h => ?_) (fun q17 h => ?_)
 exact cRs <| xAs rfl <| oNl <| cRt <| eXr h rfl
 refine cSk <| cRs <| xMv rfl <| xAdd rfl <| xAs rfl <| oRs <| xMv rfl <| xMv rfl <| xIx h rS_impl_Bind_eq rfl (fun e55_18 h => ?_)
 refine xFd rfl <| xFd rfl <| xLd rfl <| xMv rfl <| xC0 h (big_laws_heldTermS ·) rfl (fun c60_19 h => ?_)
 refine xAs rfl <| oRs <| xMv rfl <| xLt rfl <| oNl <| cIf h rfl (fun q20 h => ?_) (fun q20 h => ?_)
 exact cRs <| xAs rfl <| oNl <| cRt <| eXr h rfl
 exact cSk <| cRg <| xMv rfl <| xAdd rfl <| xAs rfl <| oNl <| eL h rfl
 exact cEx <| eX h rfl
 rcases q with v4_3 | ⟨v1_4, v5_5, v9_6⟩
 cases h
 exact eR rfl rfl rfl rfl
 refine cRs <| xMv rfl <| xAs rfl <| oNl <| cRt ?_
 cases h
 exact eR rfl rfl rfl rfl
abbrev Y_laws_markClauseS : Type := (List S_impl_Clause) → Int → Option (Int × (List S_impl_Clause))
abbrev B_laws_markClauseS (p : Y_laws_markClauseS) : Prop := ∀ {t0_0 : List S_impl_Clause} {t1_0 : Int} {r : Int × (List S_impl_Clause)}, p t0_0 t1_0 = some r → Big Try.prog τ An (.fn 117 [.one (.c (.sl (t0_0.map rS_impl_Clause))), .one (.c (.int .i64 t1_0))] [] (.one (.c (.int .i64 r.1))) (some (.sl (r.2.map rS_impl_Clause))) [] none)
abbrev Y_laws_markExprS : Type := (List S_impl_Expr) → Int → Option (Int × (List S_impl_Expr))
abbrev B_laws_markExprS (p : Y_laws_markExprS) : Prop := ∀ {t0_0 : List S_impl_Expr} {t1_0 : Int} {r : Int × (List S_impl_Expr)}, p t0_0 t1_0 = some r → Big Try.prog τ An (.fn 116 [.one (.c (.sl (t0_0.map rS_impl_Expr))), .one (.c (.int .i64 t1_0))] [] (.one (.c (.int .i64 r.1))) (some (.sl (r.2.map rS_impl_Expr))) [] none)
def p_laws_markClauseS_b1 (n : Nat) (r_laws_markClauseS : Y_laws_markClauseS) (r_laws_markExprS : Y_laws_markExprS) : ((List S_impl_Clause) × Int × Int) → Option (((List S_impl_Clause) × Int × Int) ⊕ (((List S_impl_Clause) × Int × Int × Bool)))
  | (v0_1, v1_2, v5_3) => bif decide (v5_3 < (v0_1.length : Int)) then (ix v0_1 v5_3).bind fun e15_9 => (some (v0_1.set (Int.toNat v5_3) (S_impl_Clause.mk v1_2 e15_9.f1 e15_9.f2 e15_9.f3 e15_9.f4 e15_9.f5 e15_9.f6 e15_9.f7 e15_9.f8 e15_9.f9))).bind fun u0_10 => (ix u0_10 v5_3).bind fun e23_11 => (some (u0_10.set (Int.toNat v5_3) (S_impl_Clause.mk e23_11.f0 (IntKind.wrap .i64 (v1_2 + (1 : Int))) e23_11.f2 e23_11.f3 e23_11.f4 e23_11.f5 e23_11.f6 e23_11.f7 e23_11.f8 e23_11.f9))).bind fun u0_12 => (p_laws_markText n (IntKind.wrap .i64 ((IntKind.wrap .i64 (v1_2 + (1 : Int))) + (1 : Int)))).bind fun c31_13 => (ix u0_12 v5_3).bind fun e32_14 => (some (u0_12.set (Int.toNat v5_3) (S_impl_Clause.mk e32_14.f0 e32_14.f1 c31_13 e32_14.f3 e32_14.f4 e32_14.f5 e32_14.f6 e32_14.f7 e32_14.f8 e32_14.f9))).bind fun u0_15 => (ix u0_15 v5_3).bind fun e39_16 => (r_laws_markExprS e39_16.f3 (IntKind.wrap .i64 ((IntKind.wrap .i64 ((IntKind.wrap .i64 (v1_2 + (1 : Int))) + (1 : Int))) + (1 : Int)))).bind fun c44_17 => (some (u0_15.set (Int.toNat v5_3) (S_impl_Clause.mk e39_16.f0 e39_16.f1 e39_16.f2 c44_17.2 e39_16.f4 e39_16.f5 e39_16.f6 e39_16.f7 e39_16.f8 e39_16.f9))).bind fun u0_18 => (ix u0_18 v5_3).bind fun e47_19 => (r_laws_markClauseS e47_19.f4 c44_17.1).bind fun c52_20 => (some (u0_18.set (Int.toNat v5_3) (S_impl_Clause.mk e47_19.f0 e47_19.f1 e47_19.f2 e47_19.f3 c52_20.2 e47_19.f5 e47_19.f6 e47_19.f7 e47_19.f8 e47_19.f9))).bind fun u0_21 => (ix u0_21 v5_3).bind fun e56_22 => (some (u0_21.set (Int.toNat v5_3) (S_impl_Clause.mk e56_22.f0 e56_22.f1 e56_22.f2 e56_22.f3 e56_22.f4 c52_20.1 e56_22.f6 e56_22.f7 e56_22.f8 e56_22.f9))).bind fun u0_23 => (ix u0_23 v5_3).bind fun e64_24 => (some (u0_23.set (Int.toNat v5_3) (S_impl_Clause.mk e64_24.f0 e64_24.f1 e64_24.f2 e64_24.f3 e64_24.f4 e64_24.f5 (IntKind.wrap .i64 (c52_20.1 + (1 : Int))) e64_24.f7 e64_24.f8 e64_24.f9))).bind fun u0_25 => (p_laws_markText n (IntKind.wrap .i64 ((IntKind.wrap .i64 (c52_20.1 + (1 : Int))) + (1 : Int)))).bind fun c72_26 => (ix u0_25 v5_3).bind fun e73_27 => (some (u0_25.set (Int.toNat v5_3) (S_impl_Clause.mk e73_27.f0 e73_27.f1 e73_27.f2 e73_27.f3 e73_27.f4 e73_27.f5 e73_27.f6 c72_26 e73_27.f8 e73_27.f9))).bind fun u0_28 => (ix u0_28 v5_3).bind fun e80_29 => (r_laws_markExprS e80_29.f8 (IntKind.wrap .i64 ((IntKind.wrap .i64 ((IntKind.wrap .i64 (c52_20.1 + (1 : Int))) + (1 : Int))) + (1 : Int)))).bind fun c85_30 => (some (u0_28.set (Int.toNat v5_3) (S_impl_Clause.mk e80_29.f0 e80_29.f1 e80_29.f2 e80_29.f3 e80_29.f4 e80_29.f5 e80_29.f6 e80_29.f7 c85_30.2 e80_29.f9))).bind fun u0_31 => (ix u0_31 v5_3).bind fun e88_32 => (r_laws_markClauseS e88_32.f9 c85_30.1).bind fun c93_33 => (some (u0_31.set (Int.toNat v5_3) (S_impl_Clause.mk e88_32.f0 e88_32.f1 e88_32.f2 e88_32.f3 e88_32.f4 e88_32.f5 e88_32.f6 e88_32.f7 e88_32.f8 c93_33.2))).bind fun u0_34 => some (.inl (u0_34, c93_33.1, (IntKind.wrap .i64 (v5_3 + (1 : Int))))) else some (.inr (v0_1, v1_2, v5_3, false))
def s_laws_markClauseS (n : Nat) (r_laws_markExprS : Y_laws_markExprS) (r_laws_markClauseS : Y_laws_markClauseS) (t0_0 : List S_impl_Clause) (t1_0 : Int) : Option (Int × (List S_impl_Clause)) :=
  (loopN (p_laws_markClauseS_b1 n r_laws_markClauseS r_laws_markExprS) n (t0_0, t1_0, (0 : Int))).bind fun (v0_4, v1_5, v5_6, v9_7) => some (v1_5, v0_4)
theorem step_laws_markClauseS {n : Nat} {r_laws_markExprS : Y_laws_markExprS} (ih_laws_markExprS : B_laws_markExprS r_laws_markExprS) {r_laws_markClauseS : Y_laws_markClauseS} (ih_laws_markClauseS : B_laws_markClauseS r_laws_markClauseS) : B_laws_markClauseS (s_laws_markClauseS n r_laws_markExprS r_laws_markClauseS) := by
 intro t0_0 t1_0 r h
 unfold s_laws_markClauseS at h
 refine bFi Try.func117 rfl rfl <| cRs <| xAs rfl <| oNl <| cSq <| cRs <| xAs rfl <| oNl <| cLp h [(0, 1), (5, 93)] [] (fun (v0_1, v1_2, v5_3) => ([(0, Li rS_impl_Clause v0_1), (1, I64 v1_2), (5, I64 v5_3)], [])) (fun (v0_4, v1_5, v5_6, v9_7) => (.e 0, [(0, Li rS_impl_Clause v0_4), (1, I64 v1_5), (5, I64 v5_6), (9, Bo v9_7)], [])) rfl (fun st _ h => ?_) (fun q h => ?_)
 obtain ⟨v0_1, v1_2, v5_3⟩ := st
 unfold p_laws_markClauseS_b1 at h
 refine cSq <| cRs <| xMv rfl <| xMv rfl <| xLn rfl <| xLt rfl <| oNl <| cIf h rfl (fun q8 h => ?_) (fun q8 h => ?_)
 refine cSk <| cSq <| cBk <| cRs <| wAl rfl rfl rfl rfl <| xMv rfl <| xMv rfl <| wIp (f := rS_impl_Clause) h rfl rfl rfl rfl rfl rfl (fun a => by rw [rS_impl_Clause_eq]; rfl) rfl (fun e15_9 ke15_9 h => ?_)
 refine xFd rfl <| xFd rfl <| wSpN (f := rS_impl_Clause) (v' := S_impl_Clause.mk v1_2 e15_9.f1 e15_9.f2 e15_9.f3 e15_9.f4 e15_9.f5 e15_9.f6 e15_9.f7 e15_9.f8 e15_9.f9) h ke15_9 rfl rfl rfl rfl rfl rfl rfl (by rw [rS_impl_Clause_eq]; rfl) (by rw [rS_impl_Clause_eq, rS_impl_Clause_mk]; rfl) (fun u0_10 h => ?_)
 refine oRs <| xMv rfl <| xAdd rfl <| xAs rfl <| oRs <| wAl rfl rfl rfl rfl <| xMv rfl <| xMv rfl <| wIp (f := rS_impl_Clause) h rfl rfl rfl rfl rfl rfl (fun a => by rw [rS_impl_Clause_eq]; rfl) rfl (fun e23_11 ke23_11 h => ?_)
 refine xFd rfl <| xFd rfl <| wSpN (f := rS_impl_Clause) (v' := S_impl_Clause.mk e23_11.f0 (IntKind.wrap .i64 (v1_2 + (1 : Int))) e23_11.f2 e23_11.f3 e23_11.f4 e23_11.f5 e23_11.f6 e23_11.f7 e23_11.f8 e23_11.f9) h ke23_11 rfl rfl rfl rfl rfl rfl rfl (by rw [rS_impl_Clause_eq]; rfl) (by rw [rS_impl_Clause_eq, rS_impl_Clause_mk]; rfl) (fun u0_12 h => ?_)
 refine oRs <| xMv rfl <| xAdd rfl <| xAs rfl <| oRs <| wAl rfl rfl rfl rfl <| xMv rfl <| xMv rfl <| xC0 h (big_laws_markText ·) rfl (fun c31_13 h => ?_)
 refine wIp (f := rS_impl_Clause) h rfl rfl rfl rfl rfl rfl (fun a => by rw [rS_impl_Clause_eq]; rfl) rfl (fun e32_14 ke32_14 h => ?_)
 refine xFd rfl <| xFd rfl <| wSpN (f := rS_impl_Clause) (v' := S_impl_Clause.mk e32_14.f0 e32_14.f1 c31_13 e32_14.f3 e32_14.f4 e32_14.f5 e32_14.f6 e32_14.f7 e32_14.f8 e32_14.f9) h ke32_14 rfl rfl rfl rfl rfl rfl rfl (by rw [rS_impl_Clause_eq]; rfl) (by rw [rS_impl_Clause_eq, rS_impl_Clause_mk]; rfl) (fun u0_15 h => ?_)
 refine oRs <| xMv rfl <| xAdd rfl <| xAs rfl <| oRs <| wAl rfl rfl rfl rfl <| xMv rfl <| wIp (f := rS_impl_Clause) h rfl rfl rfl rfl rfl rfl (fun a => by rw [rS_impl_Clause_eq]; rfl) rfl (fun e39_16 ke39_16 h => ?_)
 refine xFd rfl <| xFd rfl <| wLq (f := rS_impl_Clause) ke39_16 rfl rfl rfl rfl rfl rfl rfl (by rw [rS_impl_Clause_eq]) rfl rfl <| xMv rfl <| xIoN rS_impl_Clause (fun c44_17 => u0_15.set (Int.toNat v5_3) (S_impl_Clause.mk e39_16.f0 e39_16.f1 e39_16.f2 c44_17.2 e39_16.f4 e39_16.f5 e39_16.f6 e39_16.f7 e39_16.f8 e39_16.f9)) h (ih_laws_markExprS ·) rfl (nav1 ke39_16 (by rw [rS_impl_Clause_eq]; rfl)) (fun _ => setAt1 ke39_16 (by rw [rS_impl_Clause_eq]; rfl) (by rw [rS_impl_Clause_eq, rS_impl_Clause_mk]; rfl)) (fun c44_17 u0_18 h => ?_)
 refine xAs rfl <| oRs <| wAl rfl rfl rfl rfl <| xMv rfl <| wIp (f := rS_impl_Clause) h rfl rfl rfl rfl rfl rfl (fun a => by rw [rS_impl_Clause_eq]; rfl) rfl (fun e47_19 ke47_19 h => ?_)
 refine xFd rfl <| xFd rfl <| wLq (f := rS_impl_Clause) ke47_19 rfl rfl rfl rfl rfl rfl rfl (by rw [rS_impl_Clause_eq]) rfl rfl <| xMv rfl <| xIoN rS_impl_Clause (fun c52_20 => u0_18.set (Int.toNat v5_3) (S_impl_Clause.mk e47_19.f0 e47_19.f1 e47_19.f2 e47_19.f3 c52_20.2 e47_19.f5 e47_19.f6 e47_19.f7 e47_19.f8 e47_19.f9)) h (ih_laws_markClauseS ·) rfl (nav1 ke47_19 (by rw [rS_impl_Clause_eq]; rfl)) (fun _ => setAt1 ke47_19 (by rw [rS_impl_Clause_eq]; rfl) (by rw [rS_impl_Clause_eq, rS_impl_Clause_mk]; rfl)) (fun c52_20 u0_21 h => ?_)
 refine xAs rfl <| oRs <| wAl rfl rfl rfl rfl <| xMv rfl <| xMv rfl <| wIp (f := rS_impl_Clause) h rfl rfl rfl rfl rfl rfl (fun a => by rw [rS_impl_Clause_eq]; rfl) rfl (fun e56_22 ke56_22 h => ?_)
 refine xFd rfl <| xFd rfl <| wSpN (f := rS_impl_Clause) (v' := S_impl_Clause.mk e56_22.f0 e56_22.f1 e56_22.f2 e56_22.f3 e56_22.f4 c52_20.1 e56_22.f6 e56_22.f7 e56_22.f8 e56_22.f9) h ke56_22 rfl rfl rfl rfl rfl rfl rfl (by rw [rS_impl_Clause_eq]; rfl) (by rw [rS_impl_Clause_eq, rS_impl_Clause_mk]; rfl) (fun u0_23 h => ?_)
 refine oRs <| xMv rfl <| xAdd rfl <| xAs rfl <| oRs <| wAl rfl rfl rfl rfl <| xMv rfl <| xMv rfl <| wIp (f := rS_impl_Clause) h rfl rfl rfl rfl rfl rfl (fun a => by rw [rS_impl_Clause_eq]; rfl) rfl (fun e64_24 ke64_24 h => ?_)
 refine xFd rfl <| xFd rfl <| wSpN (f := rS_impl_Clause) (v' := S_impl_Clause.mk e64_24.f0 e64_24.f1 e64_24.f2 e64_24.f3 e64_24.f4 e64_24.f5 (IntKind.wrap .i64 (c52_20.1 + (1 : Int))) e64_24.f7 e64_24.f8 e64_24.f9) h ke64_24 rfl rfl rfl rfl rfl rfl rfl (by rw [rS_impl_Clause_eq]; rfl) (by rw [rS_impl_Clause_eq, rS_impl_Clause_mk]; rfl) (fun u0_25 h => ?_)
 refine oRs <| xMv rfl <| xAdd rfl <| xAs rfl <| oRs <| wAl rfl rfl rfl rfl <| xMv rfl <| xMv rfl <| xC0 h (big_laws_markText ·) rfl (fun c72_26 h => ?_)
 refine wIp (f := rS_impl_Clause) h rfl rfl rfl rfl rfl rfl (fun a => by rw [rS_impl_Clause_eq]; rfl) rfl (fun e73_27 ke73_27 h => ?_)
 refine xFd rfl <| xFd rfl <| wSpN (f := rS_impl_Clause) (v' := S_impl_Clause.mk e73_27.f0 e73_27.f1 e73_27.f2 e73_27.f3 e73_27.f4 e73_27.f5 e73_27.f6 c72_26 e73_27.f8 e73_27.f9) h ke73_27 rfl rfl rfl rfl rfl rfl rfl (by rw [rS_impl_Clause_eq]; rfl) (by rw [rS_impl_Clause_eq, rS_impl_Clause_mk]; rfl) (fun u0_28 h => ?_)
 refine oRs <| xMv rfl <| xAdd rfl <| xAs rfl <| oRs <| wAl rfl rfl rfl rfl <| xMv rfl <| wIp (f := rS_impl_Clause) h rfl rfl rfl rfl rfl rfl (fun a => by rw [rS_impl_Clause_eq]; rfl) rfl (fun e80_29 ke80_29 h => ?_)
 refine xFd rfl <| xFd rfl <| wLq (f := rS_impl_Clause) ke80_29 rfl rfl rfl rfl rfl rfl rfl (by rw [rS_impl_Clause_eq]) rfl rfl <| xMv rfl <| xIoN rS_impl_Clause (fun c85_30 => u0_28.set (Int.toNat v5_3) (S_impl_Clause.mk e80_29.f0 e80_29.f1 e80_29.f2 e80_29.f3 e80_29.f4 e80_29.f5 e80_29.f6 e80_29.f7 c85_30.2 e80_29.f9)) h (ih_laws_markExprS ·) rfl (nav1 ke80_29 (by rw [rS_impl_Clause_eq]; rfl)) (fun _ => setAt1 ke80_29 (by rw [rS_impl_Clause_eq]; rfl) (by rw [rS_impl_Clause_eq, rS_impl_Clause_mk]; rfl)) (fun c85_30 u0_31 h => ?_)
 refine xAs rfl <| oNl <| cRg <| wAl rfl rfl rfl rfl <| xMv rfl <| wIp (f := rS_impl_Clause) h rfl rfl rfl rfl rfl rfl (fun a => by rw [rS_impl_Clause_eq]; rfl) rfl (fun e88_32 ke88_32 h => ?_)
 refine xFd rfl <| xFd rfl <| wLq (f := rS_impl_Clause) ke88_32 rfl rfl rfl rfl rfl rfl rfl (by rw [rS_impl_Clause_eq]) rfl rfl <| xMv rfl <| xIoN rS_impl_Clause (fun c93_33 => u0_31.set (Int.toNat v5_3) (S_impl_Clause.mk e88_32.f0 e88_32.f1 e88_32.f2 e88_32.f3 e88_32.f4 e88_32.f5 e88_32.f6 e88_32.f7 e88_32.f8 c93_33.2)) h (ih_laws_markClauseS ·) rfl (nav1 ke88_32 (by rw [rS_impl_Clause_eq]; rfl)) (fun _ => setAt1 ke88_32 (by rw [rS_impl_Clause_eq]; rfl) (by rw [rS_impl_Clause_eq, rS_impl_Clause_mk]; rfl)) (fun c93_33 u0_34 h => ?_)
 exact xAs rfl <| oNl <| cRg <| xMv rfl <| xAdd rfl <| xAs rfl <| oNl <| eL h rfl
 exact cEx <| eX h rfl
 obtain ⟨v0_4, v1_5, v5_6, v9_7⟩ := q
 refine cRs <| xMv rfl <| xAs rfl <| oNl <| cRt ?_
 cases h
 exact eRi rfl rfl rfl rfl rfl
def p_laws_markExprS_b1 (n : Nat) (r_laws_markClauseS : Y_laws_markClauseS) (r_laws_markExprS : Y_laws_markExprS) : ((List S_impl_Expr) × Int × Int) → Option (((List S_impl_Expr) × Int × Int) ⊕ (((List S_impl_Expr) × Int × Int × Bool)))
  | (v0_1, v1_2, v5_3) => bif decide (v5_3 < (v0_1.length : Int)) then (ix v0_1 v5_3).bind fun e15_9 => (some (v0_1.set (Int.toNat v5_3) (S_impl_Expr.mk v1_2 e15_9.f1 e15_9.f2 e15_9.f3 e15_9.f4))).bind fun u0_10 => (ix u0_10 v5_3).bind fun e22_11 => (some (u0_10.set (Int.toNat v5_3) (S_impl_Expr.mk e22_11.f0 (IntKind.wrap .i64 (v1_2 + (1 : Int))) e22_11.f2 e22_11.f3 e22_11.f4))).bind fun u0_12 => (p_laws_markText n (IntKind.wrap .i64 ((IntKind.wrap .i64 (v1_2 + (1 : Int))) + (1 : Int)))).bind fun c29_13 => (ix u0_12 v5_3).bind fun e30_14 => (some (u0_12.set (Int.toNat v5_3) (S_impl_Expr.mk e30_14.f0 e30_14.f1 c29_13 e30_14.f3 e30_14.f4))).bind fun u0_15 => (ix u0_15 v5_3).bind fun e36_16 => (r_laws_markExprS e36_16.f3 (IntKind.wrap .i64 ((IntKind.wrap .i64 ((IntKind.wrap .i64 (v1_2 + (1 : Int))) + (1 : Int))) + (1 : Int)))).bind fun c40_17 => (some (u0_15.set (Int.toNat v5_3) (S_impl_Expr.mk e36_16.f0 e36_16.f1 e36_16.f2 c40_17.2 e36_16.f4))).bind fun u0_18 => (ix u0_18 v5_3).bind fun e43_19 => (r_laws_markClauseS e43_19.f4 c40_17.1).bind fun c47_20 => (some (u0_18.set (Int.toNat v5_3) (S_impl_Expr.mk e43_19.f0 e43_19.f1 e43_19.f2 e43_19.f3 c47_20.2))).bind fun u0_21 => some (.inl (u0_21, c47_20.1, (IntKind.wrap .i64 (v5_3 + (1 : Int))))) else some (.inr (v0_1, v1_2, v5_3, false))
def s_laws_markExprS (n : Nat) (r_laws_markExprS : Y_laws_markExprS) (r_laws_markClauseS : Y_laws_markClauseS) (t0_0 : List S_impl_Expr) (t1_0 : Int) : Option (Int × (List S_impl_Expr)) :=
  (loopN (p_laws_markExprS_b1 n r_laws_markClauseS r_laws_markExprS) n (t0_0, t1_0, (0 : Int))).bind fun (v0_4, v1_5, v5_6, v9_7) => some (v1_5, v0_4)
theorem step_laws_markExprS {n : Nat} {r_laws_markExprS : Y_laws_markExprS} (ih_laws_markExprS : B_laws_markExprS r_laws_markExprS) {r_laws_markClauseS : Y_laws_markClauseS} (ih_laws_markClauseS : B_laws_markClauseS r_laws_markClauseS) : B_laws_markExprS (s_laws_markExprS n r_laws_markExprS r_laws_markClauseS) := by
 intro t0_0 t1_0 r h
 unfold s_laws_markExprS at h
 refine bFi Try.func116 rfl rfl <| cRs <| xAs rfl <| oNl <| cSq <| cRs <| xAs rfl <| oNl <| cLp h [(0, 1), (5, 47)] [] (fun (v0_1, v1_2, v5_3) => ([(0, Li rS_impl_Expr v0_1), (1, I64 v1_2), (5, I64 v5_3)], [])) (fun (v0_4, v1_5, v5_6, v9_7) => (.e 0, [(0, Li rS_impl_Expr v0_4), (1, I64 v1_5), (5, I64 v5_6), (9, Bo v9_7)], [])) rfl (fun st _ h => ?_) (fun q h => ?_)
 obtain ⟨v0_1, v1_2, v5_3⟩ := st
 unfold p_laws_markExprS_b1 at h
 refine cSq <| cRs <| xMv rfl <| xMv rfl <| xLn rfl <| xLt rfl <| oNl <| cIf h rfl (fun q8 h => ?_) (fun q8 h => ?_)
 refine cSk <| cSq <| cBk <| cRs <| wAl rfl rfl rfl rfl <| xMv rfl <| xMv rfl <| wIp (f := rS_impl_Expr) h rfl rfl rfl rfl rfl rfl (fun a => by rw [rS_impl_Expr_eq]; rfl) rfl (fun e15_9 ke15_9 h => ?_)
 refine xFd rfl <| wSpN (f := rS_impl_Expr) (v' := S_impl_Expr.mk v1_2 e15_9.f1 e15_9.f2 e15_9.f3 e15_9.f4) h ke15_9 rfl rfl rfl rfl rfl rfl rfl (by rw [rS_impl_Expr_eq]; rfl) (by rw [rS_impl_Expr_eq, rS_impl_Expr_mk]; rfl) (fun u0_10 h => ?_)
 refine oRs <| xMv rfl <| xAdd rfl <| xAs rfl <| oRs <| wAl rfl rfl rfl rfl <| xMv rfl <| xMv rfl <| wIp (f := rS_impl_Expr) h rfl rfl rfl rfl rfl rfl (fun a => by rw [rS_impl_Expr_eq]; rfl) rfl (fun e22_11 ke22_11 h => ?_)
 refine xFd rfl <| wSpN (f := rS_impl_Expr) (v' := S_impl_Expr.mk e22_11.f0 (IntKind.wrap .i64 (v1_2 + (1 : Int))) e22_11.f2 e22_11.f3 e22_11.f4) h ke22_11 rfl rfl rfl rfl rfl rfl rfl (by rw [rS_impl_Expr_eq]; rfl) (by rw [rS_impl_Expr_eq, rS_impl_Expr_mk]; rfl) (fun u0_12 h => ?_)
 refine oRs <| xMv rfl <| xAdd rfl <| xAs rfl <| oRs <| wAl rfl rfl rfl rfl <| xMv rfl <| xMv rfl <| xC0 h (big_laws_markText ·) rfl (fun c29_13 h => ?_)
 refine wIp (f := rS_impl_Expr) h rfl rfl rfl rfl rfl rfl (fun a => by rw [rS_impl_Expr_eq]; rfl) rfl (fun e30_14 ke30_14 h => ?_)
 refine xFd rfl <| wSpN (f := rS_impl_Expr) (v' := S_impl_Expr.mk e30_14.f0 e30_14.f1 c29_13 e30_14.f3 e30_14.f4) h ke30_14 rfl rfl rfl rfl rfl rfl rfl (by rw [rS_impl_Expr_eq]; rfl) (by rw [rS_impl_Expr_eq, rS_impl_Expr_mk]; rfl) (fun u0_15 h => ?_)
 refine oRs <| xMv rfl <| xAdd rfl <| xAs rfl <| oRs <| wAl rfl rfl rfl rfl <| xMv rfl <| wIp (f := rS_impl_Expr) h rfl rfl rfl rfl rfl rfl (fun a => by rw [rS_impl_Expr_eq]; rfl) rfl (fun e36_16 ke36_16 h => ?_)
 refine xFd rfl <| wLq (f := rS_impl_Expr) ke36_16 rfl rfl rfl rfl rfl rfl rfl (by rw [rS_impl_Expr_eq]) rfl rfl <| xMv rfl <| xIoN rS_impl_Expr (fun c40_17 => u0_15.set (Int.toNat v5_3) (S_impl_Expr.mk e36_16.f0 e36_16.f1 e36_16.f2 c40_17.2 e36_16.f4)) h (ih_laws_markExprS ·) rfl (nav1 ke36_16 (by rw [rS_impl_Expr_eq]; rfl)) (fun _ => setAt1 ke36_16 (by rw [rS_impl_Expr_eq]; rfl) (by rw [rS_impl_Expr_eq, rS_impl_Expr_mk]; rfl)) (fun c40_17 u0_18 h => ?_)
 refine xAs rfl <| oNl <| cRg <| wAl rfl rfl rfl rfl <| xMv rfl <| wIp (f := rS_impl_Expr) h rfl rfl rfl rfl rfl rfl (fun a => by rw [rS_impl_Expr_eq]; rfl) rfl (fun e43_19 ke43_19 h => ?_)
 refine xFd rfl <| wLq (f := rS_impl_Expr) ke43_19 rfl rfl rfl rfl rfl rfl rfl (by rw [rS_impl_Expr_eq]) rfl rfl <| xMv rfl <| xIoN rS_impl_Expr (fun c47_20 => u0_18.set (Int.toNat v5_3) (S_impl_Expr.mk e43_19.f0 e43_19.f1 e43_19.f2 e43_19.f3 c47_20.2)) h (ih_laws_markClauseS ·) rfl (nav1 ke43_19 (by rw [rS_impl_Expr_eq]; rfl)) (fun _ => setAt1 ke43_19 (by rw [rS_impl_Expr_eq]; rfl) (by rw [rS_impl_Expr_eq, rS_impl_Expr_mk]; rfl)) (fun c47_20 u0_21 h => ?_)
 exact xAs rfl <| oNl <| cRg <| xMv rfl <| xAdd rfl <| xAs rfl <| oNl <| eL h rfl
 exact cEx <| eX h rfl
 obtain ⟨v0_4, v1_5, v5_6, v9_7⟩ := q
 refine cRs <| xMv rfl <| xAs rfl <| oNl <| cRt ?_
 cases h
 exact eRi rfl rfl rfl rfl rfl
def q_laws_markExprS : Nat → (Y_laws_markExprS) × (Y_laws_markClauseS)
  | 0 => ((fun _ _ => none), (fun _ _ => none))
  | n + 1 => (s_laws_markExprS n ((q_laws_markExprS n).1) ((q_laws_markExprS n).2), s_laws_markClauseS n ((q_laws_markExprS n).1) ((q_laws_markExprS n).2))
def p_laws_markExprS (n : Nat) : Y_laws_markExprS := (q_laws_markExprS n).1
def p_laws_markClauseS (n : Nat) : Y_laws_markClauseS := (q_laws_markExprS n).2
theorem bigs_laws_markExprS (n : Nat) : B_laws_markExprS (p_laws_markExprS n) ∧ B_laws_markClauseS (p_laws_markClauseS n) := by
  induction n with
  | zero => exact ⟨(fun h => nomatch h), (fun h => nomatch h)⟩
  | succ n ih => exact ⟨step_laws_markExprS (n := n) (ih.1) (ih.2), step_laws_markClauseS (n := n) (ih.1) (ih.2)⟩
theorem big_laws_markExprS {n : Nat} : B_laws_markExprS (p_laws_markExprS n) := (bigs_laws_markExprS n).1
theorem big_laws_markClauseS {n : Nat} : B_laws_markClauseS (p_laws_markClauseS n) := (bigs_laws_markExprS n).2
theorem p_laws_markExprS_succ (n : Nat) : p_laws_markExprS (n + 1) = s_laws_markExprS n (p_laws_markExprS n) (p_laws_markClauseS n) := rfl
theorem p_laws_markClauseS_succ (n : Nat) : p_laws_markClauseS (n + 1) = s_laws_markClauseS n (p_laws_markExprS n) (p_laws_markClauseS n) := rfl
abbrev B_laws_FnExactMatch (p : Int → Int → (List UInt8) → (List S_laws_Expr) → (List S_laws_Clause) → Int → Int → (List UInt8) → (List S_laws_Term) → Option (Bool)) : Prop := ∀ {t0_0 t0_1 : Int} {t0_2 : List UInt8} {t0_3 : List S_laws_Expr} {t0_4 : List S_laws_Clause} {t1_0 t1_1 : Int} {t1_2 : List UInt8} {t1_3 : List S_laws_Term} {r : Bool}, p t0_0 t0_1 t0_2 t0_3 t0_4 t1_0 t1_1 t1_2 t1_3 = some r → Big Try.prog τ An (.fn 8 [.one (.ag [.int .i64 t0_0, .int .i64 t0_1, .str t0_2, .sl (t0_3.map rS_laws_Expr), .sl (t0_4.map rS_laws_Clause)]), .one (.ag [.int .i64 t1_0, .int .i64 t1_1, .str t1_2, .sl (t1_3.map rS_laws_Term)])] [] (.one (.c (.bool r))) none [] none)
def p_laws_FnExactMatch (n : Nat) (t0_0 : Int) (t0_1 : Int) (t0_2 : List UInt8) (t0_3 : List S_laws_Expr) (t0_4 : List S_laws_Clause) (t1_0 : Int) (t1_1 : Int) (t1_2 : List UInt8) (t1_3 : List S_laws_Term) : Option (Bool) :=
  (p_laws_szExpr n t0_0 t0_1 t0_2 t0_3 t0_4 (1048576 : Int)).bind fun c19_1 => bif decide (c19_1 < (0 : Int)) then some true else (p_laws_szTerm n t1_0 t1_1 t1_2 t1_3 c19_1).bind fun c24_3 => bif decide (c24_3 < (0 : Int)) then some true else (p_laws_toExpr n t0_0 t0_1 t0_2 t0_3 t0_4).bind fun c29_5 => (p_laws_toTerm n t1_0 t1_1 t1_2 t1_3).bind fun c31_6 => (p_spec_Match n c29_5.1 c29_5.2.1 c29_5.2.2.1 c29_5.2.2.2.1 c29_5.2.2.2.2 c31_6.1 c31_6.2.1 c31_6.2.2.1 c31_6.2.2.2).bind fun c32_7 => (p_laws_toExpr n t0_0 t0_1 t0_2 t0_3 t0_4).bind fun c36_8 => (p_laws_toTerm n t1_0 t1_1 t1_2 t1_3).bind fun c38_9 => (p_impl_Match n c36_8.1 c36_8.2.1 c36_8.2.2.1 c36_8.2.2.2.1 c36_8.2.2.2.2 c38_9.1 c38_9.2.1 c38_9.2.2.1 c38_9.2.2.2).bind fun c42_10 => ((p_laws_eqBindS n c42_10.1 c32_7.1).bind fun c47_12 => bif !c47_12 then some true else some (!(c42_10.2 == c32_7.2))).bind fun v53_11 => bif v53_11 then some false else (p_laws_toExpr n t0_0 t0_1 t0_2 t0_3 t0_4).bind fun c56_15 => (p_laws_eqExpr n c36_8.1 c36_8.2.1 c36_8.2.2.1 c36_8.2.2.2.1 c36_8.2.2.2.2 c56_15.1 c56_15.2.1 c56_15.2.2.1 c56_15.2.2.2.1 c56_15.2.2.2.2).bind fun c57_16 => bif !c57_16 then some false else (p_laws_toTerm n t1_0 t1_1 t1_2 t1_3).bind fun c61_18 => (p_laws_eqTerm n c38_9.1 c38_9.2.1 c38_9.2.2.1 c38_9.2.2.2 c61_18.1 c61_18.2.1 c61_18.2.2.1 c61_18.2.2.2).bind fun c62_19 => bif !c62_19 then some false else (p_laws_markExprS n c36_8.2.2.2.1 (1 : Int)).bind fun m19_21 => (p_laws_markClauseS n c36_8.2.2.2.2 m19_21.1).bind fun m19_22 => (p_laws_markTermS n c38_9.2.2.2 m19_22.1).bind fun m20_23 => (bif decide (m20_23.1 < (0 : Int)) then some true else (p_laws_eqBindS n c42_10.1 c32_7.1).bind fun c75_26 => bif !c75_26 then some true else some (!(c42_10.2 == c32_7.2))).bind fun v82_24 => bif v82_24 then some false else (p_laws_markBindS n c42_10.1 (1 : Int)).bind fun c85_29 => (p_laws_heldBindS n c85_29.2 (1 : Int)).bind fun c88_30 => bif decide (c88_30 < (0 : Int)) then some false else bif !decide (c88_30 = c85_29.1) then some false else (p_laws_toExpr n t0_0 t0_1 t0_2 t0_3 t0_4).bind fun c96_33 => (p_laws_toTerm n t1_0 t1_1 t1_2 t1_3).bind fun c98_34 => (p_impl_Match n c96_33.1 c96_33.2.1 c96_33.2.2.1 c96_33.2.2.2.1 c96_33.2.2.2.2 c98_34.1 c98_34.2.1 c98_34.2.2.1 c98_34.2.2.2).bind fun c99_35 => ((p_laws_eqBindS n c99_35.1 c32_7.1).bind fun c104_37 => bif !c104_37 then some true else some (!(c99_35.2 == c32_7.2))).bind fun v110_36 => bif v110_36 then some false else (p_laws_heldBindS n c85_29.2 (1 : Int)).bind fun c113_40 => bif decide (c113_40 < (0 : Int)) then some false else bif !decide (c113_40 = c85_29.1) then some false else some true
theorem big_laws_FnExactMatch {n : Nat} : B_laws_FnExactMatch (p_laws_FnExactMatch n) := by
 intro t0_0 t0_1 t0_2 t0_3 t0_4 t1_0 t1_1 t1_2 t1_3 r h
 unfold p_laws_FnExactMatch at h
 refine bF Try.func8 rfl rfl <| cRs <| xBx rfl <| xBx rfl <| xAs rfl <| oRs <| xAs rfl <| oRs <| xLd rfl <| xMv rfl <| xC0 h (big_laws_szExpr ·) rfl (fun c19_1 h => ?_)
 refine xAs rfl <| oNl <| cSq <| cRs <| xMv rfl <| xLt rfl <| oNl <| cIf h rfl (fun q2 h => ?_) (fun q2 h => ?_)
 refine cRs <| xAs rfl <| oNl <| cRt ?_
 cases h
 exact eR rfl rfl rfl rfl
 refine cSk <| cRs <| xLd rfl <| xMv rfl <| xC0 h (big_laws_szTerm ·) rfl (fun c24_3 h => ?_)
 refine xAs rfl <| oNl <| cSq <| cRs <| xMv rfl <| xLt rfl <| oNl <| cIf h rfl (fun q4 h => ?_) (fun q4 h => ?_)
 refine cRs <| xAs rfl <| oNl <| cRt ?_
 cases h
 exact eR rfl rfl rfl rfl
 refine cSk <| cRs <| xLd rfl <| xC0 h (big_laws_toExpr ·) rfl (fun c29_5 h => ?_)
 refine xLd rfl <| xC0 h (big_laws_toTerm ·) rfl (fun c31_6 h => ?_)
 refine xC0 h (big_spec_Match ·) rfl (fun c32_7 h => ?_)
 refine xMv rfl <| xEt rfl <| xEt rfl <| xAs rfl <| xAs rfl <| oRs <| xLd rfl <| xC0 h (big_laws_toExpr ·) rfl (fun c36_8 h => ?_)
 refine xAz [.int .i64 0, .int .i64 0, .str [], .sl ([].map rS_impl_Expr), .sl ([].map rS_impl_Clause)] rfl <| xSt rfl <| oRs <| xLd rfl <| xC0 h (big_laws_toTerm ·) rfl (fun c38_9 h => ?_)
 refine xAz [.int .i64 0, .int .i64 0, .str [], .sl ([].map rS_impl_Term)] rfl <| xSt rfl <| oRs <| xLd rfl <| xLd rfl <| xC0 h (big_impl_Match ·) rfl (fun c42_10 h => ?_)
 refine xMv rfl <| xEt rfl <| xEt rfl <| xAs rfl <| xAs rfl <| oNl <| cSq <| cRs <| oJn h [(45, 53)] [] (fun v53_11 => (.n, [(53, Bo v53_11)], [])) (fun _ h => ?_) (fun v53_11 h => ?_)
 refine xMv rfl <| xMv rfl <| xC0 h (big_laws_eqBindS ·) rfl (fun c47_12 h => ?_)
 refine xNot rfl <| xMv rfl <| oIf 49 h rfl (fun q13 h => ?_) (fun q13 h => ?_)
 exact wSk rfl <| wSk rfl <| wSk rfl <| xPk rfl <| oNl <| eJ h rfl
 exact xMv rfl <| xMv rfl <| wBi (.bool (!(c42_10.2 == c32_7.2))) rfl rfl rfl rfl rfl <| xPk rfl <| oNl <| eJ h rfl
 refine cIf h rfl (fun q14 h => ?_) (fun q14 h => ?_)
 refine cRs <| xAs rfl <| oNl <| cRt ?_
 cases h
 exact eR rfl rfl rfl rfl
 refine cSk <| cSq <| cRs <| xLd rfl <| xLd rfl <| xC0 h (big_laws_toExpr ·) rfl (fun c56_15 h => ?_)
 refine xC0 h (big_laws_eqExpr ·) rfl (fun c57_16 h => ?_)
 refine xNot rfl <| oNl <| cIf h rfl (fun q17 h => ?_) (fun q17 h => ?_)
 refine cRs <| xAs rfl <| oNl <| cRt ?_
 cases h
 exact eR rfl rfl rfl rfl
 refine cSk <| cSq <| cRs <| xLd rfl <| xLd rfl <| xC0 h (big_laws_toTerm ·) rfl (fun c61_18 h => ?_)
 refine xC0 h (big_laws_eqTerm ·) rfl (fun c62_19 h => ?_)
 refine xNot rfl <| oNl <| cIf h rfl (fun q20 h => ?_) (fun q20 h => ?_)
 refine cRs <| xAs rfl <| oNl <| cRt ?_
 cases h
 exact eR rfl rfl rfl rfl
 refine cSk <| cRs <| xAs rfl <| oNl ?_
 obtain ⟨m19_21, em19_21, h⟩ := bind_some h
 obtain ⟨m19_22, em19_22, h⟩ := bind_some h
 refine cMk [⟨3, 116, c36_8.2.2.2.1.map rS_impl_Expr, m19_21.2.map rS_impl_Expr, 1, m19_21.1⟩, ⟨4, 117, c36_8.2.2.2.2.map rS_impl_Clause, m19_22.2.map rS_impl_Clause, m19_21.1, m19_22.1⟩] marks_40 ⟨big_laws_markExprS em19_21, big_laws_markClauseS em19_22, trivial⟩ rfl rfl ⟨rfl, rfl, rfl, rfl, rfl, rfl⟩ ?_
 obtain ⟨m20_23, em20_23, h⟩ := bind_some h
 refine cMk [⟨3, 41, c38_9.2.2.2.map rS_impl_Term, m20_23.2.map rS_impl_Term, m19_22.1, m20_23.1⟩] marks_42 ⟨big_laws_markTermS em20_23, trivial⟩ rfl rfl ⟨rfl, rfl, rfl, rfl⟩ <| cSq <| cRs <| oJn h [(70, 82)] [] (fun v82_24 => (.n, [(82, Bo v82_24)], [])) (fun _ h => ?_) (fun v82_24 h => ?_)
 refine xMv rfl <| xLt rfl <| xMv rfl <| oIf 72 h rfl (fun q25 h => ?_) (fun q25 h => ?_)
 exact wSk rfl <| wSk rfl <| wSk rfl <| wSk rfl <| xPk rfl <| xMv rfl <| wSk rfl <| wSk rfl <| wSk rfl <| xPk rfl <| oNl <| eJ h rfl
 refine xMv rfl <| xMv rfl <| xC0 h (big_laws_eqBindS ·) rfl (fun c75_26 h => ?_)
 refine xNot rfl <| xPk rfl <| xMv rfl <| oIf 78 h rfl (fun q27 h => ?_) (fun q27 h => ?_)
 exact wSk rfl <| wSk rfl <| wSk rfl <| xPk rfl <| oNl <| eJ h rfl
 exact xMv rfl <| xMv rfl <| wBi (.bool (!(c42_10.2 == c32_7.2))) rfl rfl rfl rfl rfl <| xPk rfl <| oNl <| eJ h rfl
 refine cIf h rfl (fun q28 h => ?_) (fun q28 h => ?_)
 refine cRs <| xAs rfl <| oNl <| cRt ?_
 cases h
 exact eR rfl rfl rfl rfl
 refine cSk <| cRs <| xAs rfl <| oRs <| wAl rfl rfl rfl rfl <| xMv rfl <| xIo (fun c85_29 => .sl (c85_29.2.map rS_impl_Bind)) h (big_laws_markBindS ·) rfl (nav0 _) (fun _ => setAt0 _ _) (fun c85_29 h => ?_)
 refine xAs rfl <| oRs <| xAs rfl <| oRs <| xMv rfl <| xMv rfl <| xC0 h (big_laws_heldBindS ·) rfl (fun c88_30 h => ?_)
 refine xAs rfl <| oNl <| cSq <| cRs <| xMv rfl <| xLt rfl <| oNl <| cIf h rfl (fun q31 h => ?_) (fun q31 h => ?_)
 refine cRs <| xAs rfl <| oNl <| cRt ?_
 cases h
 exact eR rfl rfl rfl rfl
 refine cSk <| cSq <| cRs <| xMv rfl <| xMv rfl <| xNe rfl <| oNl <| cIf h rfl (fun q32 h => ?_) (fun q32 h => ?_)
 refine cRs <| xAs rfl <| oNl <| cRt ?_
 cases h
 exact eR rfl rfl rfl rfl
 refine cSk <| cRs <| xLd rfl <| xC0 h (big_laws_toExpr ·) rfl (fun c96_33 h => ?_)
 refine xLd rfl <| xC0 h (big_laws_toTerm ·) rfl (fun c98_34 h => ?_)
 refine xC0 h (big_impl_Match ·) rfl (fun c99_35 h => ?_)
 refine xMv rfl <| xEt rfl <| xEt rfl <| xAs rfl <| xAs rfl <| oNl <| cSq <| cRs <| oJn h [(102, 110)] [] (fun v110_36 => (.n, [(110, Bo v110_36)], [])) (fun _ h => ?_) (fun v110_36 h => ?_)
 refine xMv rfl <| xMv rfl <| xC0 h (big_laws_eqBindS ·) rfl (fun c104_37 h => ?_)
 refine xNot rfl <| xMv rfl <| oIf 106 h rfl (fun q38 h => ?_) (fun q38 h => ?_)
 exact wSk rfl <| wSk rfl <| wSk rfl <| xPk rfl <| oNl <| eJ h rfl
 exact xMv rfl <| xMv rfl <| wBi (.bool (!(c99_35.2 == c32_7.2))) rfl rfl rfl rfl rfl <| xPk rfl <| oNl <| eJ h rfl
 refine cIf h rfl (fun q39 h => ?_) (fun q39 h => ?_)
 refine cRs <| xAs rfl <| oNl <| cRt ?_
 cases h
 exact eR rfl rfl rfl rfl
 refine cSk <| cRs <| xAs rfl <| oRs <| xMv rfl <| xMv rfl <| xC0 h (big_laws_heldBindS ·) rfl (fun c113_40 h => ?_)
 refine xAs rfl <| oNl <| cSq <| cRs <| xMv rfl <| xLt rfl <| oNl <| cIf h rfl (fun q41 h => ?_) (fun q41 h => ?_)
 refine cRs <| xAs rfl <| oNl <| cRt ?_
 cases h
 exact eR rfl rfl rfl rfl
 refine cSk <| cSq <| cRs <| xMv rfl <| xMv rfl <| xNe rfl <| oNl <| cIf h rfl (fun q42 h => ?_) (fun q42 h => ?_)
 refine cRs <| xAs rfl <| oNl <| cRt ?_
 cases h
 exact eR rfl rfl rfl rfl
 refine cSk <| cRs <| xAs rfl <| oNl <| cRt ?_
 cases h
 exact eR rfl rfl rfl rfl
end Go.Own
