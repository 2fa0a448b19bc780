/- Each function on plain data, and its walk. No conditions. -/
import Derived.Test.YtgeomhdbckjkcaaW21V
set_option linter.unusedVariables false
set_option linter.unusedSimpArgs false
set_option linter.unnecessarySimpa false
namespace Go.Own
open Go Go.Proofs
def p_impl_insOk (n : Nat) (t1_0 : List UInt8) (t1_1 : Int) (t1_2 : Int) (t1_3 : List S_impl_Ins) (t2_0 : Int) (t2_1 : Int) (t2_2 : List UInt8) (t2_3 : Int) (o0_0 : List S_impl_Fn) (o0_1 : List S_impl_Pat) : Option (Bool × (List S_impl_Fn) × (List S_impl_Pat)) :=
  (bif decide (t2_2 = ([] : List UInt8)) then some (decide (t2_3 = (0 : Int))) else some false).bind fun v7_1 => (p_impl_inRange n t2_3 (0 : Int) (IntKind.wrap .i64 ((t1_3.length : Int) - (1 : Int)))).bind fun c26_3 => bif decide (t2_0 = (1 : Int)) then (bif v7_1 then (p_impl_inRange n t2_1 (0 : Int) (1000000000000 : Int)).bind fun c35_7 => some c35_7 else some false).bind fun v6_5 => some (v6_5, o0_0, o0_1) else bif decide (t2_0 = (2 : Int)) then (bif decide (t2_1 = (0 : Int)) then (p_impl_xAtomOk n t2_2).bind fun c45_11 => bif c45_11 then some (decide (t2_3 = (0 : Int))) else some false else some false).bind fun v6_9 => some (v6_9, o0_0, o0_1) else bif decide (t2_0 = (3 : Int)) then (bif v7_1 then (p_impl_inRange n t2_1 (0 : Int) (IntKind.wrap .i64 (t1_2 - (1 : Int)))).bind fun c63_16 => some c63_16 else some false).bind fun v6_14 => some (v6_14, o0_0, o0_1) else bif decide (t2_0 = (4 : Int)) then (bif v7_1 then (p_impl_inRange n t2_1 (0 : Int) (20 : Int)).bind fun c72_20 => some c72_20 else some false).bind fun v6_18 => some (v6_18, o0_0, o0_1) else bif decide (t2_0 = (5 : Int)) then (bif v7_1 then (p_impl_inRange n t2_1 (0 : Int) (20 : Int)).bind fun c72_24 => some c72_24 else some false).bind fun v6_22 => some (v6_22, o0_0, o0_1) else bif decide (t2_0 = (6 : Int)) then (bif v7_1 then (p_impl_inRange n t2_1 (2 : Int) (6 : Int)).bind fun c80_28 => some c80_28 else some false).bind fun v6_26 => some (v6_26, o0_0, o0_1) else bif decide (t2_0 = (7 : Int)) then (bif decide (t2_1 = (0 : Int)) then (p_impl_isOp n t2_2).bind fun c90_32 => bif c90_32 then some (decide (t2_3 = (0 : Int))) else some false else some false).bind fun v6_30 => some (v6_30, o0_0, o0_1) else bif decide (t2_0 = (8 : Int)) then (p_impl_fnAt n t2_2 o0_0 o0_1).bind fun c102_35 => (bif decide ((0 : Int) ≤ c102_35.1) then (ix c102_35.2.1 c102_35.1).bind fun e111_38 => bif decide (e111_38.f1 = t2_1) then some (decide (t2_3 = (0 : Int))) else some false else some false).bind fun v6_36 => some (v6_36, c102_35.2.1, c102_35.2.2) else bif decide (t2_0 = (9 : Int)) then (bif decide (t2_2 = ([] : List UInt8)) then bif c26_3 then (p_impl_inRange n t2_1 (0 : Int) (IntKind.wrap .i64 ((o0_1.length : Int) - (1 : Int)))).bind fun c140_44 => bif c140_44 then (ix o0_1 t2_1).bind fun e149_46 => (p_impl_PatFits n e149_46.f0 e149_46.f1 e149_46.f2 e149_46.f3 t1_2).bind fun c155_47 => some c155_47 else some false else some false else some false).bind fun v6_41 => some (v6_41, o0_0, o0_1) else bif decide (t2_0 = (10 : Int)) then (bif decide (t2_2 = ([] : List UInt8)) then bif decide (t2_1 = (0 : Int)) then some c26_3 else some false else some false).bind fun v6_49 => some (v6_49, o0_0, o0_1) else bif decide (t2_0 = (11 : Int)) then (bif v7_1 then some (decide (t2_1 = (0 : Int))) else some false).bind fun v6_53 => some (v6_53, o0_0, o0_1) else bif decide (t2_0 = (12 : Int)) then (bif v7_1 then some (decide (t2_1 = (0 : Int))) else some false).bind fun v6_56 => some (v6_56, o0_0, o0_1) else some (false, o0_0, o0_1)
theorem big_impl_insOk {n : Nat} : B_impl_insOk (p_impl_insOk n) := by
 intro t1_0 t1_1 t1_2 t1_3 t2_0 t2_1 t2_2 t2_3 o0_0 o0_1 r h
 unfold p_impl_insOk at h
 refine bF Try.func244 rfl rfl <| cRs <| xBx rfl <| xAs rfl <| oRs <| oJn h [(7, 7), (10, 17)] [] (fun v7_1 => (.n, [(7, Bo v7_1)], [])) (fun _ h => ?_) (fun v7_1 h => ?_)
 refine xFd rfl <| xLd rfl <| xEs rfl <| xMv rfl <| oIf 13 h rfl (fun q2 h => ?_) (fun q2 h => ?_)
 exact xFd rfl <| xLd rfl <| xEq rfl <| xPk rfl <| xAs rfl <| oNl <| eJ h rfl
 exact wSk rfl <| wSk rfl <| wSk rfl <| xPk rfl <| xAs rfl <| oNl <| eJ h rfl
 refine cRs <| xFd rfl <| xLd rfl <| xMv rfl <| xNc rfl <| xFd rfl <| xLd rfl <| xLn rfl <| xSub rfl <| xC0 h (big_impl_inRange ·) rfl (fun c26_3 h => ?_)
 refine xAs rfl <| oNl <| cSq <| cRs <| xFd rfl <| xLd rfl <| oNl <| cBk <| cRs <| xEq rfl <| xAs rfl <| oNl <| cIf h rfl (fun q4 h => ?_) (fun q4 h => ?_)
 refine cRs <| oJn h [(6, 6), (31, 36)] [] (fun v6_5 => (.n, [(6, Bo v6_5)], [])) (fun _ h => ?_) (fun v6_5 h => ?_)
 refine xMv rfl <| xMv rfl <| oIf 32 h rfl (fun q6 h => ?_) (fun q6 h => ?_)
 refine xFd rfl <| xLd rfl <| xC0 h (big_impl_inRange ·) rfl (fun c35_7 h => ?_)
 exact xPk rfl <| xAs rfl <| oNl <| eJ h rfl
 exact wSk rfl <| wSk rfl <| wSk rfl <| xPk rfl <| xAs rfl <| oNl <| eJ h rfl
 refine cRt ?_
 cases h
 exact eR rfl rfl rfl rfl
 refine cRs <| xEq rfl <| xAs rfl <| oNl <| cIf h rfl (fun q8 h => ?_) (fun q8 h => ?_)
 refine cRs <| oJn h [(6, 6), (39, 51)] [] (fun v6_9 => (.n, [(6, Bo v6_9)], [])) (fun _ h => ?_) (fun v6_9 h => ?_)
 refine xFd rfl <| xLd rfl <| xEq rfl <| xMv rfl <| oIf 42 h rfl (fun q10 h => ?_) (fun q10 h => ?_)
 refine xFd rfl <| xLd rfl <| xC0 h (big_impl_xAtomOk ·) rfl (fun c45_11 h => ?_)
 refine xPk rfl <| xMv rfl <| oIf 47 h rfl (fun q12 h => ?_) (fun q12 h => ?_)
 exact xFd rfl <| xLd rfl <| xEq rfl <| xPk rfl <| xAs rfl <| oNl <| eJ h rfl
 exact wSk rfl <| wSk rfl <| wSk rfl <| xPk rfl <| xAs rfl <| oNl <| eJ h rfl
 exact wSk rfl <| wSk rfl <| wSk rfl <| xPk rfl <| xMv rfl <| wSk rfl <| wSk rfl <| wSk rfl <| xPk rfl <| xAs rfl <| oNl <| eJ h rfl
 refine cRt ?_
 cases h
 exact eR rfl rfl rfl rfl
 refine cRs <| xEq rfl <| xAs rfl <| oNl <| cIf h rfl (fun q13 h => ?_) (fun q13 h => ?_)
 refine cRs <| oJn h [(6, 6), (54, 64)] [] (fun v6_14 => (.n, [(6, Bo v6_14)], [])) (fun _ h => ?_) (fun v6_14 h => ?_)
 refine xMv rfl <| xMv rfl <| oIf 55 h rfl (fun q15 h => ?_) (fun q15 h => ?_)
 refine xFd rfl <| xLd rfl <| xMv rfl <| xNc rfl <| xFd rfl <| xLd rfl <| xSub rfl <| xC0 h (big_impl_inRange ·) rfl (fun c63_16 h => ?_)
 exact xPk rfl <| xAs rfl <| oNl <| eJ h rfl
 exact wSk rfl <| wSk rfl <| wSk rfl <| wSk rfl <| wSk rfl <| wSk rfl <| wSk rfl <| wSk rfl <| xPk rfl <| xAs rfl <| oNl <| eJ h rfl
 refine cRt ?_
 cases h
 exact eR rfl rfl rfl rfl
 refine cSq <| cRs <| xEq rfl <| xAs rfl <| oNl <| cIf h rfl (fun q17 h => ?_) (fun q17 h => ?_)
 refine cSk <| cT rfl <| cRs <| oJn h [(6, 6), (68, 73)] [] (fun v6_18 => (.n, [(6, Bo v6_18)], [])) (fun _ h => ?_) (fun v6_18 h => ?_)
 refine xMv rfl <| xMv rfl <| oIf 69 h rfl (fun q19 h => ?_) (fun q19 h => ?_)
 refine xFd rfl <| xLd rfl <| xC0 h (big_impl_inRange ·) rfl (fun c72_20 h => ?_)
 exact xPk rfl <| xAs rfl <| oNl <| eJ h rfl
 exact wSk rfl <| wSk rfl <| wSk rfl <| xPk rfl <| xAs rfl <| oNl <| eJ h rfl
 refine cRt ?_
 cases h
 exact eR rfl rfl rfl rfl
 refine cRg <| xEq rfl <| xAs rfl <| oNl <| cIf h rfl (fun q21 h => ?_) (fun q21 h => ?_)
 refine cRs <| oJn h [(6, 6), (68, 73)] [] (fun v6_22 => (.n, [(6, Bo v6_22)], [])) (fun _ h => ?_) (fun v6_22 h => ?_)
 refine xMv rfl <| xMv rfl <| oIf 69 h rfl (fun q23 h => ?_) (fun q23 h => ?_)
 refine xFd rfl <| xLd rfl <| xC0 h (big_impl_inRange ·) rfl (fun c72_24 h => ?_)
 exact xPk rfl <| xAs rfl <| oNl <| eJ h rfl
 exact wSk rfl <| wSk rfl <| wSk rfl <| xPk rfl <| xAs rfl <| oNl <| eJ h rfl
 refine cRt ?_
 cases h
 exact eR rfl rfl rfl rfl
 refine cRs <| xEq rfl <| xAs rfl <| oNl <| cIf h rfl (fun q25 h => ?_) (fun q25 h => ?_)
 refine cRs <| oJn h [(6, 6), (76, 81)] [] (fun v6_26 => (.n, [(6, Bo v6_26)], [])) (fun _ h => ?_) (fun v6_26 h => ?_)
 refine xMv rfl <| xMv rfl <| oIf 77 h rfl (fun q27 h => ?_) (fun q27 h => ?_)
 refine xFd rfl <| xLd rfl <| xC0 h (big_impl_inRange ·) rfl (fun c80_28 h => ?_)
 exact xPk rfl <| xAs rfl <| oNl <| eJ h rfl
 exact wSk rfl <| wSk rfl <| wSk rfl <| xPk rfl <| xAs rfl <| oNl <| eJ h rfl
 refine cRt ?_
 cases h
 exact eR rfl rfl rfl rfl
 refine cRs <| xEq rfl <| xAs rfl <| oNl <| cIf h rfl (fun q29 h => ?_) (fun q29 h => ?_)
 refine cRs <| oJn h [(6, 6), (84, 96)] [] (fun v6_30 => (.n, [(6, Bo v6_30)], [])) (fun _ h => ?_) (fun v6_30 h => ?_)
 refine xFd rfl <| xLd rfl <| xEq rfl <| xMv rfl <| oIf 87 h rfl (fun q31 h => ?_) (fun q31 h => ?_)
 refine xFd rfl <| xLd rfl <| xC0 h (big_impl_isOp ·) rfl (fun c90_32 h => ?_)
 refine xPk rfl <| xMv rfl <| oIf 92 h rfl (fun q33 h => ?_) (fun q33 h => ?_)
 exact xFd rfl <| xLd rfl <| xEq rfl <| xPk rfl <| xAs rfl <| oNl <| eJ h rfl
 exact wSk rfl <| wSk rfl <| wSk rfl <| xPk rfl <| xAs rfl <| oNl <| eJ h rfl
 exact wSk rfl <| wSk rfl <| wSk rfl <| xPk rfl <| xMv rfl <| wSk rfl <| wSk rfl <| wSk rfl <| xPk rfl <| xAs rfl <| oNl <| eJ h rfl
 refine cRt ?_
 cases h
 exact eR rfl rfl rfl rfl
 refine cRs <| xEq rfl <| xAs rfl <| oNl <| cIf h rfl (fun q34 h => ?_) (fun q34 h => ?_)
 refine cRs <| xMv rfl <| xFd rfl <| xLd rfl <| xC1 h (big_impl_fnAt ·) rfl (fun c102_35 h => ?_)
 refine xAs rfl <| oRs <| oJn h [(6, 6), (103, 122)] [] (fun v6_36 => (.n, [(6, Bo v6_36)], [])) (fun _ h => ?_) (fun v6_36 h => ?_)
 refine xMv rfl <| xGe rfl <| xMv rfl <| oIf 105 h rfl (fun q37 h => ?_) (fun q37 h => ?_)
 refine xMv rfl <| xNc rfl <| xFd rfl <| xLd rfl <| xMv rfl <| xIx h rS_impl_Fn_eq rfl (fun e111_38 h => ?_)
 refine xFd rfl <| xLd rfl <| xFd rfl <| xLd rfl <| xEq rfl <| xPk rfl <| xMv rfl <| oIf 118 h rfl (fun q39 h => ?_) (fun q39 h => ?_)
 exact xFd rfl <| xLd rfl <| xEq rfl <| xPk rfl <| xAs rfl <| oNl <| eJ h rfl
 exact wSk rfl <| wSk rfl <| wSk rfl <| xPk rfl <| xAs rfl <| oNl <| eJ h rfl
 refine wSk rfl <| wSk rfl <| wSk rfl <| wSk rfl <| wSk rfl <| wSk rfl <| wSk rfl <| wSk rfl <| wSk rfl <| wSk rfl <| wSk rfl <| xPk rfl <| xMv rfl <| wSk rfl ?_
 exact wSk rfl <| wSk rfl <| xPk rfl <| xAs rfl <| oNl <| eJ h rfl
 refine cRt ?_
 cases h
 exact eR rfl rfl rfl rfl
 refine cRs <| xEq rfl <| xAs rfl <| oNl <| cIf h rfl (fun q40 h => ?_) (fun q40 h => ?_)
 refine cRs <| oJn h [(6, 6), (125, 156)] [] (fun v6_41 => (.n, [(6, Bo v6_41)], [])) (fun _ h => ?_) (fun v6_41 h => ?_)
 refine xFd rfl <| xLd rfl <| xEs rfl <| xMv rfl <| oIf 128 h rfl (fun q42 h => ?_) (fun q42 h => ?_)
 refine xMv rfl <| xPk rfl <| xMv rfl <| oIf 131 h rfl (fun q43 h => ?_) (fun q43 h => ?_)
 refine xFd rfl <| xLd rfl <| xMv rfl <| xNc rfl <| xFd rfl <| xLd rfl <| xLn rfl <| xSub rfl <| xC0 h (big_impl_inRange ·) rfl (fun c140_44 h => ?_)
 refine xPk rfl <| xMv rfl <| oIf 142 h rfl (fun q45 h => ?_) (fun q45 h => ?_)
 refine xMv rfl <| xNc rfl <| xFd rfl <| xLd rfl <| xFd rfl <| xLd rfl <| xIx h rS_impl_Pat_eq rfl (fun e149_46 h => ?_)
 refine xLd rfl <| xMv rfl <| xNc rfl <| xFd rfl <| xLd rfl <| xC0 h (big_impl_PatFits ·) rfl (fun c155_47 h => ?_)
 exact xPk rfl <| xAs rfl <| oNl <| eJ h rfl
 refine wSk rfl <| wSk rfl <| wSk rfl <| wSk rfl <| wSk rfl <| wSk rfl <| wSk rfl <| wSk rfl <| wSk rfl <| wSk rfl <| wSk rfl <| wSk rfl <| wSk rfl <| xPk rfl ?_
 exact xAs rfl <| oNl <| eJ h rfl
 refine wSk rfl <| wSk rfl <| wSk rfl <| wSk rfl <| wSk rfl <| wSk rfl <| wSk rfl <| wSk rfl <| wSk rfl <| xPk rfl <| xMv rfl <| wSk rfl <| wSk rfl <| wSk rfl ?_
 exact wSk rfl <| wSk rfl <| wSk rfl <| wSk rfl <| wSk rfl <| wSk rfl <| wSk rfl <| wSk rfl <| wSk rfl <| wSk rfl <| xPk rfl <| xAs rfl <| oNl <| eJ h rfl
 refine wSk rfl <| xPk rfl <| xMv rfl <| wSk rfl <| wSk rfl <| wSk rfl <| wSk rfl <| wSk rfl <| wSk rfl <| wSk rfl <| wSk rfl <| wSk rfl <| xPk rfl <| xMv rfl ?_
 refine wSk rfl <| wSk rfl <| wSk rfl <| wSk rfl <| wSk rfl <| wSk rfl <| wSk rfl <| wSk rfl <| wSk rfl <| wSk rfl <| wSk rfl <| wSk rfl <| wSk rfl <| xPk rfl ?_
 exact xAs rfl <| oNl <| eJ h rfl
 refine cRt ?_
 cases h
 exact eR rfl rfl rfl rfl
 refine cRs <| xEq rfl <| xAs rfl <| oNl <| cIf h rfl (fun q48 h => ?_) (fun q48 h => ?_)
 refine cRs <| oJn h [(6, 6), (159, 169)] [] (fun v6_49 => (.n, [(6, Bo v6_49)], [])) (fun _ h => ?_) (fun v6_49 h => ?_)
 refine xFd rfl <| xLd rfl <| xEs rfl <| xMv rfl <| oIf 162 h rfl (fun q50 h => ?_) (fun q50 h => ?_)
 refine xFd rfl <| xLd rfl <| xEq rfl <| xPk rfl <| xMv rfl <| oIf 167 h rfl (fun q51 h => ?_) (fun q51 h => ?_)
 exact xMv rfl <| xPk rfl <| xAs rfl <| oNl <| eJ h rfl
 exact wSk rfl <| xPk rfl <| xAs rfl <| oNl <| eJ h rfl
 exact wSk rfl <| wSk rfl <| wSk rfl <| xPk rfl <| xMv rfl <| wSk rfl <| xPk rfl <| xAs rfl <| oNl <| eJ h rfl
 refine cRt ?_
 cases h
 exact eR rfl rfl rfl rfl
 refine cSq <| cRs <| xEq rfl <| xAs rfl <| oNl <| cIf h rfl (fun q52 h => ?_) (fun q52 h => ?_)
 refine cSk <| cT rfl <| cRs <| oJn h [(6, 6), (173, 178)] [] (fun v6_53 => (.n, [(6, Bo v6_53)], [])) (fun _ h => ?_) (fun v6_53 h => ?_)
 refine xMv rfl <| xMv rfl <| oIf 174 h rfl (fun q54 h => ?_) (fun q54 h => ?_)
 exact xFd rfl <| xLd rfl <| xEq rfl <| xPk rfl <| xAs rfl <| oNl <| eJ h rfl
 exact wSk rfl <| wSk rfl <| wSk rfl <| xPk rfl <| xAs rfl <| oNl <| eJ h rfl
 refine cRt ?_
 cases h
 exact eR rfl rfl rfl rfl
 refine cRg <| xEq rfl <| xAs rfl <| oNl <| cIf h rfl (fun q55 h => ?_) (fun q55 h => ?_)
 refine cRs <| oJn h [(6, 6), (173, 178)] [] (fun v6_56 => (.n, [(6, Bo v6_56)], [])) (fun _ h => ?_) (fun v6_56 h => ?_)
 refine xMv rfl <| xMv rfl <| oIf 174 h rfl (fun q57 h => ?_) (fun q57 h => ?_)
 exact xFd rfl <| xLd rfl <| xEq rfl <| xPk rfl <| xAs rfl <| oNl <| eJ h rfl
 exact wSk rfl <| wSk rfl <| wSk rfl <| xPk rfl <| xAs rfl <| oNl <| eJ h rfl
 refine cRt ?_
 cases h
 exact eR rfl rfl rfl rfl
 refine cSk <| cRs <| xAs rfl <| oNl <| cRt ?_
 cases h
 exact eR rfl rfl rfl rfl
abbrev B_impl_climber_comes (p : Int → Int → (List Int) → Bool → Option ((List Int) × Bool)) : Prop := ∀ {t1_0 t2_0 : Int} {o0_0 : List Int} {o0_1 : Bool} {r : (List Int) × Bool}, p t1_0 t2_0 o0_0 o0_1 = some r → Big Try.prog τ An (.fn 269 [.one (.ptr 1000000 0), .one (.c (.int .i64 t1_0)), .one (.c (.int .i64 t2_0))] [[.sl (o0_0.map rI_i64), .bool o0_1]] (.tup []) none [[.sl (r.1.map rI_i64), .bool r.2]] none)
def p_impl_climber_comes (n : Nat) (t1_0 : Int) (t2_0 : Int) (o0_0 : List Int) (o0_1 : Bool) : Option ((List Int) × Bool) :=
  (bif decide ((o0_0.length : Int) ≤ t1_0) then some true else some (decide ((300 : Int) < t2_0))).bind fun v6_1 => bif v6_1 then some (o0_0, true) else (ix o0_0 t1_0).bind fun e27_4 => bif decide (e27_4 < (0 : Int)) then (ix o0_0 t1_0).bind fun e36_6 => (some (o0_0.set (Int.toNat t1_0) t2_0)).bind fun u1000000_7 => some (u1000000_7, o0_1) else (ix o0_0 t1_0).bind fun e43_8 => bif !decide (e43_8 = t2_0) then some (o0_0, true) else some (o0_0, o0_1)
theorem big_impl_climber_comes {n : Nat} : B_impl_climber_comes (p_impl_climber_comes n) := by
 intro t1_0 t2_0 o0_0 o0_1 r h
 unfold p_impl_climber_comes at h
 refine bF Try.func269 rfl rfl <| cBk <| cRs <| oJn h [(6, 17)] [] (fun v6_1 => (.n, [(6, Bo v6_1)], [])) (fun _ h => ?_) (fun v6_1 h => ?_)
 refine xMv rfl <| xMv rfl <| xNc rfl <| xFd rfl <| xLd rfl <| xLn rfl <| xGe rfl <| xMv rfl <| oIf 14 h rfl (fun q2 h => ?_) (fun q2 h => ?_)
 exact wSk rfl <| wSk rfl <| xPk rfl <| xAs rfl <| oNl <| eJ h rfl
 exact xMv rfl <| xGt rfl <| xPk rfl <| xAs rfl <| oNl <| eJ h rfl
 refine cIf h rfl (fun q3 h => ?_) (fun q3 h => ?_)
 refine cRg <| xMv rfl <| xNc rfl <| xFd rfl <| xSt rfl <| oNl ?_
 cases h
 exact eN rfl rfl rfl rfl
 refine cRs <| xMv rfl <| xNc rfl <| xFd rfl <| xLd rfl <| xMv rfl <| xIx h rI_i64_eq rfl (fun e27_4 h => ?_)
 refine xLd rfl <| xLt rfl <| xAs rfl <| oNl <| cIf h rfl (fun q5 h => ?_) (fun q5 h => ?_)
 refine cRg <| xMv rfl <| xNc rfl <| xFd rfl <| wLa rfl rfl rfl rfl rfl rfl rfl <| xMv rfl <| xMv rfl <| wIp (f := rI_i64) h rfl rfl rfl rfl rfl rfl (fun _ => rfl) rfl (fun e36_6 ke36_6 h => ?_)
 refine wSpN (f := rI_i64) (v' := t2_0) h ke36_6 rfl rfl rfl rfl rfl rfl rfl rfl rfl (fun u1000000_7 h => ?_)
 refine oNl ?_
 cases h
 exact eN rfl rfl rfl rfl
 refine cRs <| xMv rfl <| xNc rfl <| xFd rfl <| xLd rfl <| xMv rfl <| xIx h rI_i64_eq rfl (fun e43_8 h => ?_)
 refine xLd rfl <| xMv rfl <| xNe rfl <| xAs rfl <| oNl <| cIf h rfl (fun q9 h => ?_) (fun q9 h => ?_)
 refine cRg <| xMv rfl <| xNc rfl <| xFd rfl <| xSt rfl <| oNl ?_
 cases h
 exact eN rfl rfl rfl rfl
 refine cSk ?_
 cases h
 exact eN rfl rfl rfl rfl
abbrev B_impl_takesOf (p : Int → Int → (List UInt8) → Int → Option (Int)) : Prop := ∀ {t0_0 t0_1 : Int} {t0_2 : List UInt8} {t0_3 : Int} {r : Int}, p t0_0 t0_1 t0_2 t0_3 = some r → Big Try.prog τ An (.fn 279 [.one (.ag [.int .i64 t0_0, .int .i64 t0_1, .str t0_2, .int .i64 t0_3])] [] (.one (.c (.int .i64 r))) none [] none)
def p_impl_takesOf (n : Nat) (t0_0 : Int) (t0_1 : Int) (t0_2 : List UInt8) (t0_3 : Int) : Option (Int) :=
  bif decide (t0_0 = (4 : Int)) then some t0_1 else bif decide (t0_0 = (5 : Int)) then some t0_1 else bif decide (t0_0 = (6 : Int)) then some t0_1 else bif decide (t0_0 = (8 : Int)) then some t0_1 else bif decide (t0_0 = (7 : Int)) then some (2 : Int) else bif decide (t0_0 = (9 : Int)) then some (1 : Int) else bif decide (t0_0 = (12 : Int)) then some (1 : Int) else some (0 : Int)
theorem big_impl_takesOf {n : Nat} : B_impl_takesOf (p_impl_takesOf n) := by
 intro t0_0 t0_1 t0_2 t0_3 r h
 unfold p_impl_takesOf at h
 refine bF Try.func279 rfl rfl <| cRs <| xBx rfl <| xAs rfl <| oNl <| cSq <| cRs <| xFd rfl <| xLd rfl <| oNl <| cBk <| cSq <| cRs <| xEq rfl ?_
 refine xAs rfl <| oNl <| cIf h rfl (fun q1 h => ?_) (fun q1 h => ?_)
 refine cSk <| cT rfl <| cRs <| xFd rfl <| xLd rfl <| xAs rfl <| oNl <| cRt ?_
 cases h
 exact eR rfl rfl rfl rfl
 refine cRs <| xEq rfl <| xAs rfl <| oNl <| cIf h rfl (fun q2 h => ?_) (fun q2 h => ?_)
 refine cSk <| cT rfl <| cRs <| xFd rfl <| xLd rfl <| xAs rfl <| oNl <| cRt ?_
 cases h
 exact eR rfl rfl rfl rfl
 refine cRs <| xEq rfl <| xAs rfl <| oNl <| cIf h rfl (fun q3 h => ?_) (fun q3 h => ?_)
 refine cSk <| cT rfl <| cRs <| xFd rfl <| xLd rfl <| xAs rfl <| oNl <| cRt ?_
 cases h
 exact eR rfl rfl rfl rfl
 refine cRg <| xEq rfl <| xAs rfl <| oNl <| cIf h rfl (fun q4 h => ?_) (fun q4 h => ?_)
 refine cRs <| xFd rfl <| xLd rfl <| xAs rfl <| oNl <| cRt ?_
 cases h
 exact eR rfl rfl rfl rfl
 refine cRs <| xEq rfl <| xAs rfl <| oNl <| cIf h rfl (fun q5 h => ?_) (fun q5 h => ?_)
 refine cRs <| xAs rfl <| oNl <| cRt ?_
 cases h
 exact eR rfl rfl rfl rfl
 refine cSq <| cRs <| xEq rfl <| xAs rfl <| oNl <| cIf h rfl (fun q6 h => ?_) (fun q6 h => ?_)
 refine cSk <| cT rfl <| cRs <| xAs rfl <| oNl <| cRt ?_
 cases h
 exact eR rfl rfl rfl rfl
 refine cRg <| xEq rfl <| xAs rfl <| oNl <| cIf h rfl (fun q7 h => ?_) (fun q7 h => ?_)
 refine cRs <| xAs rfl <| oNl <| cRt ?_
 cases h
 exact eR rfl rfl rfl rfl
 refine cSk <| cRs <| xAs rfl <| oNl <| cRt ?_
 cases h
 exact eR rfl rfl rfl rfl
abbrev B_impl_climber_leaves (p : Int → Int → Int → (List UInt8) → Int → (List Int) → Bool → Option ((List Int) × Bool)) : Prop := ∀ {t1_0 t2_0 t2_1 : Int} {t2_2 : List UInt8} {t2_3 : Int} {o0_0 : List Int} {o0_1 : Bool} {r : (List Int) × Bool}, p t1_0 t2_0 t2_1 t2_2 t2_3 o0_0 o0_1 = some r → Big Try.prog τ An (.fn 270 [.one (.ptr 1000000 0), .one (.c (.int .i64 t1_0)), .one (.ag [.int .i64 t2_0, .int .i64 t2_1, .str t2_2, .int .i64 t2_3])] [[.sl (o0_0.map rI_i64), .bool o0_1]] (.tup []) none [[.sl (r.1.map rI_i64), .bool r.2]] none)
def p_impl_climber_leaves (n : Nat) (t1_0 : Int) (t2_0 : Int) (t2_1 : Int) (t2_2 : List UInt8) (t2_3 : Int) (o0_0 : List Int) (o0_1 : Bool) : Option ((List Int) × Bool) :=
  (ix o0_0 t1_0).bind fun e12_1 => ((p_impl_takesOf n t2_0 t2_1 t2_2 t2_3).bind fun c16_3 => bif decide (e12_1 < c16_3) then some true else bif decide (t2_0 = (9 : Int)) then some (decide (t2_3 ≤ t1_0)) else bif decide (t2_0 = (10 : Int)) then some (decide (t2_3 ≤ t1_0)) else some false).bind fun v33_2 => bif v33_2 then some (o0_0, true) else bif decide (t2_0 = (9 : Int)) then (p_impl_climber_comes n (IntKind.wrap .i64 (t1_0 + (1 : Int))) (IntKind.wrap .i64 (e12_1 - (1 : Int))) o0_0 o0_1).bind fun c55_9 => (p_impl_climber_comes n t2_3 e12_1 c55_9.1 c55_9.2).bind fun c60_10 => some (c60_10.1, c60_10.2) else bif decide (t2_0 = (10 : Int)) then (p_impl_climber_comes n t2_3 e12_1 o0_0 o0_1).bind fun c67_12 => some (c67_12.1, c67_12.2) else bif decide (t2_0 = (11 : Int)) then some (o0_0, o0_1) else bif decide (t2_0 = (12 : Int)) then (bif o0_1 then some (o0_0, true) else some (o0_0, (!decide (e12_1 = (1 : Int))))).bind fun (w1000000_15, w1000000_16) => some (w1000000_15, w1000000_16) else (p_impl_takesOf n t2_0 t2_1 t2_2 t2_3).bind fun c44_18 => (p_impl_climber_comes n (IntKind.wrap .i64 (t1_0 + (1 : Int))) (IntKind.wrap .i64 ((IntKind.wrap .i64 (e12_1 - c44_18)) + (1 : Int))) o0_0 o0_1).bind fun c47_19 => some (c47_19.1, c47_19.2)
theorem big_impl_climber_leaves {n : Nat} : B_impl_climber_leaves (p_impl_climber_leaves n) := by
 intro t1_0 t2_0 t2_1 t2_2 t2_3 o0_0 o0_1 r h
 unfold p_impl_climber_leaves at h
 refine bF Try.func270 rfl rfl <| cRs <| xBx rfl <| oRs <| xMv rfl <| xNc rfl <| xFd rfl <| xLd rfl <| xMv rfl <| xIx h rI_i64_eq rfl (fun e12_1 h => ?_)
 refine xLd rfl <| xAs rfl <| oNl <| cSq <| cRs <| oJn h [(14, 33)] [] (fun v33_2 => (.n, [(33, Bo v33_2)], [])) (fun _ h => ?_) (fun v33_2 h => ?_)
 refine xMv rfl <| xLd rfl <| xC0 h (big_impl_takesOf ·) rfl (fun c16_3 h => ?_)
 refine xLt rfl <| xMv rfl <| oIf 18 h rfl (fun q4 h => ?_) (fun q4 h => ?_)
 refine wSk rfl <| wSk rfl <| wSk rfl <| wSk rfl <| wSk rfl <| wSk rfl <| wSk rfl <| wSk rfl <| wSk rfl <| wSk rfl <| wSk rfl <| wSk rfl <| wSk rfl <| wSk rfl ?_
 exact xPk rfl <| oNl <| eJ h rfl
 refine xFd rfl <| xLd rfl <| xEq rfl <| xMv rfl <| oIf 22 h rfl (fun q5 h => ?_) (fun q5 h => ?_)
 exact wSk rfl <| wSk rfl <| wSk rfl <| xPk rfl <| xMv rfl <| xFd rfl <| xLd rfl <| xMv rfl <| xLe rfl <| xPk rfl <| xPk rfl <| oNl <| eJ h rfl
 refine xFd rfl <| xLd rfl <| xEq rfl <| xPk rfl <| xMv rfl <| oIf 27 h rfl (fun q6 h => ?_) (fun q6 h => ?_)
 exact xFd rfl <| xLd rfl <| xMv rfl <| xLe rfl <| xPk rfl <| xPk rfl <| oNl <| eJ h rfl
 exact wSk rfl <| wSk rfl <| wSk rfl <| wSk rfl <| xPk rfl <| xPk rfl <| oNl <| eJ h rfl
 refine cIf h rfl (fun q7 h => ?_) (fun q7 h => ?_)
 refine cRs <| xMv rfl <| xNc rfl <| xFd rfl <| xSt rfl <| oNl <| cRt ?_
 cases h
 exact eR rfl rfl rfl rfl
 refine cSk <| cRs <| xFd rfl <| xLd rfl <| oNl <| cBk <| cRs <| xEq rfl <| xAs rfl <| oNl <| cIf h rfl (fun q8 h => ?_) (fun q8 h => ?_)
 refine cRs <| xMv rfl <| xMv rfl <| xAdd rfl <| xMv rfl <| xSub rfl <| xC1 h (big_impl_climber_comes ·) rfl (fun c55_9 h => ?_)
 refine oNl <| cRg <| xMv rfl <| xFd rfl <| xLd rfl <| xMv rfl <| xC1 h (big_impl_climber_comes ·) rfl (fun c60_10 h => ?_)
 refine oNl ?_
 cases h
 exact eN rfl rfl rfl rfl
 refine cRs <| xEq rfl <| xAs rfl <| oNl <| cIf h rfl (fun q11 h => ?_) (fun q11 h => ?_)
 refine cRg <| xMv rfl <| xFd rfl <| xLd rfl <| xMv rfl <| xC1 h (big_impl_climber_comes ·) rfl (fun c67_12 h => ?_)
 refine oNl ?_
 cases h
 exact eN rfl rfl rfl rfl
 refine cRs <| xEq rfl <| xAs rfl <| oNl <| cIf h rfl (fun q13 h => ?_) (fun q13 h => ?_)
 refine cSk ?_
 cases h
 exact eN rfl rfl rfl rfl
 refine cRs <| xEq rfl <| xAs rfl <| oNl <| cIf h rfl (fun q14 h => ?_) (fun q14 h => ?_)
 refine cRg <| oJn h [(72, 82)] [(1000000, 1000000)] (fun (w1000000_15, w1000000_16) => (.n, [], [(1000000, [.sl (w1000000_15.map rI_i64), .bool w1000000_16])])) (fun _ h => ?_) (fun q h => ?_)
 refine xMv rfl <| xMv rfl <| xNc rfl <| xFd rfl <| xLd rfl <| xMv rfl <| oIf 77 h rfl (fun q17 h => ?_) (fun q17 h => ?_)
 exact wSk rfl <| wSk rfl <| xPk rfl <| xNc rfl <| xFd rfl <| xSt rfl <| oNl <| eJ h rfl
 exact xMv rfl <| xNe rfl <| xPk rfl <| xNc rfl <| xFd rfl <| xSt rfl <| oNl <| eJ h rfl
 obtain ⟨w1000000_15, w1000000_16⟩ := q
 cases h
 exact eN rfl rfl rfl rfl
 refine cRg <| xMv rfl <| xMv rfl <| xAdd rfl <| xMv rfl <| xLd rfl <| xC0 h (big_impl_takesOf ·) rfl (fun c44_18 h => ?_)
 refine xSub rfl <| xAdd rfl <| xC1 h (big_impl_climber_comes ·) rfl (fun c47_19 h => ?_)
 refine oNl ?_
 cases h
 exact eN rfl rfl rfl rfl
abbrev B_impl_heightsOf (p : (List UInt8) → Int → Int → (List S_impl_Ins) → Option ((List Int) × Bool)) : Prop := ∀ {t0_0 : List UInt8} {t0_1 t0_2 : Int} {t0_3 : List S_impl_Ins} {r : (List Int) × Bool}, p t0_0 t0_1 t0_2 t0_3 = some r → Big Try.prog τ An (.fn 245 [.one (.cp [.str t0_0, .int .i64 t0_1, .int .i64 t0_2, .sl (t0_3.map rS_impl_Ins)])] [] (.tup [.c (.sl (r.1.map rI_i64)), .c (.bool r.2)]) none [] none)
def p_impl_heightsOf_b1 (n : Nat) (t0_3 : List S_impl_Ins) : (Int × (List Int) × Bool) → Option ((Int × (List Int) × Bool) ⊕ ((Int × Bool × (List Int) × Bool)))
  | (v18_2, w4_3, w4_4) => bif decide (v18_2 < ((List.replicate (Int.toNat (t0_3.length : Int)) (0 : Int)).length : Int)) then (ix w4_3 v18_2).bind fun e24_10 => (some (w4_3.set (Int.toNat v18_2) ((-1) : Int))).bind fun u4_11 => some (.inl ((IntKind.wrap .i64 (v18_2 + (1 : Int))), u4_11, w4_4)) else some (.inr (v18_2, false, w4_3, w4_4))
def p_impl_heightsOf_b2 (n : Nat) (t0_3 : List S_impl_Ins) : (Int × (List Int) × Bool) → Option ((Int × (List Int) × Bool) ⊕ (((List Int) × Bool) ⊕ (Int × Bool × (List Int) × Bool)))
  | (v32_13, w4_14, w4_15) => bif decide (v32_13 < (t0_3.length : Int)) then (ix t0_3 v32_13).bind fun e35_23 => (bif w4_15 then some true else (ix w4_14 v32_13).bind fun e43_26 => some (decide (e43_26 < (0 : Int)))).bind fun v46_24 => bif v46_24 then some (.inr (.inl (([] : List Int), false))) else (p_impl_climber_leaves n v32_13 e35_23.f0 e35_23.f1 e35_23.f2 e35_23.f3 w4_14 w4_15).bind fun c49_28 => some (.inl ((IntKind.wrap .i64 (v32_13 + (1 : Int))), c49_28.1, c49_28.2)) else some (.inr (.inr (v32_13, false, w4_14, w4_15)))
def p_impl_heightsOf (n : Nat) (t0_0 : List UInt8) (t0_1 : Int) (t0_2 : Int) (t0_3 : List S_impl_Ins) : Option ((List Int) × Bool) :=
  (ck (decide (0 ≤ (t0_3.length : Int) ∧ (t0_3.length : Int) ≤ maxLen ∧ 8 * (t0_3.length : Int) ≤ 281474976710656))).bind fun _ => (loopN (p_impl_heightsOf_b1 n t0_3) n ((0 : Int), (List.replicate (Int.toNat (t0_3.length : Int)) (0 : Int)), false)).bind fun (v18_5, v19_6, w4_7, w4_8) => (p_impl_climber_comes n (0 : Int) (0 : Int) w4_7 w4_8).bind fun c26_12 => (loopN (p_impl_heightsOf_b2 n t0_3) n ((0 : Int), c26_12.1, c26_12.2)).bind fun q => (match q with | .inl (v2_16, v3_17) => some (v2_16, v3_17) | .inr (v32_18, v33_19, w4_20, w4_21) => some (w4_20, (!w4_21)))
theorem big_impl_heightsOf {n : Nat} : B_impl_heightsOf (p_impl_heightsOf n) := by
 intro t0_0 t0_1 t0_2 t0_3 r h
 unfold p_impl_heightsOf at h
 refine bF Try.func245 rfl rfl <| cRs <| wAe (Li rI_i64 []) rfl rfl rfl rfl <| xAs rfl <| oRs <| xMv rfl <| xNc rfl <| xFd rfl <| xLd rfl <| xLn rfl <| oCk h (fun k13_0 h => ?_)
 refine wMk (z := (0 : Int)) (f := rI_i64) k13_0 rfl rfl rfl rfl rfl rfl rfl <| wBd [.sl ((List.replicate (Int.toNat (t0_3.length : Int)) (0 : Int)).map rI_i64), .bool false] rfl rfl rfl rfl rfl rfl <| xAz [.sl ([].map rI_i64), .bool false] rfl <| xSt rfl <| oNl <| cSq <| cRs <| xFd rfl <| xLd rfl <| xLn rfl <| xMv rfl <| oNl <| cLp h [(5, 5), (18, 25)] [(4, 4)] (fun (v18_2, w4_3, w4_4) => ([(18, I64 v18_2)], [(4, [.sl (w4_3.map rI_i64), .bool w4_4])])) (fun (v18_5, v19_6, w4_7, w4_8) => (.e 0, [(18, I64 v18_5), (19, Bo v19_6)], [(4, [.sl (w4_7.map rI_i64), .bool w4_8])])) rfl (fun st _ h => ?_) (fun q h => ?_)
 obtain ⟨v18_2, w4_3, w4_4⟩ := st
 unfold p_impl_heightsOf_b1 at h
 refine cRs <| xLt rfl <| oNl <| cSq <| cIf h rfl (fun q9 h => ?_) (fun q9 h => ?_)
 refine cSk <| cSq <| cBk <| cRs <| xMv rfl <| xAs rfl <| oNl <| cRg <| xFd rfl <| wLa rfl rfl rfl rfl rfl rfl rfl <| xMv rfl <| wIp (f := rI_i64) h rfl rfl rfl rfl rfl rfl (fun _ => rfl) rfl (fun e24_10 ke24_10 h => ?_)
 refine wSpN (f := rI_i64) (v' := ((-1) : Int)) h ke24_10 rfl rfl rfl rfl rfl rfl rfl rfl rfl (fun u4_11 h => ?_)
 exact oNl <| cRg <| xAdd rfl <| xMv rfl <| oNl <| eL h rfl
 exact cEx <| eX h rfl
 obtain ⟨v18_5, v19_6, w4_7, w4_8⟩ := q
 refine cRs <| xC1 h (big_impl_climber_comes ·) rfl (fun c26_12 h => ?_)
 refine oNl <| cSq <| cRs <| xMv rfl <| xNc rfl <| xFd rfl <| xLd rfl <| xLn rfl <| xMv rfl <| oNl <| cLp h [(2, 3), (6, 7), (32, 50)] [(4, 4), (7, 7)] (fun (v32_13, w4_14, w4_15) => ([(32, I64 v32_13)], [(4, [.sl (w4_14.map rI_i64), .bool w4_15])])) (fun q => match q with | .inl (v2_16, v3_17) => (.r, [(2, Li rI_i64 v2_16), (3, Bo v3_17)], []) | .inr (v32_18, v33_19, w4_20, w4_21) => (.e 2, [(32, I64 v32_18), (33, Bo v33_19)], [(4, [.sl (w4_20.map rI_i64), .bool w4_21])])) rfl (fun st _ h => ?_) (fun q h => ?_)
 obtain ⟨v32_13, w4_14, w4_15⟩ := st
 unfold p_impl_heightsOf_b2 at h
 refine cRs <| xLt rfl <| oNl <| cSq <| cIf h rfl (fun q22 h => ?_) (fun q22 h => ?_)
 refine cSk <| cSq <| cBk <| cRs <| xMv rfl <| xIx h rS_impl_Ins_eq rfl (fun e35_23 h => ?_)
 refine xLd rfl <| xAc rfl <| xAs rfl <| xSt rfl <| oNl <| cSq <| cRs <| oJn h [(37, 46)] [] (fun v46_24 => (.n, [(46, Bo v46_24)], [])) (fun _ h => ?_) (fun v46_24 h => ?_)
 refine xFd rfl <| xLd rfl <| xMv rfl <| oIf 39 h rfl (fun q25 h => ?_) (fun q25 h => ?_)
 exact wSk rfl <| wSk rfl <| wSk rfl <| wSk rfl <| wSk rfl <| wSk rfl <| xPk rfl <| oNl <| eJ h rfl
 refine xFd rfl <| xLd rfl <| xMv rfl <| xIx h rI_i64_eq rfl (fun e43_26 h => ?_)
 exact xLd rfl <| xLt rfl <| xPk rfl <| oNl <| eJ h rfl
 refine cIf h rfl (fun q27 h => ?_) (fun q27 h => ?_)
 exact cRs <| wAe (Li rI_i64 []) rfl rfl rfl rfl <| xAs rfl <| oNl <| cRt <| eXr h rfl
 refine cSk <| cRg <| xMv rfl <| xLd rfl <| xC1 h (big_impl_climber_leaves ·) rfl (fun c49_28 h => ?_)
 exact oNl <| cRg <| xAdd rfl <| xMv rfl <| oNl <| eL h rfl
 exact cEx <| eX h rfl
 rcases q with ⟨v2_16, v3_17⟩ | ⟨v32_18, v33_19, w4_20, w4_21⟩
 cases h
 exact eR rfl rfl rfl rfl
 refine cRs <| xFd rfl <| xLd rfl <| xFd rfl <| xLd rfl <| xNot rfl <| xAs rfl <| xAs rfl <| oNl <| cRt ?_
 cases h
 exact eR rfl rfl rfl rfl
abbrev B_impl_fnOk (p : (List UInt8) → Int → Int → (List S_impl_Ins) → (List S_impl_Fn) → (List S_impl_Pat) → Option (Bool × (List S_impl_Fn) × (List S_impl_Pat))) : Prop := ∀ {t1_0 : List UInt8} {t1_1 t1_2 : Int} {t1_3 : List S_impl_Ins} {o0_0 : List S_impl_Fn} {o0_1 : List S_impl_Pat} {r : Bool × (List S_impl_Fn) × (List S_impl_Pat)}, p t1_0 t1_1 t1_2 t1_3 o0_0 o0_1 = some r → Big Try.prog τ An (.fn 207 [.one (.ptr 1000000 0), .one (.cp [.str t1_0, .int .i64 t1_1, .int .i64 t1_2, .sl (t1_3.map rS_impl_Ins)])] [[.sl (o0_0.map rS_impl_Fn), .sl (o0_1.map rS_impl_Pat)]] (.one (.c (.bool r.1))) none [[.sl (r.2.1.map rS_impl_Fn), .sl (r.2.2.map rS_impl_Pat)]] none)
def p_impl_fnOk_b1 (n : Nat) (t1_0 : List UInt8) (t1_1 : Int) (t1_2 : Int) (t1_3 : List S_impl_Ins) : (Int × (List S_impl_Fn) × (List S_impl_Pat)) → Option ((Int × (List S_impl_Fn) × (List S_impl_Pat)) ⊕ ((Bool × (List S_impl_Fn) × (List S_impl_Pat)) ⊕ (Int × Bool × (List S_impl_Fn) × (List S_impl_Pat))))
  | (v49_10, w1000000_11, w1000000_12) => bif decide (v49_10 < (t1_3.length : Int)) then (ix t1_3 v49_10).bind fun e51_21 => (p_impl_insOk n t1_0 t1_1 t1_2 t1_3 e51_21.f0 e51_21.f1 e51_21.f2 e51_21.f3 w1000000_11 w1000000_12).bind fun c56_22 => bif !c56_22.1 then some (.inr (.inl (false, c56_22.2.1, c56_22.2.2))) else some (.inl ((IntKind.wrap .i64 (v49_10 + (1 : Int))), c56_22.2.1, c56_22.2.2)) else some (.inr (.inr (v49_10, false, w1000000_11, w1000000_12)))
def p_impl_fnOk (n : Nat) (t1_0 : List UInt8) (t1_1 : Int) (t1_2 : Int) (t1_3 : List S_impl_Ins) (o0_0 : List S_impl_Fn) (o0_1 : List S_impl_Pat) : Option (Bool × (List S_impl_Fn) × (List S_impl_Pat)) :=
  ((p_impl_xAtomOk n t1_0).bind fun c13_2 => bif !c13_2 then some true else (p_impl_inRange n t1_1 (0 : Int) (4 : Int)).bind fun c20_4 => bif !c20_4 then some true else (p_impl_inRange n t1_2 t1_1 (400 : Int)).bind fun c32_6 => bif !c32_6 then some true else (p_impl_inRange n (t1_3.length : Int) (1 : Int) (1500 : Int)).bind fun c41_8 => some (!c41_8)).bind fun v43_1 => bif v43_1 then some (false, o0_0, o0_1) else (loopN (p_impl_fnOk_b1 n t1_0 t1_1 t1_2 t1_3) n ((0 : Int), o0_0, o0_1)).bind fun q => (match q with | .inl (v4_13, w1000000_14, w1000000_15) => some (v4_13, w1000000_14, w1000000_15) | .inr (v49_16, v50_17, w1000000_18, w1000000_19) => (p_impl_heightsOf n t1_0 t1_1 t1_2 t1_3).bind fun c61_24 => some (c61_24.2, w1000000_18, w1000000_19))
theorem big_impl_fnOk {n : Nat} : B_impl_fnOk (p_impl_fnOk n) := by
 intro t1_0 t1_1 t1_2 t1_3 o0_0 o0_1 r h
 unfold p_impl_fnOk at h
 refine bF Try.func207 rfl rfl <| cRs <| xAs rfl <| oNl <| cSq <| cRs <| oJn h [(9, 43)] [] (fun v43_1 => (.n, [(43, Bo v43_1)], [])) (fun _ h => ?_) (fun v43_1 h => ?_)
 refine xMv rfl <| xNc rfl <| xFd rfl <| xLd rfl <| xC0 h (big_impl_xAtomOk ·) rfl (fun c13_2 h => ?_)
 refine xNot rfl <| xMv rfl <| oIf 15 h rfl (fun q3 h => ?_) (fun q3 h => ?_)
 refine wSk rfl <| wSk rfl <| wSk rfl <| wSk rfl <| wSk rfl <| wSk rfl <| xPk rfl <| xMv rfl <| wSk rfl <| wSk rfl <| wSk rfl <| wSk rfl <| wSk rfl <| wSk rfl ?_
 refine wSk rfl <| wSk rfl <| wSk rfl <| wSk rfl <| xPk rfl <| xMv rfl <| wSk rfl <| wSk rfl <| wSk rfl <| wSk rfl <| wSk rfl <| wSk rfl <| wSk rfl <| xPk rfl ?_
 exact oNl <| eJ h rfl
 refine xMv rfl <| xNc rfl <| xFd rfl <| xLd rfl <| xC0 h (big_impl_inRange ·) rfl (fun c20_4 h => ?_)
 refine xNot rfl <| xPk rfl <| xMv rfl <| oIf 23 h rfl (fun q5 h => ?_) (fun q5 h => ?_)
 refine wSk rfl <| wSk rfl <| wSk rfl <| wSk rfl <| wSk rfl <| wSk rfl <| wSk rfl <| wSk rfl <| wSk rfl <| wSk rfl <| xPk rfl <| xMv rfl <| wSk rfl <| wSk rfl ?_
 exact wSk rfl <| wSk rfl <| wSk rfl <| wSk rfl <| wSk rfl <| xPk rfl <| oNl <| eJ h rfl
 refine xMv rfl <| xNc rfl <| xFd rfl <| xLd rfl <| xMv rfl <| xNc rfl <| xFd rfl <| xLd rfl <| xC0 h (big_impl_inRange ·) rfl (fun c32_6 h => ?_)
 refine xNot rfl <| xPk rfl <| xMv rfl <| oIf 35 h rfl (fun q7 h => ?_) (fun q7 h => ?_)
 exact wSk rfl <| wSk rfl <| wSk rfl <| wSk rfl <| wSk rfl <| wSk rfl <| wSk rfl <| xPk rfl <| oNl <| eJ h rfl
 refine xMv rfl <| xNc rfl <| xFd rfl <| xLd rfl <| xLn rfl <| xC0 h (big_impl_inRange ·) rfl (fun c41_8 h => ?_)
 exact xNot rfl <| xPk rfl <| oNl <| eJ h rfl
 refine cIf h rfl (fun q9 h => ?_) (fun q9 h => ?_)
 refine cRs <| xAs rfl <| oNl <| cRt ?_
 cases h
 exact eR rfl rfl rfl rfl
 refine cSk <| cSq <| cRs <| xMv rfl <| xNc rfl <| xFd rfl <| xLd rfl <| xLn rfl <| xMv rfl <| oNl <| cLp h [(4, 4), (6, 6), (49, 58)] [(6, 6), (1000000, 1000000)] (fun (v49_10, w1000000_11, w1000000_12) => ([(49, I64 v49_10)], [(1000000, [.sl (w1000000_11.map rS_impl_Fn), .sl (w1000000_12.map rS_impl_Pat)])])) (fun q => match q with | .inl (v4_13, w1000000_14, w1000000_15) => (.r, [(4, Bo v4_13)], [(1000000, [.sl (w1000000_14.map rS_impl_Fn), .sl (w1000000_15.map rS_impl_Pat)])]) | .inr (v49_16, v50_17, w1000000_18, w1000000_19) => (.e 0, [(49, I64 v49_16), (50, Bo v50_17)], [(1000000, [.sl (w1000000_18.map rS_impl_Fn), .sl (w1000000_19.map rS_impl_Pat)])])) rfl (fun st _ h => ?_) (fun q h => ?_)
 obtain ⟨v49_10, w1000000_11, w1000000_12⟩ := st
 unfold p_impl_fnOk_b1 at h
 refine cRs <| xLt rfl <| oNl <| cSq <| cIf h rfl (fun q20 h => ?_) (fun q20 h => ?_)
 refine cSk <| cSq <| cBk <| cRs <| xIx h rS_impl_Ins_eq rfl (fun e51_21 h => ?_)
 refine xLd rfl <| xAc rfl <| xSt rfl <| oRs <| xMv rfl <| xMv rfl <| xLd rfl <| xC1 h (big_impl_insOk ·) rfl (fun c56_22 h => ?_)
 refine xNot rfl <| oNl <| cIf h rfl (fun q23 h => ?_) (fun q23 h => ?_)
 exact cRs <| xAs rfl <| oNl <| cRt <| eXr h rfl
 exact cSk <| cRg <| xAdd rfl <| xMv rfl <| oNl <| eL h rfl
 exact cEx <| eX h rfl
 rcases q with ⟨v4_13, w1000000_14, w1000000_15⟩ | ⟨v49_16, v50_17, w1000000_18, w1000000_19⟩
 cases h
 exact eR rfl rfl rfl rfl
 refine cRs <| xMv rfl <| xC0 h (big_impl_heightsOf ·) rfl (fun c61_24 h => ?_)
 refine xMv rfl <| xEt rfl <| xEt rfl <| xAs rfl <| xAs rfl <| oRs <| xMv rfl <| xAs rfl <| oNl <| cRt ?_
 cases h
 exact eR rfl rfl rfl rfl
abbrev B_impl_CodeOk (p : (List S_impl_Fn) → (List S_impl_Pat) → Option (Bool)) : Prop := ∀ {t0_0 : List S_impl_Fn} {t0_1 : List S_impl_Pat} {r : Bool}, p t0_0 t0_1 = some r → Big Try.prog τ An (.fn 144 [.one (.ag [.sl (t0_0.map rS_impl_Fn), .sl (t0_1.map rS_impl_Pat)])] [] (.one (.c (.bool r))) none [] none)
def p_impl_CodeOk_b1 (n : Nat) (t0_0 : List S_impl_Fn) : (Int × (List S_impl_Fn) × (List S_impl_Pat)) → Option ((Int × (List S_impl_Fn) × (List S_impl_Pat)) ⊕ ((Bool) ⊕ (Int × Bool × (List S_impl_Fn) × (List S_impl_Pat))))
  | (v17_4, w1_5, w1_6) => bif decide (v17_4 < (t0_0.length : Int)) then ((ix w1_5 v17_4).bind fun e23_16 => (p_impl_fnAt n e23_16.f0 w1_5 w1_6).bind fun c26_17 => bif !decide (c26_17.1 = v17_4) then some (true, c26_17.2.1, c26_17.2.2) else (ix c26_17.2.1 v17_4).bind fun e33_19 => (p_impl_fnOk n e33_19.f0 e33_19.f1 e33_19.f2 e33_19.f3 c26_17.2.1 c26_17.2.2).bind fun c34_20 => some ((!c34_20.1), c34_20.2.1, c34_20.2.2)).bind fun (v36_13, w1_14, w1_15) => bif v36_13 then some (.inr (.inl false)) else some (.inl ((IntKind.wrap .i64 (v17_4 + (1 : Int))), w1_14, w1_15)) else some (.inr (.inr (v17_4, false, w1_5, w1_6)))
def p_impl_CodeOk (n : Nat) (t0_0 : List S_impl_Fn) (t0_1 : List S_impl_Pat) : Option (Bool) :=
  (bif decide ((12 : Int) < (t0_0.length : Int)) then some true else some (decide ((2000 : Int) < (t0_1.length : Int)))).bind fun v13_1 => bif v13_1 then some false else (loopN (p_impl_CodeOk_b1 n t0_0) n ((0 : Int), t0_0, t0_1)).bind fun q => (match q with | .inl v2_7 => some v2_7 | .inr (v17_8, v18_9, w1_10, w1_11) => some true)
theorem big_impl_CodeOk {n : Nat} : B_impl_CodeOk (p_impl_CodeOk n) := by
 intro t0_0 t0_1 r h
 unfold p_impl_CodeOk at h
 refine bF Try.func144 rfl rfl <| cRs <| xBx rfl <| xAs rfl <| oNl <| cSq <| cRs <| oJn h [(4, 13)] [] (fun v13_1 => (.n, [(13, Bo v13_1)], [])) (fun _ h => ?_) (fun v13_1 h => ?_)
 refine xFd rfl <| xLd rfl <| xLn rfl <| xGt rfl <| xMv rfl <| oIf 8 h rfl (fun q2 h => ?_) (fun q2 h => ?_)
 exact wSk rfl <| wSk rfl <| wSk rfl <| wSk rfl <| xPk rfl <| oNl <| eJ h rfl
 exact xFd rfl <| xLd rfl <| xLn rfl <| xGt rfl <| xPk rfl <| oNl <| eJ h rfl
 refine cIf h rfl (fun q3 h => ?_) (fun q3 h => ?_)
 refine cRs <| xAs rfl <| oNl <| cRt ?_
 cases h
 exact eR rfl rfl rfl rfl
 refine cSk <| cSq <| cRs <| xFd rfl <| xLd rfl <| xLn rfl <| xMv rfl <| oNl <| cLp h [(2, 3), (17, 37)] [(1, 1)] (fun (v17_4, w1_5, w1_6) => ([(17, I64 v17_4)], [(1, [.sl (w1_5.map rS_impl_Fn), .sl (w1_6.map rS_impl_Pat)])])) (fun q => match q with | .inl v2_7 => (.r, [(2, Bo v2_7)], []) | .inr (v17_8, v18_9, w1_10, w1_11) => (.e 0, [(17, I64 v17_8), (18, Bo v18_9)], [(1, [.sl (w1_10.map rS_impl_Fn), .sl (w1_11.map rS_impl_Pat)])])) rfl (fun st _ h => ?_) (fun q h => ?_)
 obtain ⟨v17_4, w1_5, w1_6⟩ := st
 unfold p_impl_CodeOk_b1 at h
 refine cRs <| xLt rfl <| oNl <| cSq <| cIf h rfl (fun q12 h => ?_) (fun q12 h => ?_)
 refine cSk <| cSq <| cBk <| cRs <| xMv rfl <| xAs rfl <| oRs <| oJn h [(20, 36)] [(1, 1)] (fun (v36_13, w1_14, w1_15) => (.n, [(36, Bo v36_13)], [(1, [.sl (w1_14.map rS_impl_Fn), .sl (w1_15.map rS_impl_Pat)])])) (fun _ h => ?_) (fun q h => ?_)
 refine xFd rfl <| xLd rfl <| xMv rfl <| xIx h rS_impl_Fn_eq rfl (fun e23_16 h => ?_)
 refine xFd rfl <| xLd rfl <| xC1 h (big_impl_fnAt ·) rfl (fun c26_17 h => ?_)
 refine xMv rfl <| xNe rfl <| xMv rfl <| oIf 29 h rfl (fun q18 h => ?_) (fun q18 h => ?_)
 exact wSk rfl <| wSk rfl <| wSk rfl <| wSk rfl <| wSk rfl <| wSk rfl <| xPk rfl <| oNl <| eJ h rfl
 refine xFd rfl <| xLd rfl <| xMv rfl <| xIx h rS_impl_Fn_eq rfl (fun e33_19 h => ?_)
 refine xC1 h (big_impl_fnOk ·) rfl (fun c34_20 h => ?_)
 exact xNot rfl <| xPk rfl <| oNl <| eJ h rfl
 obtain ⟨v36_13, w1_14, w1_15⟩ := q
 refine cIf h rfl (fun q21 h => ?_) (fun q21 h => ?_)
 exact cRs <| xAs rfl <| oNl <| cRt <| eXr h rfl
 exact cSk <| cRg <| xAdd rfl <| xMv rfl <| oNl <| eL h rfl
 exact cEx <| eX h rfl
 rcases q with v2_7 | ⟨v17_8, v18_9, w1_10, w1_11⟩
 cases h
 exact eR rfl rfl rfl rfl
 refine cRs <| xAs rfl <| oNl <| cRt ?_
 cases h
 exact eR rfl rfl rfl rfl
abbrev B_impl_entryOk (p : (List UInt8) → Int → (List S_impl_Fn) → (List S_impl_Pat) → Bool → (List S_impl_Fn) → (List S_impl_Pat) → Option (Bool)) : Prop := ∀ {t0_0 : List UInt8} {t0_1 : Int} {t0_2 : List S_impl_Fn} {t0_3 : List S_impl_Pat} {t0_4 : Bool} {t0_5 : List S_impl_Fn} {t0_6 : List S_impl_Pat} {r : Bool}, p t0_0 t0_1 t0_2 t0_3 t0_4 t0_5 t0_6 = some r → Big Try.prog τ An (.fn 127 [.one (.ag [.str t0_0, .int .i64 t0_1, .sl (t0_2.map rS_impl_Fn), .sl (t0_3.map rS_impl_Pat), .bool t0_4, .sl (t0_5.map rS_impl_Fn), .sl (t0_6.map rS_impl_Pat)])] [] (.one (.c (.bool r))) none [] none)
def p_impl_entryOk (n : Nat) (t0_0 : List UInt8) (t0_1 : Int) (t0_2 : List S_impl_Fn) (t0_3 : List S_impl_Pat) (t0_4 : Bool) (t0_5 : List S_impl_Fn) (t0_6 : List S_impl_Pat) : Option (Bool) :=
  ((p_impl_AtomOk n t0_0).bind fun c5_2 => bif !c5_2 then some true else (p_impl_inRange n t0_1 (1 : Int) (10000 : Int)).bind fun c10_4 => bif !c10_4 then some true else (p_impl_CodeOk n t0_2 t0_3).bind fun c16_6 => bif !c16_6 then some true else (p_impl_CodeOk n t0_5 t0_6).bind fun c22_8 => some (!c22_8)).bind fun v24_1 => bif v24_1 then some false else bif t0_4 then some (decide ((2 : Int) ≤ t0_1)) else (bif decide ((t0_5.length : Int) = (0 : Int)) then some (decide ((t0_6.length : Int) = (0 : Int))) else some false).bind fun v2_11 => some v2_11
theorem big_impl_entryOk {n : Nat} : B_impl_entryOk (p_impl_entryOk n) := by
 intro t0_0 t0_1 t0_2 t0_3 t0_4 t0_5 t0_6 r h
 unfold p_impl_entryOk at h
 refine bF Try.func127 rfl rfl <| cRs <| xBx rfl <| xAs rfl <| oNl <| cSq <| cRs <| oJn h [(3, 24)] [] (fun v24_1 => (.n, [(24, Bo v24_1)], [])) (fun _ h => ?_) (fun v24_1 h => ?_)
 refine xFd rfl <| xLd rfl <| xC0 h (big_impl_AtomOk ·) rfl (fun c5_2 h => ?_)
 refine xNot rfl <| xMv rfl <| oIf 7 h rfl (fun q3 h => ?_) (fun q3 h => ?_)
 refine wSk rfl <| wSk rfl <| wSk rfl <| wSk rfl <| xPk rfl <| xMv rfl <| wSk rfl <| wSk rfl <| wSk rfl <| wSk rfl <| xPk rfl <| xMv rfl <| wSk rfl <| wSk rfl ?_
 exact wSk rfl <| wSk rfl <| xPk rfl <| oNl <| eJ h rfl
 refine xFd rfl <| xLd rfl <| xC0 h (big_impl_inRange ·) rfl (fun c10_4 h => ?_)
 refine xNot rfl <| xPk rfl <| xMv rfl <| oIf 13 h rfl (fun q5 h => ?_) (fun q5 h => ?_)
 exact wSk rfl <| wSk rfl <| wSk rfl <| wSk rfl <| xPk rfl <| xMv rfl <| wSk rfl <| wSk rfl <| wSk rfl <| wSk rfl <| xPk rfl <| oNl <| eJ h rfl
 refine xFd rfl <| xLd rfl <| xC0 h (big_impl_CodeOk ·) rfl (fun c16_6 h => ?_)
 refine xNot rfl <| xPk rfl <| xMv rfl <| oIf 19 h rfl (fun q7 h => ?_) (fun q7 h => ?_)
 exact wSk rfl <| wSk rfl <| wSk rfl <| wSk rfl <| xPk rfl <| oNl <| eJ h rfl
 refine xFd rfl <| xLd rfl <| xC0 h (big_impl_CodeOk ·) rfl (fun c22_8 h => ?_)
 exact xNot rfl <| xPk rfl <| oNl <| eJ h rfl
 refine cIf h rfl (fun q9 h => ?_) (fun q9 h => ?_)
 refine cRs <| xAs rfl <| oNl <| cRt ?_
 cases h
 exact eR rfl rfl rfl rfl
 refine cSk <| cSq <| cRs <| xFd rfl <| xLd rfl <| oNl <| cIf h rfl (fun q10 h => ?_) (fun q10 h => ?_)
 refine cRs <| xFd rfl <| xLd rfl <| xGe rfl <| xAs rfl <| oNl <| cRt ?_
 cases h
 exact eR rfl rfl rfl rfl
 refine cSk <| cRs <| oJn h [(2, 2), (30, 41)] [] (fun v2_11 => (.n, [(2, Bo v2_11)], [])) (fun _ h => ?_) (fun v2_11 h => ?_)
 refine xFd rfl <| xFd rfl <| xLd rfl <| xLn rfl <| xEq rfl <| xMv rfl <| oIf 35 h rfl (fun q12 h => ?_) (fun q12 h => ?_)
 exact xFd rfl <| xFd rfl <| xLd rfl <| xLn rfl <| xEq rfl <| xPk rfl <| xAs rfl <| oNl <| eJ h rfl
 exact wSk rfl <| wSk rfl <| wSk rfl <| wSk rfl <| wSk rfl <| xPk rfl <| xAs rfl <| oNl <| eJ h rfl
 refine cRt ?_
 cases h
 exact eR rfl rfl rfl rfl
abbrev B_impl_TableOk (p : (List S_impl_Entry) → Option (Bool)) : Prop := ∀ {t0_0 : List S_impl_Entry} {r : Bool}, p t0_0 = some r → Big Try.prog τ An (.fn 57 [.one (.c (.sl (t0_0.map rS_impl_Entry)))] [] (.one (.c (.bool r))) none [] none)
def p_impl_TableOk_b1 (n : Nat) (t0_0 : List S_impl_Entry) : (Int) → Option ((Int) ⊕ ((Bool) ⊕ (Int × Bool)))
  | v7_1 => bif decide (v7_1 < (t0_0.length : Int)) then (ix t0_0 v7_1).bind fun e10_6 => ((p_impl_entryOk n e10_6.f0 e10_6.f1 e10_6.f2 e10_6.f3 e10_6.f4 e10_6.f5 e10_6.f6).bind fun c13_8 => bif !c13_8 then some true else bif decide ((0 : Int) < v7_1) then (ix t0_0 (IntKind.wrap .i64 (v7_1 - (1 : Int)))).bind fun e24_11 => some (strLt e10_6.f0 e24_11.f0 || decide (e10_6.f0 = e24_11.f0)) else some false).bind fun v29_7 => bif v29_7 then some (.inr (.inl false)) else some (.inl (IntKind.wrap .i64 (v7_1 + (1 : Int)))) else some (.inr (.inr (v7_1, false)))
def p_impl_TableOk (n : Nat) (t0_0 : List S_impl_Entry) : Option (Bool) :=
  (loopN (p_impl_TableOk_b1 n t0_0) n (0 : Int)).bind fun q => (match q with | .inl v2_2 => some v2_2 | .inr (v7_3, v8_4) => some (decide ((t0_0.length : Int) ≤ (10 : Int))))
theorem big_impl_TableOk {n : Nat} : B_impl_TableOk (p_impl_TableOk n) := by
 intro t0_0 r h
 unfold p_impl_TableOk at h
 refine bF Try.func57 rfl rfl <| cRs <| xAs rfl <| oNl <| cSq <| cRs <| xMv rfl <| xLn rfl <| xMv rfl <| oNl <| cLp h [(2, 4), (7, 30)] [(4, 4)] (fun v7_1 => ([(7, I64 v7_1)], [])) (fun q => match q with | .inl v2_2 => (.r, [(2, Bo v2_2)], []) | .inr (v7_3, v8_4) => (.e 0, [(7, I64 v7_3), (8, Bo v8_4)], [])) rfl (fun v7_1 _ h => ?_) (fun q h => ?_)
 unfold p_impl_TableOk_b1 at h
 refine cRs <| xLt rfl <| oNl <| cSq <| cIf h rfl (fun q5 h => ?_) (fun q5 h => ?_)
 refine cSk <| cSq <| cBk <| cRs <| xMv rfl <| xIx h rS_impl_Entry_eq rfl (fun e10_6 h => ?_)
 refine xLd rfl <| xAz [.str [], .int .i64 0, .sl ([].map rS_impl_Fn), .sl ([].map rS_impl_Pat), .bool false, .sl ([].map rS_impl_Fn), .sl ([].map rS_impl_Pat)] rfl <| xAs rfl <| xSt rfl <| oRs <| oJn h [(12, 29)] [] (fun v29_7 => (.n, [(29, Bo v29_7)], [])) (fun _ h => ?_) (fun v29_7 h => ?_)
 refine xLd rfl <| xC0 h (big_impl_entryOk ·) rfl (fun c13_8 h => ?_)
 refine xNot rfl <| xMv rfl <| oIf 15 h rfl (fun q9 h => ?_) (fun q9 h => ?_)
 refine wSk rfl <| wSk rfl <| wSk rfl <| wSk rfl <| wSk rfl <| wSk rfl <| wSk rfl <| wSk rfl <| wSk rfl <| wSk rfl <| wSk rfl <| wSk rfl <| wSk rfl <| xPk rfl ?_
 exact oNl <| eJ h rfl
 refine xMv rfl <| xGt rfl <| xMv rfl <| oIf 18 h rfl (fun q10 h => ?_) (fun q10 h => ?_)
 refine xFd rfl <| xLd rfl <| xMv rfl <| xMv rfl <| xSub rfl <| xIx h rS_impl_Entry_eq rfl (fun e24_11 h => ?_)
 exact xFd rfl <| xLd rfl <| wBi (.bool ((strLt e10_6.f0 e24_11.f0 || decide (e10_6.f0 = e24_11.f0)))) rfl rfl rfl rfl rfl <| xPk rfl <| xPk rfl <| oNl <| eJ h rfl
 exact wSk rfl <| wSk rfl <| wSk rfl <| wSk rfl <| wSk rfl <| wSk rfl <| wSk rfl <| wSk rfl <| wSk rfl <| xPk rfl <| xPk rfl <| oNl <| eJ h rfl
 refine cIf h rfl (fun q12 h => ?_) (fun q12 h => ?_)
 exact cRs <| xAs rfl <| oNl <| cRt <| eXr h rfl
 exact cSk <| cRg <| xAdd rfl <| xMv rfl <| oNl <| eL h rfl
 exact cEx <| eX h rfl
 rcases q with v2_2 | ⟨v7_3, v8_4⟩
 cases h
 exact eR rfl rfl rfl rfl
 refine cRs <| xMv rfl <| xLn rfl <| xLe rfl <| xAs rfl <| oNl <| cRt ?_
 cases h
 exact eR rfl rfl rfl rfl
abbrev B_laws_FnExactTableOk (p : (List S_laws_Entry) → Option (Bool)) : Prop := ∀ {t0_0 : List S_laws_Entry} {r : Bool}, p t0_0 = some r → Big Try.prog τ An (.fn 9 [.one (.c (.sl (t0_0.map rS_laws_Entry)))] [] (.one (.c (.bool r))) none [] none)
def p_laws_FnExactTableOk (n : Nat) (t0_0 : List S_laws_Entry) : Option (Bool) :=
  (p_laws_szEntryS n t0_0 (1048576 : Int)).bind fun c9_1 => bif decide (c9_1 < (0 : Int)) then some true else (p_laws_toEntryS n t0_0).bind fun c13_3 => (p_spec_TableOk n c13_3).bind fun c14_4 => (p_laws_toEntryS n t0_0).bind fun c16_5 => (p_impl_TableOk n c16_5).bind fun c18_6 => bif !(c18_6 == c14_4) then some false else (p_laws_toEntryS n t0_0).bind fun c24_8 => (p_laws_eqEntryS n c16_5 c24_8).bind fun c25_9 => bif !c25_9 then some false else some true
theorem big_laws_FnExactTableOk {n : Nat} : B_laws_FnExactTableOk (p_laws_FnExactTableOk n) := by
 intro t0_0 r h
 unfold p_laws_FnExactTableOk at h
 refine bF Try.func9 rfl rfl <| cRs <| xAs rfl <| oRs <| xAs rfl <| oRs <| xMv rfl <| xMv rfl <| xC0 h (big_laws_szEntryS ·) rfl (fun c9_1 h => ?_)
 refine xAs rfl <| oNl <| cSq <| cRs <| xMv rfl <| xLt rfl <| oNl <| cIf h rfl (fun q2 h => ?_) (fun q2 h => ?_)
 refine cRs <| xAs rfl <| oNl <| cRt ?_
 cases h
 exact eR rfl rfl rfl rfl
 refine cSk <| cRs <| xMv rfl <| xC0 h (big_laws_toEntryS ·) rfl (fun c13_3 h => ?_)
 refine xC0 h (big_spec_TableOk ·) rfl (fun c14_4 h => ?_)
 refine xAs rfl <| oRs <| xMv rfl <| xC0 h (big_laws_toEntryS ·) rfl (fun c16_5 h => ?_)
 refine xAs rfl <| oRs <| xMv rfl <| xC0 h (big_impl_TableOk ·) rfl (fun c18_6 h => ?_)
 refine xAs rfl <| oNl <| cSq <| cRs <| xMv rfl <| xMv rfl <| wBi (.bool (!(c18_6 == c14_4))) rfl rfl rfl rfl rfl <| oNl <| cIf h rfl (fun q7 h => ?_) (fun q7 h => ?_)
 refine cRs <| xAs rfl <| oNl <| cRt ?_
 cases h
 exact eR rfl rfl rfl rfl
 refine cSk <| cSq <| cRs <| xMv rfl <| xMv rfl <| xC0 h (big_laws_toEntryS ·) rfl (fun c24_8 h => ?_)
 refine xC0 h (big_laws_eqEntryS ·) rfl (fun c25_9 h => ?_)
 refine xNot rfl <| oNl <| cIf h rfl (fun q10 h => ?_) (fun q10 h => ?_)
 refine cRs <| xAs rfl <| oNl <| cRt ?_
 cases h
 exact eR rfl rfl rfl rfl
 refine cSk <| cRs <| xAs rfl <| oNl <| cRt ?_
 cases h
 exact eR rfl rfl rfl rfl
end Go.Own
