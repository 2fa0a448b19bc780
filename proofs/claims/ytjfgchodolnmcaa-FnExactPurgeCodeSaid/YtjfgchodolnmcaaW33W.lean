/- Each function on plain data, and its walk. No conditions. -/
import Derived.Test.YtjfgchodolnmcaaW33V
set_option linter.unusedVariables false
set_option linter.unusedSimpArgs false
set_option linter.unnecessarySimpa false
namespace Go.Own
open Go Go.Proofs
def lD(n:Nat)(t1_0:List UInt8)(t1_1:Int)(t1_2:Int)(t1_3:List aD)(t2_0:Int)(t2_1:Int)(t2_2:List UInt8)(t2_3:Int)(o0_0:List aB)(o0_1:List aA):Option (Bool×(List aB)×(List aA)):=
  (bif decide (t2_2=([]:List UInt8))then some (decide (t2_3=(0:Int)))else some false).bind fun v7_1=>(aQ n t2_3 (0:Int) (IntKind.wrap .i64 ((t1_3.length:Int) - (1:Int)))).bind fun c26_3=>bif decide (t2_0=(1:Int))then(bif v7_1 then(aQ n t2_1 (0:Int) (1000000000000:Int)).bind fun c35_7=>some c35_7 else some false).bind fun v6_5=>some (v6_5,o0_0,o0_1)else bif decide (t2_0=(2:Int))then(bif decide (t2_1=(0:Int))then(dC n t2_2).bind fun c45_11=>bif c45_11 then some (decide (t2_3=(0:Int)))else some false else some false).bind fun v6_9=>some (v6_9,o0_0,o0_1)else bif decide (t2_0=(3:Int))then(bif v7_1 then(aQ n t2_1 (0:Int) (IntKind.wrap .i64 (t1_2 - (1:Int)))).bind fun c63_16=>some c63_16 else some false).bind fun v6_14=>some (v6_14,o0_0,o0_1)else bif decide (t2_0=(4:Int))then(bif v7_1 then(aQ n t2_1 (0:Int) (20:Int)).bind fun c72_20=>some c72_20 else some false).bind fun v6_18=>some (v6_18,o0_0,o0_1)else bif decide (t2_0=(5:Int))then(bif v7_1 then(aQ n t2_1 (0:Int) (20:Int)).bind fun c72_24=>some c72_24 else some false).bind fun v6_22=>some (v6_22,o0_0,o0_1)else bif decide (t2_0=(6:Int))then(bif v7_1 then(aQ n t2_1 (2:Int) (6:Int)).bind fun c80_28=>some c80_28 else some false).bind fun v6_26=>some (v6_26,o0_0,o0_1)else bif decide (t2_0=(7:Int))then(bif decide (t2_1=(0:Int))then(mH n t2_2).bind fun c90_32=>bif c90_32 then some (decide (t2_3=(0:Int)))else some false else some false).bind fun v6_30=>some (v6_30,o0_0,o0_1)else bif decide (t2_0=(8:Int))then(mI n t2_2 o0_0 o0_1).bind fun c102_35=>(bif decide ((0:Int)≤c102_35.1)then(ix c102_35.2.1 c102_35.1).bind fun e111_38=>bif decide (e111_38.f1=t2_1)then some (decide (t2_3=(0:Int)))else some false else some false).bind fun v6_36=>some (v6_36,c102_35.2.1,c102_35.2.2)else bif decide (t2_0=(9:Int))then(bif decide (t2_2=([]:List UInt8))then bif c26_3 then(aQ n t2_1 (0:Int) (IntKind.wrap .i64 ((o0_1.length:Int) - (1:Int)))).bind fun c140_44=>bif c140_44 then(ix o0_1 t2_1).bind fun e149_46=>(iE n e149_46.f0 e149_46.f1 e149_46.f2 e149_46.f3 t1_2).bind fun c155_47=>some c155_47 else some false else some false else some false).bind fun v6_41=>some (v6_41,o0_0,o0_1)else bif decide (t2_0=(10:Int))then(bif decide (t2_2=([]:List UInt8))then bif decide (t2_1=(0:Int))then some c26_3 else some false else some false).bind fun v6_49=>some (v6_49,o0_0,o0_1)else bif decide (t2_0=(11:Int))then(bif v7_1 then some (decide (t2_1=(0:Int)))else some false).bind fun v6_53=>some (v6_53,o0_0,o0_1)else bif decide (t2_0=(12:Int))then(bif v7_1 then some (decide (t2_1=(0:Int)))else some false).bind fun v6_56=>some (v6_56,o0_0,o0_1)else some (false,o0_0,o0_1)
theorem DN{n:Nat}:HK (lD n):=by
 intro t1_0 t1_1 t1_2 t1_3 t2_0 t2_1 t2_2 t2_3 o0_0 o0_1 r h
 unfold lD at h
 refine bF Try.func214 rfl rfl<|cRs<|xBx rfl<|xAs rfl<|oRs<|oJn h [(7,7),(10,17)] [] (fun v7_1=>(.n,[(7,Bo v7_1)],[])) (fun _ h=> ?_) (fun v7_1 h=> ?_)
 refine xFd rfl<|xLd rfl<|xEs rfl<|xMv rfl<|oIf 13 h rfl (fun q2 h=> ?_) (fun q2 h=> ?_)
 exact xFd rfl<|xLd rfl<|xEq rfl<|xPk rfl<|xAs rfl<|oNl<|eJ h rfl
 exact wSk rfl<|wSk rfl<|wSk rfl<|xPk rfl<|xAs rfl<|oNl<|eJ h rfl
 refine cRs<|xFd rfl<|xLd rfl<|xMv rfl<|xNc rfl<|xFd rfl<|xLd rfl<|xLn rfl<|tM rfl<|xC0 h (aU ·) rfl (fun c26_3 h=> ?_)
 refine xAs rfl<|oNl<|cSq<|cRs<|xFd rfl<|xLd rfl<|oNl<|cBk<|cRs<|xEq rfl<|xAs rfl<|oNl<|cIf h rfl (fun q4 h=> ?_) (fun q4 h=> ?_)
 refine cRs<|oJn h [(6,6),(31,36)] [] (fun v6_5=>(.n,[(6,Bo v6_5)],[])) (fun _ h=> ?_) (fun v6_5 h=> ?_)
 refine xMv rfl<|xMv rfl<|oIf 32 h rfl (fun q6 h=> ?_) (fun q6 h=> ?_)
 refine xFd rfl<|xLd rfl<|xC0 h (aU ·) rfl (fun c35_7 h=> ?_)
 exact xPk rfl<|xAs rfl<|oNl<|eJ h rfl
 exact wSk rfl<|wSk rfl<|wSk rfl<|xPk rfl<|xAs rfl<|oNl<|eJ h rfl
 refine cRt ?_
 cases h
 exact eR rfl rfl rfl rfl
 refine cRs<|xEq rfl<|xAs rfl<|oNl<|cIf h rfl (fun q8 h=> ?_) (fun q8 h=> ?_)
 refine cRs<|oJn h [(6,6),(39,51)] [] (fun v6_9=>(.n,[(6,Bo v6_9)],[])) (fun _ h=> ?_) (fun v6_9 h=> ?_)
 refine xFd rfl<|xLd rfl<|xEq rfl<|xMv rfl<|oIf 42 h rfl (fun q10 h=> ?_) (fun q10 h=> ?_)
 refine xFd rfl<|xLd rfl<|xC0 h (kZ ·) rfl (fun c45_11 h=> ?_)
 refine xPk rfl<|xMv rfl<|oIf 47 h rfl (fun q12 h=> ?_) (fun q12 h=> ?_)
 exact xFd rfl<|xLd rfl<|xEq rfl<|xPk rfl<|xAs rfl<|oNl<|eJ h rfl
 exact wSk rfl<|wSk rfl<|wSk rfl<|xPk rfl<|xAs rfl<|oNl<|eJ h rfl
 exact wSk rfl<|wSk rfl<|wSk rfl<|xPk rfl<|xMv rfl<|wSk rfl<|wSk rfl<|wSk rfl<|xPk rfl<|xAs rfl<|oNl<|eJ h rfl
 refine cRt ?_
 cases h
 exact eR rfl rfl rfl rfl
 refine cRs<|xEq rfl<|xAs rfl<|oNl<|cIf h rfl (fun q13 h=> ?_) (fun q13 h=> ?_)
 refine cRs<|oJn h [(6,6),(54,64)] [] (fun v6_14=>(.n,[(6,Bo v6_14)],[])) (fun _ h=> ?_) (fun v6_14 h=> ?_)
 refine xMv rfl<|xMv rfl<|oIf 55 h rfl (fun q15 h=> ?_) (fun q15 h=> ?_)
 refine xFd rfl<|xLd rfl<|xMv rfl<|xNc rfl<|xFd rfl<|xLd rfl<|tM rfl<|xC0 h (aU ·) rfl (fun c63_16 h=> ?_)
 exact xPk rfl<|xAs rfl<|oNl<|eJ h rfl
 exact wSk rfl<|wSk rfl<|wSk rfl<|wSk rfl<|wSk rfl<|wSk rfl<|wSk rfl<|wSk rfl<|xPk rfl<|xAs rfl<|oNl<|eJ h rfl
 refine cRt ?_
 cases h
 exact eR rfl rfl rfl rfl
 refine cSq<|cRs<|xEq rfl<|xAs rfl<|oNl<|cIf h rfl (fun q17 h=> ?_) (fun q17 h=> ?_)
 refine cSk<|cT rfl<|cRs<|oJn h [(6,6),(68,73)] [] (fun v6_18=>(.n,[(6,Bo v6_18)],[])) (fun _ h=> ?_) (fun v6_18 h=> ?_)
 refine xMv rfl<|xMv rfl<|oIf 69 h rfl (fun q19 h=> ?_) (fun q19 h=> ?_)
 refine xFd rfl<|xLd rfl<|xC0 h (aU ·) rfl (fun c72_20 h=> ?_)
 exact xPk rfl<|xAs rfl<|oNl<|eJ h rfl
 exact wSk rfl<|wSk rfl<|wSk rfl<|xPk rfl<|xAs rfl<|oNl<|eJ h rfl
 refine cRt ?_
 cases h
 exact eR rfl rfl rfl rfl
 refine cRg<|xEq rfl<|xAs rfl<|oNl<|cIf h rfl (fun q21 h=> ?_) (fun q21 h=> ?_)
 refine cRs<|oJn h [(6,6),(68,73)] [] (fun v6_22=>(.n,[(6,Bo v6_22)],[])) (fun _ h=> ?_) (fun v6_22 h=> ?_)
 refine xMv rfl<|xMv rfl<|oIf 69 h rfl (fun q23 h=> ?_) (fun q23 h=> ?_)
 refine xFd rfl<|xLd rfl<|xC0 h (aU ·) rfl (fun c72_24 h=> ?_)
 exact xPk rfl<|xAs rfl<|oNl<|eJ h rfl
 exact wSk rfl<|wSk rfl<|wSk rfl<|xPk rfl<|xAs rfl<|oNl<|eJ h rfl
 refine cRt ?_
 cases h
 exact eR rfl rfl rfl rfl
 refine cRs<|xEq rfl<|xAs rfl<|oNl<|cIf h rfl (fun q25 h=> ?_) (fun q25 h=> ?_)
 refine cRs<|oJn h [(6,6),(76,81)] [] (fun v6_26=>(.n,[(6,Bo v6_26)],[])) (fun _ h=> ?_) (fun v6_26 h=> ?_)
 refine xMv rfl<|xMv rfl<|oIf 77 h rfl (fun q27 h=> ?_) (fun q27 h=> ?_)
 refine xFd rfl<|xLd rfl<|xC0 h (aU ·) rfl (fun c80_28 h=> ?_)
 exact xPk rfl<|xAs rfl<|oNl<|eJ h rfl
 exact wSk rfl<|wSk rfl<|wSk rfl<|xPk rfl<|xAs rfl<|oNl<|eJ h rfl
 refine cRt ?_
 cases h
 exact eR rfl rfl rfl rfl
 refine cRs<|xEq rfl<|xAs rfl<|oNl<|cIf h rfl (fun q29 h=> ?_) (fun q29 h=> ?_)
 refine cRs<|oJn h [(6,6),(84,96)] [] (fun v6_30=>(.n,[(6,Bo v6_30)],[])) (fun _ h=> ?_) (fun v6_30 h=> ?_)
 refine xFd rfl<|xLd rfl<|xEq rfl<|xMv rfl<|oIf 87 h rfl (fun q31 h=> ?_) (fun q31 h=> ?_)
 refine xFd rfl<|xLd rfl<|xC0 h (wN ·) rfl (fun c90_32 h=> ?_)
 refine xPk rfl<|xMv rfl<|oIf 92 h rfl (fun q33 h=> ?_) (fun q33 h=> ?_)
 exact xFd rfl<|xLd rfl<|xEq rfl<|xPk rfl<|xAs rfl<|oNl<|eJ h rfl
 exact wSk rfl<|wSk rfl<|wSk rfl<|xPk rfl<|xAs rfl<|oNl<|eJ h rfl
 exact wSk rfl<|wSk rfl<|wSk rfl<|xPk rfl<|xMv rfl<|wSk rfl<|wSk rfl<|wSk rfl<|xPk rfl<|xAs rfl<|oNl<|eJ h rfl
 refine cRt ?_
 cases h
 exact eR rfl rfl rfl rfl
 refine cRs<|xEq rfl<|xAs rfl<|oNl<|cIf h rfl (fun q34 h=> ?_) (fun q34 h=> ?_)
 refine cRs<|xMv rfl<|xFd rfl<|xLd rfl<|xC1 h (wP ·) rfl (fun c102_35 h=> ?_)
 refine xAs rfl<|oRs<|oJn h [(6,6),(103,122)] [] (fun v6_36=>(.n,[(6,Bo v6_36)],[])) (fun _ h=> ?_) (fun v6_36 h=> ?_)
 refine xMv rfl<|xGe rfl<|xMv rfl<|oIf 105 h rfl (fun q37 h=> ?_) (fun q37 h=> ?_)
 refine xMv rfl<|xNc rfl<|xFd rfl<|xLd rfl<|xMv rfl<|xIx h bL rfl (fun e111_38 h=> ?_)
 refine xFd rfl<|xLd rfl<|xFd rfl<|xLd rfl<|xEq rfl<|xPk rfl<|xMv rfl<|oIf 118 h rfl (fun q39 h=> ?_) (fun q39 h=> ?_)
 exact xFd rfl<|xLd rfl<|xEq rfl<|xPk rfl<|xAs rfl<|oNl<|eJ h rfl
 exact wSk rfl<|wSk rfl<|wSk rfl<|xPk rfl<|xAs rfl<|oNl<|eJ h rfl
 refine wSk rfl<|wSk rfl<|wSk rfl<|wSk rfl<|wSk rfl<|wSk rfl<|wSk rfl<|wSk rfl<|wSk rfl<|wSk rfl<|wSk rfl<|xPk rfl<|xMv rfl<|wSk rfl ?_
 exact wSk rfl<|wSk rfl<|xPk rfl<|xAs rfl<|oNl<|eJ h rfl
 refine cRt ?_
 cases h
 exact eR rfl rfl rfl rfl
 refine cRs<|xEq rfl<|xAs rfl<|oNl<|cIf h rfl (fun q40 h=> ?_) (fun q40 h=> ?_)
 refine cRs<|oJn h [(6,6),(125,156)] [] (fun v6_41=>(.n,[(6,Bo v6_41)],[])) (fun _ h=> ?_) (fun v6_41 h=> ?_)
 refine xFd rfl<|xLd rfl<|xEs rfl<|xMv rfl<|oIf 128 h rfl (fun q42 h=> ?_) (fun q42 h=> ?_)
 refine xMv rfl<|xPk rfl<|xMv rfl<|oIf 131 h rfl (fun q43 h=> ?_) (fun q43 h=> ?_)
 refine xFd rfl<|xLd rfl<|xMv rfl<|xNc rfl<|xFd rfl<|xLd rfl<|xLn rfl<|tM rfl<|xC0 h (aU ·) rfl (fun c140_44 h=> ?_)
 refine xPk rfl<|xMv rfl<|oIf 142 h rfl (fun q45 h=> ?_) (fun q45 h=> ?_)
 refine xMv rfl<|xNc rfl<|xFd rfl<|xLd rfl<|xFd rfl<|xLd rfl<|xIx h aL rfl (fun e149_46 h=> ?_)
 refine xLd rfl<|xMv rfl<|xNc rfl<|xFd rfl<|xLd rfl<|xC0 h (Ac ·) rfl (fun c155_47 h=> ?_)
 exact xPk rfl<|xAs rfl<|oNl<|eJ h rfl
 refine wSk rfl<|wSk rfl<|wSk rfl<|wSk rfl<|wSk rfl<|wSk rfl<|wSk rfl<|wSk rfl<|wSk rfl<|wSk rfl<|wSk rfl<|wSk rfl<|wSk rfl<|xPk rfl ?_
 exact xAs rfl<|oNl<|eJ h rfl
 refine wSk rfl<|wSk rfl<|wSk rfl<|wSk rfl<|wSk rfl<|wSk rfl<|wSk rfl<|wSk rfl<|wSk rfl<|xPk rfl<|xMv rfl<|wSk rfl<|wSk rfl<|wSk rfl ?_
 exact wSk rfl<|wSk rfl<|wSk rfl<|wSk rfl<|wSk rfl<|wSk rfl<|wSk rfl<|wSk rfl<|wSk rfl<|wSk rfl<|xPk rfl<|xAs rfl<|oNl<|eJ h rfl
 refine wSk rfl<|xPk rfl<|xMv rfl<|wSk rfl<|wSk rfl<|wSk rfl<|wSk rfl<|wSk rfl<|wSk rfl<|wSk rfl<|wSk rfl<|wSk rfl<|xPk rfl<|xMv rfl ?_
 refine wSk rfl<|wSk rfl<|wSk rfl<|wSk rfl<|wSk rfl<|wSk rfl<|wSk rfl<|wSk rfl<|wSk rfl<|wSk rfl<|wSk rfl<|wSk rfl<|wSk rfl<|xPk rfl ?_
 exact xAs rfl<|oNl<|eJ h rfl
 refine cRt ?_
 cases h
 exact eR rfl rfl rfl rfl
 refine cRs<|xEq rfl<|xAs rfl<|oNl<|cIf h rfl (fun q48 h=> ?_) (fun q48 h=> ?_)
 refine cRs<|oJn h [(6,6),(159,169)] [] (fun v6_49=>(.n,[(6,Bo v6_49)],[])) (fun _ h=> ?_) (fun v6_49 h=> ?_)
 refine xFd rfl<|xLd rfl<|xEs rfl<|xMv rfl<|oIf 162 h rfl (fun q50 h=> ?_) (fun q50 h=> ?_)
 refine xFd rfl<|xLd rfl<|xEq rfl<|xPk rfl<|xMv rfl<|oIf 167 h rfl (fun q51 h=> ?_) (fun q51 h=> ?_)
 exact xMv rfl<|xPk rfl<|xAs rfl<|oNl<|eJ h rfl
 exact wSk rfl<|xPk rfl<|xAs rfl<|oNl<|eJ h rfl
 exact wSk rfl<|wSk rfl<|wSk rfl<|xPk rfl<|xMv rfl<|wSk rfl<|xPk rfl<|xAs rfl<|oNl<|eJ h rfl
 refine cRt ?_
 cases h
 exact eR rfl rfl rfl rfl
 refine cSq<|cRs<|xEq rfl<|xAs rfl<|oNl<|cIf h rfl (fun q52 h=> ?_) (fun q52 h=> ?_)
 refine cSk<|cT rfl<|cRs<|oJn h [(6,6),(173,178)] [] (fun v6_53=>(.n,[(6,Bo v6_53)],[])) (fun _ h=> ?_) (fun v6_53 h=> ?_)
 refine xMv rfl<|xMv rfl<|oIf 174 h rfl (fun q54 h=> ?_) (fun q54 h=> ?_)
 exact xFd rfl<|xLd rfl<|xEq rfl<|xPk rfl<|xAs rfl<|oNl<|eJ h rfl
 exact wSk rfl<|wSk rfl<|wSk rfl<|xPk rfl<|xAs rfl<|oNl<|eJ h rfl
 refine cRt ?_
 cases h
 exact eR rfl rfl rfl rfl
 refine cRg<|xEq rfl<|xAs rfl<|oNl<|cIf h rfl (fun q55 h=> ?_) (fun q55 h=> ?_)
 refine cRs<|oJn h [(6,6),(173,178)] [] (fun v6_56=>(.n,[(6,Bo v6_56)],[])) (fun _ h=> ?_) (fun v6_56 h=> ?_)
 refine xMv rfl<|xMv rfl<|oIf 174 h rfl (fun q57 h=> ?_) (fun q57 h=> ?_)
 exact xFd rfl<|xLd rfl<|xEq rfl<|xPk rfl<|xAs rfl<|oNl<|eJ h rfl
 exact wSk rfl<|wSk rfl<|wSk rfl<|xPk rfl<|xAs rfl<|oNl<|eJ h rfl
 refine cRt ?_
 cases h
 exact eR rfl rfl rfl rfl
 refine cSk<|cRs<|xAs rfl<|oNl<|cRt ?_
 cases h
 exact eR rfl rfl rfl rfl
abbrev uA(p:Int→Int→(List Int)→Bool→Option ((List Int)×Bool)):Prop:= ∀ {t1_0 t2_0:Int} {o0_0:List Int} {o0_1:Bool} {r:(List Int)×Bool},p t1_0 t2_0 o0_0 o0_1=some r→Big Try.prog τ An (.fn 272 [.one (.ptr 1000000 0), .one (.c (.int .i64 t1_0)), .one (.c (.int .i64 t2_0))] [[.sl (o0_0.map aX), .bool o0_1]] (.tup []) none [[.sl (r.1.map aX), .bool r.2]] none)
def aZ(n:Nat)(t1_0:Int)(t2_0:Int)(o0_0:List Int)(o0_1:Bool):Option ((List Int)×Bool):=
  (bif decide ((o0_0.length:Int)≤t1_0)then some true else some (decide ((300:Int)<t2_0))).bind fun v6_1=>bif v6_1 then some (o0_0,true)else(ix o0_0 t1_0).bind fun e27_4=>bif decide (e27_4<(0:Int))then(ix o0_0 t1_0).bind fun e36_6=>(some (o0_0.set (Int.toNat t1_0) t2_0)).bind fun u1000000_7=>some (u1000000_7,o0_1)else(ix o0_0 t1_0).bind fun e43_8=>bif !decide (e43_8=t2_0)then some (o0_0,true)else some (o0_0,o0_1)
theorem cS{n:Nat}:uA (aZ n):=by
 intro t1_0 t2_0 o0_0 o0_1 r h
 unfold aZ at h
 refine bF Try.func272 rfl rfl<|cBk<|cRs<|oJn h [(6,17)] [] (fun v6_1=>(.n,[(6,Bo v6_1)],[])) (fun _ h=> ?_) (fun v6_1 h=> ?_)
 refine xMv rfl<|xMv rfl<|xNc rfl<|xFd rfl<|xLd rfl<|xLn rfl<|xGe rfl<|xMv rfl<|oIf 14 h rfl (fun q2 h=> ?_) (fun q2 h=> ?_)
 exact wSk rfl<|wSk rfl<|xPk rfl<|xAs rfl<|oNl<|eJ h rfl
 exact xMv rfl<|xGt rfl<|xPk rfl<|xAs rfl<|oNl<|eJ h rfl
 refine cIf h rfl (fun q3 h=> ?_) (fun q3 h=> ?_)
 refine cRg<|xMv rfl<|xNc rfl<|xFd rfl<|xSt rfl<|oNl ?_
 cases h
 exact eN rfl rfl rfl rfl
 refine cRs<|xMv rfl<|xNc rfl<|xFd rfl<|xLd rfl<|xMv rfl<|xIx h iN rfl (fun e27_4 h=> ?_)
 refine xLd rfl<|xLt rfl<|xAs rfl<|oNl<|cIf h rfl (fun q5 h=> ?_) (fun q5 h=> ?_)
 refine cRg<|xMv rfl<|xNc rfl<|xFd rfl<|wLa rfl rfl rfl rfl rfl rfl rfl<|xMv rfl<|xMv rfl<|wIp (f:=aX) h rfl rfl rfl rfl rfl rfl (fun _=>rfl) rfl (fun e36_6 ke36_6 h=> ?_)
 refine tN (f:=aX) (v':=t2_0) h ke36_6 rfl rfl rfl rfl rfl rfl rfl rfl rfl (fun u1000000_7 h=> ?_)
 refine oNl ?_
 cases h
 exact eN rfl rfl rfl rfl
 refine cRs<|xMv rfl<|xNc rfl<|xFd rfl<|xLd rfl<|xMv rfl<|xIx h iN rfl (fun e43_8 h=> ?_)
 refine xLd rfl<|xMv rfl<|xNe rfl<|xAs rfl<|oNl<|cIf h rfl (fun q9 h=> ?_) (fun q9 h=> ?_)
 refine cRg<|xMv rfl<|xNc rfl<|xFd rfl<|xSt rfl<|oNl ?_
 cases h
 exact eN rfl rfl rfl rfl
 refine cSk ?_
 cases h
 exact eN rfl rfl rfl rfl
abbrev Db(p:Int→Int→(List UInt8)→Int→Option (Int)):Prop:= ∀ {t0_0 t0_1:Int} {t0_2:List UInt8} {t0_3:Int} {r:Int},p t0_0 t0_1 t0_2 t0_3=some r→Big Try.prog τ An (.fn 301 [.one (.ag [.int .i64 t0_0, .int .i64 t0_1, .str t0_2, .int .i64 t0_3])] [] (.one (.c (.int .i64 r))) none [] none)
def iB(n:Nat)(t0_0:Int)(t0_1:Int)(t0_2:List UInt8)(t0_3:Int):Option (Int):=
  bif decide (t0_0=(4:Int))then some t0_1 else bif decide (t0_0=(5:Int))then some t0_1 else bif decide (t0_0=(6:Int))then some t0_1 else bif decide (t0_0=(8:Int))then some t0_1 else bif decide (t0_0=(7:Int))then some (2:Int)else bif decide (t0_0=(9:Int))then some (1:Int)else bif decide (t0_0=(12:Int))then some (1:Int)else some (0:Int)
theorem rQ{n:Nat}:Db (iB n):=by
 intro t0_0 t0_1 t0_2 t0_3 r h
 unfold iB at h
 refine bF Try.func301 rfl rfl<|cRs<|xBx rfl<|xAs rfl<|oNl<|cSq<|cRs<|xFd rfl<|xLd rfl<|oNl<|cBk<|cSq<|cRs<|xEq rfl ?_
 refine xAs rfl<|oNl<|cIf h rfl (fun q1 h=> ?_) (fun q1 h=> ?_)
 refine cSk<|cT rfl<|cRs<|xFd rfl<|xLd rfl<|xAs rfl<|oNl<|cRt ?_
 cases h
 exact eR rfl rfl rfl rfl
 refine cRs<|xEq rfl<|xAs rfl<|oNl<|cIf h rfl (fun q2 h=> ?_) (fun q2 h=> ?_)
 refine cSk<|cT rfl<|cRs<|xFd rfl<|xLd rfl<|xAs rfl<|oNl<|cRt ?_
 cases h
 exact eR rfl rfl rfl rfl
 refine cRs<|xEq rfl<|xAs rfl<|oNl<|cIf h rfl (fun q3 h=> ?_) (fun q3 h=> ?_)
 refine cSk<|cT rfl<|cRs<|xFd rfl<|xLd rfl<|xAs rfl<|oNl<|cRt ?_
 cases h
 exact eR rfl rfl rfl rfl
 refine cRg<|xEq rfl<|xAs rfl<|oNl<|cIf h rfl (fun q4 h=> ?_) (fun q4 h=> ?_)
 refine cRs<|xFd rfl<|xLd rfl<|xAs rfl<|oNl<|cRt ?_
 cases h
 exact eR rfl rfl rfl rfl
 refine cRs<|xEq rfl<|xAs rfl<|oNl<|cIf h rfl (fun q5 h=> ?_) (fun q5 h=> ?_)
 refine cRs<|xAs rfl<|oNl<|cRt ?_
 cases h
 exact eR rfl rfl rfl rfl
 refine cSq<|cRs<|xEq rfl<|xAs rfl<|oNl<|cIf h rfl (fun q6 h=> ?_) (fun q6 h=> ?_)
 refine cSk<|cT rfl<|cRs<|xAs rfl<|oNl<|cRt ?_
 cases h
 exact eR rfl rfl rfl rfl
 refine cRg<|xEq rfl<|xAs rfl<|oNl<|cIf h rfl (fun q7 h=> ?_) (fun q7 h=> ?_)
 refine cRs<|xAs rfl<|oNl<|cRt ?_
 cases h
 exact eR rfl rfl rfl rfl
 refine cSk<|cRs<|xAs rfl<|oNl<|cRt ?_
 cases h
 exact eR rfl rfl rfl rfl
abbrev tL(p:Int→Int→Int→(List UInt8)→Int→(List Int)→Bool→Option ((List Int)×Bool)):Prop:= ∀ {t1_0 t2_0 t2_1:Int} {t2_2:List UInt8} {t2_3:Int} {o0_0:List Int} {o0_1:Bool} {r:(List Int)×Bool},p t1_0 t2_0 t2_1 t2_2 t2_3 o0_0 o0_1=some r→Big Try.prog τ An (.fn 273 [.one (.ptr 1000000 0), .one (.c (.int .i64 t1_0)), .one (.ag [.int .i64 t2_0, .int .i64 t2_1, .str t2_2, .int .i64 t2_3])] [[.sl (o0_0.map aX), .bool o0_1]] (.tup []) none [[.sl (r.1.map aX), .bool r.2]] none)
def dG(n:Nat)(t1_0:Int)(t2_0:Int)(t2_1:Int)(t2_2:List UInt8)(t2_3:Int)(o0_0:List Int)(o0_1:Bool):Option ((List Int)×Bool):=
  (ix o0_0 t1_0).bind fun e12_1=>((iB n t2_0 t2_1 t2_2 t2_3).bind fun c16_3=>bif decide (e12_1<c16_3)then some true else bif decide (t2_0=(9:Int))then some (decide (t2_3≤t1_0))else bif decide (t2_0=(10:Int))then some (decide (t2_3≤t1_0))else some false).bind fun v33_2=>bif v33_2 then some (o0_0,true)else bif decide (t2_0=(9:Int))then(aZ n (IntKind.wrap .i64 (t1_0+(1:Int))) (IntKind.wrap .i64 (e12_1 - (1:Int))) o0_0 o0_1).bind fun c55_9=>(aZ n t2_3 e12_1 c55_9.1 c55_9.2).bind fun c60_10=>some (c60_10.1,c60_10.2)else bif decide (t2_0=(10:Int))then(aZ n t2_3 e12_1 o0_0 o0_1).bind fun c67_12=>some (c67_12.1,c67_12.2)else bif decide (t2_0=(11:Int))then some (o0_0,o0_1)else bif decide (t2_0=(12:Int))then(bif o0_1 then some (o0_0,true)else some (o0_0,(!decide (e12_1=(1:Int))))).bind fun(w1000000_15,w1000000_16)=>some (w1000000_15,w1000000_16)else(iB n t2_0 t2_1 t2_2 t2_3).bind fun c44_18=>(aZ n (IntKind.wrap .i64 (t1_0+(1:Int))) (IntKind.wrap .i64 ((IntKind.wrap .i64 (e12_1 - c44_18))+(1:Int))) o0_0 o0_1).bind fun c47_19=>some (c47_19.1,c47_19.2)
theorem rE{n:Nat}:tL (dG n):=by
 intro t1_0 t2_0 t2_1 t2_2 t2_3 o0_0 o0_1 r h
 unfold dG at h
 refine bF Try.func273 rfl rfl<|cRs<|xBx rfl<|oRs<|xMv rfl<|xNc rfl<|xFd rfl<|xLd rfl<|xMv rfl<|xIx h iN rfl (fun e12_1 h=> ?_)
 refine xLd rfl<|xAs rfl<|oNl<|cSq<|cRs<|oJn h [(14,33)] [] (fun v33_2=>(.n,[(33,Bo v33_2)],[])) (fun _ h=> ?_) (fun v33_2 h=> ?_)
 refine xMv rfl<|xLd rfl<|xC0 h (rQ ·) rfl (fun c16_3 h=> ?_)
 refine xLt rfl<|xMv rfl<|oIf 18 h rfl (fun q4 h=> ?_) (fun q4 h=> ?_)
 refine wSk rfl<|wSk rfl<|wSk rfl<|wSk rfl<|wSk rfl<|wSk rfl<|wSk rfl<|wSk rfl<|wSk rfl<|wSk rfl<|wSk rfl<|wSk rfl<|wSk rfl<|wSk rfl ?_
 exact xPk rfl<|oNl<|eJ h rfl
 refine xFd rfl<|xLd rfl<|xEq rfl<|xMv rfl<|oIf 22 h rfl (fun q5 h=> ?_) (fun q5 h=> ?_)
 exact wSk rfl<|wSk rfl<|wSk rfl<|xPk rfl<|xMv rfl<|xFd rfl<|xLd rfl<|xMv rfl<|xLe rfl<|xPk rfl<|xPk rfl<|oNl<|eJ h rfl
 refine xFd rfl<|xLd rfl<|xEq rfl<|xPk rfl<|xMv rfl<|oIf 27 h rfl (fun q6 h=> ?_) (fun q6 h=> ?_)
 exact xFd rfl<|xLd rfl<|xMv rfl<|xLe rfl<|xPk rfl<|xPk rfl<|oNl<|eJ h rfl
 exact wSk rfl<|wSk rfl<|wSk rfl<|wSk rfl<|xPk rfl<|xPk rfl<|oNl<|eJ h rfl
 refine cIf h rfl (fun q7 h=> ?_) (fun q7 h=> ?_)
 refine cRs<|xMv rfl<|xNc rfl<|xFd rfl<|xSt rfl<|oNl<|cRt ?_
 cases h
 exact eR rfl rfl rfl rfl
 refine cSk<|cRs<|xFd rfl<|xLd rfl<|oNl<|cBk<|cRs<|xEq rfl<|xAs rfl<|oNl<|cIf h rfl (fun q8 h=> ?_) (fun q8 h=> ?_)
 refine cRs<|xMv rfl<|xMv rfl<|cM rfl<|xMv rfl<|tM rfl<|xC1 h (cS ·) rfl (fun c55_9 h=> ?_)
 refine oNl<|cRg<|xMv rfl<|xFd rfl<|xLd rfl<|xMv rfl<|xC1 h (cS ·) rfl (fun c60_10 h=> ?_)
 refine oNl ?_
 cases h
 exact eN rfl rfl rfl rfl
 refine cRs<|xEq rfl<|xAs rfl<|oNl<|cIf h rfl (fun q11 h=> ?_) (fun q11 h=> ?_)
 refine cRg<|xMv rfl<|xFd rfl<|xLd rfl<|xMv rfl<|xC1 h (cS ·) rfl (fun c67_12 h=> ?_)
 refine oNl ?_
 cases h
 exact eN rfl rfl rfl rfl
 refine cRs<|xEq rfl<|xAs rfl<|oNl<|cIf h rfl (fun q13 h=> ?_) (fun q13 h=> ?_)
 refine cSk ?_
 cases h
 exact eN rfl rfl rfl rfl
 refine cRs<|xEq rfl<|xAs rfl<|oNl<|cIf h rfl (fun q14 h=> ?_) (fun q14 h=> ?_)
 refine cRg<|oJn h [(72,82)] [(1000000,1000000)] (fun(w1000000_15,w1000000_16)=>(.n,[],[(1000000,[.sl (w1000000_15.map aX), .bool w1000000_16])])) (fun _ h=> ?_) (fun q h=> ?_)
 refine xMv rfl<|xMv rfl<|xNc rfl<|xFd rfl<|xLd rfl<|xMv rfl<|oIf 77 h rfl (fun q17 h=> ?_) (fun q17 h=> ?_)
 exact wSk rfl<|wSk rfl<|xPk rfl<|xNc rfl<|xFd rfl<|xSt rfl<|oNl<|eJ h rfl
 exact xMv rfl<|xNe rfl<|xPk rfl<|xNc rfl<|xFd rfl<|xSt rfl<|oNl<|eJ h rfl
 obtain⟨w1000000_15,w1000000_16⟩:=q
 cases h
 exact eN rfl rfl rfl rfl
 refine cRg<|xMv rfl<|xMv rfl<|cM rfl<|xMv rfl<|xLd rfl<|xC0 h (rQ ·) rfl (fun c44_18 h=> ?_)
 refine tM rfl<|cM rfl<|xC1 h (cS ·) rfl (fun c47_19 h=> ?_)
 refine oNl ?_
 cases h
 exact eN rfl rfl rfl rfl
abbrev Af(p:(List UInt8)→Int→Int→(List aD)→Option ((List Int)×Bool)):Prop:= ∀ {t0_0:List UInt8} {t0_1 t0_2:Int} {t0_3:List aD} {r:(List Int)×Bool},p t0_0 t0_1 t0_2 t0_3=some r→Big Try.prog τ An (.fn 215 [.one (.cp [.str t0_0, .int .i64 t0_1, .int .i64 t0_2, .sl (t0_3.map aK)])] [] (.tup [.c (.sl (r.1.map aX)), .c (.bool r.2)]) none [] none)
def cY(n:Nat)(t0_3:List aD):(Int×(List Int)×Bool)→Option ((Int×(List Int)×Bool)⊕((Int×Bool×(List Int)×Bool)))
  | (v18_2,w4_3,w4_4)=>bif decide (v18_2<((List.replicate (Int.toNat (t0_3.length:Int)) (0:Int)).length:Int))then(ix w4_3 v18_2).bind fun e24_10=>(some (w4_3.set (Int.toNat v18_2) ((-1):Int))).bind fun u4_11=>some (.inl ((IntKind.wrap .i64 (v18_2+(1:Int))),u4_11,w4_4))else some (.inr (v18_2,false,w4_3,w4_4))
def cX(n:Nat)(t0_3:List aD):(Int×(List Int)×Bool)→Option ((Int×(List Int)×Bool)⊕(((List Int)×Bool)⊕(Int×Bool×(List Int)×Bool)))
  | (v32_13,w4_14,w4_15)=>bif decide (v32_13<(t0_3.length:Int))then(ix t0_3 v32_13).bind fun e35_23=>(bif w4_15 then some true else(ix w4_14 v32_13).bind fun e43_26=>some (decide (e43_26<(0:Int)))).bind fun v46_24=>bif v46_24 then some (.inr (.inl (([]:List Int),false)))else(dG n v32_13 e35_23.f0 e35_23.f1 e35_23.f2 e35_23.f3 w4_14 w4_15).bind fun c49_28=>some (.inl ((IntKind.wrap .i64 (v32_13+(1:Int))),c49_28.1,c49_28.2))else some (.inr (.inr (v32_13,false,w4_14,w4_15)))
def hI(n:Nat)(t0_0:List UInt8)(t0_1:Int)(t0_2:Int)(t0_3:List aD):Option ((List Int)×Bool):=
  (ck (decide (0≤(t0_3.length:Int)∧(t0_3.length:Int)≤maxLen∧8*(t0_3.length:Int)≤281474976710656))).bind fun _=>(loopN (cY n t0_3) n ((0:Int),(List.replicate (Int.toNat (t0_3.length:Int)) (0:Int)),false)).bind fun(v18_5,v19_6,w4_7,w4_8)=>(aZ n (0:Int) (0:Int) w4_7 w4_8).bind fun c26_12=>(loopN (cX n t0_3) n ((0:Int),c26_12.1,c26_12.2)).bind fun q=>(match q with | .inl (v2_16,v3_17)=>some (v2_16,v3_17) | .inr (v32_18,v33_19,w4_20,w4_21)=>some (w4_20,(!w4_21)))
theorem xK{n:Nat}:Af (hI n):=by
 intro t0_0 t0_1 t0_2 t0_3 r h
 unfold hI at h
 refine bF Try.func215 rfl rfl<|cRs<|wAe (Li aX []) rfl rfl rfl rfl<|xAs rfl<|oRs<|xMv rfl<|xNc rfl<|xFd rfl<|xLd rfl<|xLn rfl<|oCk h (fun k13_0 h=> ?_)
 refine wMk (z:=(0:Int)) (f:=aX) k13_0 rfl rfl rfl rfl rfl rfl rfl<|wBd [.sl ((List.replicate (Int.toNat (t0_3.length:Int)) (0:Int)).map aX), .bool false] rfl rfl rfl rfl rfl rfl<|xAz [.sl ([].map aX), .bool false] rfl<|xSt rfl<|oNl<|cSq<|cRs<|xFd rfl<|xLd rfl<|xLn rfl<|xMv rfl<|oNl<|cLp h [(5,5),(18,25)] [(4,4)] (fun(v18_2,w4_3,w4_4)=>([(18,I64 v18_2)],[(4,[.sl (w4_3.map aX), .bool w4_4])])) (fun(v18_5,v19_6,w4_7,w4_8)=>(.e 0,[(18,I64 v18_5),(19,Bo v19_6)],[(4,[.sl (w4_7.map aX), .bool w4_8])])) rfl (fun st _ h=> ?_) (fun q h=> ?_)
 obtain⟨v18_2,w4_3,w4_4⟩:=st
 unfold cY at h
 refine cRs<|xLt rfl<|oNl<|cSq<|cIf h rfl (fun q9 h=> ?_) (fun q9 h=> ?_)
 refine cSk<|cSq<|cBk<|cRs<|xMv rfl<|xAs rfl<|oNl<|cRg<|xFd rfl<|wLa rfl rfl rfl rfl rfl rfl rfl<|xMv rfl<|wIp (f:=aX) h rfl rfl rfl rfl rfl rfl (fun _=>rfl) rfl (fun e24_10 ke24_10 h=> ?_)
 refine tN (f:=aX) (v':=((-1):Int)) h ke24_10 rfl rfl rfl rfl rfl rfl rfl rfl rfl (fun u4_11 h=> ?_)
 exact oNl<|cRg<|cM rfl<|xMv rfl<|oNl<|eL h rfl
 exact cEx<|eX h rfl
 obtain⟨v18_5,v19_6,w4_7,w4_8⟩:=q
 refine cRs<|xC1 h (cS ·) rfl (fun c26_12 h=> ?_)
 refine oNl<|cSq<|cRs<|xMv rfl<|xNc rfl<|xFd rfl<|xLd rfl<|xLn rfl<|xMv rfl<|oNl<|cLp h [(2,3),(6,7),(32,50)] [(4,4),(7,7)] (fun(v32_13,w4_14,w4_15)=>([(32,I64 v32_13)],[(4,[.sl (w4_14.map aX), .bool w4_15])])) (fun q=>match q with | .inl (v2_16,v3_17)=>(.r,[(2,Li aX v2_16),(3,Bo v3_17)],[]) | .inr (v32_18,v33_19,w4_20,w4_21)=>(.e 2,[(32,I64 v32_18),(33,Bo v33_19)],[(4,[.sl (w4_20.map aX), .bool w4_21])])) rfl (fun st _ h=> ?_) (fun q h=> ?_)
 obtain⟨v32_13,w4_14,w4_15⟩:=st
 unfold cX at h
 refine cRs<|xLt rfl<|oNl<|cSq<|cIf h rfl (fun q22 h=> ?_) (fun q22 h=> ?_)
 refine cSk<|cSq<|cBk<|cRs<|xMv rfl<|xIx h bP rfl (fun e35_23 h=> ?_)
 refine xLd rfl<|xAc rfl<|xAs rfl<|xSt rfl<|oNl<|cSq<|cRs<|oJn h [(37,46)] [] (fun v46_24=>(.n,[(46,Bo v46_24)],[])) (fun _ h=> ?_) (fun v46_24 h=> ?_)
 refine xFd rfl<|xLd rfl<|xMv rfl<|oIf 39 h rfl (fun q25 h=> ?_) (fun q25 h=> ?_)
 exact wSk rfl<|wSk rfl<|wSk rfl<|wSk rfl<|wSk rfl<|wSk rfl<|xPk rfl<|oNl<|eJ h rfl
 refine xFd rfl<|xLd rfl<|xMv rfl<|xIx h iN rfl (fun e43_26 h=> ?_)
 exact xLd rfl<|xLt rfl<|xPk rfl<|oNl<|eJ h rfl
 refine cIf h rfl (fun q27 h=> ?_) (fun q27 h=> ?_)
 exact cRs<|wAe (Li aX []) rfl rfl rfl rfl<|xAs rfl<|oNl<|cRt<|eXr h rfl
 refine cSk<|cRg<|xMv rfl<|xLd rfl<|xC1 h (rE ·) rfl (fun c49_28 h=> ?_)
 exact oNl<|cRg<|cM rfl<|xMv rfl<|oNl<|eL h rfl
 exact cEx<|eX h rfl
 rcases q with⟨v2_16,v3_17⟩ | ⟨v32_18,v33_19,w4_20,w4_21⟩
 cases h
 exact eR rfl rfl rfl rfl
 refine cRs<|xFd rfl<|xLd rfl<|xFd rfl<|xLd rfl<|gJ rfl<|xAs rfl<|xAs rfl<|oNl<|cRt ?_
 cases h
 exact eR rfl rfl rfl rfl
abbrev Ib(p:(List UInt8)→Int→Int→(List aD)→(List aB)→(List aA)→Option (Bool×(List aB)×(List aA))):Prop:= ∀ {t1_0:List UInt8} {t1_1 t1_2:Int} {t1_3:List aD} {o0_0:List aB} {o0_1:List aA} {r:Bool×(List aB)×(List aA)},p t1_0 t1_1 t1_2 t1_3 o0_0 o0_1=some r→Big Try.prog τ An (.fn 129 [.one (.ptr 1000000 0), .one (.cp [.str t1_0, .int .i64 t1_1, .int .i64 t1_2, .sl (t1_3.map aK)])] [[.sl (o0_0.map aH), .sl (o0_1.map aE)]] (.one (.c (.bool r.1))) none [[.sl (r.2.1.map aH), .sl (r.2.2.map aE)]] none)
def iD(n:Nat)(t1_0:List UInt8)(t1_1:Int)(t1_2:Int)(t1_3:List aD):(Int×(List aB)×(List aA))→Option ((Int×(List aB)×(List aA))⊕((Bool×(List aB)×(List aA))⊕(Int×Bool×(List aB)×(List aA))))
  | (v49_10,w1000000_11,w1000000_12)=>bif decide (v49_10<(t1_3.length:Int))then(ix t1_3 v49_10).bind fun e51_21=>(lD n t1_0 t1_1 t1_2 t1_3 e51_21.f0 e51_21.f1 e51_21.f2 e51_21.f3 w1000000_11 w1000000_12).bind fun c56_22=>bif !c56_22.1 then some (.inr (.inl (false,c56_22.2.1,c56_22.2.2)))else some (.inl ((IntKind.wrap .i64 (v49_10+(1:Int))),c56_22.2.1,c56_22.2.2))else some (.inr (.inr (v49_10,false,w1000000_11,w1000000_12)))
def oF(n:Nat)(t1_0:List UInt8)(t1_1:Int)(t1_2:Int)(t1_3:List aD)(o0_0:List aB)(o0_1:List aA):Option (Bool×(List aB)×(List aA)):=
  ((dC n t1_0).bind fun c13_2=>bif !c13_2 then some true else(aQ n t1_1 (0:Int) (4:Int)).bind fun c20_4=>bif !c20_4 then some true else(aQ n t1_2 t1_1 (400:Int)).bind fun c32_6=>bif !c32_6 then some true else(aQ n (t1_3.length:Int) (1:Int) (1500:Int)).bind fun c41_8=>some (!c41_8)).bind fun v43_1=>bif v43_1 then some (false,o0_0,o0_1)else(loopN (iD n t1_0 t1_1 t1_2 t1_3) n ((0:Int),o0_0,o0_1)).bind fun q=>(match q with | .inl (v4_13,w1000000_14,w1000000_15)=>some (v4_13,w1000000_14,w1000000_15) | .inr (v49_16,v50_17,w1000000_18,w1000000_19)=>(hI n t1_0 t1_1 t1_2 t1_3).bind fun c61_24=>some (c61_24.2,w1000000_18,w1000000_19))
theorem FK{n:Nat}:Ib (oF n):=by
 intro t1_0 t1_1 t1_2 t1_3 o0_0 o0_1 r h
 unfold oF at h
 refine bF Try.func129 rfl rfl<|cRs<|xAs rfl<|oNl<|cSq<|cRs<|oJn h [(9,43)] [] (fun v43_1=>(.n,[(43,Bo v43_1)],[])) (fun _ h=> ?_) (fun v43_1 h=> ?_)
 refine xMv rfl<|xNc rfl<|xFd rfl<|xLd rfl<|xC0 h (kZ ·) rfl (fun c13_2 h=> ?_)
 refine gJ rfl<|xMv rfl<|oIf 15 h rfl (fun q3 h=> ?_) (fun q3 h=> ?_)
 refine wSk rfl<|wSk rfl<|wSk rfl<|wSk rfl<|wSk rfl<|wSk rfl<|xPk rfl<|xMv rfl<|wSk rfl<|wSk rfl<|wSk rfl<|wSk rfl<|wSk rfl<|wSk rfl ?_
 refine wSk rfl<|wSk rfl<|wSk rfl<|wSk rfl<|xPk rfl<|xMv rfl<|wSk rfl<|wSk rfl<|wSk rfl<|wSk rfl<|wSk rfl<|wSk rfl<|wSk rfl<|xPk rfl ?_
 exact oNl<|eJ h rfl
 refine xMv rfl<|xNc rfl<|xFd rfl<|xLd rfl<|xC0 h (aU ·) rfl (fun c20_4 h=> ?_)
 refine gJ rfl<|xPk rfl<|xMv rfl<|oIf 23 h rfl (fun q5 h=> ?_) (fun q5 h=> ?_)
 refine wSk rfl<|wSk rfl<|wSk rfl<|wSk rfl<|wSk rfl<|wSk rfl<|wSk rfl<|wSk rfl<|wSk rfl<|wSk rfl<|xPk rfl<|xMv rfl<|wSk rfl<|wSk rfl ?_
 exact wSk rfl<|wSk rfl<|wSk rfl<|wSk rfl<|wSk rfl<|xPk rfl<|oNl<|eJ h rfl
 refine xMv rfl<|xNc rfl<|xFd rfl<|xLd rfl<|xMv rfl<|xNc rfl<|xFd rfl<|xLd rfl<|xC0 h (aU ·) rfl (fun c32_6 h=> ?_)
 refine gJ rfl<|xPk rfl<|xMv rfl<|oIf 35 h rfl (fun q7 h=> ?_) (fun q7 h=> ?_)
 exact wSk rfl<|wSk rfl<|wSk rfl<|wSk rfl<|wSk rfl<|wSk rfl<|wSk rfl<|xPk rfl<|oNl<|eJ h rfl
 refine xMv rfl<|xNc rfl<|xFd rfl<|xLd rfl<|xLn rfl<|xC0 h (aU ·) rfl (fun c41_8 h=> ?_)
 exact gJ rfl<|xPk rfl<|oNl<|eJ h rfl
 refine cIf h rfl (fun q9 h=> ?_) (fun q9 h=> ?_)
 refine cRs<|xAs rfl<|oNl<|cRt ?_
 cases h
 exact eR rfl rfl rfl rfl
 refine cSk<|cSq<|cRs<|xMv rfl<|xNc rfl<|xFd rfl<|xLd rfl<|xLn rfl<|xMv rfl<|oNl<|cLp h [(4,4),(6,6),(49,58)] [(6,6),(1000000,1000000)] (fun(v49_10,w1000000_11,w1000000_12)=>([(49,I64 v49_10)],[(1000000,[.sl (w1000000_11.map aH), .sl (w1000000_12.map aE)])])) (fun q=>match q with | .inl (v4_13,w1000000_14,w1000000_15)=>(.r,[(4,Bo v4_13)],[(1000000,[.sl (w1000000_14.map aH), .sl (w1000000_15.map aE)])]) | .inr (v49_16,v50_17,w1000000_18,w1000000_19)=>(.e 0,[(49,I64 v49_16),(50,Bo v50_17)],[(1000000,[.sl (w1000000_18.map aH), .sl (w1000000_19.map aE)])])) rfl (fun st _ h=> ?_) (fun q h=> ?_)
 obtain⟨v49_10,w1000000_11,w1000000_12⟩:=st
 unfold iD at h
 refine cRs<|xLt rfl<|oNl<|cSq<|cIf h rfl (fun q20 h=> ?_) (fun q20 h=> ?_)
 refine cSk<|cSq<|cBk<|cRs<|xIx h bP rfl (fun e51_21 h=> ?_)
 refine xLd rfl<|xAc rfl<|xSt rfl<|oRs<|xMv rfl<|xMv rfl<|xLd rfl<|xC1 h (DN ·) rfl (fun c56_22 h=> ?_)
 refine gJ rfl<|oNl<|cIf h rfl (fun q23 h=> ?_) (fun q23 h=> ?_)
 exact cRs<|xAs rfl<|oNl<|cRt<|eXr h rfl
 exact cSk<|cRg<|cM rfl<|xMv rfl<|oNl<|eL h rfl
 exact cEx<|eX h rfl
 rcases q with⟨v4_13,w1000000_14,w1000000_15⟩ | ⟨v49_16,v50_17,w1000000_18,w1000000_19⟩
 cases h
 exact eR rfl rfl rfl rfl
 refine cRs<|xMv rfl<|xC0 h (xK ·) rfl (fun c61_24 h=> ?_)
 refine xMv rfl<|xEt rfl<|xEt rfl<|xAs rfl<|xAs rfl<|oRs<|xMv rfl<|xAs rfl<|oNl<|cRt ?_
 cases h
 exact eR rfl rfl rfl rfl
abbrev Fb(p:(List aB)→(List aA)→Option (Bool)):Prop:= ∀ {t0_0:List aB} {t0_1:List aA} {r:Bool},p t0_0 t0_1=some r→Big Try.prog τ An (.fn 44 [.one (.ag [.sl (t0_0.map aH), .sl (t0_1.map aE)])] [] (.one (.c (.bool r))) none [] none)
def eI(n:Nat)(t0_0:List aB):(Int×(List aB)×(List aA))→Option ((Int×(List aB)×(List aA))⊕((Bool)⊕(Int×Bool×(List aB)×(List aA))))
  | (v17_4,w1_5,w1_6)=>bif decide (v17_4<(t0_0.length:Int))then((ix w1_5 v17_4).bind fun e23_16=>(mI n e23_16.f0 w1_5 w1_6).bind fun c26_17=>bif !decide (c26_17.1=v17_4)then some (true,c26_17.2.1,c26_17.2.2)else(ix c26_17.2.1 v17_4).bind fun e33_19=>(oF n e33_19.f0 e33_19.f1 e33_19.f2 e33_19.f3 c26_17.2.1 c26_17.2.2).bind fun c34_20=>some ((!c34_20.1),c34_20.2.1,c34_20.2.2)).bind fun(v36_13,w1_14,w1_15)=>bif v36_13 then some (.inr (.inl false))else some (.inl ((IntKind.wrap .i64 (v17_4+(1:Int))),w1_14,w1_15))else some (.inr (.inr (v17_4,false,w1_5,w1_6)))
def jJ(n:Nat)(t0_0:List aB)(t0_1:List aA):Option (Bool):=
  (bif decide ((12:Int)<(t0_0.length:Int))then some true else some (decide ((2000:Int)<(t0_1.length:Int)))).bind fun v13_1=>bif v13_1 then some false else(loopN (eI n t0_0) n ((0:Int),t0_0,t0_1)).bind fun q=>(match q with | .inl v2_7=>some v2_7 | .inr (v17_8,v18_9,w1_10,w1_11)=>some true)
theorem sY{n:Nat}:Fb (jJ n):=by
 intro t0_0 t0_1 r h
 unfold jJ at h
 refine bF Try.func44 rfl rfl<|cRs<|xBx rfl<|xAs rfl<|oNl<|cSq<|cRs<|oJn h [(4,13)] [] (fun v13_1=>(.n,[(13,Bo v13_1)],[])) (fun _ h=> ?_) (fun v13_1 h=> ?_)
 refine xFd rfl<|xLd rfl<|xLn rfl<|xGt rfl<|xMv rfl<|oIf 8 h rfl (fun q2 h=> ?_) (fun q2 h=> ?_)
 exact wSk rfl<|wSk rfl<|wSk rfl<|wSk rfl<|xPk rfl<|oNl<|eJ h rfl
 exact xFd rfl<|xLd rfl<|xLn rfl<|xGt rfl<|xPk rfl<|oNl<|eJ h rfl
 refine cIf h rfl (fun q3 h=> ?_) (fun q3 h=> ?_)
 refine cRs<|xAs rfl<|oNl<|cRt ?_
 cases h
 exact eR rfl rfl rfl rfl
 refine cSk<|cSq<|cRs<|xFd rfl<|xLd rfl<|xLn rfl<|xMv rfl<|oNl<|cLp h [(2,3),(17,37)] [(1,1)] (fun(v17_4,w1_5,w1_6)=>([(17,I64 v17_4)],[(1,[.sl (w1_5.map aH), .sl (w1_6.map aE)])])) (fun q=>match q with | .inl v2_7=>(.r,[(2,Bo v2_7)],[]) | .inr (v17_8,v18_9,w1_10,w1_11)=>(.e 0,[(17,I64 v17_8),(18,Bo v18_9)],[(1,[.sl (w1_10.map aH), .sl (w1_11.map aE)])])) rfl (fun st _ h=> ?_) (fun q h=> ?_)
 obtain⟨v17_4,w1_5,w1_6⟩:=st
 unfold eI at h
 refine cRs<|xLt rfl<|oNl<|cSq<|cIf h rfl (fun q12 h=> ?_) (fun q12 h=> ?_)
 refine cSk<|cSq<|cBk<|cRs<|xMv rfl<|xAs rfl<|oRs<|oJn h [(20,36)] [(1,1)] (fun(v36_13,w1_14,w1_15)=>(.n,[(36,Bo v36_13)],[(1,[.sl (w1_14.map aH), .sl (w1_15.map aE)])])) (fun _ h=> ?_) (fun q h=> ?_)
 refine xFd rfl<|xLd rfl<|xMv rfl<|xIx h bL rfl (fun e23_16 h=> ?_)
 refine xFd rfl<|xLd rfl<|xC1 h (wP ·) rfl (fun c26_17 h=> ?_)
 refine xMv rfl<|xNe rfl<|xMv rfl<|oIf 29 h rfl (fun q18 h=> ?_) (fun q18 h=> ?_)
 exact wSk rfl<|wSk rfl<|wSk rfl<|wSk rfl<|wSk rfl<|wSk rfl<|xPk rfl<|oNl<|eJ h rfl
 refine xFd rfl<|xLd rfl<|xMv rfl<|xIx h bL rfl (fun e33_19 h=> ?_)
 refine xC1 h (FK ·) rfl (fun c34_20 h=> ?_)
 exact gJ rfl<|xPk rfl<|oNl<|eJ h rfl
 obtain⟨v36_13,w1_14,w1_15⟩:=q
 refine cIf h rfl (fun q21 h=> ?_) (fun q21 h=> ?_)
 exact cRs<|xAs rfl<|oNl<|cRt<|eXr h rfl
 exact cSk<|cRg<|cM rfl<|xMv rfl<|oNl<|eL h rfl
 exact cEx<|eX h rfl
 rcases q with v2_7 | ⟨v17_8,v18_9,w1_10,w1_11⟩
 cases h
 exact eR rfl rfl rfl rfl
 refine cRs<|xAs rfl<|oNl<|cRt ?_
 cases h
 exact eR rfl rfl rfl rfl
abbrev Dg(p:(List UInt8)→Int→(List aB)→(List aA)→Bool→(List aB)→(List aA)→Option (Bool)):Prop:= ∀ {t0_0:List UInt8} {t0_1:Int} {t0_2:List aB} {t0_3:List aA} {t0_4:Bool} {t0_5:List aB} {t0_6:List aA} {r:Bool},p t0_0 t0_1 t0_2 t0_3 t0_4 t0_5 t0_6=some r→Big Try.prog τ An (.fn 239 [.one (.ag [.str t0_0, .int .i64 t0_1, .sl (t0_2.map aH), .sl (t0_3.map aE), .bool t0_4, .sl (t0_5.map aH), .sl (t0_6.map aE)])] [] (.one (.c (.bool r))) none [] none)
def kH(n:Nat)(t0_0:List UInt8)(t0_1:Int)(t0_2:List aB)(t0_3:List aA)(t0_4:Bool)(t0_5:List aB)(t0_6:List aA):Option (Bool):=
  ((gN n t0_0).bind fun c5_2=>bif !c5_2 then some true else(aQ n t0_1 (1:Int) (10000:Int)).bind fun c10_4=>bif !c10_4 then some true else(jJ n t0_2 t0_3).bind fun c16_6=>bif !c16_6 then some true else(jJ n t0_5 t0_6).bind fun c22_8=>some (!c22_8)).bind fun v24_1=>bif v24_1 then some false else bif t0_4 then some (decide ((2:Int)≤t0_1))else(bif decide ((t0_5.length:Int)=(0:Int))then some (decide ((t0_6.length:Int)=(0:Int)))else some false).bind fun v2_11=>some v2_11
theorem AY{n:Nat}:Dg (kH n):=by
 intro t0_0 t0_1 t0_2 t0_3 t0_4 t0_5 t0_6 r h
 unfold kH at h
 refine bF Try.func239 rfl rfl<|cRs<|xBx rfl<|xAs rfl<|oNl<|cSq<|cRs<|oJn h [(3,24)] [] (fun v24_1=>(.n,[(24,Bo v24_1)],[])) (fun _ h=> ?_) (fun v24_1 h=> ?_)
 refine xFd rfl<|xLd rfl<|xC0 h (oJ ·) rfl (fun c5_2 h=> ?_)
 refine gJ rfl<|xMv rfl<|oIf 7 h rfl (fun q3 h=> ?_) (fun q3 h=> ?_)
 refine wSk rfl<|wSk rfl<|wSk rfl<|wSk rfl<|xPk rfl<|xMv rfl<|wSk rfl<|wSk rfl<|wSk rfl<|wSk rfl<|xPk rfl<|xMv rfl<|wSk rfl<|wSk rfl ?_
 exact wSk rfl<|wSk rfl<|xPk rfl<|oNl<|eJ h rfl
 refine xFd rfl<|xLd rfl<|xC0 h (aU ·) rfl (fun c10_4 h=> ?_)
 refine gJ rfl<|xPk rfl<|xMv rfl<|oIf 13 h rfl (fun q5 h=> ?_) (fun q5 h=> ?_)
 exact wSk rfl<|wSk rfl<|wSk rfl<|wSk rfl<|xPk rfl<|xMv rfl<|wSk rfl<|wSk rfl<|wSk rfl<|wSk rfl<|xPk rfl<|oNl<|eJ h rfl
 refine xFd rfl<|xLd rfl<|xC0 h (sY ·) rfl (fun c16_6 h=> ?_)
 refine gJ rfl<|xPk rfl<|xMv rfl<|oIf 19 h rfl (fun q7 h=> ?_) (fun q7 h=> ?_)
 exact wSk rfl<|wSk rfl<|wSk rfl<|wSk rfl<|xPk rfl<|oNl<|eJ h rfl
 refine xFd rfl<|xLd rfl<|xC0 h (sY ·) rfl (fun c22_8 h=> ?_)
 exact gJ rfl<|xPk rfl<|oNl<|eJ h rfl
 refine cIf h rfl (fun q9 h=> ?_) (fun q9 h=> ?_)
 refine cRs<|xAs rfl<|oNl<|cRt ?_
 cases h
 exact eR rfl rfl rfl rfl
 refine cSk<|cSq<|cRs<|xFd rfl<|xLd rfl<|oNl<|cIf h rfl (fun q10 h=> ?_) (fun q10 h=> ?_)
 refine cRs<|xFd rfl<|xLd rfl<|xGe rfl<|xAs rfl<|oNl<|cRt ?_
 cases h
 exact eR rfl rfl rfl rfl
 refine cSk<|cRs<|oJn h [(2,2),(30,41)] [] (fun v2_11=>(.n,[(2,Bo v2_11)],[])) (fun _ h=> ?_) (fun v2_11 h=> ?_)
 refine xFd rfl<|xFd rfl<|xLd rfl<|xLn rfl<|xEq rfl<|xMv rfl<|oIf 35 h rfl (fun q12 h=> ?_) (fun q12 h=> ?_)
 exact xFd rfl<|xFd rfl<|xLd rfl<|xLn rfl<|xEq rfl<|xPk rfl<|xAs rfl<|oNl<|eJ h rfl
 exact wSk rfl<|wSk rfl<|wSk rfl<|wSk rfl<|wSk rfl<|xPk rfl<|xAs rfl<|oNl<|eJ h rfl
 refine cRt ?_
 cases h
 exact eR rfl rfl rfl rfl
abbrev Di(p:(List aC)→Option (Bool)):Prop:= ∀ {t0_0:List aC} {r:Bool},p t0_0=some r→Big Try.prog τ An (.fn 160 [.one (.c (.sl (t0_0.map aF)))] [] (.one (.c (.bool r))) none [] none)
def jP(n:Nat)(t0_0:List aC):(Int)→Option ((Int)⊕((Bool)⊕(Int×Bool)))
  | v7_1=>bif decide (v7_1<(t0_0.length:Int))then(ix t0_0 v7_1).bind fun e10_6=>((kH n e10_6.f0 e10_6.f1 e10_6.f2 e10_6.f3 e10_6.f4 e10_6.f5 e10_6.f6).bind fun c13_8=>bif !c13_8 then some true else bif decide ((0:Int)<v7_1)then(ix t0_0 (IntKind.wrap .i64 (v7_1 - (1:Int)))).bind fun e24_11=>some (pG e10_6.f0 e24_11.f0||decide (e10_6.f0=e24_11.f0))else some false).bind fun v29_7=>bif v29_7 then some (.inr (.inl false))else some (.inl (IntKind.wrap .i64 (v7_1+(1:Int))))else some (.inr (.inr (v7_1,false)))
def kJ(n:Nat)(t0_0:List aC):Option (Bool):=
  (loopN (jP n t0_0) n (0:Int)).bind fun q=>(match q with | .inl v2_2=>some v2_2 | .inr (v7_3,v8_4)=>some (decide ((t0_0.length:Int)≤(10:Int))))
theorem Ab{n:Nat}:Di (kJ n):=by
 intro t0_0 r h
 unfold kJ at h
 refine bF Try.func160 rfl rfl<|cRs<|xAs rfl<|oNl<|cSq<|cRs<|xMv rfl<|xLn rfl<|xMv rfl<|oNl<|cLp h [(2,4),(7,30)] [(4,4)] (fun v7_1=>([(7,I64 v7_1)],[])) (fun q=>match q with | .inl v2_2=>(.r,[(2,Bo v2_2)],[]) | .inr (v7_3,v8_4)=>(.e 0,[(7,I64 v7_3),(8,Bo v8_4)],[])) rfl (fun v7_1 _ h=> ?_) (fun q h=> ?_)
 unfold jP at h
 refine cRs<|xLt rfl<|oNl<|cSq<|cIf h rfl (fun q5 h=> ?_) (fun q5 h=> ?_)
 refine cSk<|cSq<|cBk<|cRs<|xMv rfl<|xIx h aR rfl (fun e10_6 h=> ?_)
 refine xLd rfl<|xAz [.str [], .int .i64 0, .sl ([].map aH), .sl ([].map aE), .bool false, .sl ([].map aH), .sl ([].map aE)] rfl<|xAs rfl<|xSt rfl<|oRs<|oJn h [(12,29)] [] (fun v29_7=>(.n,[(29,Bo v29_7)],[])) (fun _ h=> ?_) (fun v29_7 h=> ?_)
 refine xLd rfl<|xC0 h (AY ·) rfl (fun c13_8 h=> ?_)
 refine gJ rfl<|xMv rfl<|oIf 15 h rfl (fun q9 h=> ?_) (fun q9 h=> ?_)
 refine wSk rfl<|wSk rfl<|wSk rfl<|wSk rfl<|wSk rfl<|wSk rfl<|wSk rfl<|wSk rfl<|wSk rfl<|wSk rfl<|wSk rfl<|wSk rfl<|wSk rfl<|xPk rfl ?_
 exact oNl<|eJ h rfl
 refine xMv rfl<|xGt rfl<|xMv rfl<|oIf 18 h rfl (fun q10 h=> ?_) (fun q10 h=> ?_)
 refine xFd rfl<|xLd rfl<|xMv rfl<|xMv rfl<|tM rfl<|xIx h aR rfl (fun e24_11 h=> ?_)
 exact xFd rfl<|xLd rfl<|wBi (.bool ((pG e10_6.f0 e24_11.f0||decide (e10_6.f0=e24_11.f0)))) rfl rfl rfl rfl rfl<|xPk rfl<|xPk rfl<|oNl<|eJ h rfl
 exact wSk rfl<|wSk rfl<|wSk rfl<|wSk rfl<|wSk rfl<|wSk rfl<|wSk rfl<|wSk rfl<|wSk rfl<|xPk rfl<|xPk rfl<|oNl<|eJ h rfl
 refine cIf h rfl (fun q12 h=> ?_) (fun q12 h=> ?_)
 exact cRs<|xAs rfl<|oNl<|cRt<|eXr h rfl
 exact cSk<|cRg<|cM rfl<|xMv rfl<|oNl<|eL h rfl
 exact cEx<|eX h rfl
 rcases q with v2_2 | ⟨v7_3,v8_4⟩
 cases h
 exact eR rfl rfl rfl rfl
 refine cRs<|xMv rfl<|xLn rfl<|xLe rfl<|xAs rfl<|oNl<|cRt ?_
 cases h
 exact eR rfl rfl rfl rfl
abbrev Ah(p:(List UInt8)→Int→(List aB)→(List aA)→Bool→(List aB)→(List aA)→(List UInt8)→Option (Bool×(List UInt8))):Prop:= ∀ {t0_0:List UInt8} {t0_1:Int} {t0_2:List aB} {t0_3:List aA} {t0_4:Bool} {t0_5:List aB} {t0_6:List aA} {o0_0:List UInt8} {r:Bool×(List UInt8)},p t0_0 t0_1 t0_2 t0_3 t0_4 t0_5 t0_6 o0_0=some r→Big Try.prog τ An (.fn 241 [.one (.ag [.str t0_0, .int .i64 t0_1, .sl (t0_2.map aH), .sl (t0_3.map aE), .bool t0_4, .sl (t0_5.map aH), .sl (t0_6.map aE)]), .one (.ptr 1000000 0)] [[.str o0_0]] (.one (.c (.bool r.1))) none [[.str r.2]] none)
def kX(n:Nat)(t0_0:List UInt8)(t0_1:Int)(t0_2:List aB)(t0_3:List aA)(t0_4:Bool)(t0_5:List aB)(t0_6:List aA)(o0_0:List UInt8):Option (Bool×(List UInt8)):=
  some ((decide (t0_0=o0_0)),o0_0)
theorem xL{n:Nat}:Ah (kX n):=by
 intro t0_0 t0_1 t0_2 t0_3 t0_4 t0_5 t0_6 o0_0 r h
 unfold kX at h
 refine bF Try.func241 rfl rfl<|cRs<|xBx rfl<|xAs rfl<|oRs<|xFd rfl<|xLd rfl<|xLd rfl<|xEs rfl<|xAs rfl<|oNl<|cRt ?_
 cases h
 exact eR rfl rfl rfl rfl
abbrev rF(p:(List aC)→(List UInt8)→Option (Int×(List UInt8))):Prop:= ∀ {t0_0:List aC} {o0_0:List UInt8} {r:Int×(List UInt8)},p t0_0 o0_0=some r→Big Try.prog τ An (.fn 240 [.one (.c (.sl (t0_0.map aF))), .one (.fn 241 [(1000000,0)])] [[.str o0_0]] (.one (.c (.int .i64 r.1))) none [[.str r.2]] none)
def bM(n:Nat)(t0_0:List aC):(Int×(List UInt8))→Option ((Int×(List UInt8))⊕((Int×(List UInt8))⊕(Int×Bool×(List UInt8))))
  | (v8_1,w1000000_2)=>bif decide (v8_1<(t0_0.length:Int))then(ix t0_0 v8_1).bind fun e14_9=>(kX n e14_9.f0 e14_9.f1 e14_9.f2 e14_9.f3 e14_9.f4 e14_9.f5 e14_9.f6 w1000000_2).bind fun c16_10=>bif c16_10.1 then some (.inr (.inl (v8_1,c16_10.2)))else some (.inl ((IntKind.wrap .i64 (v8_1+(1:Int))),c16_10.2))else some (.inr (.inr (v8_1,false,w1000000_2)))
def dR(n:Nat)(t0_0:List aC)(o0_0:List UInt8):Option (Int×(List UInt8)):=
  (loopN (bM n t0_0) n ((0:Int),o0_0)).bind fun q=>(match q with | .inl (v4_3,w1000000_4)=>some (v4_3,w1000000_4) | .inr (v8_5,v9_6,w1000000_7)=>some (((-1):Int),w1000000_7))
theorem pW{n:Nat}:rF (dR n):=by
 intro t0_0 o0_0 r h
 unfold dR at h
 refine bF Try.func240 rfl rfl<|cRs<|xAs rfl<|oNl<|cSq<|cRs<|xMv rfl<|xLn rfl<|xMv rfl<|oNl<|cLp h [(4,5),(8,18)] [(1000000,1000000)] (fun(v8_1,w1000000_2)=>([(8,I64 v8_1)],[(1000000,[.str w1000000_2])])) (fun q=>match q with | .inl (v4_3,w1000000_4)=>(.r,[(4,I64 v4_3)],[(1000000,[.str w1000000_4])]) | .inr (v8_5,v9_6,w1000000_7)=>(.e 0,[(8,I64 v8_5),(9,Bo v9_6)],[(1000000,[.str w1000000_7])])) rfl (fun st _ h=> ?_) (fun q h=> ?_)
 obtain⟨v8_1,w1000000_2⟩:=st
 unfold bM at h
 refine cRs<|xLt rfl<|oNl<|cSq<|cIf h rfl (fun q8 h=> ?_) (fun q8 h=> ?_)
 refine cSk<|cSq<|cBk<|cRs<|xMv rfl<|xAs rfl<|oRs<|xMv rfl<|xMv rfl<|xMv rfl<|xIx h aR rfl (fun e14_9 h=> ?_)
 refine xLd rfl<|xC1 h (xL ·) rfl (fun c16_10 h=> ?_)
 refine oNl<|cIf h rfl (fun q11 h=> ?_) (fun q11 h=> ?_)
 exact cRs<|xMv rfl<|xAs rfl<|oNl<|cRt<|eXr h rfl
 exact cSk<|cRg<|cM rfl<|xMv rfl<|oNl<|eL h rfl
 exact cEx<|eX h rfl
 rcases q with⟨v4_3,w1000000_4⟩ | ⟨v8_5,v9_6,w1000000_7⟩
 cases h
 exact eR rfl rfl rfl rfl
 refine cRs<|xAs rfl<|oNl<|cRt ?_
 cases h
 exact eR rfl rfl rfl rfl
abbrev Dh(p:(List aC)→(List UInt8)→Option (Int)):Prop:= ∀ {t0_0:List aC} {t1_0:List UInt8} {r:Int},p t0_0 t1_0=some r→Big Try.prog τ An (.fn 161 [.one (.c (.sl (t0_0.map aF))), .one (.c (.str t1_0))] [] (.one (.c (.int .i64 r))) none [] none)
def kI(n:Nat)(t0_0:List aC)(t1_0:List UInt8):Option (Int):=
  (dR n t0_0 t1_0).bind fun c7_1=>some c7_1.1
theorem AZ{n:Nat}:Dh (kI n):=by
 intro t0_0 t1_0 r h
 unfold kI at h
 refine bF Try.func161 rfl rfl<|cRs<|xBx rfl<|xAs rfl<|oRs<|xMv rfl<|wFn rfl rfl rfl<|xC1 h (pW ·) rfl (fun c7_1 h=> ?_)
 refine xAs rfl<|oNl<|cRt ?_
 cases h
 exact eR rfl rfl rfl rfl
abbrev Aj(p:(List aC)→(List UInt8)→Option ((List aC)×Int)):Prop:= ∀ {t0_0:List aC} {t1_0:List UInt8} {r:(List aC)×Int},p t0_0 t1_0=some r→Big Try.prog τ An (.fn 60 [.one (.c (.sl (t0_0.map aF))), .one (.c (.str t1_0))] [] (.tup [.c (.sl (r.1.map aF)), .c (.int .i64 r.2)]) none [] none)
def eH(n:Nat)(t0_0:List aC)(t1_0:List UInt8):Option ((List aC)×Int):=
  (hJ n t0_0).bind fun c9_1=>((gN n t1_0).bind fun c11_3=>bif !c11_3 then some true else(kJ n t0_0).bind fun c15_5=>some (!c15_5)).bind fun v17_2=>bif v17_2 then some (c9_1,(1:Int))else(kI n t0_0 t1_0).bind fun c21_7=>(bif decide (c21_7<(0:Int))then some true else(ix t0_0 c21_7).bind fun e27_10=>some (!e27_10.f4)).bind fun v31_8=>bif v31_8 then some (c9_1,(4:Int))else(ix c9_1 c21_7).bind fun e38_12=>(some (c9_1.set (Int.toNat c21_7) (aC.mk e38_12.f0 e38_12.f1 e38_12.f2 e38_12.f3 e38_12.f4 ([]:List aB) ([]:List aA)))).bind fun u6_13=>(ix u6_13 c21_7).bind fun e40_14=>(some (u6_13.set (Int.toNat c21_7) (aC.mk e40_14.f0 e40_14.f1 e40_14.f2 e40_14.f3 false e40_14.f5 e40_14.f6))).bind fun u6_15=>some (u6_15,(0:Int))
theorem pD{n:Nat}:Aj (eH n):=by
 intro t0_0 t1_0 r h
 unfold eH at h
 refine bF Try.func60 rfl rfl<|cRs<|wAe (Li aF []) rfl rfl rfl rfl<|xAs rfl<|oRs<|xMv rfl<|xC0 h (xM ·) rfl (fun c9_1 h=> ?_)
 refine xAs rfl<|oNl<|cSq<|cRs<|oJn h [(10,17)] [] (fun v17_2=>(.n,[(17,Bo v17_2)],[])) (fun _ h=> ?_) (fun v17_2 h=> ?_)
 refine xMv rfl<|xC0 h (oJ ·) rfl (fun c11_3 h=> ?_)
 refine gJ rfl<|xMv rfl<|oIf 13 h rfl (fun q4 h=> ?_) (fun q4 h=> ?_)
 exact wSk rfl<|wSk rfl<|wSk rfl<|xPk rfl<|oNl<|eJ h rfl
 refine xMv rfl<|xC0 h (Ab ·) rfl (fun c15_5 h=> ?_)
 exact gJ rfl<|xPk rfl<|oNl<|eJ h rfl
 refine cIf h rfl (fun q6 h=> ?_) (fun q6 h=> ?_)
 refine cRs<|xMv rfl<|xAs rfl<|xAs rfl<|oNl<|cRt ?_
 cases h
 exact eR rfl rfl rfl rfl
 refine cSk<|cRs<|xMv rfl<|xMv rfl<|xC0 h (AZ ·) rfl (fun c21_7 h=> ?_)
 refine xAs rfl<|oNl<|cSq<|cRs<|oJn h [(22,31)] [] (fun v31_8=>(.n,[(31,Bo v31_8)],[])) (fun _ h=> ?_) (fun v31_8 h=> ?_)
 refine xMv rfl<|xLt rfl<|xMv rfl<|oIf 24 h rfl (fun q9 h=> ?_) (fun q9 h=> ?_)
 exact wSk rfl<|wSk rfl<|wSk rfl<|wSk rfl<|wSk rfl<|wSk rfl<|xPk rfl<|oNl<|eJ h rfl
 refine xMv rfl<|xMv rfl<|xIx h aR rfl (fun e27_10 h=> ?_)
 exact xFd rfl<|xLd rfl<|gJ rfl<|xPk rfl<|oNl<|eJ h rfl
 refine cIf h rfl (fun q11 h=> ?_) (fun q11 h=> ?_)
 refine cRs<|xMv rfl<|xAs rfl<|xAs rfl<|oNl<|cRt ?_
 cases h
 exact eR rfl rfl rfl rfl
 refine cSk<|cRs<|wAl rfl rfl rfl rfl<|xMv rfl<|wAl rfl rfl rfl rfl<|xMv rfl<|wBd [.sl ([].map aH), .sl ([].map aE)] rfl rfl rfl rfl rfl rfl<|wIp (f:=aF) h rfl rfl rfl rfl rfl rfl (fun _=>rfl) rfl (fun e38_12 ke38_12 h=> ?_)
 refine xFd rfl<|tN (f:=aF) (v':=aC.mk e38_12.f0 e38_12.f1 e38_12.f2 e38_12.f3 e38_12.f4 ([]:List aB) ([]:List aA)) h ke38_12 rfl rfl rfl rfl rfl rfl rfl rfl rfl (fun u6_13 h=> ?_)
 refine wIp (f:=aF) h rfl rfl rfl rfl rfl rfl (fun _=>rfl) rfl (fun e40_14 ke40_14 h=> ?_)
 refine xFd rfl<|tN (f:=aF) (v':=aC.mk e40_14.f0 e40_14.f1 e40_14.f2 e40_14.f3 false e40_14.f5 e40_14.f6) h ke40_14 rfl rfl rfl rfl rfl rfl rfl rfl rfl (fun u6_15 h=> ?_)
 refine oRs<|xMv rfl<|xAs rfl<|xAs rfl<|oNl<|cRt ?_
 cases h
 exact eR rfl rfl rfl rfl
abbrev HH(p:Int→Int→(List UInt8)→Int→Int→Int→(List UInt8)→Int→Option (Bool)):Prop:= ∀ {t0_0 t0_1:Int} {t0_2:List UInt8} {t0_3 t1_0 t1_1:Int} {t1_2:List UInt8} {t1_3:Int} {r:Bool},p t0_0 t0_1 t0_2 t0_3 t1_0 t1_1 t1_2 t1_3=some r→Big Try.prog τ An (.fn 293 [.one (.ag [.int .i64 t0_0, .int .i64 t0_1, .str t0_2, .int .i64 t0_3]), .one (.ag [.int .i64 t1_0, .int .i64 t1_1, .str t1_2, .int .i64 t1_3])] [] (.one (.c (.bool r))) none [] none)
def nA(n:Nat)(t0_0:Int)(t0_1:Int)(t0_2:List UInt8)(t0_3:Int)(t1_0:Int)(t1_1:Int)(t1_2:List UInt8)(t1_3:Int):Option (Bool):=
  bif !decide (t0_0=t1_0)then some false else bif !decide (t0_1=t1_1)then some false else bif !decide (t0_2=t1_2)then some false else bif !decide (t0_3=t1_3)then some false else some true
theorem DK{n:Nat}:HH (nA n):=by
 intro t0_0 t0_1 t0_2 t0_3 t1_0 t1_1 t1_2 t1_3 r h
 unfold nA at h
 refine bF Try.func293 rfl rfl<|cRs<|xBx rfl<|xBx rfl<|xAs rfl<|oNl<|cSq<|cRs<|xFd rfl<|xLd rfl<|xFd rfl<|xLd rfl<|xNe rfl<|oNl<|cIf h rfl (fun q1 h=> ?_) (fun q1 h=> ?_)
 refine cRs<|xAs rfl<|oNl<|cRt ?_
 cases h
 exact eR rfl rfl rfl rfl
 refine cSk<|cSq<|cRs<|xFd rfl<|xLd rfl<|xFd rfl<|xLd rfl<|xNe rfl<|oNl<|cIf h rfl (fun q2 h=> ?_) (fun q2 h=> ?_)
 refine cRs<|xAs rfl<|oNl<|cRt ?_
 cases h
 exact eR rfl rfl rfl rfl
 refine cSk<|cSq<|cRs<|xFd rfl<|xLd rfl<|xFd rfl<|xLd rfl<|xNs rfl<|oNl<|cIf h rfl (fun q3 h=> ?_) (fun q3 h=> ?_)
 refine cRs<|xAs rfl<|oNl<|cRt ?_
 cases h
 exact eR rfl rfl rfl rfl
 refine cSk<|cSq<|cRs<|xFd rfl<|xLd rfl<|xFd rfl<|xLd rfl<|xNe rfl<|oNl<|cIf h rfl (fun q4 h=> ?_) (fun q4 h=> ?_)
 refine cRs<|xAs rfl<|oNl<|cRt ?_
 cases h
 exact eR rfl rfl rfl rfl
 refine cSk<|cRs<|xAs rfl<|oNl<|cRt ?_
 cases h
 exact eR rfl rfl rfl rfl
abbrev FY(p:(List aD)→(List aD)→Option (Bool)):Prop:= ∀ {t0_0 t1_0:List aD} {r:Bool},p t0_0 t1_0=some r→Big Try.prog τ An (.fn 263 [.one (.c (.sl (t0_0.map aK))), .one (.c (.sl (t1_0.map aK)))] [] (.one (.c (.bool r))) none [] none)
def kW(n:Nat)(t0_0:List aD)(t1_0:List aD):(Int)→Option ((Int)⊕((Bool)⊕(Int×Bool)))
  | v5_2=>bif decide (v5_2<(t0_0.length:Int))then(ix t0_0 v5_2).bind fun e19_7=>(ix t1_0 v5_2).bind fun e23_8=>(nA n e19_7.f0 e19_7.f1 e19_7.f2 e19_7.f3 e23_8.f0 e23_8.f1 e23_8.f2 e23_8.f3).bind fun c25_9=>bif !c25_9 then some (.inr (.inl false))else some (.inl (IntKind.wrap .i64 (v5_2+(1:Int))))else some (.inr (.inr (v5_2,false)))
def lO(n:Nat)(t0_0:List aD)(t1_0:List aD):Option (Bool):=
  bif !decide ((t0_0.length:Int)=(t1_0.length:Int))then some false else(loopN (kW n t0_0 t1_0) n (0:Int)).bind fun q=>(match q with | .inl v4_3=>some v4_3 | .inr (v5_4,v14_5)=>some true)
theorem CJ{n:Nat}:FY (lO n):=by
 intro t0_0 t1_0 r h
 unfold lO at h
 refine bF Try.func263 rfl rfl<|cRs<|xAs rfl<|oNl<|cSq<|cRs<|xMv rfl<|xLn rfl<|xMv rfl<|xLn rfl<|xNe rfl<|oNl<|cIf h rfl (fun q1 h=> ?_) (fun q1 h=> ?_)
 refine cRs<|xAs rfl<|oNl<|cRt ?_
 cases h
 exact eR rfl rfl rfl rfl
 refine cSk<|cSq<|cRs<|xAs rfl<|oNl<|cLp h [(4,5),(11,26)] [] (fun v5_2=>([(5,I64 v5_2)],[])) (fun q=>match q with | .inl v4_3=>(.r,[(4,Bo v4_3)],[]) | .inr (v5_4,v14_5)=>(.e 0,[(5,I64 v5_4),(14,Bo v14_5)],[])) rfl (fun v5_2 _ h=> ?_) (fun q h=> ?_)
 unfold kW at h
 refine cSq<|cRs<|xMv rfl<|xMv rfl<|xLn rfl<|xLt rfl<|oNl<|cIf h rfl (fun q6 h=> ?_) (fun q6 h=> ?_)
 refine cSk<|cSq<|cBk<|cRs<|xMv rfl<|xMv rfl<|xIx h bP rfl (fun e19_7 h=> ?_)
 refine xLd rfl<|xMv rfl<|xMv rfl<|xIx h bP rfl (fun e23_8 h=> ?_)
 refine xLd rfl<|xC0 h (DK ·) rfl (fun c25_9 h=> ?_)
 refine gJ rfl<|oNl<|cIf h rfl (fun q10 h=> ?_) (fun q10 h=> ?_)
 exact cRs<|xAs rfl<|oNl<|cRt<|eXr h rfl
 exact cSk<|cRg<|xMv rfl<|cM rfl<|xAs rfl<|oNl<|eL h rfl
 exact cEx<|eX h rfl
 rcases q with v4_3 | ⟨v5_4,v14_5⟩
 cases h
 exact eR rfl rfl rfl rfl
 refine cRs<|xAs rfl<|oNl<|cRt ?_
 cases h
 exact eR rfl rfl rfl rfl
abbrev IZ(p:(List UInt8)→Int→Int→(List aD)→(List UInt8)→Int→Int→(List aD)→Option (Bool)):Prop:= ∀ {t0_0:List UInt8} {t0_1 t0_2:Int} {t0_3:List aD} {t1_0:List UInt8} {t1_1 t1_2:Int} {t1_3:List aD} {r:Bool},p t0_0 t0_1 t0_2 t0_3 t1_0 t1_1 t1_2 t1_3=some r→Big Try.prog τ An (.fn 197 [.one (.ag [.str t0_0, .int .i64 t0_1, .int .i64 t0_2, .sl (t0_3.map aK)]), .one (.ag [.str t1_0, .int .i64 t1_1, .int .i64 t1_2, .sl (t1_3.map aK)])] [] (.one (.c (.bool r))) none [] none)
def oE(n:Nat)(t0_0:List UInt8)(t0_1:Int)(t0_2:Int)(t0_3:List aD)(t1_0:List UInt8)(t1_1:Int)(t1_2:Int)(t1_3:List aD):Option (Bool):=
  bif !decide (t0_0=t1_0)then some false else bif !decide (t0_1=t1_1)then some false else bif !decide (t0_2=t1_2)then some false else(lO n t0_3 t1_3).bind fun c24_4=>bif !c24_4 then some false else some true
theorem FJ{n:Nat}:IZ (oE n):=by
 intro t0_0 t0_1 t0_2 t0_3 t1_0 t1_1 t1_2 t1_3 r h
 unfold oE at h
 refine bF Try.func197 rfl rfl<|cRs<|xBx rfl<|xBx rfl<|xAs rfl<|oNl<|cSq<|cRs<|xFd rfl<|xLd rfl<|xFd rfl<|xLd rfl<|xNs rfl<|oNl<|cIf h rfl (fun q1 h=> ?_) (fun q1 h=> ?_)
 refine cRs<|xAs rfl<|oNl<|cRt ?_
 cases h
 exact eR rfl rfl rfl rfl
 refine cSk<|cSq<|cRs<|xFd rfl<|xLd rfl<|xFd rfl<|xLd rfl<|xNe rfl<|oNl<|cIf h rfl (fun q2 h=> ?_) (fun q2 h=> ?_)
 refine cRs<|xAs rfl<|oNl<|cRt ?_
 cases h
 exact eR rfl rfl rfl rfl
 refine cSk<|cSq<|cRs<|xFd rfl<|xLd rfl<|xFd rfl<|xLd rfl<|xNe rfl<|oNl<|cIf h rfl (fun q3 h=> ?_) (fun q3 h=> ?_)
 refine cRs<|xAs rfl<|oNl<|cRt ?_
 cases h
 exact eR rfl rfl rfl rfl
 refine cSk<|cSq<|cRs<|xFd rfl<|xLd rfl<|xFd rfl<|xLd rfl<|xC0 h (CJ ·) rfl (fun c24_4 h=> ?_)
 refine gJ rfl<|oNl<|cIf h rfl (fun q5 h=> ?_) (fun q5 h=> ?_)
 refine cRs<|xAs rfl<|oNl<|cRt ?_
 cases h
 exact eR rfl rfl rfl rfl
 refine cSk<|cRs<|xAs rfl<|oNl<|cRt ?_
 cases h
 exact eR rfl rfl rfl rfl
abbrev HI(p:(List aB)→(List aB)→Option (Bool)):Prop:= ∀ {t0_0 t1_0:List aB} {r:Bool},p t0_0 t1_0=some r→Big Try.prog τ An (.fn 113 [.one (.c (.sl (t0_0.map aH))), .one (.c (.sl (t1_0.map aH)))] [] (.one (.c (.bool r))) none [] none)
def lU(n:Nat)(t0_0:List aB)(t1_0:List aB):(Int)→Option ((Int)⊕((Bool)⊕(Int×Bool)))
  | v5_2=>bif decide (v5_2<(t0_0.length:Int))then(ix t0_0 v5_2).bind fun e19_7=>(ix t1_0 v5_2).bind fun e23_8=>(oE n e19_7.f0 e19_7.f1 e19_7.f2 e19_7.f3 e23_8.f0 e23_8.f1 e23_8.f2 e23_8.f3).bind fun c25_9=>bif !c25_9 then some (.inr (.inl false))else some (.inl (IntKind.wrap .i64 (v5_2+(1:Int))))else some (.inr (.inr (v5_2,false)))
def nB(n:Nat)(t0_0:List aB)(t1_0:List aB):Option (Bool):=
  bif !decide ((t0_0.length:Int)=(t1_0.length:Int))then some false else(loopN (lU n t0_0 t1_0) n (0:Int)).bind fun q=>(match q with | .inl v4_3=>some v4_3 | .inr (v5_4,v14_5)=>some true)
theorem DL{n:Nat}:HI (nB n):=by
 intro t0_0 t1_0 r h
 unfold nB at h
 refine bF Try.func113 rfl rfl<|cRs<|xAs rfl<|oNl<|cSq<|cRs<|xMv rfl<|xLn rfl<|xMv rfl<|xLn rfl<|xNe rfl<|oNl<|cIf h rfl (fun q1 h=> ?_) (fun q1 h=> ?_)
 refine cRs<|xAs rfl<|oNl<|cRt ?_
 cases h
 exact eR rfl rfl rfl rfl
 refine cSk<|cSq<|cRs<|xAs rfl<|oNl<|cLp h [(4,5),(11,26)] [] (fun v5_2=>([(5,I64 v5_2)],[])) (fun q=>match q with | .inl v4_3=>(.r,[(4,Bo v4_3)],[]) | .inr (v5_4,v14_5)=>(.e 0,[(5,I64 v5_4),(14,Bo v14_5)],[])) rfl (fun v5_2 _ h=> ?_) (fun q h=> ?_)
 unfold lU at h
 refine cSq<|cRs<|xMv rfl<|xMv rfl<|xLn rfl<|xLt rfl<|oNl<|cIf h rfl (fun q6 h=> ?_) (fun q6 h=> ?_)
 refine cSk<|cSq<|cBk<|cRs<|xMv rfl<|xMv rfl<|xIx h bL rfl (fun e19_7 h=> ?_)
 refine xLd rfl<|xMv rfl<|xMv rfl<|xIx h bL rfl (fun e23_8 h=> ?_)
 refine xLd rfl<|xC0 h (FJ ·) rfl (fun c25_9 h=> ?_)
 refine gJ rfl<|oNl<|cIf h rfl (fun q10 h=> ?_) (fun q10 h=> ?_)
 exact cRs<|xAs rfl<|oNl<|cRt<|eXr h rfl
 exact cSk<|cRg<|xMv rfl<|cM rfl<|xAs rfl<|oNl<|eL h rfl
 exact cEx<|eX h rfl
 rcases q with v4_3 | ⟨v5_4,v14_5⟩
 cases h
 exact eR rfl rfl rfl rfl
 refine cRs<|xAs rfl<|oNl<|cRt ?_
 cases h
 exact eR rfl rfl rfl rfl
abbrev gI:Type:=Int→Int→(List UInt8)→(List aA)→Int→Int→(List UInt8)→(List aA)→Option (Bool)
abbrev nF(p:gI):Prop:= ∀ {t0_0 t0_1:Int} {t0_2:List UInt8} {t0_3:List aA} {t1_0 t1_1:Int} {t1_2:List UInt8} {t1_3:List aA} {r:Bool},p t0_0 t0_1 t0_2 t0_3 t1_0 t1_1 t1_2 t1_3=some r→Big Try.prog τ An (.fn 198 [.one (.ag [.int .i64 t0_0, .int .i64 t0_1, .str t0_2, .sl (t0_3.map aE)]), .one (.ag [.int .i64 t1_0, .int .i64 t1_1, .str t1_2, .sl (t1_3.map aE)])] [] (.one (.c (.bool r))) none [] none)
abbrev gQ:Type:=(List aA)→(List aA)→Option (Bool)
abbrev lR(p:gQ):Prop:= ∀ {t0_0 t1_0:List aA} {r:Bool},p t0_0 t1_0=some r→Big Try.prog τ An (.fn 114 [.one (.c (.sl (t0_0.map aE))), .one (.c (.sl (t1_0.map aE)))] [] (.one (.c (.bool r))) none [] none)
def mS(n:Nat)(r_laws_eqPatS:gQ)(r_laws_eqPat:gI)(t0_0:Int)(t0_1:Int)(t0_2:List UInt8)(t0_3:List aA)(t1_0:Int)(t1_1:Int)(t1_2:List UInt8)(t1_3:List aA):Option (Bool):=
  bif !decide (t0_0=t1_0)then some false else bif !decide (t0_1=t1_1)then some false else bif !decide (t0_2=t1_2)then some false else(r_laws_eqPatS t0_3 t1_3).bind fun c24_4=>bif !c24_4 then some false else some true
theorem Bv{n:Nat}{r_laws_eqPatS:gQ}(ih_laws_eqPatS:lR r_laws_eqPatS){r_laws_eqPat:gI}(ih_laws_eqPat:nF r_laws_eqPat):nF (mS n r_laws_eqPatS r_laws_eqPat):=by
 intro t0_0 t0_1 t0_2 t0_3 t1_0 t1_1 t1_2 t1_3 r h
 unfold mS at h
 refine bF Try.func198 rfl rfl<|cRs<|xBx rfl<|xBx rfl<|xAs rfl<|oNl<|cSq<|cRs<|xFd rfl<|xLd rfl<|xFd rfl<|xLd rfl<|xNe rfl<|oNl<|cIf h rfl (fun q1 h=> ?_) (fun q1 h=> ?_)
 refine cRs<|xAs rfl<|oNl<|cRt ?_
 cases h
 exact eR rfl rfl rfl rfl
 refine cSk<|cSq<|cRs<|xFd rfl<|xLd rfl<|xFd rfl<|xLd rfl<|xNe rfl<|oNl<|cIf h rfl (fun q2 h=> ?_) (fun q2 h=> ?_)
 refine cRs<|xAs rfl<|oNl<|cRt ?_
 cases h
 exact eR rfl rfl rfl rfl
 refine cSk<|cSq<|cRs<|xFd rfl<|xLd rfl<|xFd rfl<|xLd rfl<|xNs rfl<|oNl<|cIf h rfl (fun q3 h=> ?_) (fun q3 h=> ?_)
 refine cRs<|xAs rfl<|oNl<|cRt ?_
 cases h
 exact eR rfl rfl rfl rfl
 refine cSk<|cSq<|cRs<|xFd rfl<|xLd rfl<|xFd rfl<|xLd rfl<|xC0 h (ih_laws_eqPatS ·) rfl (fun c24_4 h=> ?_)
 refine gJ rfl<|oNl<|cIf h rfl (fun q5 h=> ?_) (fun q5 h=> ?_)
 refine cRs<|xAs rfl<|oNl<|cRt ?_
 cases h
 exact eR rfl rfl rfl rfl
 refine cSk<|cRs<|xAs rfl<|oNl<|cRt ?_
 cases h
 exact eR rfl rfl rfl rfl
def kV(n:Nat)(r_laws_eqPat:gI)(t0_0:List aA)(t1_0:List aA):(Int)→Option ((Int)⊕((Bool)⊕(Int×Bool)))
  | v5_2=>bif decide (v5_2<(t0_0.length:Int))then(ix t0_0 v5_2).bind fun e19_7=>(ix t1_0 v5_2).bind fun e23_8=>(r_laws_eqPat e19_7.f0 e19_7.f1 e19_7.f2 e19_7.f3 e23_8.f0 e23_8.f1 e23_8.f2 e23_8.f3).bind fun c25_9=>bif !c25_9 then some (.inr (.inl false))else some (.inl (IntKind.wrap .i64 (v5_2+(1:Int))))else some (.inr (.inr (v5_2,false)))
def lK(n:Nat)(r_laws_eqPatS:gQ)(r_laws_eqPat:gI)(t0_0:List aA)(t1_0:List aA):Option (Bool):=
  bif !decide ((t0_0.length:Int)=(t1_0.length:Int))then some false else(loopN (kV n r_laws_eqPat t0_0 t1_0) n (0:Int)).bind fun q=>(match q with | .inl v4_3=>some v4_3 | .inr (v5_4,v14_5)=>some true)
theorem AM{n:Nat}{r_laws_eqPatS:gQ}(ih_laws_eqPatS:lR r_laws_eqPatS){r_laws_eqPat:gI}(ih_laws_eqPat:nF r_laws_eqPat):lR (lK n r_laws_eqPatS r_laws_eqPat):=by
 intro t0_0 t1_0 r h
 unfold lK at h
 refine bF Try.func114 rfl rfl<|cRs<|xAs rfl<|oNl<|cSq<|cRs<|xMv rfl<|xLn rfl<|xMv rfl<|xLn rfl<|xNe rfl<|oNl<|cIf h rfl (fun q1 h=> ?_) (fun q1 h=> ?_)
 refine cRs<|xAs rfl<|oNl<|cRt ?_
 cases h
 exact eR rfl rfl rfl rfl
 refine cSk<|cSq<|cRs<|xAs rfl<|oNl<|cLp h [(4,5),(11,26)] [] (fun v5_2=>([(5,I64 v5_2)],[])) (fun q=>match q with | .inl v4_3=>(.r,[(4,Bo v4_3)],[]) | .inr (v5_4,v14_5)=>(.e 0,[(5,I64 v5_4),(14,Bo v14_5)],[])) rfl (fun v5_2 _ h=> ?_) (fun q h=> ?_)
 unfold kV at h
 refine cSq<|cRs<|xMv rfl<|xMv rfl<|xLn rfl<|xLt rfl<|oNl<|cIf h rfl (fun q6 h=> ?_) (fun q6 h=> ?_)
 refine cSk<|cSq<|cBk<|cRs<|xMv rfl<|xMv rfl<|xIx h aL rfl (fun e19_7 h=> ?_)
 refine xLd rfl<|xMv rfl<|xMv rfl<|xIx h aL rfl (fun e23_8 h=> ?_)
 refine xLd rfl<|xC0 h (ih_laws_eqPat ·) rfl (fun c25_9 h=> ?_)
 refine gJ rfl<|oNl<|cIf h rfl (fun q10 h=> ?_) (fun q10 h=> ?_)
 exact cRs<|xAs rfl<|oNl<|cRt<|eXr h rfl
 exact cSk<|cRg<|xMv rfl<|cM rfl<|xAs rfl<|oNl<|eL h rfl
 exact cEx<|eX h rfl
 rcases q with v4_3 | ⟨v5_4,v14_5⟩
 cases h
 exact eR rfl rfl rfl rfl
 refine cRs<|xAs rfl<|oNl<|cRt ?_
 cases h
 exact eR rfl rfl rfl rfl
def jD:Nat→(gQ)×(gI)
  | 0=>((fun _ _=>none),(fun _ _ _ _ _ _ _ _=>none))
  | n+1=>(lK n ((jD n).1) ((jD n).2),mS n ((jD n).1) ((jD n).2))
def eS(n:Nat):gQ:=(jD n).1
def iU(n:Nat):gI:=(jD n).2
theorem rM(n:Nat):lR (eS n)∧nF (iU n):=by
  induction n with
  | zero=>exact⟨(fun h=>nomatch h),(fun h=>nomatch h)⟩
  | succ n ih=>exact⟨AM (n:=n) (ih.1) (ih.2),Bv (n:=n) (ih.1) (ih.2)⟩
theorem CI{n:Nat}:lR (eS n):=(rM n).1
theorem Ml{n:Nat}:nF (iU n):=(rM n).2
theorem xD(n:Nat):eS (n+1)=lK n (eS n) (iU n):=rfl
theorem yS(n:Nat):iU (n+1)=mS n (eS n) (iU n):=rfl
abbrev FZ(p:(List aB)→(List aA)→(List aB)→(List aA)→Option (Bool)):Prop:= ∀ {t0_0:List aB} {t0_1:List aA} {t1_0:List aB} {t1_1:List aA} {r:Bool},p t0_0 t0_1 t1_0 t1_1=some r→Big Try.prog τ An (.fn 36 [.one (.ag [.sl (t0_0.map aH), .sl (t0_1.map aE)]), .one (.ag [.sl (t1_0.map aH), .sl (t1_1.map aE)])] [] (.one (.c (.bool r))) none [] none)
def jI(n:Nat)(t0_0:List aB)(t0_1:List aA)(t1_0:List aB)(t1_1:List aA):Option (Bool):=
  (nB n t0_0 t1_0).bind fun c9_1=>bif !c9_1 then some false else(eS n t0_1 t1_1).bind fun c15_3=>bif !c15_3 then some false else some true
theorem sX{n:Nat}:FZ (jI n):=by
 intro t0_0 t0_1 t1_0 t1_1 r h
 unfold jI at h
 refine bF Try.func36 rfl rfl<|cRs<|xBx rfl<|xBx rfl<|xAs rfl<|oNl<|cSq<|cRs<|xFd rfl<|xLd rfl<|xFd rfl<|xLd rfl<|xC0 h (DL ·) rfl (fun c9_1 h=> ?_)
 refine gJ rfl<|oNl<|cIf h rfl (fun q2 h=> ?_) (fun q2 h=> ?_)
 refine cRs<|xAs rfl<|oNl<|cRt ?_
 cases h
 exact eR rfl rfl rfl rfl
 refine cSk<|cSq<|cRs<|xFd rfl<|xLd rfl<|xFd rfl<|xLd rfl<|xC0 h (CI ·) rfl (fun c15_3 h=> ?_)
 refine gJ rfl<|oNl<|cIf h rfl (fun q4 h=> ?_) (fun q4 h=> ?_)
 refine cRs<|xAs rfl<|oNl<|cRt ?_
 cases h
 exact eR rfl rfl rfl rfl
 refine cSk<|cRs<|xAs rfl<|oNl<|cRt ?_
 cases h
 exact eR rfl rfl rfl rfl
abbrev DZ(p:(List UInt8)→Int→(List aB)→(List aA)→Bool→(List aB)→(List aA)→(List UInt8)→Int→(List aB)→(List aA)→Bool→(List aB)→(List aA)→Option (Bool)):Prop:= ∀ {t0_0:List UInt8} {t0_1:Int} {t0_2:List aB} {t0_3:List aA} {t0_4:Bool} {t0_5:List aB} {t0_6:List aA} {t1_0:List UInt8} {t1_1:Int} {t1_2:List aB} {t1_3:List aA} {t1_4:Bool} {t1_5:List aB} {t1_6:List aA} {r:Bool},p t0_0 t0_1 t0_2 t0_3 t0_4 t0_5 t0_6 t1_0 t1_1 t1_2 t1_3 t1_4 t1_5 t1_6=some r→Big Try.prog τ An (.fn 162 [.one (.ag [.str t0_0, .int .i64 t0_1, .sl (t0_2.map aH), .sl (t0_3.map aE), .bool t0_4, .sl (t0_5.map aH), .sl (t0_6.map aE)]), .one (.ag [.str t1_0, .int .i64 t1_1, .sl (t1_2.map aH), .sl (t1_3.map aE), .bool t1_4, .sl (t1_5.map aH), .sl (t1_6.map aE)])] [] (.one (.c (.bool r))) none [] none)
def kF(n:Nat)(t0_0:List UInt8)(t0_1:Int)(t0_2:List aB)(t0_3:List aA)(t0_4:Bool)(t0_5:List aB)(t0_6:List aA)(t1_0:List UInt8)(t1_1:Int)(t1_2:List aB)(t1_3:List aA)(t1_4:Bool)(t1_5:List aB)(t1_6:List aA):Option (Bool):=
  bif !decide (t0_0=t1_0)then some false else bif !decide (t0_1=t1_1)then some false else(jI n t0_2 t0_3 t1_2 t1_3).bind fun c19_3=>bif !c19_3 then some false else bif !(t0_4 == t1_4)then some false else(jI n t0_5 t0_6 t1_5 t1_6).bind fun c30_6=>bif !c30_6 then some false else some true
theorem AW{n:Nat}:DZ (kF n):=by
 intro t0_0 t0_1 t0_2 t0_3 t0_4 t0_5 t0_6 t1_0 t1_1 t1_2 t1_3 t1_4 t1_5 t1_6 r h
 unfold kF at h
 refine bF Try.func162 rfl rfl<|cRs<|xBx rfl<|xBx rfl<|xAs rfl<|oNl<|cSq<|cRs<|xFd rfl<|xLd rfl<|xFd rfl<|xLd rfl<|xNs rfl<|oNl<|cIf h rfl (fun q1 h=> ?_) (fun q1 h=> ?_)
 refine cRs<|xAs rfl<|oNl<|cRt ?_
 cases h
 exact eR rfl rfl rfl rfl
 refine cSk<|cSq<|cRs<|xFd rfl<|xLd rfl<|xFd rfl<|xLd rfl<|xNe rfl<|oNl<|cIf h rfl (fun q2 h=> ?_) (fun q2 h=> ?_)
 refine cRs<|xAs rfl<|oNl<|cRt ?_
 cases h
 exact eR rfl rfl rfl rfl
 refine cSk<|cSq<|cRs<|xFd rfl<|xLd rfl<|xFd rfl<|xLd rfl<|xC0 h (sX ·) rfl (fun c19_3 h=> ?_)
 refine gJ rfl<|oNl<|cIf h rfl (fun q4 h=> ?_) (fun q4 h=> ?_)
 refine cRs<|xAs rfl<|oNl<|cRt ?_
 cases h
 exact eR rfl rfl rfl rfl
 refine cSk<|cSq<|cRs<|xFd rfl<|xLd rfl<|xFd rfl<|xLd rfl<|wBi (.bool (!(t0_4 == t1_4))) rfl rfl rfl rfl rfl<|oNl<|cIf h rfl (fun q5 h=> ?_) (fun q5 h=> ?_)
 refine cRs<|xAs rfl<|oNl<|cRt ?_
 cases h
 exact eR rfl rfl rfl rfl
 refine cSk<|cSq<|cRs<|xFd rfl<|xLd rfl<|xFd rfl<|xLd rfl<|xC0 h (sX ·) rfl (fun c30_6 h=> ?_)
 refine gJ rfl<|oNl<|cIf h rfl (fun q7 h=> ?_) (fun q7 h=> ?_)
 refine cRs<|xAs rfl<|oNl<|cRt ?_
 cases h
 exact eR rfl rfl rfl rfl
 refine cSk<|cRs<|xAs rfl<|oNl<|cRt ?_
 cases h
 exact eR rfl rfl rfl rfl
abbrev CX(p:(List aC)→(List aC)→Option (Bool)):Prop:= ∀ {t0_0 t1_0:List aC} {r:Bool},p t0_0 t1_0=some r→Big Try.prog τ An (.fn 61 [.one (.c (.sl (t0_0.map aF))), .one (.c (.sl (t1_0.map aF)))] [] (.one (.c (.bool r))) none [] none)
def iL(n:Nat)(t0_0:List aC)(t1_0:List aC):(Int)→Option ((Int)⊕((Bool)⊕(Int×Bool)))
  | v5_2=>bif decide (v5_2<(t0_0.length:Int))then(ix t0_0 v5_2).bind fun e19_7=>(ix t1_0 v5_2).bind fun e23_8=>(kF n e19_7.f0 e19_7.f1 e19_7.f2 e19_7.f3 e19_7.f4 e19_7.f5 e19_7.f6 e23_8.f0 e23_8.f1 e23_8.f2 e23_8.f3 e23_8.f4 e23_8.f5 e23_8.f6).bind fun c25_9=>bif !c25_9 then some (.inr (.inl false))else some (.inl (IntKind.wrap .i64 (v5_2+(1:Int))))else some (.inr (.inr (v5_2,false)))
def dF(n:Nat)(t0_0:List aC)(t1_0:List aC):Option (Bool):=
  bif !decide ((t0_0.length:Int)=(t1_0.length:Int))then some false else(loopN (iL n t0_0 t1_0) n (0:Int)).bind fun q=>(match q with | .inl v4_3=>some v4_3 | .inr (v5_4,v14_5)=>some true)
theorem jR{n:Nat}:CX (dF n):=by
 intro t0_0 t1_0 r h
 unfold dF at h
 refine bF Try.func61 rfl rfl<|cRs<|xAs rfl<|oNl<|cSq<|cRs<|xMv rfl<|xLn rfl<|xMv rfl<|xLn rfl<|xNe rfl<|oNl<|cIf h rfl (fun q1 h=> ?_) (fun q1 h=> ?_)
 refine cRs<|xAs rfl<|oNl<|cRt ?_
 cases h
 exact eR rfl rfl rfl rfl
 refine cSk<|cSq<|cRs<|xAs rfl<|oNl<|cLp h [(4,5),(11,26)] [] (fun v5_2=>([(5,I64 v5_2)],[])) (fun q=>match q with | .inl v4_3=>(.r,[(4,Bo v4_3)],[]) | .inr (v5_4,v14_5)=>(.e 0,[(5,I64 v5_4),(14,Bo v14_5)],[])) rfl (fun v5_2 _ h=> ?_) (fun q h=> ?_)
 unfold iL at h
 refine cSq<|cRs<|xMv rfl<|xMv rfl<|xLn rfl<|xLt rfl<|oNl<|cIf h rfl (fun q6 h=> ?_) (fun q6 h=> ?_)
 refine cSk<|cSq<|cBk<|cRs<|xMv rfl<|xMv rfl<|xIx h aR rfl (fun e19_7 h=> ?_)
 refine xLd rfl<|xMv rfl<|xMv rfl<|xIx h aR rfl (fun e23_8 h=> ?_)
 refine xLd rfl<|xC0 h (AW ·) rfl (fun c25_9 h=> ?_)
 refine gJ rfl<|oNl<|cIf h rfl (fun q10 h=> ?_) (fun q10 h=> ?_)
 exact cRs<|xAs rfl<|oNl<|cRt<|eXr h rfl
 exact cSk<|cRg<|xMv rfl<|cM rfl<|xAs rfl<|oNl<|eL h rfl
 exact cEx<|eX h rfl
 rcases q with v4_3 | ⟨v5_4,v14_5⟩
 cases h
 exact eR rfl rfl rfl rfl
 refine cRs<|xAs rfl<|oNl<|cRt ?_
 cases h
 exact eR rfl rfl rfl rfl
abbrev CU(p:Int→Option ((List UInt8))):Prop:= ∀ {t0_0:Int} {r:(List UInt8)},p t0_0=some r→Big Try.prog τ An (.fn 88 [.one (.c (.int .i64 t0_0))] [] (.one (.c (.str r))) none [] none)
def iK(n:Nat):(Int×(List UInt8))→Option ((Int×(List UInt8))⊕((Int×(List UInt8)×Bool)))
  | (v0_2,v3_3)=>bif decide ((0:Int)<v0_2)then(Gj ([(IntKind.wrap .u8 (IntKind.wrap .i64 ((48:Int)+(Int.tmod v0_2 (10:Int)))))]:List Int)).bind fun v13_8=>(ck (decide (v13_8.length+v3_3.length≤9223372036854775807))).bind fun _=>some (.inl ((IntKind.wrap .i64 (Int.tdiv v0_2 (10:Int))),(v13_8++v3_3)))else some (.inr (v0_2,v3_3,false))
def bO(n:Nat)(t0_0:Int):Option ((List UInt8)):=
  bif decide (t0_0≤(0:Int))then some ([109,48]:List UInt8)else(loopN (iK n) n (t0_0,([]:List UInt8))).bind fun(v0_4,v3_5,v7_6)=>(ck (decide (([109]:List UInt8).length+v3_5.length≤9223372036854775807))).bind fun _=>some (([109]:List UInt8)++v3_5)
theorem cI{n:Nat}:CU (bO n):=by
 intro t0_0 r h
 unfold bO at h
 refine bF Try.func88 rfl rfl<|cRs<|xAs rfl<|oNl<|cSq<|cRs<|xMv rfl<|xLe rfl<|oNl<|cIf h rfl (fun q1 h=> ?_) (fun q1 h=> ?_)
 refine cRs<|xAs rfl<|oNl<|cRt ?_
 cases h
 exact eR rfl rfl rfl rfl
 refine cSk<|cRs<|xAs rfl<|oNl<|cSq<|cLp h [(0,0),(3,3),(6,17)] [] (fun(v0_2,v3_3)=>([(0,I64 v0_2),(3,St' v3_3)],[])) (fun(v0_4,v3_5,v7_6)=>(.e 0,[(0,I64 v0_4),(3,St' v3_5),(7,Bo v7_6)],[])) rfl (fun st _ h=> ?_) (fun q h=> ?_)
 obtain⟨v0_2,v3_3⟩:=st
 unfold iK at h
 refine cSq<|cRs<|xMv rfl<|xGt rfl<|oNl<|cIf h rfl (fun q7 h=> ?_) (fun q7 h=> ?_)
 refine cSk<|cBk<|cRs<|xMv rfl<|wBi (.int .i64 (Int.tmod v0_2 (10:Int))) rfl rfl rfl rfl rfl<|cM rfl<|wCv rfl rfl rfl rfl rfl<|Dk (L:=([(IntKind.wrap .u8 (IntKind.wrap .i64 ((48:Int)+(Int.tmod v0_2 (10:Int)))))]:List Int)) (f:=Sa) rfl rfl rfl rfl rfl rfl rfl<|wTs h rfl rfl ⟨rfl,rfl⟩ rfl NP rfl (fun v13_8 h=> ?_)
 refine xMv rfl<|oCk h (fun k15_8 h=> ?_)
 exact wCat k15_8 rfl rfl rfl rfl<|xAs rfl<|oNl<|cRg<|xMv rfl<|wBi (.int .i64 (IntKind.wrap .i64 (Int.tdiv v0_2 (10:Int)))) rfl rfl rfl rfl rfl<|xAs rfl<|oNl<|eL h rfl
 exact cEx<|eX h rfl
 obtain⟨v0_4,v3_5,v7_6⟩:=q
 refine cRs<|xMv rfl<|oCk h (fun k19_9 h=> ?_)
 refine wCat k19_9 rfl rfl rfl rfl<|xAs rfl<|oNl<|cRt ?_
 cases h
 exact eR rfl rfl rfl rfl
abbrev CV(p:(List aD)→Int→Option (Int×(List aD))):Prop:= ∀ {t0_0:List aD} {t1_0:Int} {r:Int×(List aD)},p t0_0 t1_0=some r→Big Try.prog τ An (.fn 199 [.one (.c (.sl (t0_0.map aK))), .one (.c (.int .i64 t1_0))] [] (.one (.c (.int .i64 r.1))) (some (.sl (r.2.map aK))) [] none)
def eZ(n:Nat):((List aD)×Int×Int)→Option (((List aD)×Int×Int)⊕(((List aD)×Int×Int×Bool)))
  | (v0_1,v1_2,v5_3)=>bif decide (v5_3<(v0_1.length:Int))then(ix v0_1 v5_3).bind fun e15_9=>(some (v0_1.set (Int.toNat v5_3) (aD.mk v1_2 e15_9.f1 e15_9.f2 e15_9.f3))).bind fun u0_10=>(ix u0_10 v5_3).bind fun e22_11=>(some (u0_10.set (Int.toNat v5_3) (aD.mk e22_11.f0 (IntKind.wrap .i64 (v1_2+(1:Int))) e22_11.f2 e22_11.f3))).bind fun u0_12=>(bO n (IntKind.wrap .i64 ((IntKind.wrap .i64 (v1_2+(1:Int)))+(1:Int)))).bind fun c29_13=>(ix u0_12 v5_3).bind fun e30_14=>(some (u0_12.set (Int.toNat v5_3) (aD.mk e30_14.f0 e30_14.f1 c29_13 e30_14.f3))).bind fun u0_15=>(ix u0_15 v5_3).bind fun e37_16=>(some (u0_15.set (Int.toNat v5_3) (aD.mk e37_16.f0 e37_16.f1 e37_16.f2 (IntKind.wrap .i64 ((IntKind.wrap .i64 ((IntKind.wrap .i64 (v1_2+(1:Int)))+(1:Int)))+(1:Int)))))).bind fun u0_17=>some (.inl (u0_17,(IntKind.wrap .i64 ((IntKind.wrap .i64 ((IntKind.wrap .i64 ((IntKind.wrap .i64 (v1_2+(1:Int)))+(1:Int)))+(1:Int)))+(1:Int))),(IntKind.wrap .i64 (v5_3+(1:Int)))))else some (.inr (v0_1,v1_2,v5_3,false))
def iX(n:Nat)(t0_0:List aD)(t1_0:Int):Option (Int×(List aD)):=
  (loopN (eZ n) n (t0_0,t1_0,(0:Int))).bind fun(v0_4,v1_5,v5_6,v9_7)=>some (v1_5,v0_4)
theorem yY{n:Nat}:CV (iX n):=by
 intro t0_0 t1_0 r h
 unfold iX at h
 refine bFi Try.func199 rfl rfl<|cRs<|xAs rfl<|oNl<|cSq<|cRs<|xAs rfl<|oNl<|cLp h [(0,1),(5,40)] [] (fun(v0_1,v1_2,v5_3)=>([(0,Li aK v0_1),(1,I64 v1_2),(5,I64 v5_3)],[])) (fun(v0_4,v1_5,v5_6,v9_7)=>(.e 0,[(0,Li aK v0_4),(1,I64 v1_5),(5,I64 v5_6),(9,Bo v9_7)],[])) rfl (fun st _ h=> ?_) (fun q h=> ?_)
 obtain⟨v0_1,v1_2,v5_3⟩:=st
 unfold eZ at h
 refine cSq<|cRs<|xMv rfl<|xMv rfl<|xLn rfl<|xLt rfl<|oNl<|cIf h rfl (fun q8 h=> ?_) (fun q8 h=> ?_)
 refine cSk<|cSq<|cBk<|cRs<|wAl rfl rfl rfl rfl<|xMv rfl<|xMv rfl<|wIp (f:=aK) h rfl rfl rfl rfl rfl rfl (fun _=>rfl) rfl (fun e15_9 ke15_9 h=> ?_)
 refine xFd rfl<|tN (f:=aK) (v':=aD.mk v1_2 e15_9.f1 e15_9.f2 e15_9.f3) h ke15_9 rfl rfl rfl rfl rfl rfl rfl rfl rfl (fun u0_10 h=> ?_)
 refine oRs<|xMv rfl<|cM rfl<|xAs rfl<|oRs<|wAl rfl rfl rfl rfl<|xMv rfl<|xMv rfl<|wIp (f:=aK) h rfl rfl rfl rfl rfl rfl (fun _=>rfl) rfl (fun e22_11 ke22_11 h=> ?_)
 refine xFd rfl<|tN (f:=aK) (v':=aD.mk e22_11.f0 (IntKind.wrap .i64 (v1_2+(1:Int))) e22_11.f2 e22_11.f3) h ke22_11 rfl rfl rfl rfl rfl rfl rfl rfl rfl (fun u0_12 h=> ?_)
 refine oRs<|xMv rfl<|cM rfl<|xAs rfl<|oRs<|wAl rfl rfl rfl rfl<|xMv rfl<|xMv rfl<|xC0 h (cI ·) rfl (fun c29_13 h=> ?_)
 refine wIp (f:=aK) h rfl rfl rfl rfl rfl rfl (fun _=>rfl) rfl (fun e30_14 ke30_14 h=> ?_)
 refine xFd rfl<|tN (f:=aK) (v':=aD.mk e30_14.f0 e30_14.f1 c29_13 e30_14.f3) h ke30_14 rfl rfl rfl rfl rfl rfl rfl rfl rfl (fun u0_15 h=> ?_)
 refine oRs<|xMv rfl<|cM rfl<|xAs rfl<|oRs<|wAl rfl rfl rfl rfl<|xMv rfl<|xMv rfl<|wIp (f:=aK) h rfl rfl rfl rfl rfl rfl (fun _=>rfl) rfl (fun e37_16 ke37_16 h=> ?_)
 refine xFd rfl<|tN (f:=aK) (v':=aD.mk e37_16.f0 e37_16.f1 e37_16.f2 (IntKind.wrap .i64 ((IntKind.wrap .i64 ((IntKind.wrap .i64 (v1_2+(1:Int)))+(1:Int)))+(1:Int)))) h ke37_16 rfl rfl rfl rfl rfl rfl rfl rfl rfl (fun u0_17 h=> ?_)
 exact oNl<|cRg<|xMv rfl<|cM rfl<|xAs rfl<|oNl<|cRg<|xMv rfl<|cM rfl<|xAs rfl<|oNl<|eL h rfl
 exact cEx<|eX h rfl
 obtain⟨v0_4,v1_5,v5_6,v9_7⟩:=q
 refine cRs<|xMv rfl<|xAs rfl<|oNl<|cRt ?_
 cases h
 exact eRi rfl rfl rfl rfl rfl
abbrev DX(p:(List aB)→Int→Option (Int×(List aB))):Prop:= ∀ {t0_0:List aB} {t1_0:Int} {r:Int×(List aB)},p t0_0 t1_0=some r→Big Try.prog τ An (.fn 115 [.one (.c (.sl (t0_0.map aH))), .one (.c (.int .i64 t1_0))] [] (.one (.c (.int .i64 r.1))) (some (.sl (r.2.map aH))) [] none)
def gA(n:Nat):((List aB)×Int×Int)→Option (((List aB)×Int×Int)⊕(((List aB)×Int×Int×Bool)))
  | (v0_1,v1_2,v5_3)=>bif decide (v5_3<(v0_1.length:Int))then(bO n v1_2).bind fun c15_9=>(ix v0_1 v5_3).bind fun e16_10=>(some (v0_1.set (Int.toNat v5_3) (aB.mk c15_9 e16_10.f1 e16_10.f2 e16_10.f3))).bind fun u0_11=>(ix u0_11 v5_3).bind fun e23_12=>(some (u0_11.set (Int.toNat v5_3) (aB.mk e23_12.f0 (IntKind.wrap .i64 (v1_2+(1:Int))) e23_12.f2 e23_12.f3))).bind fun u0_13=>(ix u0_13 v5_3).bind fun e30_14=>(some (u0_13.set (Int.toNat v5_3) (aB.mk e30_14.f0 e30_14.f1 (IntKind.wrap .i64 ((IntKind.wrap .i64 (v1_2+(1:Int)))+(1:Int))) e30_14.f3))).bind fun u0_15=>(ix u0_15 v5_3).bind fun e36_16=>(iX n e36_16.f3 (IntKind.wrap .i64 ((IntKind.wrap .i64 ((IntKind.wrap .i64 (v1_2+(1:Int)))+(1:Int)))+(1:Int)))).bind fun c40_17=>(some (u0_15.set (Int.toNat v5_3) (aB.mk e36_16.f0 e36_16.f1 e36_16.f2 c40_17.2))).bind fun u0_18=>some (.inl (u0_18,c40_17.1,(IntKind.wrap .i64 (v5_3+(1:Int)))))else some (.inr (v0_1,v1_2,v5_3,false))
def hY(n:Nat)(t0_0:List aB)(t1_0:Int):Option (Int×(List aB)):=
  (loopN (gA n) n (t0_0,t1_0,(0:Int))).bind fun(v0_4,v1_5,v5_6,v9_7)=>some (v1_5,v0_4)
theorem rN{n:Nat}:DX (hY n):=by
 intro t0_0 t1_0 r h
 unfold hY at h
 refine bFi Try.func115 rfl rfl<|cRs<|xAs rfl<|oNl<|cSq<|cRs<|xAs rfl<|oNl<|cLp h [(0,1),(5,40)] [] (fun(v0_1,v1_2,v5_3)=>([(0,Li aH v0_1),(1,I64 v1_2),(5,I64 v5_3)],[])) (fun(v0_4,v1_5,v5_6,v9_7)=>(.e 0,[(0,Li aH v0_4),(1,I64 v1_5),(5,I64 v5_6),(9,Bo v9_7)],[])) rfl (fun st _ h=> ?_) (fun q h=> ?_)
 obtain⟨v0_1,v1_2,v5_3⟩:=st
 unfold gA at h
 refine cSq<|cRs<|xMv rfl<|xMv rfl<|xLn rfl<|xLt rfl<|oNl<|cIf h rfl (fun q8 h=> ?_) (fun q8 h=> ?_)
 refine cSk<|cSq<|cBk<|cRs<|wAl rfl rfl rfl rfl<|xMv rfl<|xMv rfl<|xC0 h (cI ·) rfl (fun c15_9 h=> ?_)
 refine wIp (f:=aH) h rfl rfl rfl rfl rfl rfl (fun _=>rfl) rfl (fun e16_10 ke16_10 h=> ?_)
 refine xFd rfl<|tN (f:=aH) (v':=aB.mk c15_9 e16_10.f1 e16_10.f2 e16_10.f3) h ke16_10 rfl rfl rfl rfl rfl rfl rfl rfl rfl (fun u0_11 h=> ?_)
 refine oRs<|xMv rfl<|cM rfl<|xAs rfl<|oRs<|wAl rfl rfl rfl rfl<|xMv rfl<|xMv rfl<|wIp (f:=aH) h rfl rfl rfl rfl rfl rfl (fun _=>rfl) rfl (fun e23_12 ke23_12 h=> ?_)
 refine xFd rfl<|tN (f:=aH) (v':=aB.mk e23_12.f0 (IntKind.wrap .i64 (v1_2+(1:Int))) e23_12.f2 e23_12.f3) h ke23_12 rfl rfl rfl rfl rfl rfl rfl rfl rfl (fun u0_13 h=> ?_)
 refine oRs<|xMv rfl<|cM rfl<|xAs rfl<|oRs<|wAl rfl rfl rfl rfl<|xMv rfl<|xMv rfl<|wIp (f:=aH) h rfl rfl rfl rfl rfl rfl (fun _=>rfl) rfl (fun e30_14 ke30_14 h=> ?_)
 refine xFd rfl<|tN (f:=aH) (v':=aB.mk e30_14.f0 e30_14.f1 (IntKind.wrap .i64 ((IntKind.wrap .i64 (v1_2+(1:Int)))+(1:Int))) e30_14.f3) h ke30_14 rfl rfl rfl rfl rfl rfl rfl rfl rfl (fun u0_15 h=> ?_)
 refine oRs<|xMv rfl<|cM rfl<|xAs rfl<|oNl<|cRg<|wAl rfl rfl rfl rfl<|xMv rfl<|wIp (f:=aH) h rfl rfl rfl rfl rfl rfl (fun _=>rfl) rfl (fun e36_16 ke36_16 h=> ?_)
 refine xFd rfl<|wLq (f:=aH) ke36_16 rfl rfl rfl rfl rfl rfl rfl rfl rfl rfl<|xMv rfl<|On aH (fun c40_17=>u0_15.set (Int.toNat v5_3) (aB.mk e36_16.f0 e36_16.f1 e36_16.f2 c40_17.2)) h (yY ·) rfl (PB ke36_16 rfl) (fun _=>Cm ke36_16 rfl rfl) (fun c40_17 u0_18 h=> ?_)
 exact xAs rfl<|oNl<|cRg<|xMv rfl<|cM rfl<|xAs rfl<|oNl<|eL h rfl
 exact cEx<|eX h rfl
 obtain⟨v0_4,v1_5,v5_6,v9_7⟩:=q
 refine cRs<|xMv rfl<|xAs rfl<|oNl<|cRt ?_
 cases h
 exact eRi rfl rfl rfl rfl rfl
abbrev fU:Type:=(List aA)→Int→Option (Int×(List aA))
abbrev lX(p:fU):Prop:= ∀ {t0_0:List aA} {t1_0:Int} {r:Int×(List aA)},p t0_0 t1_0=some r→Big Try.prog τ An (.fn 116 [.one (.c (.sl (t0_0.map aE))), .one (.c (.int .i64 t1_0))] [] (.one (.c (.int .i64 r.1))) (some (.sl (r.2.map aE))) [] none)
def eY(n:Nat)(r_laws_markPatS:fU):((List aA)×Int×Int)→Option (((List aA)×Int×Int)⊕(((List aA)×Int×Int×Bool)))
  | (v0_1,v1_2,v5_3)=>bif decide (v5_3<(v0_1.length:Int))then(ix v0_1 v5_3).bind fun e15_9=>(some (v0_1.set (Int.toNat v5_3) (aA.mk v1_2 e15_9.f1 e15_9.f2 e15_9.f3))).bind fun u0_10=>(ix u0_10 v5_3).bind fun e22_11=>(some (u0_10.set (Int.toNat v5_3) (aA.mk e22_11.f0 (IntKind.wrap .i64 (v1_2+(1:Int))) e22_11.f2 e22_11.f3))).bind fun u0_12=>(bO n (IntKind.wrap .i64 ((IntKind.wrap .i64 (v1_2+(1:Int)))+(1:Int)))).bind fun c29_13=>(ix u0_12 v5_3).bind fun e30_14=>(some (u0_12.set (Int.toNat v5_3) (aA.mk e30_14.f0 e30_14.f1 c29_13 e30_14.f3))).bind fun u0_15=>(ix u0_15 v5_3).bind fun e36_16=>(r_laws_markPatS e36_16.f3 (IntKind.wrap .i64 ((IntKind.wrap .i64 ((IntKind.wrap .i64 (v1_2+(1:Int)))+(1:Int)))+(1:Int)))).bind fun c40_17=>(some (u0_15.set (Int.toNat v5_3) (aA.mk e36_16.f0 e36_16.f1 e36_16.f2 c40_17.2))).bind fun u0_18=>some (.inl (u0_18,c40_17.1,(IntKind.wrap .i64 (v5_3+(1:Int)))))else some (.inr (v0_1,v1_2,v5_3,false))
def fP(n:Nat)(r_laws_markPatS:fU)(t0_0:List aA)(t1_0:Int):Option (Int×(List aA)):=
  (loopN (eY n r_laws_markPatS) n (t0_0,t1_0,(0:Int))).bind fun(v0_4,v1_5,v5_6,v9_7)=>some (v1_5,v0_4)
theorem wY{n:Nat}{r_laws_markPatS:fU}(ih_laws_markPatS:lX r_laws_markPatS):lX (fP n r_laws_markPatS):=by
 intro t0_0 t1_0 r h
 unfold fP at h
 refine bFi Try.func116 rfl rfl<|cRs<|xAs rfl<|oNl<|cSq<|cRs<|xAs rfl<|oNl<|cLp h [(0,1),(5,40)] [] (fun(v0_1,v1_2,v5_3)=>([(0,Li aE v0_1),(1,I64 v1_2),(5,I64 v5_3)],[])) (fun(v0_4,v1_5,v5_6,v9_7)=>(.e 0,[(0,Li aE v0_4),(1,I64 v1_5),(5,I64 v5_6),(9,Bo v9_7)],[])) rfl (fun st _ h=> ?_) (fun q h=> ?_)
 obtain⟨v0_1,v1_2,v5_3⟩:=st
 unfold eY at h
 refine cSq<|cRs<|xMv rfl<|xMv rfl<|xLn rfl<|xLt rfl<|oNl<|cIf h rfl (fun q8 h=> ?_) (fun q8 h=> ?_)
 refine cSk<|cSq<|cBk<|cRs<|wAl rfl rfl rfl rfl<|xMv rfl<|xMv rfl<|wIp (f:=aE) h rfl rfl rfl rfl rfl rfl (fun a=>by rw[aL]; rfl) rfl (fun e15_9 ke15_9 h=> ?_)
 refine xFd rfl<|tN (f:=aE) (v':=aA.mk v1_2 e15_9.f1 e15_9.f2 e15_9.f3) h ke15_9 rfl rfl rfl rfl rfl rfl rfl (by rw[aL]; rfl) (by rw[aL,dA]; rfl) (fun u0_10 h=> ?_)
 refine oRs<|xMv rfl<|cM rfl<|xAs rfl<|oRs<|wAl rfl rfl rfl rfl<|xMv rfl<|xMv rfl<|wIp (f:=aE) h rfl rfl rfl rfl rfl rfl (fun a=>by rw[aL]; rfl) rfl (fun e22_11 ke22_11 h=> ?_)
 refine xFd rfl<|tN (f:=aE) (v':=aA.mk e22_11.f0 (IntKind.wrap .i64 (v1_2+(1:Int))) e22_11.f2 e22_11.f3) h ke22_11 rfl rfl rfl rfl rfl rfl rfl (by rw[aL]; rfl) (by rw[aL,dA]; rfl) (fun u0_12 h=> ?_)
 refine oRs<|xMv rfl<|cM rfl<|xAs rfl<|oRs<|wAl rfl rfl rfl rfl<|xMv rfl<|xMv rfl<|xC0 h (cI ·) rfl (fun c29_13 h=> ?_)
 refine wIp (f:=aE) h rfl rfl rfl rfl rfl rfl (fun a=>by rw[aL]; rfl) rfl (fun e30_14 ke30_14 h=> ?_)
 refine xFd rfl<|tN (f:=aE) (v':=aA.mk e30_14.f0 e30_14.f1 c29_13 e30_14.f3) h ke30_14 rfl rfl rfl rfl rfl rfl rfl (by rw[aL]; rfl) (by rw[aL,dA]; rfl) (fun u0_15 h=> ?_)
 refine oRs<|xMv rfl<|cM rfl<|xAs rfl<|oNl<|cRg<|wAl rfl rfl rfl rfl<|xMv rfl<|wIp (f:=aE) h rfl rfl rfl rfl rfl rfl (fun a=>by rw[aL]; rfl) rfl (fun e36_16 ke36_16 h=> ?_)
 refine xFd rfl<|wLq (f:=aE) ke36_16 rfl rfl rfl rfl rfl rfl rfl (by rw[aL]) rfl rfl<|xMv rfl<|On aE (fun c40_17=>u0_15.set (Int.toNat v5_3) (aA.mk e36_16.f0 e36_16.f1 e36_16.f2 c40_17.2)) h (ih_laws_markPatS ·) rfl (PB ke36_16 (by rw[aL]; rfl)) (fun _=>Cm ke36_16 (by rw[aL]; rfl) (by rw[aL,dA]; rfl)) (fun c40_17 u0_18 h=> ?_)
 exact xAs rfl<|oNl<|cRg<|xMv rfl<|cM rfl<|xAs rfl<|oNl<|eL h rfl
 exact cEx<|eX h rfl
 obtain⟨v0_4,v1_5,v5_6,v9_7⟩:=q
 refine cRs<|xMv rfl<|xAs rfl<|oNl<|cRt ?_
 cases h
 exact eRi rfl rfl rfl rfl rfl
def sQ:Nat→(fU)
  | 0=>(fun _ _=>none)
  | n+1=>fP n (sQ n)
def cB(n:Nat):fU:=sQ n
theorem xE(n:Nat):lX (cB n):=by
  induction n with
  | zero=>exact(fun h=>nomatch h)
  | succ n ih=>exact wY (n:=n) ih
theorem qO{n:Nat}:lX (cB n):=(xE n)
theorem p_laws_markPatS_succ(n:Nat):cB (n+1)=fP n (cB n):=rfl
abbrev zB(p:(List aC)→Int→Option (Int×(List aC))):Prop:= ∀ {t0_0:List aC} {t1_0:Int} {r:Int×(List aC)},p t0_0 t1_0=some r→Big Try.prog τ An (.fn 62 [.one (.c (.sl (t0_0.map aF))), .one (.c (.int .i64 t1_0))] [] (.one (.c (.int .i64 r.1))) (some (.sl (r.2.map aF))) [] none)
def dM(n:Nat):((List aC)×Int×Int)→Option (((List aC)×Int×Int)⊕(((List aC)×Int×Int×Bool)))
  | (v0_1,v1_2,v5_3)=>bif decide (v5_3<(v0_1.length:Int))then(bO n v1_2).bind fun c15_9=>(ix v0_1 v5_3).bind fun e16_10=>(some (v0_1.set (Int.toNat v5_3) (aC.mk c15_9 e16_10.f1 e16_10.f2 e16_10.f3 e16_10.f4 e16_10.f5 e16_10.f6))).bind fun u0_11=>(ix u0_11 v5_3).bind fun e23_12=>(some (u0_11.set (Int.toNat v5_3) (aC.mk e23_12.f0 (IntKind.wrap .i64 (v1_2+(1:Int))) e23_12.f2 e23_12.f3 e23_12.f4 e23_12.f5 e23_12.f6))).bind fun u0_13=>(ix u0_13 v5_3).bind fun e29_14=>(hY n e29_14.f2 (IntKind.wrap .i64 ((IntKind.wrap .i64 (v1_2+(1:Int)))+(1:Int)))).bind fun c34_15=>(some (u0_13.set (Int.toNat v5_3) (aC.mk e29_14.f0 e29_14.f1 c34_15.2 e29_14.f3 e29_14.f4 e29_14.f5 e29_14.f6))).bind fun u0_16=>(ix u0_16 v5_3).bind fun e37_17=>(cB n e37_17.f3 c34_15.1).bind fun c42_18=>(some (u0_16.set (Int.toNat v5_3) (aC.mk e37_17.f0 e37_17.f1 e37_17.f2 c42_18.2 e37_17.f4 e37_17.f5 e37_17.f6))).bind fun u0_19=>(ix u0_19 v5_3).bind fun e48_20=>(some (u0_19.set (Int.toNat v5_3) (aC.mk e48_20.f0 e48_20.f1 e48_20.f2 e48_20.f3 (decide ((Int.tmod c42_18.1 (3:Int))=(0:Int))) e48_20.f5 e48_20.f6))).bind fun u0_21=>(ix u0_21 v5_3).bind fun e54_22=>(hY n e54_22.f5 (IntKind.wrap .i64 (c42_18.1+(1:Int)))).bind fun c59_23=>(some (u0_21.set (Int.toNat v5_3) (aC.mk e54_22.f0 e54_22.f1 e54_22.f2 e54_22.f3 e54_22.f4 c59_23.2 e54_22.f6))).bind fun u0_24=>(ix u0_24 v5_3).bind fun e62_25=>(cB n e62_25.f6 c59_23.1).bind fun c67_26=>(some (u0_24.set (Int.toNat v5_3) (aC.mk e62_25.f0 e62_25.f1 e62_25.f2 e62_25.f3 e62_25.f4 e62_25.f5 c67_26.2))).bind fun u0_27=>some (.inl (u0_27,c67_26.1,(IntKind.wrap .i64 (v5_3+(1:Int)))))else some (.inr (v0_1,v1_2,v5_3,false))
def dV(n:Nat)(t0_0:List aC)(t1_0:Int):Option (Int×(List aC)):=
  (loopN (dM n) n (t0_0,t1_0,(0:Int))).bind fun(v0_4,v1_5,v5_6,v9_7)=>some (v1_5,v0_4)
theorem oK{n:Nat}:zB (dV n):=by
 intro t0_0 t1_0 r h
 unfold dV at h
 refine bFi Try.func62 rfl rfl<|cRs<|xAs rfl<|oNl<|cSq<|cRs<|xAs rfl<|oNl<|cLp h [(0,1),(5,67)] [] (fun(v0_1,v1_2,v5_3)=>([(0,Li aF v0_1),(1,I64 v1_2),(5,I64 v5_3)],[])) (fun(v0_4,v1_5,v5_6,v9_7)=>(.e 0,[(0,Li aF v0_4),(1,I64 v1_5),(5,I64 v5_6),(9,Bo v9_7)],[])) rfl (fun st _ h=> ?_) (fun q h=> ?_)
 obtain⟨v0_1,v1_2,v5_3⟩:=st
 unfold dM at h
 refine cSq<|cRs<|xMv rfl<|xMv rfl<|xLn rfl<|xLt rfl<|oNl<|cIf h rfl (fun q8 h=> ?_) (fun q8 h=> ?_)
 refine cSk<|cSq<|cBk<|cRs<|wAl rfl rfl rfl rfl<|xMv rfl<|xMv rfl<|xC0 h (cI ·) rfl (fun c15_9 h=> ?_)
 refine wIp (f:=aF) h rfl rfl rfl rfl rfl rfl (fun _=>rfl) rfl (fun e16_10 ke16_10 h=> ?_)
 refine xFd rfl<|tN (f:=aF) (v':=aC.mk c15_9 e16_10.f1 e16_10.f2 e16_10.f3 e16_10.f4 e16_10.f5 e16_10.f6) h ke16_10 rfl rfl rfl rfl rfl rfl rfl rfl rfl (fun u0_11 h=> ?_)
 refine oRs<|xMv rfl<|cM rfl<|xAs rfl<|oRs<|wAl rfl rfl rfl rfl<|xMv rfl<|xMv rfl<|wIp (f:=aF) h rfl rfl rfl rfl rfl rfl (fun _=>rfl) rfl (fun e23_12 ke23_12 h=> ?_)
 refine xFd rfl<|tN (f:=aF) (v':=aC.mk e23_12.f0 (IntKind.wrap .i64 (v1_2+(1:Int))) e23_12.f2 e23_12.f3 e23_12.f4 e23_12.f5 e23_12.f6) h ke23_12 rfl rfl rfl rfl rfl rfl rfl rfl rfl (fun u0_13 h=> ?_)
 refine oRs<|xMv rfl<|cM rfl<|xAs rfl<|oRs<|wAl rfl rfl rfl rfl<|xMv rfl<|wIp (f:=aF) h rfl rfl rfl rfl rfl rfl (fun _=>rfl) rfl (fun e29_14 ke29_14 h=> ?_)
 refine xFd rfl<|xFd rfl<|wLq (f:=aF) ke29_14 rfl rfl rfl rfl rfl rfl rfl rfl rfl rfl<|xMv rfl<|On aF (fun c34_15=>u0_13.set (Int.toNat v5_3) (aC.mk e29_14.f0 e29_14.f1 c34_15.2 e29_14.f3 e29_14.f4 e29_14.f5 e29_14.f6)) h (rN ·) rfl (PB ke29_14 rfl) (fun _=>Cm ke29_14 rfl rfl) (fun c34_15 u0_16 h=> ?_)
 refine xAs rfl<|oRs<|wAl rfl rfl rfl rfl<|xMv rfl<|wIp (f:=aF) h rfl rfl rfl rfl rfl rfl (fun _=>rfl) rfl (fun e37_17 ke37_17 h=> ?_)
 refine xFd rfl<|xFd rfl<|wLq (f:=aF) ke37_17 rfl rfl rfl rfl rfl rfl rfl rfl rfl rfl<|xMv rfl<|On aF (fun c42_18=>u0_16.set (Int.toNat v5_3) (aC.mk e37_17.f0 e37_17.f1 e37_17.f2 c42_18.2 e37_17.f4 e37_17.f5 e37_17.f6)) h (qO ·) rfl (PB ke37_17 rfl) (fun _=>Cm ke37_17 rfl rfl) (fun c42_18 u0_19 h=> ?_)
 refine xAs rfl<|oRs<|wAl rfl rfl rfl rfl<|xMv rfl<|xMv rfl<|wBi (.int .i64 (Int.tmod c42_18.1 (3:Int))) rfl rfl rfl rfl rfl<|xEq rfl<|wIp (f:=aF) h rfl rfl rfl rfl rfl rfl (fun _=>rfl) rfl (fun e48_20 ke48_20 h=> ?_)
 refine xFd rfl<|tN (f:=aF) (v':=aC.mk e48_20.f0 e48_20.f1 e48_20.f2 e48_20.f3 (decide ((Int.tmod c42_18.1 (3:Int))=(0:Int))) e48_20.f5 e48_20.f6) h ke48_20 rfl rfl rfl rfl rfl rfl rfl rfl rfl (fun u0_21 h=> ?_)
 refine oRs<|xMv rfl<|cM rfl<|xAs rfl<|oRs<|wAl rfl rfl rfl rfl<|xMv rfl<|wIp (f:=aF) h rfl rfl rfl rfl rfl rfl (fun _=>rfl) rfl (fun e54_22 ke54_22 h=> ?_)
 refine xFd rfl<|xFd rfl<|wLq (f:=aF) ke54_22 rfl rfl rfl rfl rfl rfl rfl rfl rfl rfl<|xMv rfl<|On aF (fun c59_23=>u0_21.set (Int.toNat v5_3) (aC.mk e54_22.f0 e54_22.f1 e54_22.f2 e54_22.f3 e54_22.f4 c59_23.2 e54_22.f6)) h (rN ·) rfl (PB ke54_22 rfl) (fun _=>Cm ke54_22 rfl rfl) (fun c59_23 u0_24 h=> ?_)
 refine xAs rfl<|oNl<|cRg<|wAl rfl rfl rfl rfl<|xMv rfl<|wIp (f:=aF) h rfl rfl rfl rfl rfl rfl (fun _=>rfl) rfl (fun e62_25 ke62_25 h=> ?_)
 refine xFd rfl<|xFd rfl<|wLq (f:=aF) ke62_25 rfl rfl rfl rfl rfl rfl rfl rfl rfl rfl<|xMv rfl<|On aF (fun c67_26=>u0_24.set (Int.toNat v5_3) (aC.mk e62_25.f0 e62_25.f1 e62_25.f2 e62_25.f3 e62_25.f4 e62_25.f5 c67_26.2)) h (qO ·) rfl (PB ke62_25 rfl) (fun _=>Cm ke62_25 rfl rfl) (fun c67_26 u0_27 h=> ?_)
 exact xAs rfl<|oNl<|cRg<|xMv rfl<|cM rfl<|xAs rfl<|oNl<|eL h rfl
 exact cEx<|eX h rfl
 obtain⟨v0_4,v1_5,v5_6,v9_7⟩:=q
 refine cRs<|xMv rfl<|xAs rfl<|oNl<|cRt ?_
 cases h
 exact eRi rfl rfl rfl rfl rfl
abbrev CW(p:(List aD)→Int→Option (Int)):Prop:= ∀ {t0_0:List aD} {t1_0:Int} {r:Int},p t0_0 t1_0=some r→Big Try.prog τ An (.fn 233 [.one (.c (.sl (t0_0.map aK))), .one (.c (.int .i64 t1_0))] [] (.one (.c (.int .i64 r))) none [] none)
def fC(n:Nat)(t0_0:List aD):(Int×Int)→Option ((Int×Int)⊕((Int)⊕(Int×Int×Bool)))
  | (v1_1,v5_2)=>bif decide (v5_2<(t0_0.length:Int))then(ix t0_0 v5_2).bind fun e14_8=>bif !decide (e14_8.f0=v1_1)then some (.inr (.inl ((-1):Int)))else(ix t0_0 v5_2).bind fun e23_10=>bif !decide (e23_10.f1=(IntKind.wrap .i64 (v1_1+(1:Int))))then some (.inr (.inl ((-1):Int)))else(ix t0_0 v5_2).bind fun e32_12=>(bO n (IntKind.wrap .i64 ((IntKind.wrap .i64 (v1_1+(1:Int)))+(1:Int)))).bind fun c36_13=>bif !decide (e32_12.f2=c36_13)then some (.inr (.inl ((-1):Int)))else(ix t0_0 v5_2).bind fun e42_15=>bif !decide (e42_15.f3=(IntKind.wrap .i64 ((IntKind.wrap .i64 ((IntKind.wrap .i64 (v1_1+(1:Int)))+(1:Int)))+(1:Int))))then some (.inr (.inl ((-1):Int)))else some (.inl ((IntKind.wrap .i64 ((IntKind.wrap .i64 ((IntKind.wrap .i64 ((IntKind.wrap .i64 (v1_1+(1:Int)))+(1:Int)))+(1:Int)))+(1:Int))),(IntKind.wrap .i64 (v5_2+(1:Int)))))else some (.inr (.inr (v1_1,v5_2,false)))
def iY(n:Nat)(t0_0:List aD)(t1_0:Int):Option (Int):=
  (loopN (fC n t0_0) n (t1_0,(0:Int))).bind fun q=>(match q with | .inl v4_3=>some v4_3 | .inr (v1_4,v5_5,v9_6)=>some v1_4)
theorem yZ{n:Nat}:CW (iY n):=by
 intro t0_0 t1_0 r h
 unfold iY at h
 refine bF Try.func233 rfl rfl<|cRs<|xAs rfl<|oNl<|cSq<|cRs<|xAs rfl<|oNl<|cLp h [(1,1),(4,48)] [] (fun(v1_1,v5_2)=>([(1,I64 v1_1),(5,I64 v5_2)],[])) (fun q=>match q with | .inl v4_3=>(.r,[(4,I64 v4_3)],[]) | .inr (v1_4,v5_5,v9_6)=>(.e 0,[(1,I64 v1_4),(5,I64 v5_5),(9,Bo v9_6)],[])) rfl (fun st _ h=> ?_) (fun q h=> ?_)
 obtain⟨v1_1,v5_2⟩:=st
 unfold fC at h
 refine cSq<|cRs<|xMv rfl<|xMv rfl<|xLn rfl<|xLt rfl<|oNl<|cIf h rfl (fun q7 h=> ?_) (fun q7 h=> ?_)
 refine cSk<|cSq<|cBk<|cSq<|cRs<|xMv rfl<|xMv rfl<|xIx h bP rfl (fun e14_8 h=> ?_)
 refine xFd rfl<|xLd rfl<|xMv rfl<|xNe rfl<|oNl<|cIf h rfl (fun q9 h=> ?_) (fun q9 h=> ?_)
 exact cRs<|xAs rfl<|oNl<|cRt<|eXr h rfl
 refine cSk<|cRs<|xMv rfl<|cM rfl<|xAs rfl<|oNl<|cSq<|cRs<|xMv rfl<|xMv rfl<|xIx h bP rfl (fun e23_10 h=> ?_)
 refine xFd rfl<|xLd rfl<|xMv rfl<|xNe rfl<|oNl<|cIf h rfl (fun q11 h=> ?_) (fun q11 h=> ?_)
 exact cRs<|xAs rfl<|oNl<|cRt<|eXr h rfl
 refine cSk<|cRs<|xMv rfl<|cM rfl<|xAs rfl<|oNl<|cSq<|cRs<|xMv rfl<|xMv rfl<|xIx h bP rfl (fun e32_12 h=> ?_)
 refine xFd rfl<|xLd rfl<|xMv rfl<|xC0 h (cI ·) rfl (fun c36_13 h=> ?_)
 refine xNs rfl<|oNl<|cIf h rfl (fun q14 h=> ?_) (fun q14 h=> ?_)
 exact cRs<|xAs rfl<|oNl<|cRt<|eXr h rfl
 refine cSk<|cRs<|xMv rfl<|cM rfl<|xAs rfl<|oNl<|cSq<|cRs<|xMv rfl<|xMv rfl<|xIx h bP rfl (fun e42_15 h=> ?_)
 refine xFd rfl<|xLd rfl<|xMv rfl<|xNe rfl<|oNl<|cIf h rfl (fun q16 h=> ?_) (fun q16 h=> ?_)
 exact cRs<|xAs rfl<|oNl<|cRt<|eXr h rfl
 exact cSk<|cRg<|xMv rfl<|cM rfl<|xAs rfl<|oNl<|cRg<|xMv rfl<|cM rfl<|xAs rfl<|oNl<|eL h rfl
 exact cEx<|eX h rfl
 rcases q with v4_3 | ⟨v1_4,v5_5,v9_6⟩
 cases h
 exact eR rfl rfl rfl rfl
 refine cRs<|xMv rfl<|xAs rfl<|oNl<|cRt ?_
 cases h
 exact eR rfl rfl rfl rfl
abbrev DY(p:(List aB)→Int→Option (Int)):Prop:= ∀ {t0_0:List aB} {t1_0:Int} {r:Int},p t0_0 t1_0=some r→Big Try.prog τ An (.fn 150 [.one (.c (.sl (t0_0.map aH))), .one (.c (.int .i64 t1_0))] [] (.one (.c (.int .i64 r))) none [] none)
def gB(n:Nat)(t0_0:List aB):(Int×Int)→Option ((Int×Int)⊕((Int)⊕(Int×Int×Bool)))
  | (v1_1,v5_2)=>bif decide (v5_2<(t0_0.length:Int))then(ix t0_0 v5_2).bind fun e14_8=>(bO n v1_1).bind fun c18_9=>bif !decide (e14_8.f0=c18_9)then some (.inr (.inl ((-1):Int)))else(ix t0_0 v5_2).bind fun e24_11=>bif !decide (e24_11.f1=(IntKind.wrap .i64 (v1_1+(1:Int))))then some (.inr (.inl ((-1):Int)))else(ix t0_0 v5_2).bind fun e33_13=>bif !decide (e33_13.f2=(IntKind.wrap .i64 ((IntKind.wrap .i64 (v1_1+(1:Int)))+(1:Int))))then some (.inr (.inl ((-1):Int)))else(ix t0_0 v5_2).bind fun e42_15=>(iY n e42_15.f3 (IntKind.wrap .i64 ((IntKind.wrap .i64 ((IntKind.wrap .i64 (v1_1+(1:Int)))+(1:Int)))+(1:Int)))).bind fun c46_16=>bif decide (c46_16<(0:Int))then some (.inr (.inl ((-1):Int)))else some (.inl (c46_16,(IntKind.wrap .i64 (v5_2+(1:Int)))))else some (.inr (.inr (v1_1,v5_2,false)))
def iA(n:Nat)(t0_0:List aB)(t1_0:Int):Option (Int):=
  (loopN (gB n t0_0) n (t1_0,(0:Int))).bind fun q=>(match q with | .inl v4_3=>some v4_3 | .inr (v1_4,v5_5,v9_6)=>some v1_4)
theorem rP{n:Nat}:DY (iA n):=by
 intro t0_0 t1_0 r h
 unfold iA at h
 refine bF Try.func150 rfl rfl<|cRs<|xAs rfl<|oNl<|cSq<|cRs<|xAs rfl<|oNl<|cLp h [(1,1),(4,48)] [] (fun(v1_1,v5_2)=>([(1,I64 v1_1),(5,I64 v5_2)],[])) (fun q=>match q with | .inl v4_3=>(.r,[(4,I64 v4_3)],[]) | .inr (v1_4,v5_5,v9_6)=>(.e 0,[(1,I64 v1_4),(5,I64 v5_5),(9,Bo v9_6)],[])) rfl (fun st _ h=> ?_) (fun q h=> ?_)
 obtain⟨v1_1,v5_2⟩:=st
 unfold gB at h
 refine cSq<|cRs<|xMv rfl<|xMv rfl<|xLn rfl<|xLt rfl<|oNl<|cIf h rfl (fun q7 h=> ?_) (fun q7 h=> ?_)
 refine cSk<|cSq<|cBk<|cSq<|cRs<|xMv rfl<|xMv rfl<|xIx h bL rfl (fun e14_8 h=> ?_)
 refine xFd rfl<|xLd rfl<|xMv rfl<|xC0 h (cI ·) rfl (fun c18_9 h=> ?_)
 refine xNs rfl<|oNl<|cIf h rfl (fun q10 h=> ?_) (fun q10 h=> ?_)
 exact cRs<|xAs rfl<|oNl<|cRt<|eXr h rfl
 refine cSk<|cRs<|xMv rfl<|cM rfl<|xAs rfl<|oNl<|cSq<|cRs<|xMv rfl<|xMv rfl<|xIx h bL rfl (fun e24_11 h=> ?_)
 refine xFd rfl<|xLd rfl<|xMv rfl<|xNe rfl<|oNl<|cIf h rfl (fun q12 h=> ?_) (fun q12 h=> ?_)
 exact cRs<|xAs rfl<|oNl<|cRt<|eXr h rfl
 refine cSk<|cRs<|xMv rfl<|cM rfl<|xAs rfl<|oNl<|cSq<|cRs<|xMv rfl<|xMv rfl<|xIx h bL rfl (fun e33_13 h=> ?_)
 refine xFd rfl<|xLd rfl<|xMv rfl<|xNe rfl<|oNl<|cIf h rfl (fun q14 h=> ?_) (fun q14 h=> ?_)
 exact cRs<|xAs rfl<|oNl<|cRt<|eXr h rfl
 refine cSk<|cRs<|xMv rfl<|cM rfl<|xAs rfl<|oRs<|xMv rfl<|xMv rfl<|xIx h bL rfl (fun e42_15 h=> ?_)
 refine xFd rfl<|xLd rfl<|xMv rfl<|xC0 h (yZ ·) rfl (fun c46_16 h=> ?_)
 refine xAs rfl<|oRs<|xMv rfl<|xLt rfl<|oNl<|cIf h rfl (fun q17 h=> ?_) (fun q17 h=> ?_)
 exact cRs<|xAs rfl<|oNl<|cRt<|eXr h rfl
 exact cSk<|cRg<|xMv rfl<|cM rfl<|xAs rfl<|oNl<|eL h rfl
 exact cEx<|eX h rfl
 rcases q with v4_3 | ⟨v1_4,v5_5,v9_6⟩
 cases h
 exact eR rfl rfl rfl rfl
 refine cRs<|xMv rfl<|xAs rfl<|oNl<|cRt ?_
 cases h
 exact eR rfl rfl rfl rfl
abbrev fV:Type:=(List aA)→Int→Option (Int)
abbrev lY(p:fV):Prop:= ∀ {t0_0:List aA} {t1_0:Int} {r:Int},p t0_0 t1_0=some r→Big Try.prog τ An (.fn 151 [.one (.c (.sl (t0_0.map aE))), .one (.c (.int .i64 t1_0))] [] (.one (.c (.int .i64 r))) none [] none)
def fA(n:Nat)(r_laws_heldPatS:fV)(t0_0:List aA):(Int×Int)→Option ((Int×Int)⊕((Int)⊕(Int×Int×Bool)))
  | (v1_1,v5_2)=>bif decide (v5_2<(t0_0.length:Int))then(ix t0_0 v5_2).bind fun e14_8=>bif !decide (e14_8.f0=v1_1)then some (.inr (.inl ((-1):Int)))else(ix t0_0 v5_2).bind fun e23_10=>bif !decide (e23_10.f1=(IntKind.wrap .i64 (v1_1+(1:Int))))then some (.inr (.inl ((-1):Int)))else(ix t0_0 v5_2).bind fun e32_12=>(bO n (IntKind.wrap .i64 ((IntKind.wrap .i64 (v1_1+(1:Int)))+(1:Int)))).bind fun c36_13=>bif !decide (e32_12.f2=c36_13)then some (.inr (.inl ((-1):Int)))else(ix t0_0 v5_2).bind fun e42_15=>(r_laws_heldPatS e42_15.f3 (IntKind.wrap .i64 ((IntKind.wrap .i64 ((IntKind.wrap .i64 (v1_1+(1:Int)))+(1:Int)))+(1:Int)))).bind fun c46_16=>bif decide (c46_16<(0:Int))then some (.inr (.inl ((-1):Int)))else some (.inl (c46_16,(IntKind.wrap .i64 (v5_2+(1:Int)))))else some (.inr (.inr (v1_1,v5_2,false)))
def fQ(n:Nat)(r_laws_heldPatS:fV)(t0_0:List aA)(t1_0:Int):Option (Int):=
  (loopN (fA n r_laws_heldPatS t0_0) n (t1_0,(0:Int))).bind fun q=>(match q with | .inl v4_3=>some v4_3 | .inr (v1_4,v5_5,v9_6)=>some v1_4)
theorem wZ{n:Nat}{r_laws_heldPatS:fV}(ih_laws_heldPatS:lY r_laws_heldPatS):lY (fQ n r_laws_heldPatS):=by
 intro t0_0 t1_0 r h
 unfold fQ at h
 refine bF Try.func151 rfl rfl<|cRs<|xAs rfl<|oNl<|cSq<|cRs<|xAs rfl<|oNl<|cLp h [(1,1),(4,48)] [] (fun(v1_1,v5_2)=>([(1,I64 v1_1),(5,I64 v5_2)],[])) (fun q=>match q with | .inl v4_3=>(.r,[(4,I64 v4_3)],[]) | .inr (v1_4,v5_5,v9_6)=>(.e 0,[(1,I64 v1_4),(5,I64 v5_5),(9,Bo v9_6)],[])) rfl (fun st _ h=> ?_) (fun q h=> ?_)
 obtain⟨v1_1,v5_2⟩:=st
 unfold fA at h
 refine cSq<|cRs<|xMv rfl<|xMv rfl<|xLn rfl<|xLt rfl<|oNl<|cIf h rfl (fun q7 h=> ?_) (fun q7 h=> ?_)
 refine cSk<|cSq<|cBk<|cSq<|cRs<|xMv rfl<|xMv rfl<|xIx h aL rfl (fun e14_8 h=> ?_)
 refine xFd rfl<|xLd rfl<|xMv rfl<|xNe rfl<|oNl<|cIf h rfl (fun q9 h=> ?_) (fun q9 h=> ?_)
 exact cRs<|xAs rfl<|oNl<|cRt<|eXr h rfl
 refine cSk<|cRs<|xMv rfl<|cM rfl<|xAs rfl<|oNl<|cSq<|cRs<|xMv rfl<|xMv rfl<|xIx h aL rfl (fun e23_10 h=> ?_)
 refine xFd rfl<|xLd rfl<|xMv rfl<|xNe rfl<|oNl<|cIf h rfl (fun q11 h=> ?_) (fun q11 h=> ?_)
 exact cRs<|xAs rfl<|oNl<|cRt<|eXr h rfl
 refine cSk<|cRs<|xMv rfl<|cM rfl<|xAs rfl<|oNl<|cSq<|cRs<|xMv rfl<|xMv rfl<|xIx h aL rfl (fun e32_12 h=> ?_)
 refine xFd rfl<|xLd rfl<|xMv rfl<|xC0 h (cI ·) rfl (fun c36_13 h=> ?_)
 refine xNs rfl<|oNl<|cIf h rfl (fun q14 h=> ?_) (fun q14 h=> ?_)
 exact cRs<|xAs rfl<|oNl<|cRt<|eXr h rfl
 refine cSk<|cRs<|xMv rfl<|cM rfl<|xAs rfl<|oRs<|xMv rfl<|xMv rfl<|xIx h aL rfl (fun e42_15 h=> ?_)
 refine xFd rfl<|xLd rfl<|xMv rfl<|xC0 h (ih_laws_heldPatS ·) rfl (fun c46_16 h=> ?_)
 refine xAs rfl<|oRs<|xMv rfl<|xLt rfl<|oNl<|cIf h rfl (fun q17 h=> ?_) (fun q17 h=> ?_)
 exact cRs<|xAs rfl<|oNl<|cRt<|eXr h rfl
 exact cSk<|cRg<|xMv rfl<|cM rfl<|xAs rfl<|oNl<|eL h rfl
 exact cEx<|eX h rfl
 rcases q with v4_3 | ⟨v1_4,v5_5,v9_6⟩
 cases h
 exact eR rfl rfl rfl rfl
 refine cRs<|xMv rfl<|xAs rfl<|oNl<|cRt ?_
 cases h
 exact eR rfl rfl rfl rfl
def sR:Nat→(fV)
  | 0=>(fun _ _=>none)
  | n+1=>fQ n (sR n)
def cC(n:Nat):fV:=sR n
theorem xF(n:Nat):lY (cC n):=by
  induction n with
  | zero=>exact(fun h=>nomatch h)
  | succ n ih=>exact wZ (n:=n) ih
theorem qP{n:Nat}:lY (cC n):=(xF n)
theorem p_laws_heldPatS_succ(n:Nat):cC (n+1)=fQ n (cC n):=rfl
abbrev zC(p:(List aC)→Int→Option (Int)):Prop:= ∀ {t0_0:List aC} {t1_0:Int} {r:Int},p t0_0 t1_0=some r→Big Try.prog τ An (.fn 63 [.one (.c (.sl (t0_0.map aF))), .one (.c (.int .i64 t1_0))] [] (.one (.c (.int .i64 r))) none [] none)
def dN(n:Nat)(t0_0:List aC):(Int×Int)→Option ((Int×Int)⊕((Int)⊕(Int×Int×Bool)))
  | (v1_1,v5_2)=>bif decide (v5_2<(t0_0.length:Int))then(ix t0_0 v5_2).bind fun e14_8=>(bO n v1_1).bind fun c18_9=>bif !decide (e14_8.f0=c18_9)then some (.inr (.inl ((-1):Int)))else(ix t0_0 v5_2).bind fun e24_11=>bif !decide (e24_11.f1=(IntKind.wrap .i64 (v1_1+(1:Int))))then some (.inr (.inl ((-1):Int)))else(ix t0_0 v5_2).bind fun e33_13=>(iA n e33_13.f2 (IntKind.wrap .i64 ((IntKind.wrap .i64 (v1_1+(1:Int)))+(1:Int)))).bind fun c38_14=>bif decide (c38_14<(0:Int))then some (.inr (.inl ((-1):Int)))else(ix t0_0 v5_2).bind fun e43_16=>(cC n e43_16.f3 c38_14).bind fun c48_17=>bif decide (c48_17<(0:Int))then some (.inr (.inl ((-1):Int)))else(ix t0_0 v5_2).bind fun e53_19=>bif !(e53_19.f4 == (decide ((Int.tmod c48_17 (3:Int))=(0:Int))))then some (.inr (.inl ((-1):Int)))else(ix t0_0 v5_2).bind fun e64_21=>(iA n e64_21.f5 (IntKind.wrap .i64 (c48_17+(1:Int)))).bind fun c69_22=>bif decide (c69_22<(0:Int))then some (.inr (.inl ((-1):Int)))else(ix t0_0 v5_2).bind fun e74_24=>(cC n e74_24.f6 c69_22).bind fun c79_25=>bif decide (c79_25<(0:Int))then some (.inr (.inl ((-1):Int)))else some (.inl (c79_25,(IntKind.wrap .i64 (v5_2+(1:Int)))))else some (.inr (.inr (v1_1,v5_2,false)))
def dW(n:Nat)(t0_0:List aC)(t1_0:Int):Option (Int):=
  (loopN (dN n t0_0) n (t1_0,(0:Int))).bind fun q=>(match q with | .inl v4_3=>some v4_3 | .inr (v1_4,v5_5,v9_6)=>some v1_4)
theorem oL{n:Nat}:zC (dW n):=by
 intro t0_0 t1_0 r h
 unfold dW at h
 refine bF Try.func63 rfl rfl<|cRs<|xAs rfl<|oNl<|cSq<|cRs<|xAs rfl<|oNl<|cLp h [(1,1),(4,81)] [] (fun(v1_1,v5_2)=>([(1,I64 v1_1),(5,I64 v5_2)],[])) (fun q=>match q with | .inl v4_3=>(.r,[(4,I64 v4_3)],[]) | .inr (v1_4,v5_5,v9_6)=>(.e 0,[(1,I64 v1_4),(5,I64 v5_5),(9,Bo v9_6)],[])) rfl (fun st _ h=> ?_) (fun q h=> ?_)
 obtain⟨v1_1,v5_2⟩:=st
 unfold dN at h
 refine cSq<|cRs<|xMv rfl<|xMv rfl<|xLn rfl<|xLt rfl<|oNl<|cIf h rfl (fun q7 h=> ?_) (fun q7 h=> ?_)
 refine cSk<|cSq<|cBk<|cSq<|cRs<|xMv rfl<|xMv rfl<|xIx h aR rfl (fun e14_8 h=> ?_)
 refine xFd rfl<|xLd rfl<|xMv rfl<|xC0 h (cI ·) rfl (fun c18_9 h=> ?_)
 refine xNs rfl<|oNl<|cIf h rfl (fun q10 h=> ?_) (fun q10 h=> ?_)
 exact cRs<|xAs rfl<|oNl<|cRt<|eXr h rfl
 refine cSk<|cRs<|xMv rfl<|cM rfl<|xAs rfl<|oNl<|cSq<|cRs<|xMv rfl<|xMv rfl<|xIx h aR rfl (fun e24_11 h=> ?_)
 refine xFd rfl<|xLd rfl<|xMv rfl<|xNe rfl<|oNl<|cIf h rfl (fun q12 h=> ?_) (fun q12 h=> ?_)
 exact cRs<|xAs rfl<|oNl<|cRt<|eXr h rfl
 refine cSk<|cRs<|xMv rfl<|cM rfl<|xAs rfl<|oRs<|xMv rfl<|xMv rfl<|xIx h aR rfl (fun e33_13 h=> ?_)
 refine xFd rfl<|xFd rfl<|xLd rfl<|xMv rfl<|xC0 h (rP ·) rfl (fun c38_14 h=> ?_)
 refine xAs rfl<|oNl<|cSq<|cRs<|xMv rfl<|xLt rfl<|oNl<|cIf h rfl (fun q15 h=> ?_) (fun q15 h=> ?_)
 exact cRs<|xAs rfl<|oNl<|cRt<|eXr h rfl
 refine cSk<|cRs<|xMv rfl<|xMv rfl<|xIx h aR rfl (fun e43_16 h=> ?_)
 refine xFd rfl<|xFd rfl<|xLd rfl<|xMv rfl<|xC0 h (qP ·) rfl (fun c48_17 h=> ?_)
 refine xAs rfl<|oNl<|cSq<|cRs<|xMv rfl<|xLt rfl<|oNl<|cIf h rfl (fun q18 h=> ?_) (fun q18 h=> ?_)
 exact cRs<|xAs rfl<|oNl<|cRt<|eXr h rfl
 refine cSk<|cSq<|cRs<|xMv rfl<|xMv rfl<|xIx h aR rfl (fun e53_19 h=> ?_)
 refine xFd rfl<|xLd rfl<|xMv rfl<|wBi (.int .i64 (Int.tmod c48_17 (3:Int))) rfl rfl rfl rfl rfl<|xEq rfl<|wBi (.bool (!(e53_19.f4 == (decide ((Int.tmod c48_17 (3:Int))=(0:Int)))))) rfl rfl rfl rfl rfl<|oNl<|cIf h rfl (fun q20 h=> ?_) (fun q20 h=> ?_)
 exact cRs<|xAs rfl<|oNl<|cRt<|eXr h rfl
 refine cSk<|cRs<|xMv rfl<|cM rfl<|xAs rfl<|oRs<|xMv rfl<|xMv rfl<|xIx h aR rfl (fun e64_21 h=> ?_)
 refine xFd rfl<|xFd rfl<|xLd rfl<|xMv rfl<|xC0 h (rP ·) rfl (fun c69_22 h=> ?_)
 refine xAs rfl<|oNl<|cSq<|cRs<|xMv rfl<|xLt rfl<|oNl<|cIf h rfl (fun q23 h=> ?_) (fun q23 h=> ?_)
 exact cRs<|xAs rfl<|oNl<|cRt<|eXr h rfl
 refine cSk<|cRs<|xMv rfl<|xMv rfl<|xIx h aR rfl (fun e74_24 h=> ?_)
 refine xFd rfl<|xFd rfl<|xLd rfl<|xMv rfl<|xC0 h (qP ·) rfl (fun c79_25 h=> ?_)
 refine xAs rfl<|oRs<|xMv rfl<|xLt rfl<|oNl<|cIf h rfl (fun q26 h=> ?_) (fun q26 h=> ?_)
 exact cRs<|xAs rfl<|oNl<|cRt<|eXr h rfl
 exact cSk<|cRg<|xMv rfl<|cM rfl<|xAs rfl<|oNl<|eL h rfl
 exact cEx<|eX h rfl
 rcases q with v4_3 | ⟨v1_4,v5_5,v9_6⟩
 cases h
 exact eR rfl rfl rfl rfl
 refine cRs<|xMv rfl<|xAs rfl<|oNl<|cRt ?_
 cases h
 exact eR rfl rfl rfl rfl
abbrev rH(p:(List S_laws_Entry)→(List UInt8)→Option (Bool)):Prop:= ∀ {t0_0:List S_laws_Entry} {t1_0:List UInt8} {r:Bool},p t0_0 t1_0=some r→Big Try.prog τ An (.fn 9 [.one (.c (.sl (t0_0.map rS_laws_Entry))), .one (.c (.str t1_0))] [] (.one (.c (.bool r))) none [] none)
def dU(n:Nat)(t0_0:List S_laws_Entry)(t1_0:List UInt8):Option (Bool):=
  bif decide ((1048576:Int)<(t1_0.length:Int))then some true else(iW n t0_0 (1048576:Int)).bind fun c21_2=>bif decide (c21_2<(0:Int))then some true else(dE n t0_0).bind fun c26_4=>(hH n c26_4 t1_0).bind fun c28_5=>(dE n t0_0).bind fun c32_6=>(eH n c32_6 t1_0).bind fun c36_7=>((dF n c36_7.1 c28_5.1).bind fun c41_9=>bif !c41_9 then some true else some (!decide (c36_7.2=c28_5.2))).bind fun v47_8=>bif v47_8 then some false else(dE n t0_0).bind fun c50_12=>(dF n c32_6 c50_12).bind fun c51_13=>bif !c51_13 then some false else(dV n c32_6 (1:Int)).bind fun c55_15=>(bif decide (c55_15.1<(0:Int))then some true else(dF n c36_7.1 c28_5.1).bind fun c61_18=>bif !c61_18 then some true else some (!decide (c36_7.2=c28_5.2))).bind fun v68_16=>bif v68_16 then some false else(dV n c36_7.1 (1:Int)).bind fun c71_21=>(dW n c71_21.2 (1:Int)).bind fun c74_22=>bif decide (c74_22<(0:Int))then some false else bif !decide (c74_22=c71_21.1)then some false else(dE n t0_0).bind fun c82_25=>(eH n c82_25 t1_0).bind fun c84_26=>((dF n c84_26.1 c28_5.1).bind fun c89_28=>bif !c89_28 then some true else some (!decide (c84_26.2=c28_5.2))).bind fun v95_27=>bif v95_27 then some false else(dW n c71_21.2 (1:Int)).bind fun c98_31=>bif decide (c98_31<(0:Int))then some false else bif !decide (c98_31=c71_21.1)then some false else some true
theorem pY{n:Nat}:rH (dU n):=by
 intro t0_0 t1_0 r h
 unfold dU at h
 refine bF Try.func9 rfl rfl<|cRs<|xAs rfl<|oNl<|cSq<|cRs<|xMv rfl<|xLs rfl<|xGt rfl<|oNl<|cIf h rfl (fun q1 h=> ?_) (fun q1 h=> ?_)
 refine cRs<|xAs rfl<|oNl<|cRt ?_
 cases h
 exact eR rfl rfl rfl rfl
 refine cSk<|cRs<|xAs rfl<|oRs<|xMv rfl<|xMv rfl<|xC0 h (yX ·) rfl (fun c21_2 h=> ?_)
 refine xAs rfl<|oNl<|cSq<|cRs<|xMv rfl<|xLt rfl<|oNl<|cIf h rfl (fun q3 h=> ?_) (fun q3 h=> ?_)
 refine cRs<|xAs rfl<|oNl<|cRt ?_
 cases h
 exact eR rfl rfl rfl rfl
 refine cSk<|cRs<|xMv rfl<|xC0 h (jQ ·) rfl (fun c26_4 h=> ?_)
 refine xMv rfl<|xC0 h (xJ ·) rfl (fun c28_5 h=> ?_)
 refine xMv rfl<|xEt rfl<|xEt rfl<|xAs rfl<|xAs rfl<|oRs<|xMv rfl<|xC0 h (jQ ·) rfl (fun c32_6 h=> ?_)
 refine xAs rfl<|oRs<|xMv rfl<|xMv rfl<|xC0 h (pD ·) rfl (fun c36_7 h=> ?_)
 refine xMv rfl<|xEt rfl<|xEt rfl<|xAs rfl<|xAs rfl<|oNl<|cSq<|cRs<|oJn h [(39,47)] [] (fun v47_8=>(.n,[(47,Bo v47_8)],[])) (fun _ h=> ?_) (fun v47_8 h=> ?_)
 refine xMv rfl<|xMv rfl<|xC0 h (jR ·) rfl (fun c41_9 h=> ?_)
 refine gJ rfl<|xMv rfl<|oIf 43 h rfl (fun q10 h=> ?_) (fun q10 h=> ?_)
 exact wSk rfl<|wSk rfl<|wSk rfl<|xPk rfl<|oNl<|eJ h rfl
 exact xMv rfl<|xMv rfl<|xNe rfl<|xPk rfl<|oNl<|eJ h rfl
 refine cIf h rfl (fun q11 h=> ?_) (fun q11 h=> ?_)
 refine cRs<|xAs rfl<|oNl<|cRt ?_
 cases h
 exact eR rfl rfl rfl rfl
 refine cSk<|cSq<|cRs<|xMv rfl<|xMv rfl<|xC0 h (jQ ·) rfl (fun c50_12 h=> ?_)
 refine xC0 h (jR ·) rfl (fun c51_13 h=> ?_)
 refine gJ rfl<|oNl<|cIf h rfl (fun q14 h=> ?_) (fun q14 h=> ?_)
 refine cRs<|xAs rfl<|oNl<|cRt ?_
 cases h
 exact eR rfl rfl rfl rfl
 refine cSk<|cRs<|xAs rfl<|oRs<|wAl rfl rfl rfl rfl<|xMv rfl<|xIo (fun c55_15=> .sl (c55_15.2.map aF)) h (oK ·) rfl (PC _) (fun _=>Cn _ _) (fun c55_15 h=> ?_)
 refine xAs rfl<|oNl<|cSq<|cRs<|oJn h [(56,68)] [] (fun v68_16=>(.n,[(68,Bo v68_16)],[])) (fun _ h=> ?_) (fun v68_16 h=> ?_)
 refine xMv rfl<|xLt rfl<|xMv rfl<|oIf 58 h rfl (fun q17 h=> ?_) (fun q17 h=> ?_)
 exact wSk rfl<|wSk rfl<|wSk rfl<|wSk rfl<|xPk rfl<|xMv rfl<|wSk rfl<|wSk rfl<|wSk rfl<|xPk rfl<|oNl<|eJ h rfl
 refine xMv rfl<|xMv rfl<|xC0 h (jR ·) rfl (fun c61_18 h=> ?_)
 refine gJ rfl<|xPk rfl<|xMv rfl<|oIf 64 h rfl (fun q19 h=> ?_) (fun q19 h=> ?_)
 exact wSk rfl<|wSk rfl<|wSk rfl<|xPk rfl<|oNl<|eJ h rfl
 exact xMv rfl<|xMv rfl<|xNe rfl<|xPk rfl<|oNl<|eJ h rfl
 refine cIf h rfl (fun q20 h=> ?_) (fun q20 h=> ?_)
 refine cRs<|xAs rfl<|oNl<|cRt ?_
 cases h
 exact eR rfl rfl rfl rfl
 refine cSk<|cRs<|xAs rfl<|oRs<|wAl rfl rfl rfl rfl<|xMv rfl<|xIo (fun c71_21=> .sl (c71_21.2.map aF)) h (oK ·) rfl (PC _) (fun _=>Cn _ _) (fun c71_21 h=> ?_)
 refine xAs rfl<|oRs<|xAs rfl<|oRs<|xMv rfl<|xMv rfl<|xC0 h (oL ·) rfl (fun c74_22 h=> ?_)
 refine xAs rfl<|oNl<|cSq<|cRs<|xMv rfl<|xLt rfl<|oNl<|cIf h rfl (fun q23 h=> ?_) (fun q23 h=> ?_)
 refine cRs<|xAs rfl<|oNl<|cRt ?_
 cases h
 exact eR rfl rfl rfl rfl
 refine cSk<|cSq<|cRs<|xMv rfl<|xMv rfl<|xNe rfl<|oNl<|cIf h rfl (fun q24 h=> ?_) (fun q24 h=> ?_)
 refine cRs<|xAs rfl<|oNl<|cRt ?_
 cases h
 exact eR rfl rfl rfl rfl
 refine cSk<|cRs<|xMv rfl<|xC0 h (jQ ·) rfl (fun c82_25 h=> ?_)
 refine xMv rfl<|xC0 h (pD ·) rfl (fun c84_26 h=> ?_)
 refine xMv rfl<|xEt rfl<|xEt rfl<|xAs rfl<|xAs rfl<|oNl<|cSq<|cRs<|oJn h [(87,95)] [] (fun v95_27=>(.n,[(95,Bo v95_27)],[])) (fun _ h=> ?_) (fun v95_27 h=> ?_)
 refine xMv rfl<|xMv rfl<|xC0 h (jR ·) rfl (fun c89_28 h=> ?_)
 refine gJ rfl<|xMv rfl<|oIf 91 h rfl (fun q29 h=> ?_) (fun q29 h=> ?_)
 exact wSk rfl<|wSk rfl<|wSk rfl<|xPk rfl<|oNl<|eJ h rfl
 exact xMv rfl<|xMv rfl<|xNe rfl<|xPk rfl<|oNl<|eJ h rfl
 refine cIf h rfl (fun q30 h=> ?_) (fun q30 h=> ?_)
 refine cRs<|xAs rfl<|oNl<|cRt ?_
 cases h
 exact eR rfl rfl rfl rfl
 refine cSk<|cRs<|xAs rfl<|oRs<|xMv rfl<|xMv rfl<|xC0 h (oL ·) rfl (fun c98_31 h=> ?_)
 refine xAs rfl<|oNl<|cSq<|cRs<|xMv rfl<|xLt rfl<|oNl<|cIf h rfl (fun q32 h=> ?_) (fun q32 h=> ?_)
 refine cRs<|xAs rfl<|oNl<|cRt ?_
 cases h
 exact eR rfl rfl rfl rfl
 refine cSk<|cSq<|cRs<|xMv rfl<|xMv rfl<|xNe rfl<|oNl<|cIf h rfl (fun q33 h=> ?_) (fun q33 h=> ?_)
 refine cRs<|xAs rfl<|oNl<|cRt ?_
 cases h
 exact eR rfl rfl rfl rfl
 refine cSk<|cRs<|xAs rfl<|oNl<|cRt ?_
 cases h
 exact eR rfl rfl rfl rfl
end Go.Own
