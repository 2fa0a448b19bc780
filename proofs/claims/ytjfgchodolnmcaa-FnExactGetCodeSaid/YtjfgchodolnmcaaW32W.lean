/- Each function on plain data, and its walk. No conditions. -/
import Derived.Test.YtjfgchodolnmcaaW32V
set_option linter.unusedVariables false
set_option linter.unusedSimpArgs false
set_option linter.unnecessarySimpa false
namespace Go.Own
open Go Go.Proofs
def kI(n:Nat)(t0_0:Int)(t1_0:Int)(t2_0:List UInt8)(t3_0:Int):Option (Bool):=
  bif decide (t0_0=(1:Int))then((aL n t1_0 (0:Int) (1000000000000:Int)).bind fun c13_3=>bif c13_3 then bif decide (t2_0=([]:List UInt8))then some (decide (t3_0=(0:Int)))else some false else some false).bind fun v8_2=>some v8_2 else bif decide (t0_0=(2:Int))then(bif decide (t1_0=(0:Int))then(dS n t2_0).bind fun c28_9=>bif c28_9 then some (decide (t3_0=(0:Int)))else some false else some false).bind fun v8_7=>some v8_7 else bif decide (t0_0=(3:Int))then(bif decide (t1_0=(0:Int))then(mP n t2_0).bind fun c40_14=>bif c40_14 then some (decide (t3_0=(0:Int)))else some false else some false).bind fun v8_12=>some v8_12 else bif decide (t0_0=(4:Int))then(bif decide (t1_0=(0:Int))then bif decide (t2_0=([]:List UInt8))then some (decide (t3_0≤(20:Int)))else some false else some false).bind fun v8_17=>some v8_17 else bif decide (t0_0=(5:Int))then(bif decide (t1_0=(0:Int))then bif decide (t2_0=([]:List UInt8))then some (decide (t3_0≤(20:Int)))else some false else some false).bind fun v8_21=>some v8_21 else bif decide (t0_0=(6:Int))then(bif decide (t1_0=(0:Int))then bif decide (t2_0=([]:List UInt8))then(aL n t3_0 (2:Int) (6:Int)).bind fun c69_28=>some c69_28 else some false else some false).bind fun v8_25=>some v8_25 else bif decide (t0_0=(7:Int))then(bif decide (t1_0=(0:Int))then(lY n t2_0).bind fun c77_32=>bif c77_32 then some (decide (t3_0=(2:Int)))else some false else some false).bind fun v8_30=>some v8_30 else bif decide (t0_0=(8:Int))then(bif decide (t1_0=(0:Int))then(dS n t2_0).bind fun c89_37=>bif c89_37 then some (decide (t3_0≤(4:Int)))else some false else some false).bind fun v8_35=>some v8_35 else bif decide (t0_0=(9:Int))then(bif decide (t1_0=(0:Int))then bif decide (t2_0=([]:List UInt8))then some (decide (t3_0=(1:Int)))else some false else some false).bind fun v8_40=>some v8_40 else some false
theorem AM{n:Nat}:DP (kI n):=by
 intro t0_0 t1_0 t2_0 t3_0 r h
 unfold kI at h
 refine bF Try.func217 rfl rfl<|cRs<|xAs rfl<|oNl<|cSq<|cRs<|xMv rfl<|oNl<|cBk<|cRs<|xEq rfl<|xAs rfl<|oNl<|cIf h rfl (fun q1 h=> ?_) (fun q1 h=> ?_)
 refine cRs<|oJn h [(8,8),(12,21)] [] (fun v8_2=>(.n,[(8,Bo v8_2)],[])) (fun _ h=> ?_) (fun v8_2 h=> ?_)
 refine xMv rfl<|xC0 h (aN ·) rfl (fun c13_3 h=> ?_)
 refine xMv rfl<|oIf 14 h rfl (fun q4 h=> ?_) (fun q4 h=> ?_)
 refine xMv rfl<|xEs rfl<|xPk rfl<|xMv rfl<|oIf 18 h rfl (fun q5 h=> ?_) (fun q5 h=> ?_)
 exact xMv rfl<|xEq rfl<|xPk rfl<|xAs rfl<|oNl<|eJ h rfl
 exact wSk rfl<|wSk rfl<|xPk rfl<|xAs rfl<|oNl<|eJ h rfl
 exact wSk rfl<|wSk rfl<|xPk rfl<|xMv rfl<|wSk rfl<|wSk rfl<|xPk rfl<|xAs rfl<|oNl<|eJ h rfl
 refine cRt ?_
 cases h
 exact eR rfl rfl rfl rfl
 refine cRs<|xEq rfl<|xAs rfl<|oNl<|cIf h rfl (fun q6 h=> ?_) (fun q6 h=> ?_)
 refine cRs<|oJn h [(8,8),(24,33)] [] (fun v8_7=>(.n,[(8,Bo v8_7)],[])) (fun _ h=> ?_) (fun v8_7 h=> ?_)
 refine xMv rfl<|xEq rfl<|xMv rfl<|oIf 26 h rfl (fun q8 h=> ?_) (fun q8 h=> ?_)
 refine xMv rfl<|xC0 h (kV ·) rfl (fun c28_9 h=> ?_)
 refine xPk rfl<|xMv rfl<|oIf 30 h rfl (fun q10 h=> ?_) (fun q10 h=> ?_)
 exact xMv rfl<|xEq rfl<|xPk rfl<|xAs rfl<|oNl<|eJ h rfl
 exact wSk rfl<|wSk rfl<|xPk rfl<|xAs rfl<|oNl<|eJ h rfl
 exact wSk rfl<|wSk rfl<|xPk rfl<|xMv rfl<|wSk rfl<|wSk rfl<|xPk rfl<|xAs rfl<|oNl<|eJ h rfl
 refine cRt ?_
 cases h
 exact eR rfl rfl rfl rfl
 refine cRs<|xEq rfl<|xAs rfl<|oNl<|cIf h rfl (fun q11 h=> ?_) (fun q11 h=> ?_)
 refine cRs<|oJn h [(8,8),(36,45)] [] (fun v8_12=>(.n,[(8,Bo v8_12)],[])) (fun _ h=> ?_) (fun v8_12 h=> ?_)
 refine xMv rfl<|xEq rfl<|xMv rfl<|oIf 38 h rfl (fun q13 h=> ?_) (fun q13 h=> ?_)
 refine xMv rfl<|xC0 h (Cw ·) rfl (fun c40_14 h=> ?_)
 refine xPk rfl<|xMv rfl<|oIf 42 h rfl (fun q15 h=> ?_) (fun q15 h=> ?_)
 exact xMv rfl<|xEq rfl<|xPk rfl<|xAs rfl<|oNl<|eJ h rfl
 exact wSk rfl<|wSk rfl<|xPk rfl<|xAs rfl<|oNl<|eJ h rfl
 exact wSk rfl<|wSk rfl<|xPk rfl<|xMv rfl<|wSk rfl<|wSk rfl<|xPk rfl<|xAs rfl<|oNl<|eJ h rfl
 refine cRt ?_
 cases h
 exact eR rfl rfl rfl rfl
 refine cSq<|cRs<|xEq rfl<|xAs rfl<|oNl<|cIf h rfl (fun q16 h=> ?_) (fun q16 h=> ?_)
 refine cSk<|cT rfl<|cRs<|oJn h [(8,8),(49,58)] [] (fun v8_17=>(.n,[(8,Bo v8_17)],[])) (fun _ h=> ?_) (fun v8_17 h=> ?_)
 refine xMv rfl<|xEq rfl<|xMv rfl<|oIf 51 h rfl (fun q18 h=> ?_) (fun q18 h=> ?_)
 refine xMv rfl<|xEs rfl<|xPk rfl<|xMv rfl<|oIf 55 h rfl (fun q19 h=> ?_) (fun q19 h=> ?_)
 exact xMv rfl<|xLe rfl<|xPk rfl<|xAs rfl<|oNl<|eJ h rfl
 exact wSk rfl<|wSk rfl<|xPk rfl<|xAs rfl<|oNl<|eJ h rfl
 exact wSk rfl<|wSk rfl<|xPk rfl<|xMv rfl<|wSk rfl<|wSk rfl<|xPk rfl<|xAs rfl<|oNl<|eJ h rfl
 refine cRt ?_
 cases h
 exact eR rfl rfl rfl rfl
 refine cRg<|xEq rfl<|xAs rfl<|oNl<|cIf h rfl (fun q20 h=> ?_) (fun q20 h=> ?_)
 refine cRs<|oJn h [(8,8),(49,58)] [] (fun v8_21=>(.n,[(8,Bo v8_21)],[])) (fun _ h=> ?_) (fun v8_21 h=> ?_)
 refine xMv rfl<|xEq rfl<|xMv rfl<|oIf 51 h rfl (fun q22 h=> ?_) (fun q22 h=> ?_)
 refine xMv rfl<|xEs rfl<|xPk rfl<|xMv rfl<|oIf 55 h rfl (fun q23 h=> ?_) (fun q23 h=> ?_)
 exact xMv rfl<|xLe rfl<|xPk rfl<|xAs rfl<|oNl<|eJ h rfl
 exact wSk rfl<|wSk rfl<|xPk rfl<|xAs rfl<|oNl<|eJ h rfl
 exact wSk rfl<|wSk rfl<|xPk rfl<|xMv rfl<|wSk rfl<|wSk rfl<|xPk rfl<|xAs rfl<|oNl<|eJ h rfl
 refine cRt ?_
 cases h
 exact eR rfl rfl rfl rfl
 refine cRs<|xEq rfl<|xAs rfl<|oNl<|cIf h rfl (fun q24 h=> ?_) (fun q24 h=> ?_)
 refine cRs<|oJn h [(8,8),(61,70)] [] (fun v8_25=>(.n,[(8,Bo v8_25)],[])) (fun _ h=> ?_) (fun v8_25 h=> ?_)
 refine xMv rfl<|xEq rfl<|xMv rfl<|oIf 63 h rfl (fun q26 h=> ?_) (fun q26 h=> ?_)
 refine xMv rfl<|xEs rfl<|xPk rfl<|xMv rfl<|oIf 67 h rfl (fun q27 h=> ?_) (fun q27 h=> ?_)
 refine xMv rfl<|xC0 h (aN ·) rfl (fun c69_28 h=> ?_)
 exact xPk rfl<|xAs rfl<|oNl<|eJ h rfl
 exact wSk rfl<|wSk rfl<|xPk rfl<|xAs rfl<|oNl<|eJ h rfl
 exact wSk rfl<|wSk rfl<|xPk rfl<|xMv rfl<|wSk rfl<|wSk rfl<|xPk rfl<|xAs rfl<|oNl<|eJ h rfl
 refine cRt ?_
 cases h
 exact eR rfl rfl rfl rfl
 refine cRs<|xEq rfl<|xAs rfl<|oNl<|cIf h rfl (fun q29 h=> ?_) (fun q29 h=> ?_)
 refine cRs<|oJn h [(8,8),(73,82)] [] (fun v8_30=>(.n,[(8,Bo v8_30)],[])) (fun _ h=> ?_) (fun v8_30 h=> ?_)
 refine xMv rfl<|xEq rfl<|xMv rfl<|oIf 75 h rfl (fun q31 h=> ?_) (fun q31 h=> ?_)
 refine xMv rfl<|xC0 h (wG ·) rfl (fun c77_32 h=> ?_)
 refine xPk rfl<|xMv rfl<|oIf 79 h rfl (fun q33 h=> ?_) (fun q33 h=> ?_)
 exact xMv rfl<|xEq rfl<|xPk rfl<|xAs rfl<|oNl<|eJ h rfl
 exact wSk rfl<|wSk rfl<|xPk rfl<|xAs rfl<|oNl<|eJ h rfl
 exact wSk rfl<|wSk rfl<|xPk rfl<|xMv rfl<|wSk rfl<|wSk rfl<|xPk rfl<|xAs rfl<|oNl<|eJ h rfl
 refine cRt ?_
 cases h
 exact eR rfl rfl rfl rfl
 refine cRs<|xEq rfl<|xAs rfl<|oNl<|cIf h rfl (fun q34 h=> ?_) (fun q34 h=> ?_)
 refine cRs<|oJn h [(8,8),(85,94)] [] (fun v8_35=>(.n,[(8,Bo v8_35)],[])) (fun _ h=> ?_) (fun v8_35 h=> ?_)
 refine xMv rfl<|xEq rfl<|xMv rfl<|oIf 87 h rfl (fun q36 h=> ?_) (fun q36 h=> ?_)
 refine xMv rfl<|xC0 h (kV ·) rfl (fun c89_37 h=> ?_)
 refine xPk rfl<|xMv rfl<|oIf 91 h rfl (fun q38 h=> ?_) (fun q38 h=> ?_)
 exact xMv rfl<|xLe rfl<|xPk rfl<|xAs rfl<|oNl<|eJ h rfl
 exact wSk rfl<|wSk rfl<|xPk rfl<|xAs rfl<|oNl<|eJ h rfl
 exact wSk rfl<|wSk rfl<|xPk rfl<|xMv rfl<|wSk rfl<|wSk rfl<|xPk rfl<|xAs rfl<|oNl<|eJ h rfl
 refine cRt ?_
 cases h
 exact eR rfl rfl rfl rfl
 refine cRs<|xEq rfl<|xAs rfl<|oNl<|cIf h rfl (fun q39 h=> ?_) (fun q39 h=> ?_)
 refine cRs<|oJn h [(8,8),(97,106)] [] (fun v8_40=>(.n,[(8,Bo v8_40)],[])) (fun _ h=> ?_) (fun v8_40 h=> ?_)
 refine xMv rfl<|xEq rfl<|xMv rfl<|oIf 99 h rfl (fun q41 h=> ?_) (fun q41 h=> ?_)
 refine xMv rfl<|xEs rfl<|xPk rfl<|xMv rfl<|oIf 103 h rfl (fun q42 h=> ?_) (fun q42 h=> ?_)
 exact xMv rfl<|xEq rfl<|xPk rfl<|xAs rfl<|oNl<|eJ h rfl
 exact wSk rfl<|wSk rfl<|xPk rfl<|xAs rfl<|oNl<|eJ h rfl
 exact wSk rfl<|wSk rfl<|xPk rfl<|xMv rfl<|wSk rfl<|wSk rfl<|xPk rfl<|xAs rfl<|oNl<|eJ h rfl
 refine cRt ?_
 cases h
 exact eR rfl rfl rfl rfl
 refine cSk<|cRs<|xAs rfl<|oNl<|cRt ?_
 cases h
 exact eR rfl rfl rfl rfl
abbrev dZ:Type:=Int→Int→(List UInt8)→(List aA)→Int→Int→Int→(List Int)→Option (Bool×Int×Int×(List Int))
abbrev jB(p:dZ):Prop:= ∀ {t1_0 t1_1:Int} {t1_2:List UInt8} {t1_3:List aA} {t2_0 o0_0 o0_1:Int} {o0_2:List Int} {r:Bool×Int×Int×(List Int)},p t1_0 t1_1 t1_2 t1_3 t2_0 o0_0 o0_1 o0_2=some r→Big Try.prog τ An (.fn 131 [.one (.ptr 1000000 0), .one (.ag [.int .i64 t1_0, .int .i64 t1_1, .str t1_2, .sl (t1_3.map aD)]), .one (.c (.int .i64 t2_0))] [[.int .i64 o0_0, .int .i64 o0_1, .sl (o0_2.map aV)]] (.one (.c (.bool r.1))) none [[.int .i64 r.2.1, .int .i64 r.2.2.1, .sl (r.2.2.2.map aV)]] none)
def cU(n:Nat)(r_impl_fitter_fits:dZ)(t2_0:Int)(t1_3:List aA):(Int×Int×Int×(List Int))→Option ((Int×Int×Int×(List Int))⊕((Bool×Int×Int×(List Int))⊕(Int×Bool×Int×Int×(List Int))))
  | (v92_18,w1000000_19,w1000000_20,w1000000_21)=>bif decide (v92_18<(t1_3.length:Int))then(ix t1_3 v92_18).bind fun e94_32=>(r_impl_fitter_fits e94_32.f0 e94_32.f1 e94_32.f2 e94_32.f3 (IntKind.wrap .i64 (t2_0+(1:Int))) w1000000_19 w1000000_20 w1000000_21).bind fun c100_33=>bif !c100_33.1 then some (.inr (.inl (false,c100_33.2.1,c100_33.2.2.1,c100_33.2.2.2)))else some (.inl ((IntKind.wrap .i64 (v92_18+(1:Int))),c100_33.2.1,c100_33.2.2.1,c100_33.2.2.2))else some (.inr (.inr (v92_18,false,w1000000_19,w1000000_20,w1000000_21)))
def fU(n:Nat)(r_impl_fitter_fits:dZ)(t1_0:Int)(t1_1:Int)(t1_2:List UInt8)(t1_3:List aA)(t2_0:Int)(o0_0:Int)(o0_1:Int)(o0_2:List Int):Option (Bool×Int×Int×(List Int)):=
  (bif decide ((10:Int)<t2_0)then some true else some (decide ((300:Int)<(IntKind.wrap .i64 (o0_1+(1:Int)))))).bind fun v24_1=>bif v24_1 then some (false,o0_0,(IntKind.wrap .i64 (o0_1+(1:Int))),o0_2)else bif decide (t1_0=(3:Int))then((aL n t1_1 ((-1):Int) (IntKind.wrap .i64 (o0_0 - (1:Int)))).bind fun c35_6=>bif !c35_6 then some true else bif !decide (t1_2=([]:List UInt8))then some true else bif decide ((0:Int)<(t1_3.length:Int))then some true else bif decide ((0:Int)≤t1_1)then(dF n o0_2 t1_1).bind fun c59_11=>some c59_11 else some false).bind fun v61_5=>bif v61_5 then some (false,o0_0,(IntKind.wrap .i64 (o0_1+(1:Int))),o0_2)else(iI 8 o0_2 ([t1_1]:List Int)).bind fun v70_13=>some (true,o0_0,(IntKind.wrap .i64 (o0_1+(1:Int))),v70_13)else(bif decide ((6:Int)<t1_0)then some true else(kI n t1_0 t1_1 t1_2 (t1_3.length:Int)).bind fun c86_16=>some (!c86_16)).bind fun v88_14=>bif v88_14 then some (false,o0_0,(IntKind.wrap .i64 (o0_1+(1:Int))),o0_2)else(loopN (cU n r_impl_fitter_fits t2_0 t1_3) n ((0:Int),o0_0,(IntKind.wrap .i64 (o0_1+(1:Int))),o0_2)).bind fun q=>(match q with | .inl (v6_22,w1000000_23,w1000000_24,w1000000_25)=>some (v6_22,w1000000_23,w1000000_24,w1000000_25) | .inr (v92_26,v93_27,w1000000_28,w1000000_29,w1000000_30)=>some (true,w1000000_28,w1000000_29,w1000000_30))
theorem tB{n:Nat}{r_impl_fitter_fits:dZ}(ih_impl_fitter_fits:jB r_impl_fitter_fits):jB (fU n r_impl_fitter_fits):=by
 intro t1_0 t1_1 t1_2 t1_3 t2_0 o0_0 o0_1 o0_2 r h
 unfold fU at h
 refine bF Try.func131 rfl rfl<|cRs<|xBx rfl<|xAs rfl<|oRs<|xMv rfl<|xNc rfl<|xFd rfl<|xLd rfl<|cD rfl<|xNc rfl<|xFd rfl<|xSt rfl<|oNl ?_
 refine cSq<|cRs<|oJn h [(16,24)] [] (fun v24_1=>(.n,[(24,Bo v24_1)],[])) (fun _ h=> ?_) (fun v24_1 h=> ?_)
 refine xMv rfl<|xGt rfl<|xMv rfl<|oIf 18 h rfl (fun q2 h=> ?_) (fun q2 h=> ?_)
 exact wSk rfl<|wSk rfl<|wSk rfl<|wSk rfl<|wSk rfl<|xPk rfl<|oNl<|eJ h rfl
 exact xMv rfl<|xNc rfl<|xFd rfl<|xLd rfl<|xGt rfl<|xPk rfl<|oNl<|eJ h rfl
 refine cIf h rfl (fun q3 h=> ?_) (fun q3 h=> ?_)
 refine cRs<|xAs rfl<|oNl<|cRt ?_
 cases h
 exact eR rfl rfl rfl rfl
 refine cSk<|cSq<|cRs<|xFd rfl<|xLd rfl<|xEq rfl<|oNl<|cIf h rfl (fun q4 h=> ?_) (fun q4 h=> ?_)
 refine cSq<|cRs<|oJn h [(28,61)] [] (fun v61_5=>(.n,[(61,Bo v61_5)],[])) (fun _ h=> ?_) (fun v61_5 h=> ?_)
 refine xFd rfl<|xLd rfl<|xMv rfl<|xNc rfl<|xFd rfl<|xLd rfl<|sB rfl<|xC0 h (aN ·) rfl (fun c35_6 h=> ?_)
 refine fC rfl<|xMv rfl<|oIf 37 h rfl (fun q7 h=> ?_) (fun q7 h=> ?_)
 refine wSk rfl<|wSk rfl<|wSk rfl<|xPk rfl<|xMv rfl<|wSk rfl<|wSk rfl<|wSk rfl<|wSk rfl<|xPk rfl<|xMv rfl<|wSk rfl<|wSk rfl<|wSk rfl ?_
 exact wSk rfl<|wSk rfl<|wSk rfl<|wSk rfl<|wSk rfl<|wSk rfl<|wSk rfl<|wSk rfl<|wSk rfl<|xPk rfl<|oNl<|eJ h rfl
 refine xFd rfl<|xLd rfl<|xNs rfl<|xPk rfl<|xMv rfl<|oIf 42 h rfl (fun q8 h=> ?_) (fun q8 h=> ?_)
 refine wSk rfl<|wSk rfl<|wSk rfl<|wSk rfl<|xPk rfl<|xMv rfl<|wSk rfl<|wSk rfl<|wSk rfl<|wSk rfl<|wSk rfl<|wSk rfl<|wSk rfl<|wSk rfl ?_
 exact wSk rfl<|wSk rfl<|wSk rfl<|wSk rfl<|xPk rfl<|oNl<|eJ h rfl
 refine xFd rfl<|xLd rfl<|xLn rfl<|xGt rfl<|xPk rfl<|xMv rfl<|oIf 48 h rfl (fun q9 h=> ?_) (fun q9 h=> ?_)
 exact wSk rfl<|wSk rfl<|wSk rfl<|wSk rfl<|wSk rfl<|wSk rfl<|wSk rfl<|wSk rfl<|wSk rfl<|wSk rfl<|wSk rfl<|wSk rfl<|xPk rfl<|oNl<|eJ h rfl
 refine xFd rfl<|xLd rfl<|xGe rfl<|xMv rfl<|oIf 52 h rfl (fun q10 h=> ?_) (fun q10 h=> ?_)
 refine xMv rfl<|xNc rfl<|xFd rfl<|xLd rfl<|xFd rfl<|xLd rfl<|xC0 h (qP ·) rfl (fun c59_11 h=> ?_)
 exact xPk rfl<|xPk rfl<|oNl<|eJ h rfl
 exact wSk rfl<|wSk rfl<|wSk rfl<|wSk rfl<|wSk rfl<|wSk rfl<|wSk rfl<|xPk rfl<|xPk rfl<|oNl<|eJ h rfl
 refine cIf h rfl (fun q12 h=> ?_) (fun q12 h=> ?_)
 refine cRs<|xAs rfl<|oNl<|cRt ?_
 cases h
 exact eR rfl rfl rfl rfl
 refine cSk<|cRs<|xMv rfl<|xMv rfl<|xNc rfl<|xFd rfl<|xLd rfl<|xFd rfl<|xLd rfl<|nG (L:=([t1_1]:List Int)) (f:=aV) rfl rfl rfl rfl rfl rfl rfl<|wAp (f:=aV) h rfl rfl rfl rfl rfl rfl rfl rfl rfl (fun _=>rfl) rfl (fun v70_13 h=> ?_)
 refine xNc rfl<|xFd rfl<|xSt rfl<|oRs<|xAs rfl<|oNl<|cRt ?_
 cases h
 exact eR rfl rfl rfl rfl
 refine cSk<|cSq<|cRs<|oJn h [(73,88)] [] (fun v88_14=>(.n,[(88,Bo v88_14)],[])) (fun _ h=> ?_) (fun v88_14 h=> ?_)
 refine xFd rfl<|xLd rfl<|xGt rfl<|xMv rfl<|oIf 76 h rfl (fun q15 h=> ?_) (fun q15 h=> ?_)
 exact wSk rfl<|wSk rfl<|wSk rfl<|wSk rfl<|wSk rfl<|wSk rfl<|wSk rfl<|wSk rfl<|wSk rfl<|wSk rfl<|wSk rfl<|xPk rfl<|oNl<|eJ h rfl
 refine xFd rfl<|xLd rfl<|xFd rfl<|xLd rfl<|xFd rfl<|xLd rfl<|xFd rfl<|xLd rfl<|xLn rfl<|xC0 h (AM ·) rfl (fun c86_16 h=> ?_)
 exact fC rfl<|xPk rfl<|oNl<|eJ h rfl
 refine cIf h rfl (fun q17 h=> ?_) (fun q17 h=> ?_)
 refine cRs<|xAs rfl<|oNl<|cRt ?_
 cases h
 exact eR rfl rfl rfl rfl
 refine cSk<|cSq<|cRs<|xFd rfl<|xLd rfl<|xLn rfl<|xMv rfl<|oNl<|cLp h [(6,6),(8,8),(92,102)] [(8,8),(1000000,1000000)] (fun(v92_18,w1000000_19,w1000000_20,w1000000_21)=>([(92,I64 v92_18)],[(1000000,[.int .i64 w1000000_19, .int .i64 w1000000_20, .sl (w1000000_21.map aV)])])) (fun q=>match q with | .inl (v6_22,w1000000_23,w1000000_24,w1000000_25)=>(.r,[(6,Bo v6_22)],[(1000000,[.int .i64 w1000000_23, .int .i64 w1000000_24, .sl (w1000000_25.map aV)])]) | .inr (v92_26,v93_27,w1000000_28,w1000000_29,w1000000_30)=>(.e 0,[(92,I64 v92_26),(93,Bo v93_27)],[(1000000,[.int .i64 w1000000_28, .int .i64 w1000000_29, .sl (w1000000_30.map aV)])])) rfl (fun st _ h=> ?_) (fun q h=> ?_)
 obtain⟨v92_18,w1000000_19,w1000000_20,w1000000_21⟩:=st
 unfold cU at h
 refine cRs<|xLt rfl<|oNl<|cSq<|cIf h rfl (fun q31 h=> ?_) (fun q31 h=> ?_)
 refine cSk<|cSq<|cBk<|cRs<|xIx h aH rfl (fun e94_32 h=> ?_)
 refine xLd rfl<|xAz [.int .i64 0, .int .i64 0, .str [], .sl ([].map aD)] rfl<|xSt rfl<|oRs<|xMv rfl<|xLd rfl<|xMv rfl<|cD rfl<|xC1 h (ih_impl_fitter_fits ·) rfl (fun c100_33 h=> ?_)
 refine fC rfl<|oNl<|cIf h rfl (fun q34 h=> ?_) (fun q34 h=> ?_)
 exact cRs<|xAs rfl<|oNl<|cRt<|eXr h rfl
 exact cSk<|cRg<|cD rfl<|xMv rfl<|oNl<|eL h rfl
 exact cEx<|eX h rfl
 rcases q with⟨v6_22,w1000000_23,w1000000_24,w1000000_25⟩ | ⟨v92_26,v93_27,w1000000_28,w1000000_29,w1000000_30⟩
 cases h
 exact eR rfl rfl rfl rfl
 refine cRs<|xAs rfl<|oNl<|cRt ?_
 cases h
 exact eR rfl rfl rfl rfl
def oY:Nat→(dZ)
  | 0=>(fun _ _ _ _ _ _ _ _=>none)
  | n+1=>fU n (oY n)
def bW(n:Nat):dZ:=oY n
theorem tD(n:Nat):jB (bW n):=by
  induction n with
  | zero=>exact(fun h=>nomatch h)
  | succ n ih=>exact tB (n:=n) ih
theorem tV{n:Nat}:jB (bW n):=(tD n)
theorem qW(n:Nat):bW (n+1)=fU n (bW n):=rfl
abbrev DX(p:Int→Int→(List UInt8)→(List aA)→Int→Option (Bool)):Prop:= ∀ {t0_0 t0_1:Int} {t0_2:List UInt8} {t0_3:List aA} {t1_0:Int} {r:Bool},p t0_0 t0_1 t0_2 t0_3 t1_0=some r→Big Try.prog τ An (.fn 45 [.one (.ag [.int .i64 t0_0, .int .i64 t0_1, .str t0_2, .sl (t0_3.map aD)]), .one (.c (.int .i64 t1_0))] [] (.one (.c (.bool r))) none [] none)
def gG(n:Nat)(t0_0:Int)(t0_1:Int)(t0_2:List UInt8)(t0_3:List aA)(t1_0:Int):Option (Bool):=
  ((aL n t1_0 (0:Int) (400:Int)).bind fun c9_5=>bif c9_5 then(bW n t0_0 t0_1 t0_2 t0_3 (1:Int) t1_0 (0:Int) ([]:List Int)).bind fun c12_7=>some (c12_7.1,c12_7.2.1,c12_7.2.2.1,c12_7.2.2.2)else some (false,t1_0,(0:Int),([]:List Int))).bind fun(v4_1,w5_2,w5_3,w5_4)=>some v4_1
theorem rM{n:Nat}:DX (gG n):=by
 intro t0_0 t0_1 t0_2 t0_3 t1_0 r h
 unfold gG at h
 refine bF Try.func45 rfl rfl<|cRs<|xBx rfl<|xAs rfl<|oRs<|xMv rfl<|wBd [.int .i64 t1_0, .int .i64 0, .sl ([].map aV)] rfl rfl rfl rfl rfl rfl<|xAz [.int .i64 0, .int .i64 0, .sl ([].map aV)] rfl<|xSt rfl<|oRs<|oJn h [(4,4),(8,13)] [(5,5)] (fun(v4_1,w5_2,w5_3,w5_4)=>(.n,[(4,Bo v4_1)],[(5,[.int .i64 w5_2, .int .i64 w5_3, .sl (w5_4.map aV)])])) (fun _ h=> ?_) (fun q h=> ?_)
 refine xMv rfl<|xC0 h (aN ·) rfl (fun c9_5 h=> ?_)
 refine xMv rfl<|oIf 10 h rfl (fun q6 h=> ?_) (fun q6 h=> ?_)
 refine xLd rfl<|xC1 h (tV ·) rfl (fun c12_7 h=> ?_)
 exact xPk rfl<|xAs rfl<|oNl<|eJ h rfl
 exact wSk rfl<|wSk rfl<|xPk rfl<|xAs rfl<|oNl<|eJ h rfl
 obtain⟨v4_1,w5_2,w5_3,w5_4⟩:=q
 refine cRt ?_
 cases h
 exact eR rfl rfl rfl rfl
abbrev HA(p:(List UInt8)→Int→Int→(List aC)→Int→Int→(List UInt8)→Int→(List aB)→(List aA)→Option (Bool×(List aB)×(List aA))):Prop:= ∀ {t1_0:List UInt8} {t1_1 t1_2:Int} {t1_3:List aC} {t2_0 t2_1:Int} {t2_2:List UInt8} {t2_3:Int} {o0_0:List aB} {o0_1:List aA} {r:Bool×(List aB)×(List aA)},p t1_0 t1_1 t1_2 t1_3 t2_0 t2_1 t2_2 t2_3 o0_0 o0_1=some r→Big Try.prog τ An (.fn 214 [.one (.ptr 1000000 0), .one (.cp [.str t1_0, .int .i64 t1_1, .int .i64 t1_2, .sl (t1_3.map aJ)]), .one (.ag [.int .i64 t2_0, .int .i64 t2_1, .str t2_2, .int .i64 t2_3])] [[.sl (o0_0.map aG), .sl (o0_1.map aD)]] (.one (.c (.bool r.1))) none [[.sl (r.2.1.map aG), .sl (r.2.2.map aD)]] none)
def kZ(n:Nat)(t1_0:List UInt8)(t1_1:Int)(t1_2:Int)(t1_3:List aC)(t2_0:Int)(t2_1:Int)(t2_2:List UInt8)(t2_3:Int)(o0_0:List aB)(o0_1:List aA):Option (Bool×(List aB)×(List aA)):=
  (bif decide (t2_2=([]:List UInt8))then some (decide (t2_3=(0:Int)))else some false).bind fun v7_1=>(aL n t2_3 (0:Int) (IntKind.wrap .i64 ((t1_3.length:Int) - (1:Int)))).bind fun c26_3=>bif decide (t2_0=(1:Int))then(bif v7_1 then(aL n t2_1 (0:Int) (1000000000000:Int)).bind fun c35_7=>some c35_7 else some false).bind fun v6_5=>some (v6_5,o0_0,o0_1)else bif decide (t2_0=(2:Int))then(bif decide (t2_1=(0:Int))then(dS n t2_2).bind fun c45_11=>bif c45_11 then some (decide (t2_3=(0:Int)))else some false else some false).bind fun v6_9=>some (v6_9,o0_0,o0_1)else bif decide (t2_0=(3:Int))then(bif v7_1 then(aL n t2_1 (0:Int) (IntKind.wrap .i64 (t1_2 - (1:Int)))).bind fun c63_16=>some c63_16 else some false).bind fun v6_14=>some (v6_14,o0_0,o0_1)else bif decide (t2_0=(4:Int))then(bif v7_1 then(aL n t2_1 (0:Int) (20:Int)).bind fun c72_20=>some c72_20 else some false).bind fun v6_18=>some (v6_18,o0_0,o0_1)else bif decide (t2_0=(5:Int))then(bif v7_1 then(aL n t2_1 (0:Int) (20:Int)).bind fun c72_24=>some c72_24 else some false).bind fun v6_22=>some (v6_22,o0_0,o0_1)else bif decide (t2_0=(6:Int))then(bif v7_1 then(aL n t2_1 (2:Int) (6:Int)).bind fun c80_28=>some c80_28 else some false).bind fun v6_26=>some (v6_26,o0_0,o0_1)else bif decide (t2_0=(7:Int))then(bif decide (t2_1=(0:Int))then(lY n t2_2).bind fun c90_32=>bif c90_32 then some (decide (t2_3=(0:Int)))else some false else some false).bind fun v6_30=>some (v6_30,o0_0,o0_1)else bif decide (t2_0=(8:Int))then(lZ n t2_2 o0_0 o0_1).bind fun c102_35=>(bif decide ((0:Int)≤c102_35.1)then(ix c102_35.2.1 c102_35.1).bind fun e111_38=>bif decide (e111_38.f1=t2_1)then some (decide (t2_3=(0:Int)))else some false else some false).bind fun v6_36=>some (v6_36,c102_35.2.1,c102_35.2.2)else bif decide (t2_0=(9:Int))then(bif decide (t2_2=([]:List UInt8))then bif c26_3 then(aL n t2_1 (0:Int) (IntKind.wrap .i64 ((o0_1.length:Int) - (1:Int)))).bind fun c140_44=>bif c140_44 then(ix o0_1 t2_1).bind fun e149_46=>(gG n e149_46.f0 e149_46.f1 e149_46.f2 e149_46.f3 t1_2).bind fun c155_47=>some c155_47 else some false else some false else some false).bind fun v6_41=>some (v6_41,o0_0,o0_1)else bif decide (t2_0=(10:Int))then(bif decide (t2_2=([]:List UInt8))then bif decide (t2_1=(0:Int))then some c26_3 else some false else some false).bind fun v6_49=>some (v6_49,o0_0,o0_1)else bif decide (t2_0=(11:Int))then(bif v7_1 then some (decide (t2_1=(0:Int)))else some false).bind fun v6_53=>some (v6_53,o0_0,o0_1)else bif decide (t2_0=(12:Int))then(bif v7_1 then some (decide (t2_1=(0:Int)))else some false).bind fun v6_56=>some (v6_56,o0_0,o0_1)else some (false,o0_0,o0_1)
theorem Cx{n:Nat}:HA (kZ n):=by
 intro t1_0 t1_1 t1_2 t1_3 t2_0 t2_1 t2_2 t2_3 o0_0 o0_1 r h
 unfold kZ at h
 refine bF Try.func214 rfl rfl<|cRs<|xBx rfl<|xAs rfl<|oRs<|oJn h [(7,7),(10,17)] [] (fun v7_1=>(.n,[(7,Bo v7_1)],[])) (fun _ h=> ?_) (fun v7_1 h=> ?_)
 refine xFd rfl<|xLd rfl<|xEs rfl<|xMv rfl<|oIf 13 h rfl (fun q2 h=> ?_) (fun q2 h=> ?_)
 exact xFd rfl<|xLd rfl<|xEq rfl<|xPk rfl<|xAs rfl<|oNl<|eJ h rfl
 exact wSk rfl<|wSk rfl<|wSk rfl<|xPk rfl<|xAs rfl<|oNl<|eJ h rfl
 refine cRs<|xFd rfl<|xLd rfl<|xMv rfl<|xNc rfl<|xFd rfl<|xLd rfl<|xLn rfl<|sB rfl<|xC0 h (aN ·) rfl (fun c26_3 h=> ?_)
 refine xAs rfl<|oNl<|cSq<|cRs<|xFd rfl<|xLd rfl<|oNl<|cBk<|cRs<|xEq rfl<|xAs rfl<|oNl<|cIf h rfl (fun q4 h=> ?_) (fun q4 h=> ?_)
 refine cRs<|oJn h [(6,6),(31,36)] [] (fun v6_5=>(.n,[(6,Bo v6_5)],[])) (fun _ h=> ?_) (fun v6_5 h=> ?_)
 refine xMv rfl<|xMv rfl<|oIf 32 h rfl (fun q6 h=> ?_) (fun q6 h=> ?_)
 refine xFd rfl<|xLd rfl<|xC0 h (aN ·) rfl (fun c35_7 h=> ?_)
 exact xPk rfl<|xAs rfl<|oNl<|eJ h rfl
 exact wSk rfl<|wSk rfl<|wSk rfl<|xPk rfl<|xAs rfl<|oNl<|eJ h rfl
 refine cRt ?_
 cases h
 exact eR rfl rfl rfl rfl
 refine cRs<|xEq rfl<|xAs rfl<|oNl<|cIf h rfl (fun q8 h=> ?_) (fun q8 h=> ?_)
 refine cRs<|oJn h [(6,6),(39,51)] [] (fun v6_9=>(.n,[(6,Bo v6_9)],[])) (fun _ h=> ?_) (fun v6_9 h=> ?_)
 refine xFd rfl<|xLd rfl<|xEq rfl<|xMv rfl<|oIf 42 h rfl (fun q10 h=> ?_) (fun q10 h=> ?_)
 refine xFd rfl<|xLd rfl<|xC0 h (kV ·) rfl (fun c45_11 h=> ?_)
 refine xPk rfl<|xMv rfl<|oIf 47 h rfl (fun q12 h=> ?_) (fun q12 h=> ?_)
 exact xFd rfl<|xLd rfl<|xEq rfl<|xPk rfl<|xAs rfl<|oNl<|eJ h rfl
 exact wSk rfl<|wSk rfl<|wSk rfl<|xPk rfl<|xAs rfl<|oNl<|eJ h rfl
 exact wSk rfl<|wSk rfl<|wSk rfl<|xPk rfl<|xMv rfl<|wSk rfl<|wSk rfl<|wSk rfl<|xPk rfl<|xAs rfl<|oNl<|eJ h rfl
 refine cRt ?_
 cases h
 exact eR rfl rfl rfl rfl
 refine cRs<|xEq rfl<|xAs rfl<|oNl<|cIf h rfl (fun q13 h=> ?_) (fun q13 h=> ?_)
 refine cRs<|oJn h [(6,6),(54,64)] [] (fun v6_14=>(.n,[(6,Bo v6_14)],[])) (fun _ h=> ?_) (fun v6_14 h=> ?_)
 refine xMv rfl<|xMv rfl<|oIf 55 h rfl (fun q15 h=> ?_) (fun q15 h=> ?_)
 refine xFd rfl<|xLd rfl<|xMv rfl<|xNc rfl<|xFd rfl<|xLd rfl<|sB rfl<|xC0 h (aN ·) rfl (fun c63_16 h=> ?_)
 exact xPk rfl<|xAs rfl<|oNl<|eJ h rfl
 exact wSk rfl<|wSk rfl<|wSk rfl<|wSk rfl<|wSk rfl<|wSk rfl<|wSk rfl<|wSk rfl<|xPk rfl<|xAs rfl<|oNl<|eJ h rfl
 refine cRt ?_
 cases h
 exact eR rfl rfl rfl rfl
 refine cSq<|cRs<|xEq rfl<|xAs rfl<|oNl<|cIf h rfl (fun q17 h=> ?_) (fun q17 h=> ?_)
 refine cSk<|cT rfl<|cRs<|oJn h [(6,6),(68,73)] [] (fun v6_18=>(.n,[(6,Bo v6_18)],[])) (fun _ h=> ?_) (fun v6_18 h=> ?_)
 refine xMv rfl<|xMv rfl<|oIf 69 h rfl (fun q19 h=> ?_) (fun q19 h=> ?_)
 refine xFd rfl<|xLd rfl<|xC0 h (aN ·) rfl (fun c72_20 h=> ?_)
 exact xPk rfl<|xAs rfl<|oNl<|eJ h rfl
 exact wSk rfl<|wSk rfl<|wSk rfl<|xPk rfl<|xAs rfl<|oNl<|eJ h rfl
 refine cRt ?_
 cases h
 exact eR rfl rfl rfl rfl
 refine cRg<|xEq rfl<|xAs rfl<|oNl<|cIf h rfl (fun q21 h=> ?_) (fun q21 h=> ?_)
 refine cRs<|oJn h [(6,6),(68,73)] [] (fun v6_22=>(.n,[(6,Bo v6_22)],[])) (fun _ h=> ?_) (fun v6_22 h=> ?_)
 refine xMv rfl<|xMv rfl<|oIf 69 h rfl (fun q23 h=> ?_) (fun q23 h=> ?_)
 refine xFd rfl<|xLd rfl<|xC0 h (aN ·) rfl (fun c72_24 h=> ?_)
 exact xPk rfl<|xAs rfl<|oNl<|eJ h rfl
 exact wSk rfl<|wSk rfl<|wSk rfl<|xPk rfl<|xAs rfl<|oNl<|eJ h rfl
 refine cRt ?_
 cases h
 exact eR rfl rfl rfl rfl
 refine cRs<|xEq rfl<|xAs rfl<|oNl<|cIf h rfl (fun q25 h=> ?_) (fun q25 h=> ?_)
 refine cRs<|oJn h [(6,6),(76,81)] [] (fun v6_26=>(.n,[(6,Bo v6_26)],[])) (fun _ h=> ?_) (fun v6_26 h=> ?_)
 refine xMv rfl<|xMv rfl<|oIf 77 h rfl (fun q27 h=> ?_) (fun q27 h=> ?_)
 refine xFd rfl<|xLd rfl<|xC0 h (aN ·) rfl (fun c80_28 h=> ?_)
 exact xPk rfl<|xAs rfl<|oNl<|eJ h rfl
 exact wSk rfl<|wSk rfl<|wSk rfl<|xPk rfl<|xAs rfl<|oNl<|eJ h rfl
 refine cRt ?_
 cases h
 exact eR rfl rfl rfl rfl
 refine cRs<|xEq rfl<|xAs rfl<|oNl<|cIf h rfl (fun q29 h=> ?_) (fun q29 h=> ?_)
 refine cRs<|oJn h [(6,6),(84,96)] [] (fun v6_30=>(.n,[(6,Bo v6_30)],[])) (fun _ h=> ?_) (fun v6_30 h=> ?_)
 refine xFd rfl<|xLd rfl<|xEq rfl<|xMv rfl<|oIf 87 h rfl (fun q31 h=> ?_) (fun q31 h=> ?_)
 refine xFd rfl<|xLd rfl<|xC0 h (wG ·) rfl (fun c90_32 h=> ?_)
 refine xPk rfl<|xMv rfl<|oIf 92 h rfl (fun q33 h=> ?_) (fun q33 h=> ?_)
 exact xFd rfl<|xLd rfl<|xEq rfl<|xPk rfl<|xAs rfl<|oNl<|eJ h rfl
 exact wSk rfl<|wSk rfl<|wSk rfl<|xPk rfl<|xAs rfl<|oNl<|eJ h rfl
 exact wSk rfl<|wSk rfl<|wSk rfl<|xPk rfl<|xMv rfl<|wSk rfl<|wSk rfl<|wSk rfl<|xPk rfl<|xAs rfl<|oNl<|eJ h rfl
 refine cRt ?_
 cases h
 exact eR rfl rfl rfl rfl
 refine cRs<|xEq rfl<|xAs rfl<|oNl<|cIf h rfl (fun q34 h=> ?_) (fun q34 h=> ?_)
 refine cRs<|xMv rfl<|xFd rfl<|xLd rfl<|xC1 h (wH ·) rfl (fun c102_35 h=> ?_)
 refine xAs rfl<|oRs<|oJn h [(6,6),(103,122)] [] (fun v6_36=>(.n,[(6,Bo v6_36)],[])) (fun _ h=> ?_) (fun v6_36 h=> ?_)
 refine xMv rfl<|xGe rfl<|xMv rfl<|oIf 105 h rfl (fun q37 h=> ?_) (fun q37 h=> ?_)
 refine xMv rfl<|xNc rfl<|xFd rfl<|xLd rfl<|xMv rfl<|xIx h bN rfl (fun e111_38 h=> ?_)
 refine xFd rfl<|xLd rfl<|xFd rfl<|xLd rfl<|xEq rfl<|xPk rfl<|xMv rfl<|oIf 118 h rfl (fun q39 h=> ?_) (fun q39 h=> ?_)
 exact xFd rfl<|xLd rfl<|xEq rfl<|xPk rfl<|xAs rfl<|oNl<|eJ h rfl
 exact wSk rfl<|wSk rfl<|wSk rfl<|xPk rfl<|xAs rfl<|oNl<|eJ h rfl
 refine wSk rfl<|wSk rfl<|wSk rfl<|wSk rfl<|wSk rfl<|wSk rfl<|wSk rfl<|wSk rfl<|wSk rfl<|wSk rfl<|wSk rfl<|xPk rfl<|xMv rfl<|wSk rfl ?_
 exact wSk rfl<|wSk rfl<|xPk rfl<|xAs rfl<|oNl<|eJ h rfl
 refine cRt ?_
 cases h
 exact eR rfl rfl rfl rfl
 refine cRs<|xEq rfl<|xAs rfl<|oNl<|cIf h rfl (fun q40 h=> ?_) (fun q40 h=> ?_)
 refine cRs<|oJn h [(6,6),(125,156)] [] (fun v6_41=>(.n,[(6,Bo v6_41)],[])) (fun _ h=> ?_) (fun v6_41 h=> ?_)
 refine xFd rfl<|xLd rfl<|xEs rfl<|xMv rfl<|oIf 128 h rfl (fun q42 h=> ?_) (fun q42 h=> ?_)
 refine xMv rfl<|xPk rfl<|xMv rfl<|oIf 131 h rfl (fun q43 h=> ?_) (fun q43 h=> ?_)
 refine xFd rfl<|xLd rfl<|xMv rfl<|xNc rfl<|xFd rfl<|xLd rfl<|xLn rfl<|sB rfl<|xC0 h (aN ·) rfl (fun c140_44 h=> ?_)
 refine xPk rfl<|xMv rfl<|oIf 142 h rfl (fun q45 h=> ?_) (fun q45 h=> ?_)
 refine xMv rfl<|xNc rfl<|xFd rfl<|xLd rfl<|xFd rfl<|xLd rfl<|xIx h aH rfl (fun e149_46 h=> ?_)
 refine xLd rfl<|xMv rfl<|xNc rfl<|xFd rfl<|xLd rfl<|xC0 h (rM ·) rfl (fun c155_47 h=> ?_)
 exact xPk rfl<|xAs rfl<|oNl<|eJ h rfl
 refine wSk rfl<|wSk rfl<|wSk rfl<|wSk rfl<|wSk rfl<|wSk rfl<|wSk rfl<|wSk rfl<|wSk rfl<|wSk rfl<|wSk rfl<|wSk rfl<|wSk rfl<|xPk rfl ?_
 exact xAs rfl<|oNl<|eJ h rfl
 refine wSk rfl<|wSk rfl<|wSk rfl<|wSk rfl<|wSk rfl<|wSk rfl<|wSk rfl<|wSk rfl<|wSk rfl<|xPk rfl<|xMv rfl<|wSk rfl<|wSk rfl<|wSk rfl ?_
 exact wSk rfl<|wSk rfl<|wSk rfl<|wSk rfl<|wSk rfl<|wSk rfl<|wSk rfl<|wSk rfl<|wSk rfl<|wSk rfl<|xPk rfl<|xAs rfl<|oNl<|eJ h rfl
 refine wSk rfl<|xPk rfl<|xMv rfl<|wSk rfl<|wSk rfl<|wSk rfl<|wSk rfl<|wSk rfl<|wSk rfl<|wSk rfl<|wSk rfl<|wSk rfl<|xPk rfl<|xMv rfl ?_
 refine wSk rfl<|wSk rfl<|wSk rfl<|wSk rfl<|wSk rfl<|wSk rfl<|wSk rfl<|wSk rfl<|wSk rfl<|wSk rfl<|wSk rfl<|wSk rfl<|wSk rfl<|xPk rfl ?_
 exact xAs rfl<|oNl<|eJ h rfl
 refine cRt ?_
 cases h
 exact eR rfl rfl rfl rfl
 refine cRs<|xEq rfl<|xAs rfl<|oNl<|cIf h rfl (fun q48 h=> ?_) (fun q48 h=> ?_)
 refine cRs<|oJn h [(6,6),(159,169)] [] (fun v6_49=>(.n,[(6,Bo v6_49)],[])) (fun _ h=> ?_) (fun v6_49 h=> ?_)
 refine xFd rfl<|xLd rfl<|xEs rfl<|xMv rfl<|oIf 162 h rfl (fun q50 h=> ?_) (fun q50 h=> ?_)
 refine xFd rfl<|xLd rfl<|xEq rfl<|xPk rfl<|xMv rfl<|oIf 167 h rfl (fun q51 h=> ?_) (fun q51 h=> ?_)
 exact xMv rfl<|xPk rfl<|xAs rfl<|oNl<|eJ h rfl
 exact wSk rfl<|xPk rfl<|xAs rfl<|oNl<|eJ h rfl
 exact wSk rfl<|wSk rfl<|wSk rfl<|xPk rfl<|xMv rfl<|wSk rfl<|xPk rfl<|xAs rfl<|oNl<|eJ h rfl
 refine cRt ?_
 cases h
 exact eR rfl rfl rfl rfl
 refine cSq<|cRs<|xEq rfl<|xAs rfl<|oNl<|cIf h rfl (fun q52 h=> ?_) (fun q52 h=> ?_)
 refine cSk<|cT rfl<|cRs<|oJn h [(6,6),(173,178)] [] (fun v6_53=>(.n,[(6,Bo v6_53)],[])) (fun _ h=> ?_) (fun v6_53 h=> ?_)
 refine xMv rfl<|xMv rfl<|oIf 174 h rfl (fun q54 h=> ?_) (fun q54 h=> ?_)
 exact xFd rfl<|xLd rfl<|xEq rfl<|xPk rfl<|xAs rfl<|oNl<|eJ h rfl
 exact wSk rfl<|wSk rfl<|wSk rfl<|xPk rfl<|xAs rfl<|oNl<|eJ h rfl
 refine cRt ?_
 cases h
 exact eR rfl rfl rfl rfl
 refine cRg<|xEq rfl<|xAs rfl<|oNl<|cIf h rfl (fun q55 h=> ?_) (fun q55 h=> ?_)
 refine cRs<|oJn h [(6,6),(173,178)] [] (fun v6_56=>(.n,[(6,Bo v6_56)],[])) (fun _ h=> ?_) (fun v6_56 h=> ?_)
 refine xMv rfl<|xMv rfl<|oIf 174 h rfl (fun q57 h=> ?_) (fun q57 h=> ?_)
 exact xFd rfl<|xLd rfl<|xEq rfl<|xPk rfl<|xAs rfl<|oNl<|eJ h rfl
 exact wSk rfl<|wSk rfl<|wSk rfl<|xPk rfl<|xAs rfl<|oNl<|eJ h rfl
 refine cRt ?_
 cases h
 exact eR rfl rfl rfl rfl
 refine cSk<|cRs<|xAs rfl<|oNl<|cRt ?_
 cases h
 exact eR rfl rfl rfl rfl
abbrev tW(p:Int→Int→(List Int)→Bool→Option ((List Int)×Bool)):Prop:= ∀ {t1_0 t2_0:Int} {o0_0:List Int} {o0_1:Bool} {r:(List Int)×Bool},p t1_0 t2_0 o0_0 o0_1=some r→Big Try.prog τ An (.fn 272 [.one (.ptr 1000000 0), .one (.c (.int .i64 t1_0)), .one (.c (.int .i64 t2_0))] [[.sl (o0_0.map aV), .bool o0_1]] (.tup []) none [[.sl (r.1.map aV), .bool r.2]] none)
def aY(n:Nat)(t1_0:Int)(t2_0:Int)(o0_0:List Int)(o0_1:Bool):Option ((List Int)×Bool):=
  (bif decide ((o0_0.length:Int)≤t1_0)then some true else some (decide ((300:Int)<t2_0))).bind fun v6_1=>bif v6_1 then some (o0_0,true)else(ix o0_0 t1_0).bind fun e27_4=>bif decide (e27_4<(0:Int))then(ix o0_0 t1_0).bind fun e36_6=>(some (o0_0.set (Int.toNat t1_0) t2_0)).bind fun u1000000_7=>some (u1000000_7,o0_1)else(ix o0_0 t1_0).bind fun e43_8=>bif !decide (e43_8=t2_0)then some (o0_0,true)else some (o0_0,o0_1)
theorem dG{n:Nat}:tW (aY n):=by
 intro t1_0 t2_0 o0_0 o0_1 r h
 unfold aY at h
 refine bF Try.func272 rfl rfl<|cBk<|cRs<|oJn h [(6,17)] [] (fun v6_1=>(.n,[(6,Bo v6_1)],[])) (fun _ h=> ?_) (fun v6_1 h=> ?_)
 refine xMv rfl<|xMv rfl<|xNc rfl<|xFd rfl<|xLd rfl<|xLn rfl<|xGe rfl<|xMv rfl<|oIf 14 h rfl (fun q2 h=> ?_) (fun q2 h=> ?_)
 exact wSk rfl<|wSk rfl<|xPk rfl<|xAs rfl<|oNl<|eJ h rfl
 exact xMv rfl<|xGt rfl<|xPk rfl<|xAs rfl<|oNl<|eJ h rfl
 refine cIf h rfl (fun q3 h=> ?_) (fun q3 h=> ?_)
 refine cRg<|xMv rfl<|xNc rfl<|xFd rfl<|xSt rfl<|oNl ?_
 cases h
 exact eN rfl rfl rfl rfl
 refine cRs<|xMv rfl<|xNc rfl<|xFd rfl<|xLd rfl<|xMv rfl<|xIx h jC rfl (fun e27_4 h=> ?_)
 refine xLd rfl<|xLt rfl<|xAs rfl<|oNl<|cIf h rfl (fun q5 h=> ?_) (fun q5 h=> ?_)
 refine cRg<|xMv rfl<|xNc rfl<|xFd rfl<|wLa rfl rfl rfl rfl rfl rfl rfl<|xMv rfl<|xMv rfl<|wIp (f:=aV) h rfl rfl rfl rfl rfl rfl (fun _=>rfl) rfl (fun e36_6 ke36_6 h=> ?_)
 refine Cl (f:=aV) (v':=t2_0) h ke36_6 rfl rfl rfl rfl rfl rfl rfl rfl rfl (fun u1000000_7 h=> ?_)
 refine oNl ?_
 cases h
 exact eN rfl rfl rfl rfl
 refine cRs<|xMv rfl<|xNc rfl<|xFd rfl<|xLd rfl<|xMv rfl<|xIx h jC rfl (fun e43_8 h=> ?_)
 refine xLd rfl<|xMv rfl<|xNe rfl<|xAs rfl<|oNl<|cIf h rfl (fun q9 h=> ?_) (fun q9 h=> ?_)
 refine cRg<|xMv rfl<|xNc rfl<|xFd rfl<|xSt rfl<|oNl ?_
 cases h
 exact eN rfl rfl rfl rfl
 refine cSk ?_
 cases h
 exact eN rfl rfl rfl rfl
abbrev DN(p:Int→Int→(List UInt8)→Int→Option (Int)):Prop:= ∀ {t0_0 t0_1:Int} {t0_2:List UInt8} {t0_3:Int} {r:Int},p t0_0 t0_1 t0_2 t0_3=some r→Big Try.prog τ An (.fn 301 [.one (.ag [.int .i64 t0_0, .int .i64 t0_1, .str t0_2, .int .i64 t0_3])] [] (.one (.c (.int .i64 r))) none [] none)
def iR(n:Nat)(t0_0:Int)(t0_1:Int)(t0_2:List UInt8)(t0_3:Int):Option (Int):=
  bif decide (t0_0=(4:Int))then some t0_1 else bif decide (t0_0=(5:Int))then some t0_1 else bif decide (t0_0=(6:Int))then some t0_1 else bif decide (t0_0=(8:Int))then some t0_1 else bif decide (t0_0=(7:Int))then some (2:Int)else bif decide (t0_0=(9:Int))then some (1:Int)else bif decide (t0_0=(12:Int))then some (1:Int)else some (0:Int)
theorem rJ{n:Nat}:DN (iR n):=by
 intro t0_0 t0_1 t0_2 t0_3 r h
 unfold iR at h
 refine bF Try.func301 rfl rfl<|cRs<|xBx rfl<|xAs rfl<|oNl<|cSq<|cRs<|xFd rfl<|xLd rfl<|oNl<|cBk<|cSq<|cRs<|xEq rfl ?_
 refine xAs rfl<|oNl<|cIf h rfl (fun q1 h=> ?_) (fun q1 h=> ?_)
 refine cSk<|cT rfl<|cRs<|xFd rfl<|xLd rfl<|xAs rfl<|oNl<|cRt ?_
 cases h
 exact eR rfl rfl rfl rfl
 refine cRs<|xEq rfl<|xAs rfl<|oNl<|cIf h rfl (fun q2 h=> ?_) (fun q2 h=> ?_)
 refine cSk<|cT rfl<|cRs<|xFd rfl<|xLd rfl<|xAs rfl<|oNl<|cRt ?_
 cases h
 exact eR rfl rfl rfl rfl
 refine cRs<|xEq rfl<|xAs rfl<|oNl<|cIf h rfl (fun q3 h=> ?_) (fun q3 h=> ?_)
 refine cSk<|cT rfl<|cRs<|xFd rfl<|xLd rfl<|xAs rfl<|oNl<|cRt ?_
 cases h
 exact eR rfl rfl rfl rfl
 refine cRg<|xEq rfl<|xAs rfl<|oNl<|cIf h rfl (fun q4 h=> ?_) (fun q4 h=> ?_)
 refine cRs<|xFd rfl<|xLd rfl<|xAs rfl<|oNl<|cRt ?_
 cases h
 exact eR rfl rfl rfl rfl
 refine cRs<|xEq rfl<|xAs rfl<|oNl<|cIf h rfl (fun q5 h=> ?_) (fun q5 h=> ?_)
 refine cRs<|xAs rfl<|oNl<|cRt ?_
 cases h
 exact eR rfl rfl rfl rfl
 refine cSq<|cRs<|xEq rfl<|xAs rfl<|oNl<|cIf h rfl (fun q6 h=> ?_) (fun q6 h=> ?_)
 refine cSk<|cT rfl<|cRs<|xAs rfl<|oNl<|cRt ?_
 cases h
 exact eR rfl rfl rfl rfl
 refine cRg<|xEq rfl<|xAs rfl<|oNl<|cIf h rfl (fun q7 h=> ?_) (fun q7 h=> ?_)
 refine cRs<|xAs rfl<|oNl<|cRt ?_
 cases h
 exact eR rfl rfl rfl rfl
 refine cSk<|cRs<|xAs rfl<|oNl<|cRt ?_
 cases h
 exact eR rfl rfl rfl rfl
abbrev tG(p:Int→Int→Int→(List UInt8)→Int→(List Int)→Bool→Option ((List Int)×Bool)):Prop:= ∀ {t1_0 t2_0 t2_1:Int} {t2_2:List UInt8} {t2_3:Int} {o0_0:List Int} {o0_1:Bool} {r:(List Int)×Bool},p t1_0 t2_0 t2_1 t2_2 t2_3 o0_0 o0_1=some r→Big Try.prog τ An (.fn 273 [.one (.ptr 1000000 0), .one (.c (.int .i64 t1_0)), .one (.ag [.int .i64 t2_0, .int .i64 t2_1, .str t2_2, .int .i64 t2_3])] [[.sl (o0_0.map aV), .bool o0_1]] (.tup []) none [[.sl (r.1.map aV), .bool r.2]] none)
def dV(n:Nat)(t1_0:Int)(t2_0:Int)(t2_1:Int)(t2_2:List UInt8)(t2_3:Int)(o0_0:List Int)(o0_1:Bool):Option ((List Int)×Bool):=
  (ix o0_0 t1_0).bind fun e12_1=>((iR n t2_0 t2_1 t2_2 t2_3).bind fun c16_3=>bif decide (e12_1<c16_3)then some true else bif decide (t2_0=(9:Int))then some (decide (t2_3≤t1_0))else bif decide (t2_0=(10:Int))then some (decide (t2_3≤t1_0))else some false).bind fun v33_2=>bif v33_2 then some (o0_0,true)else bif decide (t2_0=(9:Int))then(aY n (IntKind.wrap .i64 (t1_0+(1:Int))) (IntKind.wrap .i64 (e12_1 - (1:Int))) o0_0 o0_1).bind fun c55_9=>(aY n t2_3 e12_1 c55_9.1 c55_9.2).bind fun c60_10=>some (c60_10.1,c60_10.2)else bif decide (t2_0=(10:Int))then(aY n t2_3 e12_1 o0_0 o0_1).bind fun c67_12=>some (c67_12.1,c67_12.2)else bif decide (t2_0=(11:Int))then some (o0_0,o0_1)else bif decide (t2_0=(12:Int))then(bif o0_1 then some (o0_0,true)else some (o0_0,(!decide (e12_1=(1:Int))))).bind fun(w1000000_15,w1000000_16)=>some (w1000000_15,w1000000_16)else(iR n t2_0 t2_1 t2_2 t2_3).bind fun c44_18=>(aY n (IntKind.wrap .i64 (t1_0+(1:Int))) (IntKind.wrap .i64 ((IntKind.wrap .i64 (e12_1 - c44_18))+(1:Int))) o0_0 o0_1).bind fun c47_19=>some (c47_19.1,c47_19.2)
theorem rB{n:Nat}:tG (dV n):=by
 intro t1_0 t2_0 t2_1 t2_2 t2_3 o0_0 o0_1 r h
 unfold dV at h
 refine bF Try.func273 rfl rfl<|cRs<|xBx rfl<|oRs<|xMv rfl<|xNc rfl<|xFd rfl<|xLd rfl<|xMv rfl<|xIx h jC rfl (fun e12_1 h=> ?_)
 refine xLd rfl<|xAs rfl<|oNl<|cSq<|cRs<|oJn h [(14,33)] [] (fun v33_2=>(.n,[(33,Bo v33_2)],[])) (fun _ h=> ?_) (fun v33_2 h=> ?_)
 refine xMv rfl<|xLd rfl<|xC0 h (rJ ·) rfl (fun c16_3 h=> ?_)
 refine xLt rfl<|xMv rfl<|oIf 18 h rfl (fun q4 h=> ?_) (fun q4 h=> ?_)
 refine wSk rfl<|wSk rfl<|wSk rfl<|wSk rfl<|wSk rfl<|wSk rfl<|wSk rfl<|wSk rfl<|wSk rfl<|wSk rfl<|wSk rfl<|wSk rfl<|wSk rfl<|wSk rfl ?_
 exact xPk rfl<|oNl<|eJ h rfl
 refine xFd rfl<|xLd rfl<|xEq rfl<|xMv rfl<|oIf 22 h rfl (fun q5 h=> ?_) (fun q5 h=> ?_)
 exact wSk rfl<|wSk rfl<|wSk rfl<|xPk rfl<|xMv rfl<|xFd rfl<|xLd rfl<|xMv rfl<|xLe rfl<|xPk rfl<|xPk rfl<|oNl<|eJ h rfl
 refine xFd rfl<|xLd rfl<|xEq rfl<|xPk rfl<|xMv rfl<|oIf 27 h rfl (fun q6 h=> ?_) (fun q6 h=> ?_)
 exact xFd rfl<|xLd rfl<|xMv rfl<|xLe rfl<|xPk rfl<|xPk rfl<|oNl<|eJ h rfl
 exact wSk rfl<|wSk rfl<|wSk rfl<|wSk rfl<|xPk rfl<|xPk rfl<|oNl<|eJ h rfl
 refine cIf h rfl (fun q7 h=> ?_) (fun q7 h=> ?_)
 refine cRs<|xMv rfl<|xNc rfl<|xFd rfl<|xSt rfl<|oNl<|cRt ?_
 cases h
 exact eR rfl rfl rfl rfl
 refine cSk<|cRs<|xFd rfl<|xLd rfl<|oNl<|cBk<|cRs<|xEq rfl<|xAs rfl<|oNl<|cIf h rfl (fun q8 h=> ?_) (fun q8 h=> ?_)
 refine cRs<|xMv rfl<|xMv rfl<|cD rfl<|xMv rfl<|sB rfl<|xC1 h (dG ·) rfl (fun c55_9 h=> ?_)
 refine oNl<|cRg<|xMv rfl<|xFd rfl<|xLd rfl<|xMv rfl<|xC1 h (dG ·) rfl (fun c60_10 h=> ?_)
 refine oNl ?_
 cases h
 exact eN rfl rfl rfl rfl
 refine cRs<|xEq rfl<|xAs rfl<|oNl<|cIf h rfl (fun q11 h=> ?_) (fun q11 h=> ?_)
 refine cRg<|xMv rfl<|xFd rfl<|xLd rfl<|xMv rfl<|xC1 h (dG ·) rfl (fun c67_12 h=> ?_)
 refine oNl ?_
 cases h
 exact eN rfl rfl rfl rfl
 refine cRs<|xEq rfl<|xAs rfl<|oNl<|cIf h rfl (fun q13 h=> ?_) (fun q13 h=> ?_)
 refine cSk ?_
 cases h
 exact eN rfl rfl rfl rfl
 refine cRs<|xEq rfl<|xAs rfl<|oNl<|cIf h rfl (fun q14 h=> ?_) (fun q14 h=> ?_)
 refine cRg<|oJn h [(72,82)] [(1000000,1000000)] (fun(w1000000_15,w1000000_16)=>(.n,[],[(1000000,[.sl (w1000000_15.map aV), .bool w1000000_16])])) (fun _ h=> ?_) (fun q h=> ?_)
 refine xMv rfl<|xMv rfl<|xNc rfl<|xFd rfl<|xLd rfl<|xMv rfl<|oIf 77 h rfl (fun q17 h=> ?_) (fun q17 h=> ?_)
 exact wSk rfl<|wSk rfl<|xPk rfl<|xNc rfl<|xFd rfl<|xSt rfl<|oNl<|eJ h rfl
 exact xMv rfl<|xNe rfl<|xPk rfl<|xNc rfl<|xFd rfl<|xSt rfl<|oNl<|eJ h rfl
 obtain⟨w1000000_15,w1000000_16⟩:=q
 cases h
 exact eN rfl rfl rfl rfl
 refine cRg<|xMv rfl<|xMv rfl<|cD rfl<|xMv rfl<|xLd rfl<|xC0 h (rJ ·) rfl (fun c44_18 h=> ?_)
 refine sB rfl<|cD rfl<|xC1 h (dG ·) rfl (fun c47_19 h=> ?_)
 refine oNl ?_
 cases h
 exact eN rfl rfl rfl rfl
abbrev AS(p:(List UInt8)→Int→Int→(List aC)→Option ((List Int)×Bool)):Prop:= ∀ {t0_0:List UInt8} {t0_1 t0_2:Int} {t0_3:List aC} {r:(List Int)×Bool},p t0_0 t0_1 t0_2 t0_3=some r→Big Try.prog τ An (.fn 215 [.one (.cp [.str t0_0, .int .i64 t0_1, .int .i64 t0_2, .sl (t0_3.map aJ)])] [] (.tup [.c (.sl (r.1.map aV)), .c (.bool r.2)]) none [] none)
def dP(n:Nat)(t0_3:List aC):(Int×(List Int)×Bool)→Option ((Int×(List Int)×Bool)⊕((Int×Bool×(List Int)×Bool)))
  | (v18_2,w4_3,w4_4)=>bif decide (v18_2<((List.replicate (Int.toNat (t0_3.length:Int)) (0:Int)).length:Int))then(ix w4_3 v18_2).bind fun e24_10=>(some (w4_3.set (Int.toNat v18_2) ((-1):Int))).bind fun u4_11=>some (.inl ((IntKind.wrap .i64 (v18_2+(1:Int))),u4_11,w4_4))else some (.inr (v18_2,false,w4_3,w4_4))
def dO(n:Nat)(t0_3:List aC):(Int×(List Int)×Bool)→Option ((Int×(List Int)×Bool)⊕(((List Int)×Bool)⊕(Int×Bool×(List Int)×Bool)))
  | (v32_13,w4_14,w4_15)=>bif decide (v32_13<(t0_3.length:Int))then(ix t0_3 v32_13).bind fun e35_23=>(bif w4_15 then some true else(ix w4_14 v32_13).bind fun e43_26=>some (decide (e43_26<(0:Int)))).bind fun v46_24=>bif v46_24 then some (.inr (.inl (([]:List Int),false)))else(dV n v32_13 e35_23.f0 e35_23.f1 e35_23.f2 e35_23.f3 w4_14 w4_15).bind fun c49_28=>some (.inl ((IntKind.wrap .i64 (v32_13+(1:Int))),c49_28.1,c49_28.2))else some (.inr (.inr (v32_13,false,w4_14,w4_15)))
def iO(n:Nat)(t0_0:List UInt8)(t0_1:Int)(t0_2:Int)(t0_3:List aC):Option ((List Int)×Bool):=
  (ck (decide (0≤(t0_3.length:Int)∧(t0_3.length:Int)≤maxLen∧8*(t0_3.length:Int)≤281474976710656))).bind fun _=>(loopN (dP n t0_3) n ((0:Int),(List.replicate (Int.toNat (t0_3.length:Int)) (0:Int)),false)).bind fun(v18_5,v19_6,w4_7,w4_8)=>(aY n (0:Int) (0:Int) w4_7 w4_8).bind fun c26_12=>(loopN (dO n t0_3) n ((0:Int),c26_12.1,c26_12.2)).bind fun q=>(match q with | .inl (v2_16,v3_17)=>some (v2_16,v3_17) | .inr (v32_18,v33_19,w4_20,w4_21)=>some (w4_20,(!w4_21)))
theorem xA{n:Nat}:AS (iO n):=by
 intro t0_0 t0_1 t0_2 t0_3 r h
 unfold iO at h
 refine bF Try.func215 rfl rfl<|cRs<|wAe (Li aV []) rfl rfl rfl rfl<|xAs rfl<|oRs<|xMv rfl<|xNc rfl<|xFd rfl<|xLd rfl<|xLn rfl<|oCk h (fun k13_0 h=> ?_)
 refine wMk (z:=(0:Int)) (f:=aV) k13_0 rfl rfl rfl rfl rfl rfl rfl<|wBd [.sl ((List.replicate (Int.toNat (t0_3.length:Int)) (0:Int)).map aV), .bool false] rfl rfl rfl rfl rfl rfl<|xAz [.sl ([].map aV), .bool false] rfl<|xSt rfl<|oNl<|cSq<|cRs<|xFd rfl<|xLd rfl<|xLn rfl<|xMv rfl<|oNl<|cLp h [(5,5),(18,25)] [(4,4)] (fun(v18_2,w4_3,w4_4)=>([(18,I64 v18_2)],[(4,[.sl (w4_3.map aV), .bool w4_4])])) (fun(v18_5,v19_6,w4_7,w4_8)=>(.e 0,[(18,I64 v18_5),(19,Bo v19_6)],[(4,[.sl (w4_7.map aV), .bool w4_8])])) rfl (fun st _ h=> ?_) (fun q h=> ?_)
 obtain⟨v18_2,w4_3,w4_4⟩:=st
 unfold dP at h
 refine cRs<|xLt rfl<|oNl<|cSq<|cIf h rfl (fun q9 h=> ?_) (fun q9 h=> ?_)
 refine cSk<|cSq<|cBk<|cRs<|xMv rfl<|xAs rfl<|oNl<|cRg<|xFd rfl<|wLa rfl rfl rfl rfl rfl rfl rfl<|xMv rfl<|wIp (f:=aV) h rfl rfl rfl rfl rfl rfl (fun _=>rfl) rfl (fun e24_10 ke24_10 h=> ?_)
 refine Cl (f:=aV) (v':=((-1):Int)) h ke24_10 rfl rfl rfl rfl rfl rfl rfl rfl rfl (fun u4_11 h=> ?_)
 exact oNl<|cRg<|cD rfl<|xMv rfl<|oNl<|eL h rfl
 exact cEx<|eX h rfl
 obtain⟨v18_5,v19_6,w4_7,w4_8⟩:=q
 refine cRs<|xC1 h (dG ·) rfl (fun c26_12 h=> ?_)
 refine oNl<|cSq<|cRs<|xMv rfl<|xNc rfl<|xFd rfl<|xLd rfl<|xLn rfl<|xMv rfl<|oNl<|cLp h [(2,3),(6,7),(32,50)] [(4,4),(7,7)] (fun(v32_13,w4_14,w4_15)=>([(32,I64 v32_13)],[(4,[.sl (w4_14.map aV), .bool w4_15])])) (fun q=>match q with | .inl (v2_16,v3_17)=>(.r,[(2,Li aV v2_16),(3,Bo v3_17)],[]) | .inr (v32_18,v33_19,w4_20,w4_21)=>(.e 2,[(32,I64 v32_18),(33,Bo v33_19)],[(4,[.sl (w4_20.map aV), .bool w4_21])])) rfl (fun st _ h=> ?_) (fun q h=> ?_)
 obtain⟨v32_13,w4_14,w4_15⟩:=st
 unfold dO at h
 refine cRs<|xLt rfl<|oNl<|cSq<|cIf h rfl (fun q22 h=> ?_) (fun q22 h=> ?_)
 refine cSk<|cSq<|cBk<|cRs<|xMv rfl<|xIx h bS rfl (fun e35_23 h=> ?_)
 refine xLd rfl<|xAc rfl<|xAs rfl<|xSt rfl<|oNl<|cSq<|cRs<|oJn h [(37,46)] [] (fun v46_24=>(.n,[(46,Bo v46_24)],[])) (fun _ h=> ?_) (fun v46_24 h=> ?_)
 refine xFd rfl<|xLd rfl<|xMv rfl<|oIf 39 h rfl (fun q25 h=> ?_) (fun q25 h=> ?_)
 exact wSk rfl<|wSk rfl<|wSk rfl<|wSk rfl<|wSk rfl<|wSk rfl<|xPk rfl<|oNl<|eJ h rfl
 refine xFd rfl<|xLd rfl<|xMv rfl<|xIx h jC rfl (fun e43_26 h=> ?_)
 exact xLd rfl<|xLt rfl<|xPk rfl<|oNl<|eJ h rfl
 refine cIf h rfl (fun q27 h=> ?_) (fun q27 h=> ?_)
 exact cRs<|wAe (Li aV []) rfl rfl rfl rfl<|xAs rfl<|oNl<|cRt<|eXr h rfl
 refine cSk<|cRg<|xMv rfl<|xLd rfl<|xC1 h (rB ·) rfl (fun c49_28 h=> ?_)
 exact oNl<|cRg<|cD rfl<|xMv rfl<|oNl<|eL h rfl
 exact cEx<|eX h rfl
 rcases q with⟨v2_16,v3_17⟩ | ⟨v32_18,v33_19,w4_20,w4_21⟩
 cases h
 exact eR rfl rfl rfl rfl
 refine cRs<|xFd rfl<|xLd rfl<|xFd rfl<|xLd rfl<|fC rfl<|xAs rfl<|xAs rfl<|oNl<|cRt ?_
 cases h
 exact eR rfl rfl rfl rfl
abbrev IK(p:(List UInt8)→Int→Int→(List aC)→(List aB)→(List aA)→Option (Bool×(List aB)×(List aA))):Prop:= ∀ {t1_0:List UInt8} {t1_1 t1_2:Int} {t1_3:List aC} {o0_0:List aB} {o0_1:List aA} {r:Bool×(List aB)×(List aA)},p t1_0 t1_1 t1_2 t1_3 o0_0 o0_1=some r→Big Try.prog τ An (.fn 129 [.one (.ptr 1000000 0), .one (.cp [.str t1_0, .int .i64 t1_1, .int .i64 t1_2, .sl (t1_3.map aJ)])] [[.sl (o0_0.map aG), .sl (o0_1.map aD)]] (.one (.c (.bool r.1))) none [[.sl (r.2.1.map aG), .sl (r.2.2.map aD)]] none)
def iT(n:Nat)(t1_0:List UInt8)(t1_1:Int)(t1_2:Int)(t1_3:List aC):(Int×(List aB)×(List aA))→Option ((Int×(List aB)×(List aA))⊕((Bool×(List aB)×(List aA))⊕(Int×Bool×(List aB)×(List aA))))
  | (v49_10,w1000000_11,w1000000_12)=>bif decide (v49_10<(t1_3.length:Int))then(ix t1_3 v49_10).bind fun e51_21=>(kZ n t1_0 t1_1 t1_2 t1_3 e51_21.f0 e51_21.f1 e51_21.f2 e51_21.f3 w1000000_11 w1000000_12).bind fun c56_22=>bif !c56_22.1 then some (.inr (.inl (false,c56_22.2.1,c56_22.2.2)))else some (.inl ((IntKind.wrap .i64 (v49_10+(1:Int))),c56_22.2.1,c56_22.2.2))else some (.inr (.inr (v49_10,false,w1000000_11,w1000000_12)))
def oC(n:Nat)(t1_0:List UInt8)(t1_1:Int)(t1_2:Int)(t1_3:List aC)(o0_0:List aB)(o0_1:List aA):Option (Bool×(List aB)×(List aA)):=
  ((dS n t1_0).bind fun c13_2=>bif !c13_2 then some true else(aL n t1_1 (0:Int) (4:Int)).bind fun c20_4=>bif !c20_4 then some true else(aL n t1_2 t1_1 (400:Int)).bind fun c32_6=>bif !c32_6 then some true else(aL n (t1_3.length:Int) (1:Int) (1500:Int)).bind fun c41_8=>some (!c41_8)).bind fun v43_1=>bif v43_1 then some (false,o0_0,o0_1)else(loopN (iT n t1_0 t1_1 t1_2 t1_3) n ((0:Int),o0_0,o0_1)).bind fun q=>(match q with | .inl (v4_13,w1000000_14,w1000000_15)=>some (v4_13,w1000000_14,w1000000_15) | .inr (v49_16,v50_17,w1000000_18,w1000000_19)=>(iO n t1_0 t1_1 t1_2 t1_3).bind fun c61_24=>some (c61_24.2,w1000000_18,w1000000_19))
theorem Ex{n:Nat}:IK (oC n):=by
 intro t1_0 t1_1 t1_2 t1_3 o0_0 o0_1 r h
 unfold oC at h
 refine bF Try.func129 rfl rfl<|cRs<|xAs rfl<|oNl<|cSq<|cRs<|oJn h [(9,43)] [] (fun v43_1=>(.n,[(43,Bo v43_1)],[])) (fun _ h=> ?_) (fun v43_1 h=> ?_)
 refine xMv rfl<|xNc rfl<|xFd rfl<|xLd rfl<|xC0 h (kV ·) rfl (fun c13_2 h=> ?_)
 refine fC rfl<|xMv rfl<|oIf 15 h rfl (fun q3 h=> ?_) (fun q3 h=> ?_)
 refine wSk rfl<|wSk rfl<|wSk rfl<|wSk rfl<|wSk rfl<|wSk rfl<|xPk rfl<|xMv rfl<|wSk rfl<|wSk rfl<|wSk rfl<|wSk rfl<|wSk rfl<|wSk rfl ?_
 refine wSk rfl<|wSk rfl<|wSk rfl<|wSk rfl<|xPk rfl<|xMv rfl<|wSk rfl<|wSk rfl<|wSk rfl<|wSk rfl<|wSk rfl<|wSk rfl<|wSk rfl<|xPk rfl ?_
 exact oNl<|eJ h rfl
 refine xMv rfl<|xNc rfl<|xFd rfl<|xLd rfl<|xC0 h (aN ·) rfl (fun c20_4 h=> ?_)
 refine fC rfl<|xPk rfl<|xMv rfl<|oIf 23 h rfl (fun q5 h=> ?_) (fun q5 h=> ?_)
 refine wSk rfl<|wSk rfl<|wSk rfl<|wSk rfl<|wSk rfl<|wSk rfl<|wSk rfl<|wSk rfl<|wSk rfl<|wSk rfl<|xPk rfl<|xMv rfl<|wSk rfl<|wSk rfl ?_
 exact wSk rfl<|wSk rfl<|wSk rfl<|wSk rfl<|wSk rfl<|xPk rfl<|oNl<|eJ h rfl
 refine xMv rfl<|xNc rfl<|xFd rfl<|xLd rfl<|xMv rfl<|xNc rfl<|xFd rfl<|xLd rfl<|xC0 h (aN ·) rfl (fun c32_6 h=> ?_)
 refine fC rfl<|xPk rfl<|xMv rfl<|oIf 35 h rfl (fun q7 h=> ?_) (fun q7 h=> ?_)
 exact wSk rfl<|wSk rfl<|wSk rfl<|wSk rfl<|wSk rfl<|wSk rfl<|wSk rfl<|xPk rfl<|oNl<|eJ h rfl
 refine xMv rfl<|xNc rfl<|xFd rfl<|xLd rfl<|xLn rfl<|xC0 h (aN ·) rfl (fun c41_8 h=> ?_)
 exact fC rfl<|xPk rfl<|oNl<|eJ h rfl
 refine cIf h rfl (fun q9 h=> ?_) (fun q9 h=> ?_)
 refine cRs<|xAs rfl<|oNl<|cRt ?_
 cases h
 exact eR rfl rfl rfl rfl
 refine cSk<|cSq<|cRs<|xMv rfl<|xNc rfl<|xFd rfl<|xLd rfl<|xLn rfl<|xMv rfl<|oNl<|cLp h [(4,4),(6,6),(49,58)] [(6,6),(1000000,1000000)] (fun(v49_10,w1000000_11,w1000000_12)=>([(49,I64 v49_10)],[(1000000,[.sl (w1000000_11.map aG), .sl (w1000000_12.map aD)])])) (fun q=>match q with | .inl (v4_13,w1000000_14,w1000000_15)=>(.r,[(4,Bo v4_13)],[(1000000,[.sl (w1000000_14.map aG), .sl (w1000000_15.map aD)])]) | .inr (v49_16,v50_17,w1000000_18,w1000000_19)=>(.e 0,[(49,I64 v49_16),(50,Bo v50_17)],[(1000000,[.sl (w1000000_18.map aG), .sl (w1000000_19.map aD)])])) rfl (fun st _ h=> ?_) (fun q h=> ?_)
 obtain⟨v49_10,w1000000_11,w1000000_12⟩:=st
 unfold iT at h
 refine cRs<|xLt rfl<|oNl<|cSq<|cIf h rfl (fun q20 h=> ?_) (fun q20 h=> ?_)
 refine cSk<|cSq<|cBk<|cRs<|xIx h bS rfl (fun e51_21 h=> ?_)
 refine xLd rfl<|xAc rfl<|xSt rfl<|oRs<|xMv rfl<|xMv rfl<|xLd rfl<|xC1 h (Cx ·) rfl (fun c56_22 h=> ?_)
 refine fC rfl<|oNl<|cIf h rfl (fun q23 h=> ?_) (fun q23 h=> ?_)
 exact cRs<|xAs rfl<|oNl<|cRt<|eXr h rfl
 exact cSk<|cRg<|cD rfl<|xMv rfl<|oNl<|eL h rfl
 exact cEx<|eX h rfl
 rcases q with⟨v4_13,w1000000_14,w1000000_15⟩ | ⟨v49_16,v50_17,w1000000_18,w1000000_19⟩
 cases h
 exact eR rfl rfl rfl rfl
 refine cRs<|xMv rfl<|xC0 h (xA ·) rfl (fun c61_24 h=> ?_)
 refine xMv rfl<|xEt rfl<|xEt rfl<|xAs rfl<|xAs rfl<|oRs<|xMv rfl<|xAs rfl<|oNl<|cRt ?_
 cases h
 exact eR rfl rfl rfl rfl
abbrev FP(p:(List aB)→(List aA)→Option (Bool)):Prop:= ∀ {t0_0:List aB} {t0_1:List aA} {r:Bool},p t0_0 t0_1=some r→Big Try.prog τ An (.fn 44 [.one (.ag [.sl (t0_0.map aG), .sl (t0_1.map aD)])] [] (.one (.c (.bool r))) none [] none)
def fM(n:Nat)(t0_0:List aB):(Int×(List aB)×(List aA))→Option ((Int×(List aB)×(List aA))⊕((Bool)⊕(Int×Bool×(List aB)×(List aA))))
  | (v17_4,w1_5,w1_6)=>bif decide (v17_4<(t0_0.length:Int))then((ix w1_5 v17_4).bind fun e23_16=>(lZ n e23_16.f0 w1_5 w1_6).bind fun c26_17=>bif !decide (c26_17.1=v17_4)then some (true,c26_17.2.1,c26_17.2.2)else(ix c26_17.2.1 v17_4).bind fun e33_19=>(oC n e33_19.f0 e33_19.f1 e33_19.f2 e33_19.f3 c26_17.2.1 c26_17.2.2).bind fun c34_20=>some ((!c34_20.1),c34_20.2.1,c34_20.2.2)).bind fun(v36_13,w1_14,w1_15)=>bif v36_13 then some (.inr (.inl false))else some (.inl ((IntKind.wrap .i64 (v17_4+(1:Int))),w1_14,w1_15))else some (.inr (.inr (v17_4,false,w1_5,w1_6)))
def lJ(n:Nat)(t0_0:List aB)(t0_1:List aA):Option (Bool):=
  (bif decide ((12:Int)<(t0_0.length:Int))then some true else some (decide ((2000:Int)<(t0_1.length:Int)))).bind fun v13_1=>bif v13_1 then some false else(loopN (fM n t0_0) n ((0:Int),t0_0,t0_1)).bind fun q=>(match q with | .inl v2_7=>some v2_7 | .inr (v17_8,v18_9,w1_10,w1_11)=>some true)
theorem CC{n:Nat}:FP (lJ n):=by
 intro t0_0 t0_1 r h
 unfold lJ at h
 refine bF Try.func44 rfl rfl<|cRs<|xBx rfl<|xAs rfl<|oNl<|cSq<|cRs<|oJn h [(4,13)] [] (fun v13_1=>(.n,[(13,Bo v13_1)],[])) (fun _ h=> ?_) (fun v13_1 h=> ?_)
 refine xFd rfl<|xLd rfl<|xLn rfl<|xGt rfl<|xMv rfl<|oIf 8 h rfl (fun q2 h=> ?_) (fun q2 h=> ?_)
 exact wSk rfl<|wSk rfl<|wSk rfl<|wSk rfl<|xPk rfl<|oNl<|eJ h rfl
 exact xFd rfl<|xLd rfl<|xLn rfl<|xGt rfl<|xPk rfl<|oNl<|eJ h rfl
 refine cIf h rfl (fun q3 h=> ?_) (fun q3 h=> ?_)
 refine cRs<|xAs rfl<|oNl<|cRt ?_
 cases h
 exact eR rfl rfl rfl rfl
 refine cSk<|cSq<|cRs<|xFd rfl<|xLd rfl<|xLn rfl<|xMv rfl<|oNl<|cLp h [(2,3),(17,37)] [(1,1)] (fun(v17_4,w1_5,w1_6)=>([(17,I64 v17_4)],[(1,[.sl (w1_5.map aG), .sl (w1_6.map aD)])])) (fun q=>match q with | .inl v2_7=>(.r,[(2,Bo v2_7)],[]) | .inr (v17_8,v18_9,w1_10,w1_11)=>(.e 0,[(17,I64 v17_8),(18,Bo v18_9)],[(1,[.sl (w1_10.map aG), .sl (w1_11.map aD)])])) rfl (fun st _ h=> ?_) (fun q h=> ?_)
 obtain⟨v17_4,w1_5,w1_6⟩:=st
 unfold fM at h
 refine cRs<|xLt rfl<|oNl<|cSq<|cIf h rfl (fun q12 h=> ?_) (fun q12 h=> ?_)
 refine cSk<|cSq<|cBk<|cRs<|xMv rfl<|xAs rfl<|oRs<|oJn h [(20,36)] [(1,1)] (fun(v36_13,w1_14,w1_15)=>(.n,[(36,Bo v36_13)],[(1,[.sl (w1_14.map aG), .sl (w1_15.map aD)])])) (fun _ h=> ?_) (fun q h=> ?_)
 refine xFd rfl<|xLd rfl<|xMv rfl<|xIx h bN rfl (fun e23_16 h=> ?_)
 refine xFd rfl<|xLd rfl<|xC1 h (wH ·) rfl (fun c26_17 h=> ?_)
 refine xMv rfl<|xNe rfl<|xMv rfl<|oIf 29 h rfl (fun q18 h=> ?_) (fun q18 h=> ?_)
 exact wSk rfl<|wSk rfl<|wSk rfl<|wSk rfl<|wSk rfl<|wSk rfl<|xPk rfl<|oNl<|eJ h rfl
 refine xFd rfl<|xLd rfl<|xMv rfl<|xIx h bN rfl (fun e33_19 h=> ?_)
 refine xC1 h (Ex ·) rfl (fun c34_20 h=> ?_)
 exact fC rfl<|xPk rfl<|oNl<|eJ h rfl
 obtain⟨v36_13,w1_14,w1_15⟩:=q
 refine cIf h rfl (fun q21 h=> ?_) (fun q21 h=> ?_)
 exact cRs<|xAs rfl<|oNl<|cRt<|eXr h rfl
 exact cSk<|cRg<|cD rfl<|xMv rfl<|oNl<|eL h rfl
 exact cEx<|eX h rfl
 rcases q with v2_7 | ⟨v17_8,v18_9,w1_10,w1_11⟩
 cases h
 exact eR rfl rfl rfl rfl
 refine cRs<|xAs rfl<|oNl<|cRt ?_
 cases h
 exact eR rfl rfl rfl rfl
abbrev DS(p:(List aB)→(List aA)→Option (Bool)):Prop:= ∀ {t0_0:List aB} {t0_1:List aA} {r:Bool},p t0_0 t0_1=some r→Big Try.prog τ An (.fn 109 [.one (.ag [.sl (t0_0.map aG), .sl (t0_1.map aD)])] [] (.one (.c (.bool r))) none [] none)
def jT(n:Nat)(t0_1:List aA):(Int)→Option ((Int)⊕((Bool)⊕(Int×Bool)))
  | v8_1=>bif decide (v8_1<(t0_1.length:Int))then(ix t0_1 v8_1).bind fun e10_6=>(gG n e10_6.f0 e10_6.f1 e10_6.f2 e10_6.f3 (400:Int)).bind fun c13_7=>bif !c13_7 then some (.inr (.inl false))else some (.inl (IntKind.wrap .i64 (v8_1+(1:Int))))else some (.inr (.inr (v8_1,false)))
def kJ(n:Nat)(t0_0:List aB)(t0_1:List aA):Option (Bool):=
  (loopN (jT n t0_1) n (0:Int)).bind fun q=>(match q with | .inl v2_2=>some v2_2 | .inr (v8_3,v9_4)=>some true)
theorem AN{n:Nat}:DS (kJ n):=by
 intro t0_0 t0_1 r h
 unfold kJ at h
 refine bF Try.func109 rfl rfl<|cRs<|xBx rfl<|xAs rfl<|oNl<|cSq<|cRs<|xFd rfl<|xLd rfl<|xLn rfl<|xMv rfl<|oNl<|cLp h [(2,2),(4,4),(8,15)] [(4,4)] (fun v8_1=>([(8,I64 v8_1)],[])) (fun q=>match q with | .inl v2_2=>(.r,[(2,Bo v2_2)],[]) | .inr (v8_3,v9_4)=>(.e 0,[(8,I64 v8_3),(9,Bo v9_4)],[])) rfl (fun v8_1 _ h=> ?_) (fun q h=> ?_)
 unfold jT at h
 refine cRs<|xLt rfl<|oNl<|cSq<|cIf h rfl (fun q5 h=> ?_) (fun q5 h=> ?_)
 refine cSk<|cSq<|cBk<|cRs<|xIx h aH rfl (fun e10_6 h=> ?_)
 refine xLd rfl<|xAz [.int .i64 0, .int .i64 0, .str [], .sl ([].map aD)] rfl<|xSt rfl<|oRs<|xLd rfl<|xC0 h (rM ·) rfl (fun c13_7 h=> ?_)
 refine fC rfl<|oNl<|cIf h rfl (fun q8 h=> ?_) (fun q8 h=> ?_)
 exact cRs<|xAs rfl<|oNl<|cRt<|eXr h rfl
 exact cSk<|cRg<|cD rfl<|xMv rfl<|oNl<|eL h rfl
 exact cEx<|eX h rfl
 rcases q with v2_2 | ⟨v8_3,v9_4⟩
 cases h
 exact eR rfl rfl rfl rfl
 refine cRs<|xAs rfl<|oNl<|cRt ?_
 cases h
 exact eR rfl rfl rfl rfl
abbrev FM(p:(List Int)→Int→Option ((List Int))):Prop:= ∀ {t0_0:List Int} {t1_0:Int} {r:(List Int)},p t0_0 t1_0=some r→Big Try.prog τ An (.fn 110 [.one (.c (.sl (t0_0.map rI_u8))), .one (.c (.int .i64 t1_0))] [] (.one (.c (.sl (r.map rI_u8)))) none [] none)
def bJ(n:Nat):((List Int)×Int)→Option (((List Int)×Int)⊕(((List Int)×Int×Bool)))
  | (v0_2,v5_3)=>bif decide ((127:Int)<v5_3)then(iI 1 v0_2 ([(IntKind.wrap .u8 (bits .or .i64 (128:Int) (bits .and .i64 v5_3 (127:Int))))]:List Int)).bind fun v24_8=>some (.inl (v24_8,(Int.fdiv v5_3 (2 ^ 7))))else some (.inr (v0_2,v5_3,false))
def nD(n:Nat):((List Int)×Int)→Option (((List Int)×Int)⊕(((List Int)×Int×Bool)))
  | (v0_10,v5_11)=>bif decide ((127:Int)<v5_11)then(iI 1 v0_10 ([(IntKind.wrap .u8 (bits .or .i64 (128:Int) (bits .and .i64 v5_11 (127:Int))))]:List Int)).bind fun v24_16=>some (.inl (v24_16,(Int.fdiv v5_11 (2 ^ 7))))else some (.inr (v0_10,v5_11,false))
def bA(n:Nat)(t0_0:List Int)(t1_0:Int):Option ((List Int)):=
  bif decide ((if(if(1000000000000:Int)<t1_0 then(1000000000000:Int)else t1_0) > ((-1000000000000):Int)then(if(1000000000000:Int)<t1_0 then(1000000000000:Int)else t1_0)else((-1000000000000):Int))<(0:Int))then(loopN (bJ n) n (t0_0,(IntKind.wrap .i64 ((IntKind.wrap .i64 (((-2):Int)*(if(if(1000000000000:Int)<t1_0 then(1000000000000:Int)else t1_0) > ((-1000000000000):Int)then(if(1000000000000:Int)<t1_0 then(1000000000000:Int)else t1_0)else((-1000000000000):Int)))) - (1:Int))))).bind fun(v0_4,v5_5,v17_6)=>(iI 1 v0_4 ([(IntKind.wrap .u8 v5_5)]:List Int)).bind fun v31_9=>some v31_9 else(loopN (nD n) n (t0_0,(IntKind.wrap .i64 ((2:Int)*(if(if(1000000000000:Int)<t1_0 then(1000000000000:Int)else t1_0) > ((-1000000000000):Int)then(if(1000000000000:Int)<t1_0 then(1000000000000:Int)else t1_0)else((-1000000000000):Int)))))).bind fun(v0_12,v5_13,v17_14)=>(iI 1 v0_12 ([(IntKind.wrap .u8 v5_13)]:List Int)).bind fun v31_17=>some v31_17
theorem bQ{n:Nat}:FM (bA n):=by
 intro t0_0 t1_0 r h
 unfold bA at h
 refine bF Try.func110 rfl rfl<|cRs<|wAe (Li rI_u8 []) rfl rfl rfl rfl<|oRs<|xMv rfl<|wMn rfl rfl rfl rfl<|wMx rfl rfl rfl rfl<|xAs rfl<|oRs<|xMv rfl<|HB rfl<|xAs rfl<|oNl<|cSq ?_
 refine cRs<|xMv rfl<|xLt rfl<|oNl<|cIf h rfl (fun q1 h=> ?_) (fun q1 h=> ?_)
 refine cRg<|xMv rfl<|HB rfl<|sB rfl<|xAs rfl<|oNl<|cSq<|cLp h [(0,0),(5,5),(16,26)] [] (fun(v0_2,v5_3)=>([(0,Li rI_u8 v0_2),(5,I64 v5_3)],[])) (fun(v0_4,v5_5,v17_6)=>(.e 0,[(0,Li rI_u8 v0_4),(5,I64 v5_5),(17,Bo v17_6)],[])) rfl (fun st _ h=> ?_) (fun q h=> ?_)
 obtain⟨v0_2,v5_3⟩:=st
 unfold bJ at h
 refine cSq<|cRs<|xMv rfl<|xGt rfl<|oNl<|cIf h rfl (fun q7 h=> ?_) (fun q7 h=> ?_)
 refine cSk<|cBk<|cRs<|xMv rfl<|xMv rfl<|wBi (.int .i64 (bits .and .i64 v5_3 (127:Int))) rfl rfl rfl rfl rfl<|wBi (.int .i64 (bits .or .i64 (128:Int) (bits .and .i64 v5_3 (127:Int)))) rfl rfl rfl rfl rfl<|wCv rfl rfl rfl rfl rfl<|nG (L:=([(IntKind.wrap .u8 (bits .or .i64 (128:Int) (bits .and .i64 v5_3 (127:Int))))]:List Int)) (f:=rI_u8) rfl rfl rfl rfl rfl rfl rfl<|wAp (f:=rI_u8) h rfl rfl rfl rfl rfl rfl rfl rfl rfl (fun _=>rfl) rfl (fun v24_8 h=> ?_)
 exact xAs rfl<|oNl<|cRg<|xMv rfl<|wBi (.int .i64 (Int.fdiv v5_3 (2 ^ 7))) rfl rfl rfl rfl rfl<|xAs rfl<|oNl<|eL h rfl
 exact cEx<|eX h rfl
 obtain⟨v0_4,v5_5,v17_6⟩:=q
 refine cRs<|xMv rfl<|xMv rfl<|wCv rfl rfl rfl rfl rfl<|nG (L:=([(IntKind.wrap .u8 v5_5)]:List Int)) (f:=rI_u8) rfl rfl rfl rfl rfl rfl rfl<|wAp (f:=rI_u8) h rfl rfl rfl rfl rfl rfl rfl rfl rfl (fun _=>rfl) rfl (fun v31_9 h=> ?_)
 refine xAs rfl<|oNl<|cRt ?_
 cases h
 exact eR rfl rfl rfl rfl
 refine cSk<|cSq<|cLp h [(0,0),(5,5),(16,26)] [] (fun(v0_10,v5_11)=>([(0,Li rI_u8 v0_10),(5,I64 v5_11)],[])) (fun(v0_12,v5_13,v17_14)=>(.e 0,[(0,Li rI_u8 v0_12),(5,I64 v5_13),(17,Bo v17_14)],[])) rfl (fun st _ h=> ?_) (fun q h=> ?_)
 obtain⟨v0_10,v5_11⟩:=st
 unfold nD at h
 refine cSq<|cRs<|xMv rfl<|xGt rfl<|oNl<|cIf h rfl (fun q15 h=> ?_) (fun q15 h=> ?_)
 refine cSk<|cBk<|cRs<|xMv rfl<|xMv rfl<|wBi (.int .i64 (bits .and .i64 v5_11 (127:Int))) rfl rfl rfl rfl rfl<|wBi (.int .i64 (bits .or .i64 (128:Int) (bits .and .i64 v5_11 (127:Int)))) rfl rfl rfl rfl rfl<|wCv rfl rfl rfl rfl rfl<|nG (L:=([(IntKind.wrap .u8 (bits .or .i64 (128:Int) (bits .and .i64 v5_11 (127:Int))))]:List Int)) (f:=rI_u8) rfl rfl rfl rfl rfl rfl rfl<|wAp (f:=rI_u8) h rfl rfl rfl rfl rfl rfl rfl rfl rfl (fun _=>rfl) rfl (fun v24_16 h=> ?_)
 exact xAs rfl<|oNl<|cRg<|xMv rfl<|wBi (.int .i64 (Int.fdiv v5_11 (2 ^ 7))) rfl rfl rfl rfl rfl<|xAs rfl<|oNl<|eL h rfl
 exact cEx<|eX h rfl
 obtain⟨v0_12,v5_13,v17_14⟩:=q
 refine cRs<|xMv rfl<|xMv rfl<|wCv rfl rfl rfl rfl rfl<|nG (L:=([(IntKind.wrap .u8 v5_13)]:List Int)) (f:=rI_u8) rfl rfl rfl rfl rfl rfl rfl<|wAp (f:=rI_u8) h rfl rfl rfl rfl rfl rfl rfl rfl rfl (fun _=>rfl) rfl (fun v31_17 h=> ?_)
 refine xAs rfl<|oNl<|cRt ?_
 cases h
 exact eR rfl rfl rfl rfl
abbrev DQ(p:(List Int)→(List UInt8)→Option ((List Int))):Prop:= ∀ {t0_0:List Int} {t1_0:List UInt8} {r:(List Int)},p t0_0 t1_0=some r→Big Try.prog τ An (.fn 111 [.one (.c (.sl (t0_0.map rI_u8))), .one (.c (.str t1_0))] [] (.one (.c (.sl (r.map rI_u8)))) none [] none)
def dT(n:Nat)(t0_0:List Int)(t1_0:List UInt8):Option ((List Int)):=
  (bA n t0_0 (t1_0.length:Int)).bind fun c8_1=>(iI 1 c8_1 (t1_0.map fun c=>((c.toNat:Nat):Int))).bind fun v10_2=>some v10_2
theorem nF{n:Nat}:DQ (dT n):=by
 intro t0_0 t1_0 r h
 unfold dT at h
 refine bF Try.func111 rfl rfl<|cRs<|wAe (Li rI_u8 []) rfl rfl rfl rfl<|oRs<|xMv rfl<|xMv rfl<|xLs rfl<|xC0 h (bQ ·) rfl (fun c8_1 h=> ?_)
 refine xMv rfl<|wAps (f:=rI_u8) h rfl rfl rfl rfl rfl (fun _=>rfl) rfl (fun _=>rfl) rfl (fun v10_2 h=> ?_)
 refine xAs rfl<|oNl<|cRt ?_
 cases h
 exact eR rfl rfl rfl rfl
abbrev jO:Type:=(List Int)→Int→Int→(List UInt8)→(List aA)→Option ((List Int))
abbrev nR(p:jO):Prop:= ∀ {t0_0:List Int} {t1_0 t1_1:Int} {t1_2:List UInt8} {t1_3:List aA} {r:(List Int)},p t0_0 t1_0 t1_1 t1_2 t1_3=some r→Big Try.prog τ An (.fn 112 [.one (.c (.sl (t0_0.map rI_u8))), .one (.ag [.int .i64 t1_0, .int .i64 t1_1, .str t1_2, .sl (t1_3.map aD)])] [] (.one (.c (.sl (r.map rI_u8)))) none [] none)
def eD(n:Nat)(r_impl_putPat:jO)(t1_3:List aA):((List Int)×Int)→Option (((List Int)×Int)⊕(((List Int)×Int×Bool)))
  | (v0_5,v24_6)=>bif decide (v24_6<(t1_3.length:Int))then(ix t1_3 v24_6).bind fun e26_11=>(r_impl_putPat v0_5 e26_11.f0 e26_11.f1 e26_11.f2 e26_11.f3).bind fun c30_12=>some (.inl (c30_12,(IntKind.wrap .i64 (v24_6+(1:Int)))))else some (.inr (v0_5,v24_6,false))
def jJ(n:Nat)(r_impl_putPat:jO)(t0_0:List Int)(t1_0:Int)(t1_1:Int)(t1_2:List UInt8)(t1_3:List aA):Option ((List Int)):=
  (bA n t0_0 t1_0).bind fun c10_1=>(bA n c10_1 t1_1).bind fun c13_2=>(dT n c13_2 t1_2).bind fun c16_3=>(bA n c16_3 (t1_3.length:Int)).bind fun c20_4=>(loopN (eD n r_impl_putPat t1_3) n (c20_4,(0:Int))).bind fun(v0_7,v24_8,v25_9)=>some v0_7
theorem zY{n:Nat}{r_impl_putPat:jO}(ih_impl_putPat:nR r_impl_putPat):nR (jJ n r_impl_putPat):=by
 intro t0_0 t1_0 t1_1 t1_2 t1_3 r h
 unfold jJ at h
 refine bF Try.func112 rfl rfl<|cRs<|xBx rfl<|wAe (Li rI_u8 []) rfl rfl rfl rfl<|oRs<|xMv rfl<|xFd rfl<|xLd rfl<|xC0 h (bQ ·) rfl (fun c10_1 h=> ?_)
 refine xFd rfl<|xLd rfl<|xC0 h (bQ ·) rfl (fun c13_2 h=> ?_)
 refine xFd rfl<|xLd rfl<|xC0 h (nF ·) rfl (fun c16_3 h=> ?_)
 refine xFd rfl<|xLd rfl<|xLn rfl<|xC0 h (bQ ·) rfl (fun c20_4 h=> ?_)
 refine xAs rfl<|oNl<|cSq<|cRs<|xFd rfl<|xLd rfl<|xLn rfl<|xMv rfl<|oNl<|cLp h [(0,0),(6,6),(24,31)] [(6,6)] (fun(v0_5,v24_6)=>([(0,Li rI_u8 v0_5),(24,I64 v24_6)],[])) (fun(v0_7,v24_8,v25_9)=>(.e 0,[(0,Li rI_u8 v0_7),(24,I64 v24_8),(25,Bo v25_9)],[])) rfl (fun st _ h=> ?_) (fun q h=> ?_)
 obtain⟨v0_5,v24_6⟩:=st
 unfold eD at h
 refine cRs<|xLt rfl<|oNl<|cSq<|cIf h rfl (fun q10 h=> ?_) (fun q10 h=> ?_)
 refine cSk<|cSq<|cBk<|cRs<|xIx h aH rfl (fun e26_11 h=> ?_)
 refine xLd rfl<|xAz [.int .i64 0, .int .i64 0, .str [], .sl ([].map aD)] rfl<|xSt rfl<|oNl<|cRg<|xMv rfl<|xLd rfl<|xC0 h (ih_impl_putPat ·) rfl (fun c30_12 h=> ?_)
 exact xAs rfl<|oNl<|cRg<|cD rfl<|xMv rfl<|oNl<|eL h rfl
 exact cEx<|eX h rfl
 obtain⟨v0_7,v24_8,v25_9⟩:=q
 refine cRs<|xMv rfl<|xAs rfl<|oNl<|cRt ?_
 cases h
 exact eR rfl rfl rfl rfl
def wC:Nat→(jO)
  | 0=>(fun _ _ _ _ _=>none)
  | n+1=>jJ n (wC n)
def fQ(n:Nat):jO:=wC n
theorem AB(n:Nat):nR (fQ n):=by
  induction n with
  | zero=>exact(fun h=>nomatch h)
  | succ n ih=>exact zY (n:=n) ih
theorem CA{n:Nat}:nR (fQ n):=(AB n)
theorem oZ(n:Nat):fQ (n+1)=jJ n (fQ n):=rfl
abbrev DW(p:(List aB)→(List aA)→Option ((List Int))):Prop:= ∀ {t0_0:List aB} {t0_1:List aA} {r:(List Int)},p t0_0 t0_1=some r→Big Try.prog τ An (.fn 34 [.one (.ag [.sl (t0_0.map aG), .sl (t0_1.map aD)])] [] (.one (.c (.sl (r.map rI_u8)))) none [] none)
def cQ(n:Nat)(e27_13:aB):((List Int)×Int)→Option (((List Int)×Int)⊕(((List Int)×Int×Bool)))
  | (v3_18,v46_19)=>bif decide (v46_19<(e27_13.f3.length:Int))then(ix e27_13.f3 v46_19).bind fun e48_24=>(bA n v3_18 e48_24.f0).bind fun c53_25=>(bA n c53_25 e48_24.f1).bind fun c56_26=>(dT n c56_26 e48_24.f2).bind fun c59_27=>(bA n c59_27 e48_24.f3).bind fun c62_28=>some (.inl (c62_28,(IntKind.wrap .i64 (v46_19+(1:Int)))))else some (.inr (v3_18,v46_19,false))
def dK(n:Nat)(t0_0:List aB):((List Int)×Int)→Option (((List Int)×Int)⊕(((List Int)×Int×Bool)))
  | (v3_7,v25_8)=>bif decide (v25_8<(t0_0.length:Int))then(ix t0_0 v25_8).bind fun e27_13=>(dT n v3_7 e27_13.f0).bind fun c32_14=>(bA n c32_14 e27_13.f1).bind fun c35_15=>(bA n c35_15 e27_13.f2).bind fun c38_16=>(bA n c38_16 (e27_13.f3.length:Int)).bind fun c42_17=>(loopN (cQ n e27_13) n (c42_17,(0:Int))).bind fun(v3_20,v46_21,v47_22)=>some (.inl (v3_20,(IntKind.wrap .i64 (v25_8+(1:Int)))))else some (.inr (v3_7,v25_8,false))
def cP(n:Nat)(t0_1:List aA):((List Int)×Int)→Option (((List Int)×Int)⊕(((List Int)×Int×Bool)))
  | (v3_30,v73_31)=>bif decide (v73_31<(t0_1.length:Int))then(ix t0_1 v73_31).bind fun e75_36=>(fQ n v3_30 e75_36.f0 e75_36.f1 e75_36.f2 e75_36.f3).bind fun c79_37=>some (.inl (c79_37,(IntKind.wrap .i64 (v73_31+(1:Int)))))else some (.inr (v3_30,v73_31,false))
def dU(n:Nat)(t0_0:List aB)(t0_1:List aA):Option ((List Int)):=
  ((lJ n t0_0 t0_1).bind fun c11_2=>bif !c11_2 then some true else(kJ n t0_0 t0_1).bind fun c15_4=>some (!c15_4)).bind fun v17_1=>bif v17_1 then some ([]:List Int)else(bA n ([]:List Int) (t0_0.length:Int)).bind fun c21_6=>(loopN (dK n t0_0) n (c21_6,(0:Int))).bind fun(v3_9,v25_10,v26_11)=>(bA n v3_9 (t0_1.length:Int)).bind fun c69_29=>(loopN (cP n t0_1) n (c69_29,(0:Int))).bind fun(v3_32,v73_33,v74_34)=>some v3_32
theorem AO{n:Nat}:DW (dU n):=by
 intro t0_0 t0_1 r h
 unfold dU at h
 refine bF Try.func34 rfl rfl<|cRs<|xBx rfl<|wAe (Li rI_u8 []) rfl rfl rfl rfl<|oNl<|cSq<|cRs<|oJn h [(10,17)] [] (fun v17_1=>(.n,[(17,Bo v17_1)],[])) (fun _ h=> ?_) (fun v17_1 h=> ?_)
 refine xLd rfl<|xC0 h (CC ·) rfl (fun c11_2 h=> ?_)
 refine fC rfl<|xMv rfl<|oIf 13 h rfl (fun q3 h=> ?_) (fun q3 h=> ?_)
 exact wSk rfl<|wSk rfl<|wSk rfl<|xPk rfl<|oNl<|eJ h rfl
 refine xLd rfl<|xC0 h (AN ·) rfl (fun c15_4 h=> ?_)
 exact fC rfl<|xPk rfl<|oNl<|eJ h rfl
 refine cIf h rfl (fun q5 h=> ?_) (fun q5 h=> ?_)
 refine cRs<|wAe (Li rI_u8 []) rfl rfl rfl rfl<|oNl<|cRt ?_
 cases h
 exact eR rfl rfl rfl rfl
 refine cSk<|cRs<|xFd rfl<|xLd rfl<|xLn rfl<|xC0 h (bQ ·) rfl (fun c21_6 h=> ?_)
 refine xAs rfl<|oNl<|cSq<|cRs<|xFd rfl<|xLd rfl<|xLn rfl<|xMv rfl<|oNl<|cLp h [(3,3),(5,5),(7,7),(25,64)] [(5,5),(7,7)] (fun(v3_7,v25_8)=>([(3,Li rI_u8 v3_7),(25,I64 v25_8)],[])) (fun(v3_9,v25_10,v26_11)=>(.e 0,[(3,Li rI_u8 v3_9),(25,I64 v25_10),(26,Bo v26_11)],[])) rfl (fun st _ h=> ?_) (fun q h=> ?_)
 obtain⟨v3_7,v25_8⟩:=st
 unfold dK at h
 refine cRs<|xLt rfl<|oNl<|cSq<|cIf h rfl (fun q12 h=> ?_) (fun q12 h=> ?_)
 refine cSk<|cSq<|cBk<|cRs<|xIx h bN rfl (fun e27_13 h=> ?_)
 refine xLd rfl<|xAz [.str [], .int .i64 0, .int .i64 0, .sl ([].map aJ)] rfl<|xSt rfl<|oRs<|xMv rfl<|xFd rfl<|xLd rfl<|xC0 h (nF ·) rfl (fun c32_14 h=> ?_)
 refine xFd rfl<|xLd rfl<|xC0 h (bQ ·) rfl (fun c35_15 h=> ?_)
 refine xFd rfl<|xLd rfl<|xC0 h (bQ ·) rfl (fun c38_16 h=> ?_)
 refine xFd rfl<|xLd rfl<|xLn rfl<|xC0 h (bQ ·) rfl (fun c42_17 h=> ?_)
 refine xAs rfl<|oRs<|xFd rfl<|xLd rfl<|xLn rfl<|xMv rfl<|oNl<|cLp h [(3,3),(7,7),(46,63)] [(7,7)] (fun(v3_18,v46_19)=>([(3,Li rI_u8 v3_18),(46,I64 v46_19)],[])) (fun(v3_20,v46_21,v47_22)=>(.e 2,[(3,Li rI_u8 v3_20),(46,I64 v46_21),(47,Bo v47_22)],[])) rfl (fun st _ h=> ?_) (fun q h=> ?_)
 obtain⟨v3_18,v46_19⟩:=st
 unfold cQ at h
 refine cRs<|xLt rfl<|oNl<|cSq<|cIf h rfl (fun q23 h=> ?_) (fun q23 h=> ?_)
 refine cSk<|cSq<|cBk<|cRs<|xIx h bS rfl (fun e48_24 h=> ?_)
 refine xLd rfl<|xAc rfl<|xSt rfl<|oNl<|cRg<|xMv rfl<|xFd rfl<|xLd rfl<|xC0 h (bQ ·) rfl (fun c53_25 h=> ?_)
 refine xFd rfl<|xLd rfl<|xC0 h (bQ ·) rfl (fun c56_26 h=> ?_)
 refine xFd rfl<|xLd rfl<|xC0 h (nF ·) rfl (fun c59_27 h=> ?_)
 refine xFd rfl<|xLd rfl<|xC0 h (bQ ·) rfl (fun c62_28 h=> ?_)
 exact xAs rfl<|oNl<|cRg<|cD rfl<|xMv rfl<|oNl<|eL h rfl
 exact cEx<|eX h rfl
 obtain⟨v3_20,v46_21,v47_22⟩:=q
 exact cRg<|cD rfl<|xMv rfl<|oNl<|eL h rfl
 exact cEx<|eX h rfl
 obtain⟨v3_9,v25_10,v26_11⟩:=q
 refine cRs<|xMv rfl<|xFd rfl<|xLd rfl<|xLn rfl<|xC0 h (bQ ·) rfl (fun c69_29 h=> ?_)
 refine xAs rfl<|oNl<|cSq<|cRs<|xFd rfl<|xLd rfl<|xLn rfl<|xMv rfl<|oNl<|cLp h [(3,3),(9,9),(73,80)] [(9,9)] (fun(v3_30,v73_31)=>([(3,Li rI_u8 v3_30),(73,I64 v73_31)],[])) (fun(v3_32,v73_33,v74_34)=>(.e 4,[(3,Li rI_u8 v3_32),(73,I64 v73_33),(74,Bo v74_34)],[])) rfl (fun st _ h=> ?_) (fun q h=> ?_)
 obtain⟨v3_30,v73_31⟩:=st
 unfold cP at h
 refine cRs<|xLt rfl<|oNl<|cSq<|cIf h rfl (fun q35 h=> ?_) (fun q35 h=> ?_)
 refine cSk<|cSq<|cBk<|cRs<|xIx h aH rfl (fun e75_36 h=> ?_)
 refine xLd rfl<|xAz [.int .i64 0, .int .i64 0, .str [], .sl ([].map aD)] rfl<|xSt rfl<|oNl<|cRg<|xMv rfl<|xLd rfl<|xC0 h (CA ·) rfl (fun c79_37 h=> ?_)
 exact xAs rfl<|oNl<|cRg<|cD rfl<|xMv rfl<|oNl<|eL h rfl
 exact cEx<|eX h rfl
 obtain⟨v3_32,v73_33,v74_34⟩:=q
 refine cRs<|xMv rfl<|xAs rfl<|oNl<|cRt ?_
 cases h
 exact eR rfl rfl rfl rfl
abbrev FO(p:(List Int)→Int→Option (Int×Int×Bool)):Prop:= ∀ {t0_0:List Int} {t1_0:Int} {r:Int×Int×Bool},p t0_0 t1_0=some r→Big Try.prog τ An (.fn 279 [.one (.c (.sl (t0_0.map rI_u8))), .one (.c (.int .i64 t1_0))] [] (.tup [.c (.int .i64 r.1), .c (.int .i64 r.2.1), .c (.bool r.2.2)]) none [] none)
def eE(n:Nat)(t0_0:List Int):(Int×Int×Int)→Option ((Int×Int×Int)⊕((Int×Int×Bool)⊕(Int×Int×Int×Bool)))
  | (v1_3,v7_4,v8_5)=>(bif decide (v8_5<(6:Int))then some (decide (v1_3<(t0_0.length:Int)))else some false).bind fun v24_13=>bif v24_13 then(ix t0_0 v1_3).bind fun e29_16=>(ck (decide (0≤(IntKind.wrap .u64 (IntKind.wrap .i64 ((7:Int)*v8_5)))))).bind fun _=>bif decide ((128:Int)≤(IntKind.wrap .i64 e29_16))then some (.inl ((IntKind.wrap .i64 (v1_3+(1:Int))),(bits .or .i64 v7_4 (IntKind.wrap .i64 ((bits .and .i64 (IntKind.wrap .i64 e29_16) (127:Int))*2 ^ min (Int.toNat (IntKind.wrap .u64 (IntKind.wrap .i64 ((7:Int)*v8_5)))) 64))),(IntKind.wrap .i64 (v8_5+(1:Int)))))else bif decide ((Int.tmod (bits .or .i64 v7_4 (IntKind.wrap .i64 ((bits .and .i64 (IntKind.wrap .i64 e29_16) (127:Int))*2 ^ min (Int.toNat (IntKind.wrap .u64 (IntKind.wrap .i64 ((7:Int)*v8_5)))) 64))) (2:Int))=(1:Int))then(bif decide ((IntKind.wrap .i64 e29_16)=(0:Int))then bif decide ((0:Int)<v8_5)then some true else(aL n (IntKind.wrap .i64 (Int.tdiv (IntKind.wrap .i64 (0 - (IntKind.wrap .i64 ((bits .or .i64 v7_4 (IntKind.wrap .i64 ((bits .and .i64 (IntKind.wrap .i64 e29_16) (127:Int))*2 ^ min (Int.toNat (IntKind.wrap .u64 (IntKind.wrap .i64 ((7:Int)*v8_5)))) 64)))+(1:Int))))) (2:Int))) ((-1000000000000):Int) (1000000000000:Int)).bind fun c61_23=>some (!c61_23)else(aL n (IntKind.wrap .i64 (Int.tdiv (IntKind.wrap .i64 (0 - (IntKind.wrap .i64 ((bits .or .i64 v7_4 (IntKind.wrap .i64 ((bits .and .i64 (IntKind.wrap .i64 e29_16) (127:Int))*2 ^ min (Int.toNat (IntKind.wrap .u64 (IntKind.wrap .i64 ((7:Int)*v8_5)))) 64)))+(1:Int))))) (2:Int))) ((-1000000000000):Int) (1000000000000:Int)).bind fun c61_24=>some (!c61_24)).bind fun v63_20=>bif v63_20 then some (.inr (.inl ((0:Int),(0:Int),false)))else some (.inr (.inl ((IntKind.wrap .i64 (Int.tdiv (IntKind.wrap .i64 (0 - (IntKind.wrap .i64 ((bits .or .i64 v7_4 (IntKind.wrap .i64 ((bits .and .i64 (IntKind.wrap .i64 e29_16) (127:Int))*2 ^ min (Int.toNat (IntKind.wrap .u64 (IntKind.wrap .i64 ((7:Int)*v8_5)))) 64)))+(1:Int))))) (2:Int))),(IntKind.wrap .i64 (v1_3+(1:Int))),true)))else(bif decide ((IntKind.wrap .i64 e29_16)=(0:Int))then bif decide ((0:Int)<v8_5)then some true else(aL n (IntKind.wrap .i64 (Int.tdiv (bits .or .i64 v7_4 (IntKind.wrap .i64 ((bits .and .i64 (IntKind.wrap .i64 e29_16) (127:Int))*2 ^ min (Int.toNat (IntKind.wrap .u64 (IntKind.wrap .i64 ((7:Int)*v8_5)))) 64))) (2:Int))) ((-1000000000000):Int) (1000000000000:Int)).bind fun c61_29=>some (!c61_29)else(aL n (IntKind.wrap .i64 (Int.tdiv (bits .or .i64 v7_4 (IntKind.wrap .i64 ((bits .and .i64 (IntKind.wrap .i64 e29_16) (127:Int))*2 ^ min (Int.toNat (IntKind.wrap .u64 (IntKind.wrap .i64 ((7:Int)*v8_5)))) 64))) (2:Int))) ((-1000000000000):Int) (1000000000000:Int)).bind fun c61_30=>some (!c61_30)).bind fun v63_26=>bif v63_26 then some (.inr (.inl ((0:Int),(0:Int),false)))else some (.inr (.inl ((IntKind.wrap .i64 (Int.tdiv (bits .or .i64 v7_4 (IntKind.wrap .i64 ((bits .and .i64 (IntKind.wrap .i64 e29_16) (127:Int))*2 ^ min (Int.toNat (IntKind.wrap .u64 (IntKind.wrap .i64 ((7:Int)*v8_5)))) 64))) (2:Int))),(IntKind.wrap .i64 (v1_3+(1:Int))),true)))else some (.inr (.inr (v1_3,v7_4,v8_5,false)))
def jM(n:Nat)(t0_0:List Int)(t1_0:Int):Option (Int×Int×Bool):=
  (aL n t1_0 (0:Int) (IntKind.wrap .i64 ((t0_0.length:Int) - (1:Int)))).bind fun c15_1=>bif !c15_1 then some ((0:Int),(0:Int),false)else(loopN (eE n t0_0) n (t1_0,(0:Int),(0:Int))).bind fun q=>(match q with | .inl (v4_6,v5_7,v6_8)=>some (v4_6,v5_7,v6_8) | .inr (v1_9,v7_10,v8_11,v24_12)=>some ((0:Int),(0:Int),false))
theorem sS{n:Nat}:FO (jM n):=by
 intro t0_0 t1_0 r h
 unfold jM at h
 refine bF Try.func279 rfl rfl<|cRs<|xAs rfl<|xAs rfl<|xAs rfl<|oNl<|cSq<|cRs<|xMv rfl<|xMv rfl<|xLn rfl<|sB rfl<|xC0 h (aN ·) rfl (fun c15_1 h=> ?_)
 refine fC rfl<|oNl<|cIf h rfl (fun q2 h=> ?_) (fun q2 h=> ?_)
 refine cRs<|xAs rfl<|xAs rfl<|xAs rfl<|oNl<|cRt ?_
 cases h
 exact eR rfl rfl rfl rfl
 refine cSk<|cRs<|xAs rfl<|oNl<|cSq<|cRs<|xAs rfl<|oNl<|cLp h [(1,1),(4,10),(17,65)] [] (fun(v1_3,v7_4,v8_5)=>([(1,I64 v1_3),(7,I64 v7_4),(8,I64 v8_5)],[])) (fun q=>match q with | .inl (v4_6,v5_7,v6_8)=>(.r,[(4,I64 v4_6),(5,I64 v5_7),(6,Bo v6_8)],[]) | .inr (v1_9,v7_10,v8_11,v24_12)=>(.e 0,[(1,I64 v1_9),(7,I64 v7_10),(8,I64 v8_11),(24,Bo v24_12)],[])) rfl (fun st _ h=> ?_) (fun q h=> ?_)
 obtain⟨v1_3,v7_4,v8_5⟩:=st
 unfold eE at h
 refine cSq<|cRs<|oJn h [(17,24)] [] (fun v24_13=>(.n,[(24,Bo v24_13)],[])) (fun _ h=> ?_) (fun v24_13 h=> ?_)
 refine xMv rfl<|xLt rfl<|xMv rfl<|oIf 19 h rfl (fun q14 h=> ?_) (fun q14 h=> ?_)
 exact xMv rfl<|xMv rfl<|xLn rfl<|xLt rfl<|xPk rfl<|oNl<|eJ h rfl
 exact wSk rfl<|wSk rfl<|wSk rfl<|wSk rfl<|xPk rfl<|oNl<|eJ h rfl
 refine cIf h rfl (fun q15 h=> ?_) (fun q15 h=> ?_)
 refine cSk<|cSq<|cBk<|cRs<|xMv rfl<|xMv rfl<|xIx h jY rfl (fun e29_16 h=> ?_)
 refine xLd rfl<|wCv rfl rfl rfl rfl rfl<|xAs rfl<|oRs<|xMv rfl<|cD rfl<|xAs rfl<|oRs<|xMv rfl<|xMv rfl<|wBi (.int .i64 (bits .and .i64 (IntKind.wrap .i64 e29_16) (127:Int))) rfl rfl rfl rfl rfl<|xMv rfl<|HB rfl<|wCv rfl rfl rfl rfl rfl<|oCk h (fun k40_16 h=> ?_)
 refine wShl k40_16 rfl rfl rfl rfl<|wBi (.int .i64 (bits .or .i64 v7_4 (IntKind.wrap .i64 ((bits .and .i64 (IntKind.wrap .i64 e29_16) (127:Int))*2 ^ min (Int.toNat (IntKind.wrap .u64 (IntKind.wrap .i64 ((7:Int)*v8_5)))) 64)))) rfl rfl rfl rfl rfl<|xAs rfl<|oNl<|cSq<|cRs<|xMv rfl<|xGe rfl<|oNl<|cIf h rfl (fun q18 h=> ?_) (fun q18 h=> ?_)
 exact cEx<|cRg<|xMv rfl<|cD rfl<|xAs rfl<|oNl<|eL h rfl
 refine cSk<|cRs<|xMv rfl<|wBi (.int .i64 (IntKind.wrap .i64 (Int.tdiv (bits .or .i64 v7_4 (IntKind.wrap .i64 ((bits .and .i64 (IntKind.wrap .i64 e29_16) (127:Int))*2 ^ min (Int.toNat (IntKind.wrap .u64 (IntKind.wrap .i64 ((7:Int)*v8_5)))) 64))) (2:Int)))) rfl rfl rfl rfl rfl<|xAs rfl<|oNl<|cSq<|cRs<|xMv rfl<|wBi (.int .i64 (Int.tmod (bits .or .i64 v7_4 (IntKind.wrap .i64 ((bits .and .i64 (IntKind.wrap .i64 e29_16) (127:Int))*2 ^ min (Int.toNat (IntKind.wrap .u64 (IntKind.wrap .i64 ((7:Int)*v8_5)))) 64))) (2:Int))) rfl rfl rfl rfl rfl<|xEq rfl<|oNl<|cIf h rfl (fun q19 h=> ?_) (fun q19 h=> ?_)
 refine cRg<|xMv rfl<|cD rfl<|wNeg rfl rfl rfl<|wBi (.int .i64 (IntKind.wrap .i64 (Int.tdiv (IntKind.wrap .i64 (0 - (IntKind.wrap .i64 ((bits .or .i64 v7_4 (IntKind.wrap .i64 ((bits .and .i64 (IntKind.wrap .i64 e29_16) (127:Int))*2 ^ min (Int.toNat (IntKind.wrap .u64 (IntKind.wrap .i64 ((7:Int)*v8_5)))) 64)))+(1:Int))))) (2:Int)))) rfl rfl rfl rfl rfl<|xAs rfl<|oNl<|cSq<|cRs<|oJn h [(53,63)] [] (fun v63_20=>(.n,[(63,Bo v63_20)],[])) (fun _ h=> ?_) (fun v63_20 h=> ?_)
 refine xMv rfl<|xEq rfl<|xMv rfl<|oIf 55 h rfl (fun q21 h=> ?_) (fun q21 h=> ?_)
 refine xMv rfl<|xGt rfl<|xPk rfl<|xMv rfl<|oIf 59 h rfl (fun q22 h=> ?_) (fun q22 h=> ?_)
 exact wSk rfl<|wSk rfl<|wSk rfl<|xPk rfl<|oNl<|eJ h rfl
 refine xMv rfl<|xC0 h (aN ·) rfl (fun c61_23 h=> ?_)
 exact fC rfl<|xPk rfl<|oNl<|eJ h rfl
 refine wSk rfl<|wSk rfl<|xPk rfl<|xMv rfl<|xMv rfl<|xC0 h (aN ·) rfl (fun c61_24 h=> ?_)
 exact fC rfl<|xPk rfl<|oNl<|eJ h rfl
 refine cIf h rfl (fun q25 h=> ?_) (fun q25 h=> ?_)
 exact cRs<|xAs rfl<|xAs rfl<|xAs rfl<|oNl<|cRt<|eXr h rfl
 exact cSk<|cRs<|xMv rfl<|xMv rfl<|xAs rfl<|xAs rfl<|xAs rfl<|oNl<|cRt<|eXr h rfl
 refine cSk<|cSq<|cRs<|oJn h [(53,63)] [] (fun v63_26=>(.n,[(63,Bo v63_26)],[])) (fun _ h=> ?_) (fun v63_26 h=> ?_)
 refine xMv rfl<|xEq rfl<|xMv rfl<|oIf 55 h rfl (fun q27 h=> ?_) (fun q27 h=> ?_)
 refine xMv rfl<|xGt rfl<|xPk rfl<|xMv rfl<|oIf 59 h rfl (fun q28 h=> ?_) (fun q28 h=> ?_)
 exact wSk rfl<|wSk rfl<|wSk rfl<|xPk rfl<|oNl<|eJ h rfl
 refine xMv rfl<|xC0 h (aN ·) rfl (fun c61_29 h=> ?_)
 exact fC rfl<|xPk rfl<|oNl<|eJ h rfl
 refine wSk rfl<|wSk rfl<|xPk rfl<|xMv rfl<|xMv rfl<|xC0 h (aN ·) rfl (fun c61_30 h=> ?_)
 exact fC rfl<|xPk rfl<|oNl<|eJ h rfl
 refine cIf h rfl (fun q31 h=> ?_) (fun q31 h=> ?_)
 exact cRs<|xAs rfl<|xAs rfl<|xAs rfl<|oNl<|cRt<|eXr h rfl
 exact cSk<|cRs<|xMv rfl<|xMv rfl<|xAs rfl<|xAs rfl<|xAs rfl<|oNl<|cRt<|eXr h rfl
 exact cEx<|eX h rfl
 rcases q with⟨v4_6,v5_7,v6_8⟩ | ⟨v1_9,v7_10,v8_11,v24_12⟩
 cases h
 exact eR rfl rfl rfl rfl
 refine cRs<|xAs rfl<|xAs rfl<|xAs rfl<|oNl<|cRt ?_
 cases h
 exact eR rfl rfl rfl rfl
abbrev yM(p:(List Int)→Int→Bool→Option (Int×(List Int)×Int×Bool)):Prop:= ∀ {o0_0:List Int} {o0_1:Int} {o0_2:Bool} {r:Int×(List Int)×Int×Bool},p o0_0 o0_1 o0_2=some r→Big Try.prog τ An (.fn 231 [.one (.ptr 1000000 0)] [[.sl (o0_0.map rI_u8), .int .i64 o0_1, .bool o0_2]] (.one (.c (.int .i64 r.1))) none [[.sl (r.2.1.map rI_u8), .int .i64 r.2.2.1, .bool r.2.2.2]] none)
def aM(n:Nat)(o0_0:List Int)(o0_1:Int)(o0_2:Bool):Option (Int×(List Int)×Int×Bool):=
  (jM n o0_0 o0_1).bind fun c15_1=>(bif o0_2 then some true else some (!c15_1.2.2)).bind fun v26_2=>bif v26_2 then some ((0:Int),o0_0,o0_1,true)else some (c15_1.1,o0_0,c15_1.2.1,o0_2)
theorem cB{n:Nat}:yM (aM n):=by
 intro o0_0 o0_1 o0_2 r h
 unfold aM at h
 refine bF Try.func231 rfl rfl<|cRs<|xAs rfl<|oRs<|xMv rfl<|xNc rfl<|xFd rfl<|xLd rfl<|xMv rfl<|xNc rfl<|xFd rfl<|xLd rfl<|xC0 h (sS ·) rfl (fun c15_1 h=> ?_)
 refine xMv rfl<|xEt rfl<|xEt rfl<|xEt rfl<|xAs rfl<|xAs rfl<|xAs rfl<|oNl<|cSq<|cRs<|oJn h [(19,26)] [] (fun v26_2=>(.n,[(26,Bo v26_2)],[])) (fun _ h=> ?_) (fun v26_2 h=> ?_)
 refine xMv rfl<|xNc rfl<|xFd rfl<|xLd rfl<|xMv rfl<|oIf 23 h rfl (fun q3 h=> ?_) (fun q3 h=> ?_)
 exact wSk rfl<|wSk rfl<|xPk rfl<|oNl<|eJ h rfl
 exact xMv rfl<|fC rfl<|xPk rfl<|oNl<|eJ h rfl
 refine cIf h rfl (fun q4 h=> ?_) (fun q4 h=> ?_)
 refine cRs<|xMv rfl<|xNc rfl<|xFd rfl<|xSt rfl<|oRs<|xAs rfl<|oNl<|cRt ?_
 cases h
 exact eR rfl rfl rfl rfl
 refine cSk<|cRs<|xMv rfl<|xMv rfl<|xNc rfl<|xFd rfl<|xSt rfl<|oRs<|xMv rfl<|xAs rfl<|oNl<|cRt ?_
 cases h
 exact eR rfl rfl rfl rfl
abbrev vE(p:Int→(List Int)→Int→Bool→Option (Int×(List Int)×Int×Bool)):Prop:= ∀ {t1_0:Int} {o0_0:List Int} {o0_1:Int} {o0_2:Bool} {r:Int×(List Int)×Int×Bool},p t1_0 o0_0 o0_1 o0_2=some r→Big Try.prog τ An (.fn 146 [.one (.ptr 1000000 0), .one (.c (.int .i64 t1_0))] [[.sl (o0_0.map rI_u8), .int .i64 o0_1, .bool o0_2]] (.one (.c (.int .i64 r.1))) none [[.sl (r.2.1.map rI_u8), .int .i64 r.2.2.1, .bool r.2.2.2]] none)
def aT(n:Nat)(t1_0:Int)(o0_0:List Int)(o0_1:Int)(o0_2:Bool):Option (Int×(List Int)×Int×Bool):=
  (aM n o0_0 o0_1 o0_2).bind fun c7_1=>(aL n c7_1.1 (0:Int) t1_0).bind fun c10_2=>bif !c10_2 then some ((0:Int),c7_1.2.1,c7_1.2.2.1,true)else some (c7_1.1,c7_1.2.1,c7_1.2.2.1,c7_1.2.2.2)
theorem dW{n:Nat}:vE (aT n):=by
 intro t1_0 o0_0 o0_1 o0_2 r h
 unfold aT at h
 refine bF Try.func146 rfl rfl<|cRs<|xAs rfl<|oRs<|xMv rfl<|xC1 h (cB ·) rfl (fun c7_1 h=> ?_)
 refine xAs rfl<|oNl<|cSq<|cRs<|xMv rfl<|xMv rfl<|xC0 h (aN ·) rfl (fun c10_2 h=> ?_)
 refine fC rfl<|oNl<|cIf h rfl (fun q3 h=> ?_) (fun q3 h=> ?_)
 refine cRs<|xMv rfl<|xNc rfl<|xFd rfl<|xSt rfl<|oRs<|xAs rfl<|oNl<|cRt ?_
 cases h
 exact eR rfl rfl rfl rfl
 refine cSk<|cRs<|xMv rfl<|xAs rfl<|oNl<|cRt ?_
 cases h
 exact eR rfl rfl rfl rfl
abbrev DY(p:(List Int)→Int→Option ((List UInt8)×Int×Bool)):Prop:= ∀ {t0_0:List Int} {t1_0:Int} {r:(List UInt8)×Int×Bool},p t0_0 t1_0=some r→Big Try.prog τ An (.fn 280 [.one (.c (.sl (t0_0.map rI_u8))), .one (.c (.int .i64 t1_0))] [] (.tup [.c (.str r.1), .c (.int .i64 r.2.1), .c (.bool r.2.2)]) none [] none)
def iU(n:Nat)(t0_0:List Int)(t1_0:Int):Option ((List UInt8)×Int×Bool):=
  (jM n t0_0 t1_0).bind fun c13_1=>(bif !c13_1.2.2 then some true else bif decide (c13_1.1<(0:Int))then some true else some (decide ((IntKind.wrap .i64 ((t0_0.length:Int) - c13_1.2.1))<c13_1.1))).bind fun v30_2=>bif v30_2 then some (([]:List UInt8),(0:Int),false)else(sub t0_0 (some c13_1.2.1) (some (IntKind.wrap .i64 (c13_1.2.1+c13_1.1)))).bind fun v36_6=>(lU v36_6).bind fun v37_7=>some (v37_7,(IntKind.wrap .i64 (c13_1.2.1+c13_1.1)),true)
theorem AP{n:Nat}:DY (iU n):=by
 intro t0_0 t1_0 r h
 unfold iU at h
 refine bF Try.func280 rfl rfl<|cRs<|xAs rfl<|xAs rfl<|xAs rfl<|oRs<|xMv rfl<|xMv rfl<|xC0 h (sS ·) rfl (fun c13_1 h=> ?_)
 refine xMv rfl<|xEt rfl<|xEt rfl<|xEt rfl<|xAs rfl<|xAs rfl<|xAs rfl<|oNl<|cSq<|cRs<|oJn h [(17,30)] [] (fun v30_2=>(.n,[(30,Bo v30_2)],[])) (fun _ h=> ?_) (fun v30_2 h=> ?_)
 refine xMv rfl<|fC rfl<|xMv rfl<|oIf 19 h rfl (fun q3 h=> ?_) (fun q3 h=> ?_)
 exact wSk rfl<|wSk rfl<|xPk rfl<|xMv rfl<|wSk rfl<|wSk rfl<|wSk rfl<|wSk rfl<|wSk rfl<|wSk rfl<|xPk rfl<|oNl<|eJ h rfl
 refine xMv rfl<|xLt rfl<|xPk rfl<|xMv rfl<|oIf 23 h rfl (fun q4 h=> ?_) (fun q4 h=> ?_)
 exact wSk rfl<|wSk rfl<|wSk rfl<|wSk rfl<|wSk rfl<|wSk rfl<|xPk rfl<|oNl<|eJ h rfl
 exact xMv rfl<|xMv rfl<|xLn rfl<|xMv rfl<|sB rfl<|xGt rfl<|xPk rfl<|oNl<|eJ h rfl
 refine cIf h rfl (fun q5 h=> ?_) (fun q5 h=> ?_)
 refine cRs<|xAs rfl<|xAs rfl<|xAs rfl<|oNl<|cRt ?_
 cases h
 exact eR rfl rfl rfl rfl
 refine cSk<|cRs<|xMv rfl<|xMv rfl<|xMv rfl<|xMv rfl<|cD rfl<|wSl (rf:=rI_u8) h rfl rfl rfl rfl (.so rfl) (.so rfl) (fun _=>rfl) rfl (fun v36_6 h=> ?_)
 refine wTs h rfl rfl ⟨rfl,rfl⟩ rfl jY rfl (fun v37_7 h=> ?_)
 refine xMv rfl<|xMv rfl<|cD rfl<|xAs rfl<|xAs rfl<|xAs rfl<|oNl<|cRt ?_
 cases h
 exact eR rfl rfl rfl rfl
abbrev xC(p:(List Int)→Int→Bool→Option ((List UInt8)×(List Int)×Int×Bool)):Prop:= ∀ {o0_0:List Int} {o0_1:Int} {o0_2:Bool} {r:(List UInt8)×(List Int)×Int×Bool},p o0_0 o0_1 o0_2=some r→Big Try.prog τ An (.fn 232 [.one (.ptr 1000000 0)] [[.sl (o0_0.map rI_u8), .int .i64 o0_1, .bool o0_2]] (.one (.c (.str r.1))) none [[.sl (r.2.1.map rI_u8), .int .i64 r.2.2.1, .bool r.2.2.2]] none)
def aS(n:Nat)(o0_0:List Int)(o0_1:Int)(o0_2:Bool):Option ((List UInt8)×(List Int)×Int×Bool):=
  (iU n o0_0 o0_1).bind fun c15_1=>(bif o0_2 then some true else some (!c15_1.2.2)).bind fun v26_2=>bif v26_2 then some (([]:List UInt8),o0_0,o0_1,true)else some (c15_1.1,o0_0,c15_1.2.1,o0_2)
theorem jZ{n:Nat}:xC (aS n):=by
 intro o0_0 o0_1 o0_2 r h
 unfold aS at h
 refine bF Try.func232 rfl rfl<|cRs<|xAs rfl<|oRs<|xMv rfl<|xNc rfl<|xFd rfl<|xLd rfl<|xMv rfl<|xNc rfl<|xFd rfl<|xLd rfl<|xC0 h (AP ·) rfl (fun c15_1 h=> ?_)
 refine xMv rfl<|xEt rfl<|xEt rfl<|xEt rfl<|xAs rfl<|xAs rfl<|xAs rfl<|oNl<|cSq<|cRs<|oJn h [(19,26)] [] (fun v26_2=>(.n,[(26,Bo v26_2)],[])) (fun _ h=> ?_) (fun v26_2 h=> ?_)
 refine xMv rfl<|xNc rfl<|xFd rfl<|xLd rfl<|xMv rfl<|oIf 23 h rfl (fun q3 h=> ?_) (fun q3 h=> ?_)
 exact wSk rfl<|wSk rfl<|xPk rfl<|oNl<|eJ h rfl
 exact xMv rfl<|fC rfl<|xPk rfl<|oNl<|eJ h rfl
 refine cIf h rfl (fun q4 h=> ?_) (fun q4 h=> ?_)
 refine cRs<|xMv rfl<|xNc rfl<|xFd rfl<|xSt rfl<|oRs<|xAs rfl<|oNl<|cRt ?_
 cases h
 exact eR rfl rfl rfl rfl
 refine cSk<|cRs<|xMv rfl<|xMv rfl<|xNc rfl<|xFd rfl<|xSt rfl<|oRs<|xMv rfl<|xAs rfl<|oNl<|cRt ?_
 cases h
 exact eR rfl rfl rfl rfl
abbrev AT(p:(List Int)→Int→Bool→Option ((List UInt8)×Int×Int×(List aC)×(List Int)×Int×Bool)):Prop:= ∀ {o0_0:List Int} {o0_1:Int} {o0_2:Bool} {r:(List UInt8)×Int×Int×(List aC)×(List Int)×Int×Bool},p o0_0 o0_1 o0_2=some r→Big Try.prog τ An (.fn 147 [.one (.ptr 1000000 0)] [[.sl (o0_0.map rI_u8), .int .i64 o0_1, .bool o0_2]] (.one (.ag [.str r.1, .int .i64 r.2.1, .int .i64 r.2.2.1, .sl (r.2.2.2.1.map aJ)])) none [[.sl (r.2.2.2.2.1.map rI_u8), .int .i64 r.2.2.2.2.2.1, .bool r.2.2.2.2.2.2]] none)
def cN(n:Nat)(c15_4:Int×(List Int)×Int×Bool):(Int×(List UInt8)×Int×Int×(List aC)×(List Int)×Int×Bool)→Option ((Int×(List UInt8)×Int×Int×(List aC)×(List Int)×Int×Bool)⊕((Int×(List UInt8)×Int×Int×(List aC)×(List Int)×Int×Bool)))
  | (v16_5,w3_6,w3_7,w3_8,w3_9,w1000000_10,w1000000_11,w1000000_12)=>bif decide (v16_5<c15_4.1)then bif w1000000_12 then some (.inr (v16_5,w3_6,w3_7,w3_8,w3_9,w1000000_10,w1000000_11,w1000000_12))else(aM n w1000000_10 w1000000_11 w1000000_12).bind fun c23_23=>(aM n c23_23.2.1 c23_23.2.2.1 c23_23.2.2.2).bind fun c26_24=>(aS n c26_24.2.1 c26_24.2.2.1 c26_24.2.2.2).bind fun c29_25=>(aM n c29_25.2.1 c29_25.2.2.1 c29_25.2.2.2).bind fun c32_26=>(iI 40 w3_9 ([aC.mk c23_23.1 c26_24.1 c29_25.1 c32_26.1]:List aC)).bind fun v38_27=>some (.inl ((IntKind.wrap .i64 (v16_5+(1:Int))),w3_6,w3_7,w3_8,v38_27,c32_26.2.1,c32_26.2.2.1,c32_26.2.2.2))else some (.inr (v16_5,w3_6,w3_7,w3_8,w3_9,w1000000_10,w1000000_11,w1000000_12))
def iP(n:Nat)(o0_0:List Int)(o0_1:Int)(o0_2:Bool):Option ((List UInt8)×Int×Int×(List aC)×(List Int)×Int×Bool):=
  (aS n o0_0 o0_1 o0_2).bind fun c6_1=>(aM n c6_1.2.1 c6_1.2.2.1 c6_1.2.2.2).bind fun c9_2=>(aM n c9_2.2.1 c9_2.2.2.1 c9_2.2.2.2).bind fun c12_3=>(aT n (1500:Int) c12_3.2.1 c12_3.2.2.1 c12_3.2.2.2).bind fun c15_4=>(loopN (cN n c15_4) n ((0:Int),c6_1.1,c9_2.1,c12_3.1,([]:List aC),c15_4.2.1,c15_4.2.2.1,c15_4.2.2.2)).bind fun(v16_13,w3_14,w3_15,w3_16,w3_17,w1000000_18,w1000000_19,w1000000_20)=>some (w3_14,w3_15,w3_16,w3_17,w1000000_18,w1000000_19,w1000000_20)
theorem xB{n:Nat}:AT (iP n):=by
 intro o0_0 o0_1 o0_2 r h
 unfold iP at h
 refine bF Try.func147 rfl rfl<|cRs<|xAz [.str [], .int .i64 0, .int .i64 0, .sl ([].map aJ)] rfl<|oRs<|xMv rfl<|xC1 h (jZ ·) rfl (fun c6_1 h=> ?_)
 refine wBd [.str c6_1.1, .int .i64 0, .int .i64 0, .sl ([].map aJ)] rfl rfl rfl rfl rfl rfl<|xAz [.str [], .int .i64 0, .int .i64 0, .sl ([].map aJ)] rfl<|xSt rfl<|oRs<|xMv rfl<|xC1 h (cB ·) rfl (fun c9_2 h=> ?_)
 refine xFd rfl<|xSt rfl<|oRs<|xMv rfl<|xC1 h (cB ·) rfl (fun c12_3 h=> ?_)
 refine xFd rfl<|xSt rfl<|oNl<|cSq<|cRs<|xMv rfl<|xC1 h (dW ·) rfl (fun c15_4 h=> ?_)
 refine xMv rfl<|oNl<|cLp h [(4,4),(16,40)] [(3,4),(1000000,1000000)] (fun(v16_5,w3_6,w3_7,w3_8,w3_9,w1000000_10,w1000000_11,w1000000_12)=>([(16,I64 v16_5)],[(3,[.str w3_6, .int .i64 w3_7, .int .i64 w3_8, .sl (w3_9.map aJ)]),(1000000,[.sl (w1000000_10.map rI_u8), .int .i64 w1000000_11, .bool w1000000_12])])) (fun(v16_13,w3_14,w3_15,w3_16,w3_17,w1000000_18,w1000000_19,w1000000_20)=>(.e 0,[(16,I64 v16_13)],[(3,[.str w3_14, .int .i64 w3_15, .int .i64 w3_16, .sl (w3_17.map aJ)]),(1000000,[.sl (w1000000_18.map rI_u8), .int .i64 w1000000_19, .bool w1000000_20])])) rfl (fun st _ h=> ?_) (fun q h=> ?_)
 obtain⟨v16_5,w3_6,w3_7,w3_8,w3_9,w1000000_10,w1000000_11,w1000000_12⟩:=st
 unfold cN at h
 refine cRs<|xLt rfl<|oNl<|cSq<|cIf h rfl (fun q21 h=> ?_) (fun q21 h=> ?_)
 refine cSk<|cSq<|cBk<|cSq<|cRs<|xMv rfl<|xNc rfl<|xFd rfl<|xLd rfl<|oNl<|cIf h rfl (fun q22 h=> ?_) (fun q22 h=> ?_)
 exact cEx<|eX h rfl
 refine cSk<|cRs<|xMv rfl<|xC1 h (cB ·) rfl (fun c23_23 h=> ?_)
 refine wBd [.int .i64 c23_23.1, .int .i64 0, .str [], .int .i64 0] rfl rfl rfl rfl rfl rfl<|xAc rfl<|xSt rfl<|oRs<|xMv rfl<|xC1 h (cB ·) rfl (fun c26_24 h=> ?_)
 refine xFd rfl<|xSt rfl<|oRs<|xMv rfl<|xC1 h (jZ ·) rfl (fun c29_25 h=> ?_)
 refine xFd rfl<|xSt rfl<|oRs<|xMv rfl<|xC1 h (cB ·) rfl (fun c32_26 h=> ?_)
 refine xFd rfl<|xSt rfl<|oNl<|cRg<|xFd rfl<|xLd rfl<|xLd rfl<|nG (L:=([aC.mk c23_23.1 c26_24.1 c29_25.1 c32_26.1]:List aC)) (f:=aJ) rfl rfl rfl rfl rfl rfl rfl<|wAp (f:=aJ) h rfl rfl rfl rfl rfl rfl rfl rfl rfl (fun _=>rfl) rfl (fun v38_27 h=> ?_)
 exact xFd rfl<|xSt rfl<|oNl<|cRg<|cD rfl<|xMv rfl<|oNl<|eL h rfl
 exact cEx<|eX h rfl
 obtain⟨v16_13,w3_14,w3_15,w3_16,w3_17,w1000000_18,w1000000_19,w1000000_20⟩:=q
 refine cRs<|xLd rfl<|xSt rfl<|oNl<|cRt ?_
 cases h
 exact eR rfl rfl rfl rfl
abbrev cS:Type:=Int→(List Int)→Int→Bool→Option (Int×Int×(List UInt8)×(List aA)×(List Int)×Int×Bool)
abbrev jU(p:cS):Prop:= ∀ {t1_0:Int} {o0_0:List Int} {o0_1:Int} {o0_2:Bool} {r:Int×Int×(List UInt8)×(List aA)×(List Int)×Int×Bool},p t1_0 o0_0 o0_1 o0_2=some r→Big Try.prog τ An (.fn 148 [.one (.ptr 1000000 0), .one (.c (.int .i64 t1_0))] [[.sl (o0_0.map rI_u8), .int .i64 o0_1, .bool o0_2]] (.one (.ag [.int .i64 r.1, .int .i64 r.2.1, .str r.2.2.1, .sl (r.2.2.2.1.map aD)])) none [[.sl (r.2.2.2.2.1.map rI_u8), .int .i64 r.2.2.2.2.2.1, .bool r.2.2.2.2.2.2]] none)
def bT(n:Nat)(r_impl_getter_pat:cS)(t1_0:Int)(c22_5:Int×(List Int)×Int×Bool):(Int×Int×Int×(List UInt8)×(List aA)×(List Int)×Int×Bool)→Option ((Int×Int×Int×(List UInt8)×(List aA)×(List Int)×Int×Bool)⊕((Int×Int×Int×(List UInt8)×(List aA)×(List Int)×Int×Bool)))
  | (v23_6,w5_7,w5_8,w5_9,w5_10,w1000000_11,w1000000_12,w1000000_13)=>bif decide (v23_6<c22_5.1)then bif w1000000_13 then some (.inr (v23_6,w5_7,w5_8,w5_9,w5_10,w1000000_11,w1000000_12,w1000000_13))else(r_impl_getter_pat (IntKind.wrap .i64 (t1_0+(1:Int))) w1000000_11 w1000000_12 w1000000_13).bind fun c32_24=>(iI 56 w5_10 ([aA.mk c32_24.1 c32_24.2.1 c32_24.2.2.1 c32_24.2.2.2.1]:List aA)).bind fun v37_25=>some (.inl ((IntKind.wrap .i64 (v23_6+(1:Int))),w5_7,w5_8,w5_9,v37_25,c32_24.2.2.2.2.1,c32_24.2.2.2.2.2.1,c32_24.2.2.2.2.2.2))else some (.inr (v23_6,w5_7,w5_8,w5_9,w5_10,w1000000_11,w1000000_12,w1000000_13))
def nL(n:Nat)(r_impl_getter_pat:cS)(t1_0:Int)(c22_26:Int×(List Int)×Int×Bool):(Int×Int×Int×(List UInt8)×(List aA)×(List Int)×Int×Bool)→Option ((Int×Int×Int×(List UInt8)×(List aA)×(List Int)×Int×Bool)⊕((Int×Int×Int×(List UInt8)×(List aA)×(List Int)×Int×Bool)))
  | (v23_27,w5_28,w5_29,w5_30,w5_31,w1000000_32,w1000000_33,w1000000_34)=>bif decide (v23_27<c22_26.1)then bif w1000000_34 then some (.inr (v23_27,w5_28,w5_29,w5_30,w5_31,w1000000_32,w1000000_33,w1000000_34))else(r_impl_getter_pat (IntKind.wrap .i64 (t1_0+(1:Int))) w1000000_32 w1000000_33 w1000000_34).bind fun c32_45=>(iI 56 w5_31 ([aA.mk c32_45.1 c32_45.2.1 c32_45.2.2.1 c32_45.2.2.2.1]:List aA)).bind fun v37_46=>some (.inl ((IntKind.wrap .i64 (v23_27+(1:Int))),w5_28,w5_29,w5_30,v37_46,c32_45.2.2.2.2.1,c32_45.2.2.2.2.2.1,c32_45.2.2.2.2.2.2))else some (.inr (v23_27,w5_28,w5_29,w5_30,w5_31,w1000000_32,w1000000_33,w1000000_34))
def cO(n:Nat)(r_impl_getter_pat:cS)(t1_0:Int)(o0_0:List Int)(o0_1:Int)(o0_2:Bool):Option (Int×Int×(List UInt8)×(List aA)×(List Int)×Int×Bool):=
  (aM n o0_0 o0_1 o0_2).bind fun c8_1=>(aM n c8_1.2.1 c8_1.2.2.1 c8_1.2.2.2).bind fun c11_2=>(aS n c11_2.2.1 c11_2.2.2.1 c11_2.2.2.2).bind fun c14_3=>bif decide ((10:Int)<t1_0)then(aT n (20:Int) c14_3.2.1 c14_3.2.2.1 true).bind fun c22_5=>(loopN (bT n r_impl_getter_pat t1_0 c22_5) n ((0:Int),c8_1.1,c11_2.1,c14_3.1,([]:List aA),c22_5.2.1,c22_5.2.2.1,c22_5.2.2.2)).bind fun(v23_14,w5_15,w5_16,w5_17,w5_18,w1000000_19,w1000000_20,w1000000_21)=>some (w5_15,w5_16,w5_17,w5_18,w1000000_19,w1000000_20,w1000000_21)else(aT n (20:Int) c14_3.2.1 c14_3.2.2.1 c14_3.2.2.2).bind fun c22_26=>(loopN (nL n r_impl_getter_pat t1_0 c22_26) n ((0:Int),c8_1.1,c11_2.1,c14_3.1,([]:List aA),c22_26.2.1,c22_26.2.2.1,c22_26.2.2.2)).bind fun(v23_35,w5_36,w5_37,w5_38,w5_39,w1000000_40,w1000000_41,w1000000_42)=>some (w5_36,w5_37,w5_38,w5_39,w1000000_40,w1000000_41,w1000000_42)
theorem tT{n:Nat}{r_impl_getter_pat:cS}(ih_impl_getter_pat:jU r_impl_getter_pat):jU (cO n r_impl_getter_pat):=by
 intro t1_0 o0_0 o0_1 o0_2 r h
 unfold cO at h
 refine bF Try.func148 rfl rfl<|cRs<|xAz [.int .i64 0, .int .i64 0, .str [], .sl ([].map aD)] rfl<|oRs<|xMv rfl<|xC1 h (cB ·) rfl (fun c8_1 h=> ?_)
 refine wBd [.int .i64 c8_1.1, .int .i64 0, .str [], .sl ([].map aD)] rfl rfl rfl rfl rfl rfl<|xAz [.int .i64 0, .int .i64 0, .str [], .sl ([].map aD)] rfl<|xSt rfl<|oRs<|xMv rfl<|xC1 h (cB ·) rfl (fun c11_2 h=> ?_)
 refine xFd rfl<|xSt rfl<|oRs<|xMv rfl<|xC1 h (jZ ·) rfl (fun c14_3 h=> ?_)
 refine xFd rfl<|xSt rfl<|oNl<|cSq<|cRs<|xMv rfl<|xGt rfl<|oNl<|cIf h rfl (fun q4 h=> ?_) (fun q4 h=> ?_)
 refine cRg<|xMv rfl<|xNc rfl<|xFd rfl<|xSt rfl<|oNl<|cSq<|cRs<|xMv rfl<|xC1 h (dW ·) rfl (fun c22_5 h=> ?_)
 refine xMv rfl<|oNl<|cLp h [(6,6),(23,39)] [(5,6),(1000000,1000000)] (fun(v23_6,w5_7,w5_8,w5_9,w5_10,w1000000_11,w1000000_12,w1000000_13)=>([(23,I64 v23_6)],[(5,[.int .i64 w5_7, .int .i64 w5_8, .str w5_9, .sl (w5_10.map aD)]),(1000000,[.sl (w1000000_11.map rI_u8), .int .i64 w1000000_12, .bool w1000000_13])])) (fun(v23_14,w5_15,w5_16,w5_17,w5_18,w1000000_19,w1000000_20,w1000000_21)=>(.e 0,[(23,I64 v23_14)],[(5,[.int .i64 w5_15, .int .i64 w5_16, .str w5_17, .sl (w5_18.map aD)]),(1000000,[.sl (w1000000_19.map rI_u8), .int .i64 w1000000_20, .bool w1000000_21])])) rfl (fun st _ h=> ?_) (fun q h=> ?_)
 obtain⟨v23_6,w5_7,w5_8,w5_9,w5_10,w1000000_11,w1000000_12,w1000000_13⟩:=st
 unfold bT at h
 refine cRs<|xLt rfl<|oNl<|cSq<|cIf h rfl (fun q22 h=> ?_) (fun q22 h=> ?_)
 refine cSk<|cSq<|cBk<|cSq<|cRs<|xMv rfl<|xNc rfl<|xFd rfl<|xLd rfl<|oNl<|cIf h rfl (fun q23 h=> ?_) (fun q23 h=> ?_)
 exact cEx<|eX h rfl
 refine cSk<|cRs<|xMv rfl<|xMv rfl<|cD rfl<|xC1 h (ih_impl_getter_pat ·) rfl (fun c32_24 h=> ?_)
 refine xAz [.int .i64 0, .int .i64 0, .str [], .sl ([].map aD)] rfl<|xSt rfl<|oNl<|cRg<|xFd rfl<|xLd rfl<|xLd rfl<|nG (L:=([aA.mk c32_24.1 c32_24.2.1 c32_24.2.2.1 c32_24.2.2.2.1]:List aA)) (f:=aD) rfl rfl rfl rfl (by simp only[List.map,cW]<;>rfl) rfl rfl<|wAp (f:=aD) h rfl rfl rfl rfl rfl rfl rfl rfl rfl (fun a=>by rw[aH]; rfl) rfl (fun v37_25 h=> ?_)
 exact xFd rfl<|xSt rfl<|oNl<|cRg<|cD rfl<|xMv rfl<|oNl<|eL h rfl
 exact cEx<|eX h rfl
 obtain⟨v23_14,w5_15,w5_16,w5_17,w5_18,w1000000_19,w1000000_20,w1000000_21⟩:=q
 refine cRs<|xLd rfl<|xSt rfl<|oNl<|cRt ?_
 cases h
 exact eR rfl rfl rfl rfl
 refine cSk<|cSq<|cRs<|xMv rfl<|xC1 h (dW ·) rfl (fun c22_26 h=> ?_)
 refine xMv rfl<|oNl<|cLp h [(6,6),(23,39)] [(5,6),(1000000,1000000)] (fun(v23_27,w5_28,w5_29,w5_30,w5_31,w1000000_32,w1000000_33,w1000000_34)=>([(23,I64 v23_27)],[(5,[.int .i64 w5_28, .int .i64 w5_29, .str w5_30, .sl (w5_31.map aD)]),(1000000,[.sl (w1000000_32.map rI_u8), .int .i64 w1000000_33, .bool w1000000_34])])) (fun(v23_35,w5_36,w5_37,w5_38,w5_39,w1000000_40,w1000000_41,w1000000_42)=>(.e 0,[(23,I64 v23_35)],[(5,[.int .i64 w5_36, .int .i64 w5_37, .str w5_38, .sl (w5_39.map aD)]),(1000000,[.sl (w1000000_40.map rI_u8), .int .i64 w1000000_41, .bool w1000000_42])])) rfl (fun st _ h=> ?_) (fun q h=> ?_)
 obtain⟨v23_27,w5_28,w5_29,w5_30,w5_31,w1000000_32,w1000000_33,w1000000_34⟩:=st
 unfold nL at h
 refine cRs<|xLt rfl<|oNl<|cSq<|cIf h rfl (fun q43 h=> ?_) (fun q43 h=> ?_)
 refine cSk<|cSq<|cBk<|cSq<|cRs<|xMv rfl<|xNc rfl<|xFd rfl<|xLd rfl<|oNl<|cIf h rfl (fun q44 h=> ?_) (fun q44 h=> ?_)
 exact cEx<|eX h rfl
 refine cSk<|cRs<|xMv rfl<|xMv rfl<|cD rfl<|xC1 h (ih_impl_getter_pat ·) rfl (fun c32_45 h=> ?_)
 refine xAz [.int .i64 0, .int .i64 0, .str [], .sl ([].map aD)] rfl<|xSt rfl<|oNl<|cRg<|xFd rfl<|xLd rfl<|xLd rfl<|nG (L:=([aA.mk c32_45.1 c32_45.2.1 c32_45.2.2.1 c32_45.2.2.2.1]:List aA)) (f:=aD) rfl rfl rfl rfl (by simp only[List.map,cW]<;>rfl) rfl rfl<|wAp (f:=aD) h rfl rfl rfl rfl rfl rfl rfl rfl rfl (fun a=>by rw[aH]; rfl) rfl (fun v37_46 h=> ?_)
 exact xFd rfl<|xSt rfl<|oNl<|cRg<|cD rfl<|xMv rfl<|oNl<|eL h rfl
 exact cEx<|eX h rfl
 obtain⟨v23_35,w5_36,w5_37,w5_38,w5_39,w1000000_40,w1000000_41,w1000000_42⟩:=q
 refine cRs<|xLd rfl<|xSt rfl<|oNl<|cRt ?_
 cases h
 exact eR rfl rfl rfl rfl
def qI:Nat→(cS)
  | 0=>(fun _ _ _ _=>none)
  | n+1=>cO n (qI n)
def bB(n:Nat):cS:=qI n
theorem tU(n:Nat):jU (bB n):=by
  induction n with
  | zero=>exact(fun h=>nomatch h)
  | succ n ih=>exact tT (n:=n) ih
theorem vC{n:Nat}:jU (bB n):=(tU n)
theorem Fe(n:Nat):bB (n+1)=cO n (bB n):=rfl
abbrev FS(p:(List Int)→(List Int)→Option (Bool)):Prop:= ∀ {t0_0 t1_0:List Int} {r:Bool},p t0_0 t1_0=some r→Big Try.prog τ An (.fn 149 [.one (.c (.sl (t0_0.map rI_u8))), .one (.c (.sl (t1_0.map rI_u8)))] [] (.one (.c (.bool r))) none [] none)
def nN(n:Nat)(t0_0:List Int)(t1_0:List Int):Option (Bool):=
  (lU t0_0).bind fun v6_1=>(lU t1_0).bind fun v8_2=>some (decide (v6_1=v8_2))
theorem CE{n:Nat}:FS (nN n):=by
 intro t0_0 t1_0 r h
 unfold nN at h
 refine bF Try.func149 rfl rfl<|cRs<|xAs rfl<|oRs<|xMv rfl<|wTs h rfl rfl ⟨rfl,rfl⟩ rfl jY rfl (fun v6_1 h=> ?_)
 refine xMv rfl<|wTs h rfl rfl ⟨rfl,rfl⟩ rfl jY rfl (fun v8_2 h=> ?_)
 refine xEs rfl<|xAs rfl<|oNl<|cRt ?_
 cases h
 exact eR rfl rfl rfl rfl
abbrev DZ(p:(List Int)→Option ((List aB)×(List aA)×Bool)):Prop:= ∀ {t0_0:List Int} {r:(List aB)×(List aA)×Bool},p t0_0=some r→Big Try.prog τ An (.fn 55 [.one (.c (.sl (t0_0.map rI_u8)))] [] (.tup [.ag [.sl (r.1.map aG), .sl (r.2.1.map aD)], .c (.bool r.2.2)]) none [] none)
def cR(n:Nat)(c11_1:Int×(List Int)×Int×Bool):(Int×(List Int)×Int×Bool×(List aB)×(List aA))→Option ((Int×(List Int)×Int×Bool×(List aB)×(List aA))⊕((Int×Bool×(List Int)×Int×Bool×(List aB)×(List aA))))
  | (v12_2,w4_3,w4_4,w4_5,w5_6,w5_7)=>bif decide (v12_2<c11_1.1)then(iP n w4_3 w4_4 w4_5).bind fun c14_16=>(iI 56 w5_6 ([aB.mk c14_16.1 c14_16.2.1 c14_16.2.2.1 c14_16.2.2.2.1]:List aB)).bind fun v19_17=>some (.inl ((IntKind.wrap .i64 (v12_2+(1:Int))),c14_16.2.2.2.2.1,c14_16.2.2.2.2.2.1,c14_16.2.2.2.2.2.2,v19_17,w5_7))else some (.inr (v12_2,false,w4_3,w4_4,w4_5,w5_6,w5_7))
def dL(n:Nat)(c22_18:Int×(List Int)×Int×Bool):(Int×(List Int)×Int×Bool×(List aB)×(List aA))→Option ((Int×(List Int)×Int×Bool×(List aB)×(List aA))⊕((Int×(List Int)×Int×Bool×(List aB)×(List aA))))
  | (v23_19,w4_20,w4_21,w4_22,w5_23,w5_24)=>bif decide (v23_19<c22_18.1)then bif w4_22 then some (.inr (v23_19,w4_20,w4_21,w4_22,w5_23,w5_24))else(bB n (1:Int) w4_20 w4_21 w4_22).bind fun c27_33=>(iI 56 w5_24 ([aA.mk c27_33.1 c27_33.2.1 c27_33.2.2.1 c27_33.2.2.2.1]:List aA)).bind fun v32_34=>some (.inl ((IntKind.wrap .i64 (v23_19+(1:Int))),c27_33.2.2.2.2.1,c27_33.2.2.2.2.2.1,c27_33.2.2.2.2.2.2,w5_23,v32_34))else some (.inr (v23_19,w4_20,w4_21,w4_22,w5_23,w5_24))
def iV(n:Nat)(t0_0:List Int):Option ((List aB)×(List aA)×Bool):=
  (aT n (12:Int) t0_0 (0:Int) false).bind fun c11_1=>(loopN (cR n c11_1) n ((0:Int),c11_1.2.1,c11_1.2.2.1,c11_1.2.2.2,([]:List aB),([]:List aA))).bind fun(v12_8,v13_9,w4_10,w4_11,w4_12,w5_13,w5_14)=>(aT n (2000:Int) w4_10 w4_11 w4_12).bind fun c22_18=>(loopN (dL n c22_18) n ((0:Int),c22_18.2.1,c22_18.2.2.1,c22_18.2.2.2,w5_13,w5_14)).bind fun(v23_25,w4_26,w4_27,w4_28,w5_29,w5_30)=>bif w4_28 then some (([]:List aB),([]:List aA),false)else(dU n w5_29 w5_30).bind fun c39_36=>(bif decide ((c39_36.length:Int)=(0:Int))then some true else(nN n c39_36 t0_0).bind fun c46_39=>some (!c46_39)).bind fun v48_37=>bif v48_37 then some (([]:List aB),([]:List aA),false)else some (w5_29,w5_30,true)
theorem rN{n:Nat}:DZ (iV n):=by
 intro t0_0 r h
 unfold iV at h
 refine bF Try.func55 rfl rfl<|cRs<|xAz [.sl ([].map aG), .sl ([].map aD)] rfl<|xAs rfl<|oRs<|xMv rfl<|wBd [.sl (t0_0.map rI_u8), .int .i64 0, .bool false] rfl rfl rfl rfl rfl rfl<|xAz [.sl ([].map rI_u8), .int .i64 0, .bool false] rfl<|xSt rfl<|oRs<|xAz [.sl ([].map aG), .sl ([].map aD)] rfl<|oNl<|cSq<|cRs<|xC1 h (dW ·) rfl (fun c11_1 h=> ?_)
 refine xMv rfl<|oNl<|cLp h [(6,6),(12,21)] [(4,6)] (fun(v12_2,w4_3,w4_4,w4_5,w5_6,w5_7)=>([(12,I64 v12_2)],[(4,[.sl (w4_3.map rI_u8), .int .i64 w4_4, .bool w4_5]),(5,[.sl (w5_6.map aG), .sl (w5_7.map aD)])])) (fun(v12_8,v13_9,w4_10,w4_11,w4_12,w5_13,w5_14)=>(.e 0,[(12,I64 v12_8),(13,Bo v13_9)],[(4,[.sl (w4_10.map rI_u8), .int .i64 w4_11, .bool w4_12]),(5,[.sl (w5_13.map aG), .sl (w5_14.map aD)])])) rfl (fun st _ h=> ?_) (fun q h=> ?_)
 obtain⟨v12_2,w4_3,w4_4,w4_5,w5_6,w5_7⟩:=st
 unfold cR at h
 refine cRs<|xLt rfl<|oNl<|cSq<|cIf h rfl (fun q15 h=> ?_) (fun q15 h=> ?_)
 refine cSk<|cSq<|cBk<|cRs<|xC1 h (xB ·) rfl (fun c14_16 h=> ?_)
 refine xAz [.str [], .int .i64 0, .int .i64 0, .sl ([].map aJ)] rfl<|xSt rfl<|oNl<|cRg<|xFd rfl<|xLd rfl<|xLd rfl<|nG (L:=([aB.mk c14_16.1 c14_16.2.1 c14_16.2.2.1 c14_16.2.2.2.1]:List aB)) (f:=aG) rfl rfl rfl rfl rfl rfl rfl<|wAp (f:=aG) h rfl rfl rfl rfl rfl rfl rfl rfl rfl (fun _=>rfl) rfl (fun v19_17 h=> ?_)
 exact xFd rfl<|xSt rfl<|oNl<|cRg<|cD rfl<|xMv rfl<|oNl<|eL h rfl
 exact cEx<|eX h rfl
 obtain⟨v12_8,v13_9,w4_10,w4_11,w4_12,w5_13,w5_14⟩:=q
 refine cSq<|cRs<|xC1 h (dW ·) rfl (fun c22_18 h=> ?_)
 refine xMv rfl<|oNl<|cLp h [(7,7),(23,34)] [(4,5),(7,7)] (fun(v23_19,w4_20,w4_21,w4_22,w5_23,w5_24)=>([(23,I64 v23_19)],[(4,[.sl (w4_20.map rI_u8), .int .i64 w4_21, .bool w4_22]),(5,[.sl (w5_23.map aG), .sl (w5_24.map aD)])])) (fun(v23_25,w4_26,w4_27,w4_28,w5_29,w5_30)=>(.e 2,[(23,I64 v23_25)],[(4,[.sl (w4_26.map rI_u8), .int .i64 w4_27, .bool w4_28]),(5,[.sl (w5_29.map aG), .sl (w5_30.map aD)])])) rfl (fun st _ h=> ?_) (fun q h=> ?_)
 obtain⟨v23_19,w4_20,w4_21,w4_22,w5_23,w5_24⟩:=st
 unfold dL at h
 refine cRs<|xLt rfl<|oNl<|cSq<|cIf h rfl (fun q31 h=> ?_) (fun q31 h=> ?_)
 refine cSk<|cSq<|cBk<|cSq<|cRs<|xFd rfl<|xLd rfl<|oNl<|cIf h rfl (fun q32 h=> ?_) (fun q32 h=> ?_)
 exact cEx<|eX h rfl
 refine cSk<|cRs<|xC1 h (vC ·) rfl (fun c27_33 h=> ?_)
 refine xAz [.int .i64 0, .int .i64 0, .str [], .sl ([].map aD)] rfl<|xSt rfl<|oNl<|cRg<|xFd rfl<|xLd rfl<|xLd rfl<|nG (L:=([aA.mk c27_33.1 c27_33.2.1 c27_33.2.2.1 c27_33.2.2.2.1]:List aA)) (f:=aD) rfl rfl rfl rfl (by simp only[List.map,cW]<;>rfl) rfl rfl<|wAp (f:=aD) h rfl rfl rfl rfl rfl rfl rfl rfl rfl (fun a=>by rw[aH]; rfl) rfl (fun v32_34 h=> ?_)
 exact xFd rfl<|xSt rfl<|oNl<|cRg<|cD rfl<|xMv rfl<|oNl<|eL h rfl
 exact cEx<|eX h rfl
 obtain⟨v23_25,w4_26,w4_27,w4_28,w5_29,w5_30⟩:=q
 refine cSq<|cRs<|xFd rfl<|xLd rfl<|oNl<|cIf h rfl (fun q35 h=> ?_) (fun q35 h=> ?_)
 refine cRs<|wBd [.sl ([].map aG), .sl ([].map aD)] rfl rfl rfl rfl rfl rfl<|xSt rfl<|xAs rfl<|oNl<|cRt ?_
 cases h
 exact eR rfl rfl rfl rfl
 refine cSk<|cRs<|xLd rfl<|xC0 h (AO ·) rfl (fun c39_36 h=> ?_)
 refine xAs rfl<|oNl<|cSq<|cRs<|oJn h [(40,48)] [] (fun v48_37=>(.n,[(48,Bo v48_37)],[])) (fun _ h=> ?_) (fun v48_37 h=> ?_)
 refine xMv rfl<|xLn rfl<|xEq rfl<|xMv rfl<|oIf 43 h rfl (fun q38 h=> ?_) (fun q38 h=> ?_)
 exact wSk rfl<|wSk rfl<|wSk rfl<|wSk rfl<|xPk rfl<|oNl<|eJ h rfl
 refine xMv rfl<|xMv rfl<|xC0 h (CE ·) rfl (fun c46_39 h=> ?_)
 exact fC rfl<|xPk rfl<|oNl<|eJ h rfl
 refine cIf h rfl (fun q40 h=> ?_) (fun q40 h=> ?_)
 refine cRs<|wBd [.sl ([].map aG), .sl ([].map aD)] rfl rfl rfl rfl rfl rfl<|xSt rfl<|xAs rfl<|oNl<|cRt ?_
 cases h
 exact eR rfl rfl rfl rfl
 refine cSk<|cRs<|xLd rfl<|xSt rfl<|xAs rfl<|oNl<|cRt ?_
 cases h
 exact eR rfl rfl rfl rfl
abbrev CJ(p:Int→Option ((List UInt8))):Prop:= ∀ {t0_0:Int} {r:(List UInt8)},p t0_0=some r→Big Try.prog τ An (.fn 88 [.one (.c (.int .i64 t0_0))] [] (.one (.c (.str r))) none [] none)
def jA(n:Nat):(Int×(List UInt8))→Option ((Int×(List UInt8))⊕((Int×(List UInt8)×Bool)))
  | (v0_2,v3_3)=>bif decide ((0:Int)<v0_2)then(lU ([(IntKind.wrap .u8 (IntKind.wrap .i64 ((48:Int)+(Int.tmod v0_2 (10:Int)))))]:List Int)).bind fun v13_8=>(ck (decide (v13_8.length+v3_3.length≤9223372036854775807))).bind fun _=>some (.inl ((IntKind.wrap .i64 (Int.tdiv v0_2 (10:Int))),(v13_8++v3_3)))else some (.inr (v0_2,v3_3,false))
def cI(n:Nat)(t0_0:Int):Option ((List UInt8)):=
  bif decide (t0_0≤(0:Int))then some ([109,48]:List UInt8)else(loopN (jA n) n (t0_0,([]:List UInt8))).bind fun(v0_4,v3_5,v7_6)=>(ck (decide (([109]:List UInt8).length+v3_5.length≤9223372036854775807))).bind fun _=>some (([109]:List UInt8)++v3_5)
theorem eS{n:Nat}:CJ (cI n):=by
 intro t0_0 r h
 unfold cI at h
 refine bF Try.func88 rfl rfl<|cRs<|xAs rfl<|oNl<|cSq<|cRs<|xMv rfl<|xLe rfl<|oNl<|cIf h rfl (fun q1 h=> ?_) (fun q1 h=> ?_)
 refine cRs<|xAs rfl<|oNl<|cRt ?_
 cases h
 exact eR rfl rfl rfl rfl
 refine cSk<|cRs<|xAs rfl<|oNl<|cSq<|cLp h [(0,0),(3,3),(6,17)] [] (fun(v0_2,v3_3)=>([(0,I64 v0_2),(3,St' v3_3)],[])) (fun(v0_4,v3_5,v7_6)=>(.e 0,[(0,I64 v0_4),(3,St' v3_5),(7,Bo v7_6)],[])) rfl (fun st _ h=> ?_) (fun q h=> ?_)
 obtain⟨v0_2,v3_3⟩:=st
 unfold jA at h
 refine cSq<|cRs<|xMv rfl<|xGt rfl<|oNl<|cIf h rfl (fun q7 h=> ?_) (fun q7 h=> ?_)
 refine cSk<|cBk<|cRs<|xMv rfl<|wBi (.int .i64 (Int.tmod v0_2 (10:Int))) rfl rfl rfl rfl rfl<|cD rfl<|wCv rfl rfl rfl rfl rfl<|nG (L:=([(IntKind.wrap .u8 (IntKind.wrap .i64 ((48:Int)+(Int.tmod v0_2 (10:Int)))))]:List Int)) (f:=rI_u8) rfl rfl rfl rfl rfl rfl rfl<|wTs h rfl rfl ⟨rfl,rfl⟩ rfl jY rfl (fun v13_8 h=> ?_)
 refine xMv rfl<|oCk h (fun k15_8 h=> ?_)
 exact wCat k15_8 rfl rfl rfl rfl<|xAs rfl<|oNl<|cRg<|xMv rfl<|wBi (.int .i64 (IntKind.wrap .i64 (Int.tdiv v0_2 (10:Int)))) rfl rfl rfl rfl rfl<|xAs rfl<|oNl<|eL h rfl
 exact cEx<|eX h rfl
 obtain⟨v0_4,v3_5,v7_6⟩:=q
 refine cRs<|xMv rfl<|oCk h (fun k19_9 h=> ?_)
 refine wCat k19_9 rfl rfl rfl rfl<|xAs rfl<|oNl<|cRt ?_
 cases h
 exact eR rfl rfl rfl rfl
abbrev CL(p:(List aC)→Int→Option (Int)):Prop:= ∀ {t0_0:List aC} {t1_0:Int} {r:Int},p t0_0 t1_0=some r→Big Try.prog τ An (.fn 233 [.one (.c (.sl (t0_0.map aJ))), .one (.c (.int .i64 t1_0))] [] (.one (.c (.int .i64 r))) none [] none)
def fZ(n:Nat)(t0_0:List aC):(Int×Int)→Option ((Int×Int)⊕((Int)⊕(Int×Int×Bool)))
  | (v1_1,v5_2)=>bif decide (v5_2<(t0_0.length:Int))then(ix t0_0 v5_2).bind fun e14_8=>bif !decide (e14_8.f0=v1_1)then some (.inr (.inl ((-1):Int)))else(ix t0_0 v5_2).bind fun e23_10=>bif !decide (e23_10.f1=(IntKind.wrap .i64 (v1_1+(1:Int))))then some (.inr (.inl ((-1):Int)))else(ix t0_0 v5_2).bind fun e32_12=>(cI n (IntKind.wrap .i64 ((IntKind.wrap .i64 (v1_1+(1:Int)))+(1:Int)))).bind fun c36_13=>bif !decide (e32_12.f2=c36_13)then some (.inr (.inl ((-1):Int)))else(ix t0_0 v5_2).bind fun e42_15=>bif !decide (e42_15.f3=(IntKind.wrap .i64 ((IntKind.wrap .i64 ((IntKind.wrap .i64 (v1_1+(1:Int)))+(1:Int)))+(1:Int))))then some (.inr (.inl ((-1):Int)))else some (.inl ((IntKind.wrap .i64 ((IntKind.wrap .i64 ((IntKind.wrap .i64 ((IntKind.wrap .i64 (v1_1+(1:Int)))+(1:Int)))+(1:Int)))+(1:Int))),(IntKind.wrap .i64 (v5_2+(1:Int)))))else some (.inr (.inr (v1_1,v5_2,false)))
def jH(n:Nat)(t0_0:List aC)(t1_0:Int):Option (Int):=
  (loopN (fZ n t0_0) n (t1_0,(0:Int))).bind fun q=>(match q with | .inl v4_3=>some v4_3 | .inr (v1_4,v5_5,v9_6)=>some v1_4)
theorem yJ{n:Nat}:CL (jH n):=by
 intro t0_0 t1_0 r h
 unfold jH at h
 refine bF Try.func233 rfl rfl<|cRs<|xAs rfl<|oNl<|cSq<|cRs<|xAs rfl<|oNl<|cLp h [(1,1),(4,48)] [] (fun(v1_1,v5_2)=>([(1,I64 v1_1),(5,I64 v5_2)],[])) (fun q=>match q with | .inl v4_3=>(.r,[(4,I64 v4_3)],[]) | .inr (v1_4,v5_5,v9_6)=>(.e 0,[(1,I64 v1_4),(5,I64 v5_5),(9,Bo v9_6)],[])) rfl (fun st _ h=> ?_) (fun q h=> ?_)
 obtain⟨v1_1,v5_2⟩:=st
 unfold fZ at h
 refine cSq<|cRs<|xMv rfl<|xMv rfl<|xLn rfl<|xLt rfl<|oNl<|cIf h rfl (fun q7 h=> ?_) (fun q7 h=> ?_)
 refine cSk<|cSq<|cBk<|cSq<|cRs<|xMv rfl<|xMv rfl<|xIx h bS rfl (fun e14_8 h=> ?_)
 refine xFd rfl<|xLd rfl<|xMv rfl<|xNe rfl<|oNl<|cIf h rfl (fun q9 h=> ?_) (fun q9 h=> ?_)
 exact cRs<|xAs rfl<|oNl<|cRt<|eXr h rfl
 refine cSk<|cRs<|xMv rfl<|cD rfl<|xAs rfl<|oNl<|cSq<|cRs<|xMv rfl<|xMv rfl<|xIx h bS rfl (fun e23_10 h=> ?_)
 refine xFd rfl<|xLd rfl<|xMv rfl<|xNe rfl<|oNl<|cIf h rfl (fun q11 h=> ?_) (fun q11 h=> ?_)
 exact cRs<|xAs rfl<|oNl<|cRt<|eXr h rfl
 refine cSk<|cRs<|xMv rfl<|cD rfl<|xAs rfl<|oNl<|cSq<|cRs<|xMv rfl<|xMv rfl<|xIx h bS rfl (fun e32_12 h=> ?_)
 refine xFd rfl<|xLd rfl<|xMv rfl<|xC0 h (eS ·) rfl (fun c36_13 h=> ?_)
 refine xNs rfl<|oNl<|cIf h rfl (fun q14 h=> ?_) (fun q14 h=> ?_)
 exact cRs<|xAs rfl<|oNl<|cRt<|eXr h rfl
 refine cSk<|cRs<|xMv rfl<|cD rfl<|xAs rfl<|oNl<|cSq<|cRs<|xMv rfl<|xMv rfl<|xIx h bS rfl (fun e42_15 h=> ?_)
 refine xFd rfl<|xLd rfl<|xMv rfl<|xNe rfl<|oNl<|cIf h rfl (fun q16 h=> ?_) (fun q16 h=> ?_)
 exact cRs<|xAs rfl<|oNl<|cRt<|eXr h rfl
 exact cSk<|cRg<|xMv rfl<|cD rfl<|xAs rfl<|oNl<|cRg<|xMv rfl<|cD rfl<|xAs rfl<|oNl<|eL h rfl
 exact cEx<|eX h rfl
 rcases q with v4_3 | ⟨v1_4,v5_5,v9_6⟩
 cases h
 exact eR rfl rfl rfl rfl
 refine cRs<|xMv rfl<|xAs rfl<|oNl<|cRt ?_
 cases h
 exact eR rfl rfl rfl rfl
abbrev DK(p:(List aB)→Int→Option (Int)):Prop:= ∀ {t0_0:List aB} {t1_0:Int} {r:Int},p t0_0 t1_0=some r→Big Try.prog τ An (.fn 150 [.one (.c (.sl (t0_0.map aG))), .one (.c (.int .i64 t1_0))] [] (.one (.c (.int .i64 r))) none [] none)
def gZ(n:Nat)(t0_0:List aB):(Int×Int)→Option ((Int×Int)⊕((Int)⊕(Int×Int×Bool)))
  | (v1_1,v5_2)=>bif decide (v5_2<(t0_0.length:Int))then(ix t0_0 v5_2).bind fun e14_8=>(cI n v1_1).bind fun c18_9=>bif !decide (e14_8.f0=c18_9)then some (.inr (.inl ((-1):Int)))else(ix t0_0 v5_2).bind fun e24_11=>bif !decide (e24_11.f1=(IntKind.wrap .i64 (v1_1+(1:Int))))then some (.inr (.inl ((-1):Int)))else(ix t0_0 v5_2).bind fun e33_13=>bif !decide (e33_13.f2=(IntKind.wrap .i64 ((IntKind.wrap .i64 (v1_1+(1:Int)))+(1:Int))))then some (.inr (.inl ((-1):Int)))else(ix t0_0 v5_2).bind fun e42_15=>(jH n e42_15.f3 (IntKind.wrap .i64 ((IntKind.wrap .i64 ((IntKind.wrap .i64 (v1_1+(1:Int)))+(1:Int)))+(1:Int)))).bind fun c46_16=>bif decide (c46_16<(0:Int))then some (.inr (.inl ((-1):Int)))else some (.inl (c46_16,(IntKind.wrap .i64 (v5_2+(1:Int)))))else some (.inr (.inr (v1_1,v5_2,false)))
def kG(n:Nat)(t0_0:List aB)(t1_0:Int):Option (Int):=
  (loopN (gZ n t0_0) n (t1_0,(0:Int))).bind fun q=>(match q with | .inl v4_3=>some v4_3 | .inr (v1_4,v5_5,v9_6)=>some v1_4)
theorem AK{n:Nat}:DK (kG n):=by
 intro t0_0 t1_0 r h
 unfold kG at h
 refine bF Try.func150 rfl rfl<|cRs<|xAs rfl<|oNl<|cSq<|cRs<|xAs rfl<|oNl<|cLp h [(1,1),(4,48)] [] (fun(v1_1,v5_2)=>([(1,I64 v1_1),(5,I64 v5_2)],[])) (fun q=>match q with | .inl v4_3=>(.r,[(4,I64 v4_3)],[]) | .inr (v1_4,v5_5,v9_6)=>(.e 0,[(1,I64 v1_4),(5,I64 v5_5),(9,Bo v9_6)],[])) rfl (fun st _ h=> ?_) (fun q h=> ?_)
 obtain⟨v1_1,v5_2⟩:=st
 unfold gZ at h
 refine cSq<|cRs<|xMv rfl<|xMv rfl<|xLn rfl<|xLt rfl<|oNl<|cIf h rfl (fun q7 h=> ?_) (fun q7 h=> ?_)
 refine cSk<|cSq<|cBk<|cSq<|cRs<|xMv rfl<|xMv rfl<|xIx h bN rfl (fun e14_8 h=> ?_)
 refine xFd rfl<|xLd rfl<|xMv rfl<|xC0 h (eS ·) rfl (fun c18_9 h=> ?_)
 refine xNs rfl<|oNl<|cIf h rfl (fun q10 h=> ?_) (fun q10 h=> ?_)
 exact cRs<|xAs rfl<|oNl<|cRt<|eXr h rfl
 refine cSk<|cRs<|xMv rfl<|cD rfl<|xAs rfl<|oNl<|cSq<|cRs<|xMv rfl<|xMv rfl<|xIx h bN rfl (fun e24_11 h=> ?_)
 refine xFd rfl<|xLd rfl<|xMv rfl<|xNe rfl<|oNl<|cIf h rfl (fun q12 h=> ?_) (fun q12 h=> ?_)
 exact cRs<|xAs rfl<|oNl<|cRt<|eXr h rfl
 refine cSk<|cRs<|xMv rfl<|cD rfl<|xAs rfl<|oNl<|cSq<|cRs<|xMv rfl<|xMv rfl<|xIx h bN rfl (fun e33_13 h=> ?_)
 refine xFd rfl<|xLd rfl<|xMv rfl<|xNe rfl<|oNl<|cIf h rfl (fun q14 h=> ?_) (fun q14 h=> ?_)
 exact cRs<|xAs rfl<|oNl<|cRt<|eXr h rfl
 refine cSk<|cRs<|xMv rfl<|cD rfl<|xAs rfl<|oRs<|xMv rfl<|xMv rfl<|xIx h bN rfl (fun e42_15 h=> ?_)
 refine xFd rfl<|xLd rfl<|xMv rfl<|xC0 h (yJ ·) rfl (fun c46_16 h=> ?_)
 refine xAs rfl<|oRs<|xMv rfl<|xLt rfl<|oNl<|cIf h rfl (fun q17 h=> ?_) (fun q17 h=> ?_)
 exact cRs<|xAs rfl<|oNl<|cRt<|eXr h rfl
 exact cSk<|cRg<|xMv rfl<|cD rfl<|xAs rfl<|oNl<|eL h rfl
 exact cEx<|eX h rfl
 rcases q with v4_3 | ⟨v1_4,v5_5,v9_6⟩
 cases h
 exact eR rfl rfl rfl rfl
 refine cRs<|xMv rfl<|xAs rfl<|oNl<|cRt ?_
 cases h
 exact eR rfl rfl rfl rfl
abbrev gQ:Type:=(List aA)→Int→Option (Int)
abbrev lR(p:gQ):Prop:= ∀ {t0_0:List aA} {t1_0:Int} {r:Int},p t0_0 t1_0=some r→Big Try.prog τ An (.fn 151 [.one (.c (.sl (t0_0.map aD))), .one (.c (.int .i64 t1_0))] [] (.one (.c (.int .i64 r))) none [] none)
def fY(n:Nat)(r_laws_heldPatS:gQ)(t0_0:List aA):(Int×Int)→Option ((Int×Int)⊕((Int)⊕(Int×Int×Bool)))
  | (v1_1,v5_2)=>bif decide (v5_2<(t0_0.length:Int))then(ix t0_0 v5_2).bind fun e14_8=>bif !decide (e14_8.f0=v1_1)then some (.inr (.inl ((-1):Int)))else(ix t0_0 v5_2).bind fun e23_10=>bif !decide (e23_10.f1=(IntKind.wrap .i64 (v1_1+(1:Int))))then some (.inr (.inl ((-1):Int)))else(ix t0_0 v5_2).bind fun e32_12=>(cI n (IntKind.wrap .i64 ((IntKind.wrap .i64 (v1_1+(1:Int)))+(1:Int)))).bind fun c36_13=>bif !decide (e32_12.f2=c36_13)then some (.inr (.inl ((-1):Int)))else(ix t0_0 v5_2).bind fun e42_15=>(r_laws_heldPatS e42_15.f3 (IntKind.wrap .i64 ((IntKind.wrap .i64 ((IntKind.wrap .i64 (v1_1+(1:Int)))+(1:Int)))+(1:Int)))).bind fun c46_16=>bif decide (c46_16<(0:Int))then some (.inr (.inl ((-1):Int)))else some (.inl (c46_16,(IntKind.wrap .i64 (v5_2+(1:Int)))))else some (.inr (.inr (v1_1,v5_2,false)))
def gN(n:Nat)(r_laws_heldPatS:gQ)(t0_0:List aA)(t1_0:Int):Option (Int):=
  (loopN (fY n r_laws_heldPatS t0_0) n (t1_0,(0:Int))).bind fun q=>(match q with | .inl v4_3=>some v4_3 | .inr (v1_4,v5_5,v9_6)=>some v1_4)
theorem wS{n:Nat}{r_laws_heldPatS:gQ}(ih_laws_heldPatS:lR r_laws_heldPatS):lR (gN n r_laws_heldPatS):=by
 intro t0_0 t1_0 r h
 unfold gN at h
 refine bF Try.func151 rfl rfl<|cRs<|xAs rfl<|oNl<|cSq<|cRs<|xAs rfl<|oNl<|cLp h [(1,1),(4,48)] [] (fun(v1_1,v5_2)=>([(1,I64 v1_1),(5,I64 v5_2)],[])) (fun q=>match q with | .inl v4_3=>(.r,[(4,I64 v4_3)],[]) | .inr (v1_4,v5_5,v9_6)=>(.e 0,[(1,I64 v1_4),(5,I64 v5_5),(9,Bo v9_6)],[])) rfl (fun st _ h=> ?_) (fun q h=> ?_)
 obtain⟨v1_1,v5_2⟩:=st
 unfold fY at h
 refine cSq<|cRs<|xMv rfl<|xMv rfl<|xLn rfl<|xLt rfl<|oNl<|cIf h rfl (fun q7 h=> ?_) (fun q7 h=> ?_)
 refine cSk<|cSq<|cBk<|cSq<|cRs<|xMv rfl<|xMv rfl<|xIx h aH rfl (fun e14_8 h=> ?_)
 refine xFd rfl<|xLd rfl<|xMv rfl<|xNe rfl<|oNl<|cIf h rfl (fun q9 h=> ?_) (fun q9 h=> ?_)
 exact cRs<|xAs rfl<|oNl<|cRt<|eXr h rfl
 refine cSk<|cRs<|xMv rfl<|cD rfl<|xAs rfl<|oNl<|cSq<|cRs<|xMv rfl<|xMv rfl<|xIx h aH rfl (fun e23_10 h=> ?_)
 refine xFd rfl<|xLd rfl<|xMv rfl<|xNe rfl<|oNl<|cIf h rfl (fun q11 h=> ?_) (fun q11 h=> ?_)
 exact cRs<|xAs rfl<|oNl<|cRt<|eXr h rfl
 refine cSk<|cRs<|xMv rfl<|cD rfl<|xAs rfl<|oNl<|cSq<|cRs<|xMv rfl<|xMv rfl<|xIx h aH rfl (fun e32_12 h=> ?_)
 refine xFd rfl<|xLd rfl<|xMv rfl<|xC0 h (eS ·) rfl (fun c36_13 h=> ?_)
 refine xNs rfl<|oNl<|cIf h rfl (fun q14 h=> ?_) (fun q14 h=> ?_)
 exact cRs<|xAs rfl<|oNl<|cRt<|eXr h rfl
 refine cSk<|cRs<|xMv rfl<|cD rfl<|xAs rfl<|oRs<|xMv rfl<|xMv rfl<|xIx h aH rfl (fun e42_15 h=> ?_)
 refine xFd rfl<|xLd rfl<|xMv rfl<|xC0 h (ih_laws_heldPatS ·) rfl (fun c46_16 h=> ?_)
 refine xAs rfl<|oRs<|xMv rfl<|xLt rfl<|oNl<|cIf h rfl (fun q17 h=> ?_) (fun q17 h=> ?_)
 exact cRs<|xAs rfl<|oNl<|cRt<|eXr h rfl
 exact cSk<|cRg<|xMv rfl<|cD rfl<|xAs rfl<|oNl<|eL h rfl
 exact cEx<|eX h rfl
 rcases q with v4_3 | ⟨v1_4,v5_5,v9_6⟩
 cases h
 exact eR rfl rfl rfl rfl
 refine cRs<|xMv rfl<|xAs rfl<|oNl<|cRt ?_
 cases h
 exact eR rfl rfl rfl rfl
def sO:Nat→(gQ)
  | 0=>(fun _ _=>none)
  | n+1=>gN n (sO n)
def cZ(n:Nat):gQ:=sO n
theorem wW(n:Nat):lR (cZ n):=by
  induction n with
  | zero=>exact(fun h=>nomatch h)
  | succ n ih=>exact wS (n:=n) ih
theorem yI{n:Nat}:lR (cZ n):=(wW n)
theorem p_laws_heldPatS_succ(n:Nat):cZ (n+1)=gN n (cZ n):=rfl
abbrev CM(p:(List aB)→(List aA)→Int→Option (Int)):Prop:= ∀ {t0_0:List aB} {t0_1:List aA} {t1_0:Int} {r:Int},p t0_0 t0_1 t1_0=some r→Big Try.prog τ An (.fn 56 [.one (.ag [.sl (t0_0.map aG), .sl (t0_1.map aD)]), .one (.c (.int .i64 t1_0))] [] (.one (.c (.int .i64 r))) none [] none)
def gO(n:Nat)(t0_0:List aB)(t0_1:List aA)(t1_0:Int):Option (Int):=
  (kG n t0_0 t1_0).bind fun c8_1=>bif decide (c8_1<(0:Int))then some ((-1):Int)else(cZ n t0_1 c8_1).bind fun c14_3=>bif decide (c14_3<(0:Int))then some ((-1):Int)else some c14_3
theorem qN{n:Nat}:CM (gO n):=by
 intro t0_0 t0_1 t1_0 r h
 unfold gO at h
 refine bF Try.func56 rfl rfl<|cRs<|xBx rfl<|xAs rfl<|oRs<|xFd rfl<|xLd rfl<|xMv rfl<|xC0 h (AK ·) rfl (fun c8_1 h=> ?_)
 refine xAs rfl<|oNl<|cSq<|cRs<|xMv rfl<|xLt rfl<|oNl<|cIf h rfl (fun q2 h=> ?_) (fun q2 h=> ?_)
 refine cRs<|xAs rfl<|oNl<|cRt ?_
 cases h
 exact eR rfl rfl rfl rfl
 refine cSk<|cRs<|xFd rfl<|xLd rfl<|xMv rfl<|xC0 h (yI ·) rfl (fun c14_3 h=> ?_)
 refine xAs rfl<|oNl<|cSq<|cRs<|xMv rfl<|xLt rfl<|oNl<|cIf h rfl (fun q4 h=> ?_) (fun q4 h=> ?_)
 refine cRs<|xAs rfl<|oNl<|cRt ?_
 cases h
 exact eR rfl rfl rfl rfl
 refine cSk<|cRs<|xMv rfl<|xAs rfl<|oNl<|cRt ?_
 cases h
 exact eR rfl rfl rfl rfl
abbrev CK(p:(List aC)→Int→Option (Int×(List aC))):Prop:= ∀ {t0_0:List aC} {t1_0:Int} {r:Int×(List aC)},p t0_0 t1_0=some r→Big Try.prog τ An (.fn 199 [.one (.c (.sl (t0_0.map aJ))), .one (.c (.int .i64 t1_0))] [] (.one (.c (.int .i64 r.1))) (some (.sl (r.2.map aJ))) [] none)
def fX(n:Nat):((List aC)×Int×Int)→Option (((List aC)×Int×Int)⊕(((List aC)×Int×Int×Bool)))
  | (v0_1,v1_2,v5_3)=>bif decide (v5_3<(v0_1.length:Int))then(ix v0_1 v5_3).bind fun e15_9=>(some (v0_1.set (Int.toNat v5_3) (aC.mk v1_2 e15_9.f1 e15_9.f2 e15_9.f3))).bind fun u0_10=>(ix u0_10 v5_3).bind fun e22_11=>(some (u0_10.set (Int.toNat v5_3) (aC.mk e22_11.f0 (IntKind.wrap .i64 (v1_2+(1:Int))) e22_11.f2 e22_11.f3))).bind fun u0_12=>(cI n (IntKind.wrap .i64 ((IntKind.wrap .i64 (v1_2+(1:Int)))+(1:Int)))).bind fun c29_13=>(ix u0_12 v5_3).bind fun e30_14=>(some (u0_12.set (Int.toNat v5_3) (aC.mk e30_14.f0 e30_14.f1 c29_13 e30_14.f3))).bind fun u0_15=>(ix u0_15 v5_3).bind fun e37_16=>(some (u0_15.set (Int.toNat v5_3) (aC.mk e37_16.f0 e37_16.f1 e37_16.f2 (IntKind.wrap .i64 ((IntKind.wrap .i64 ((IntKind.wrap .i64 (v1_2+(1:Int)))+(1:Int)))+(1:Int)))))).bind fun u0_17=>some (.inl (u0_17,(IntKind.wrap .i64 ((IntKind.wrap .i64 ((IntKind.wrap .i64 ((IntKind.wrap .i64 (v1_2+(1:Int)))+(1:Int)))+(1:Int)))+(1:Int))),(IntKind.wrap .i64 (v5_3+(1:Int)))))else some (.inr (v0_1,v1_2,v5_3,false))
def jG(n:Nat)(t0_0:List aC)(t1_0:Int):Option (Int×(List aC)):=
  (loopN (fX n) n (t0_0,t1_0,(0:Int))).bind fun(v0_4,v1_5,v5_6,v9_7)=>some (v1_5,v0_4)
theorem yH{n:Nat}:CK (jG n):=by
 intro t0_0 t1_0 r h
 unfold jG at h
 refine bFi Try.func199 rfl rfl<|cRs<|xAs rfl<|oNl<|cSq<|cRs<|xAs rfl<|oNl<|cLp h [(0,1),(5,40)] [] (fun(v0_1,v1_2,v5_3)=>([(0,Li aJ v0_1),(1,I64 v1_2),(5,I64 v5_3)],[])) (fun(v0_4,v1_5,v5_6,v9_7)=>(.e 0,[(0,Li aJ v0_4),(1,I64 v1_5),(5,I64 v5_6),(9,Bo v9_7)],[])) rfl (fun st _ h=> ?_) (fun q h=> ?_)
 obtain⟨v0_1,v1_2,v5_3⟩:=st
 unfold fX at h
 refine cSq<|cRs<|xMv rfl<|xMv rfl<|xLn rfl<|xLt rfl<|oNl<|cIf h rfl (fun q8 h=> ?_) (fun q8 h=> ?_)
 refine cSk<|cSq<|cBk<|cRs<|wAl rfl rfl rfl rfl<|xMv rfl<|xMv rfl<|wIp (f:=aJ) h rfl rfl rfl rfl rfl rfl (fun _=>rfl) rfl (fun e15_9 ke15_9 h=> ?_)
 refine xFd rfl<|Cl (f:=aJ) (v':=aC.mk v1_2 e15_9.f1 e15_9.f2 e15_9.f3) h ke15_9 rfl rfl rfl rfl rfl rfl rfl rfl rfl (fun u0_10 h=> ?_)
 refine oRs<|xMv rfl<|cD rfl<|xAs rfl<|oRs<|wAl rfl rfl rfl rfl<|xMv rfl<|xMv rfl<|wIp (f:=aJ) h rfl rfl rfl rfl rfl rfl (fun _=>rfl) rfl (fun e22_11 ke22_11 h=> ?_)
 refine xFd rfl<|Cl (f:=aJ) (v':=aC.mk e22_11.f0 (IntKind.wrap .i64 (v1_2+(1:Int))) e22_11.f2 e22_11.f3) h ke22_11 rfl rfl rfl rfl rfl rfl rfl rfl rfl (fun u0_12 h=> ?_)
 refine oRs<|xMv rfl<|cD rfl<|xAs rfl<|oRs<|wAl rfl rfl rfl rfl<|xMv rfl<|xMv rfl<|xC0 h (eS ·) rfl (fun c29_13 h=> ?_)
 refine wIp (f:=aJ) h rfl rfl rfl rfl rfl rfl (fun _=>rfl) rfl (fun e30_14 ke30_14 h=> ?_)
 refine xFd rfl<|Cl (f:=aJ) (v':=aC.mk e30_14.f0 e30_14.f1 c29_13 e30_14.f3) h ke30_14 rfl rfl rfl rfl rfl rfl rfl rfl rfl (fun u0_15 h=> ?_)
 refine oRs<|xMv rfl<|cD rfl<|xAs rfl<|oRs<|wAl rfl rfl rfl rfl<|xMv rfl<|xMv rfl<|wIp (f:=aJ) h rfl rfl rfl rfl rfl rfl (fun _=>rfl) rfl (fun e37_16 ke37_16 h=> ?_)
 refine xFd rfl<|Cl (f:=aJ) (v':=aC.mk e37_16.f0 e37_16.f1 e37_16.f2 (IntKind.wrap .i64 ((IntKind.wrap .i64 ((IntKind.wrap .i64 (v1_2+(1:Int)))+(1:Int)))+(1:Int)))) h ke37_16 rfl rfl rfl rfl rfl rfl rfl rfl rfl (fun u0_17 h=> ?_)
 exact oNl<|cRg<|xMv rfl<|cD rfl<|xAs rfl<|oNl<|cRg<|xMv rfl<|cD rfl<|xAs rfl<|oNl<|eL h rfl
 exact cEx<|eX h rfl
 obtain⟨v0_4,v1_5,v5_6,v9_7⟩:=q
 refine cRs<|xMv rfl<|xAs rfl<|oNl<|cRt ?_
 cases h
 exact eRi rfl rfl rfl rfl rfl
abbrev DJ(p:(List aB)→Int→Option (Int×(List aB))):Prop:= ∀ {t0_0:List aB} {t1_0:Int} {r:Int×(List aB)},p t0_0 t1_0=some r→Big Try.prog τ An (.fn 115 [.one (.c (.sl (t0_0.map aG))), .one (.c (.int .i64 t1_0))] [] (.one (.c (.int .i64 r.1))) (some (.sl (r.2.map aG))) [] none)
def gY(n:Nat):((List aB)×Int×Int)→Option (((List aB)×Int×Int)⊕(((List aB)×Int×Int×Bool)))
  | (v0_1,v1_2,v5_3)=>bif decide (v5_3<(v0_1.length:Int))then(cI n v1_2).bind fun c15_9=>(ix v0_1 v5_3).bind fun e16_10=>(some (v0_1.set (Int.toNat v5_3) (aB.mk c15_9 e16_10.f1 e16_10.f2 e16_10.f3))).bind fun u0_11=>(ix u0_11 v5_3).bind fun e23_12=>(some (u0_11.set (Int.toNat v5_3) (aB.mk e23_12.f0 (IntKind.wrap .i64 (v1_2+(1:Int))) e23_12.f2 e23_12.f3))).bind fun u0_13=>(ix u0_13 v5_3).bind fun e30_14=>(some (u0_13.set (Int.toNat v5_3) (aB.mk e30_14.f0 e30_14.f1 (IntKind.wrap .i64 ((IntKind.wrap .i64 (v1_2+(1:Int)))+(1:Int))) e30_14.f3))).bind fun u0_15=>(ix u0_15 v5_3).bind fun e36_16=>(jG n e36_16.f3 (IntKind.wrap .i64 ((IntKind.wrap .i64 ((IntKind.wrap .i64 (v1_2+(1:Int)))+(1:Int)))+(1:Int)))).bind fun c40_17=>(some (u0_15.set (Int.toNat v5_3) (aB.mk e36_16.f0 e36_16.f1 e36_16.f2 c40_17.2))).bind fun u0_18=>some (.inl (u0_18,c40_17.1,(IntKind.wrap .i64 (v5_3+(1:Int)))))else some (.inr (v0_1,v1_2,v5_3,false))
def kF(n:Nat)(t0_0:List aB)(t1_0:Int):Option (Int×(List aB)):=
  (loopN (gY n) n (t0_0,t1_0,(0:Int))).bind fun(v0_4,v1_5,v5_6,v9_7)=>some (v1_5,v0_4)
theorem AJ{n:Nat}:DJ (kF n):=by
 intro t0_0 t1_0 r h
 unfold kF at h
 refine bFi Try.func115 rfl rfl<|cRs<|xAs rfl<|oNl<|cSq<|cRs<|xAs rfl<|oNl<|cLp h [(0,1),(5,40)] [] (fun(v0_1,v1_2,v5_3)=>([(0,Li aG v0_1),(1,I64 v1_2),(5,I64 v5_3)],[])) (fun(v0_4,v1_5,v5_6,v9_7)=>(.e 0,[(0,Li aG v0_4),(1,I64 v1_5),(5,I64 v5_6),(9,Bo v9_7)],[])) rfl (fun st _ h=> ?_) (fun q h=> ?_)
 obtain⟨v0_1,v1_2,v5_3⟩:=st
 unfold gY at h
 refine cSq<|cRs<|xMv rfl<|xMv rfl<|xLn rfl<|xLt rfl<|oNl<|cIf h rfl (fun q8 h=> ?_) (fun q8 h=> ?_)
 refine cSk<|cSq<|cBk<|cRs<|wAl rfl rfl rfl rfl<|xMv rfl<|xMv rfl<|xC0 h (eS ·) rfl (fun c15_9 h=> ?_)
 refine wIp (f:=aG) h rfl rfl rfl rfl rfl rfl (fun _=>rfl) rfl (fun e16_10 ke16_10 h=> ?_)
 refine xFd rfl<|Cl (f:=aG) (v':=aB.mk c15_9 e16_10.f1 e16_10.f2 e16_10.f3) h ke16_10 rfl rfl rfl rfl rfl rfl rfl rfl rfl (fun u0_11 h=> ?_)
 refine oRs<|xMv rfl<|cD rfl<|xAs rfl<|oRs<|wAl rfl rfl rfl rfl<|xMv rfl<|xMv rfl<|wIp (f:=aG) h rfl rfl rfl rfl rfl rfl (fun _=>rfl) rfl (fun e23_12 ke23_12 h=> ?_)
 refine xFd rfl<|Cl (f:=aG) (v':=aB.mk e23_12.f0 (IntKind.wrap .i64 (v1_2+(1:Int))) e23_12.f2 e23_12.f3) h ke23_12 rfl rfl rfl rfl rfl rfl rfl rfl rfl (fun u0_13 h=> ?_)
 refine oRs<|xMv rfl<|cD rfl<|xAs rfl<|oRs<|wAl rfl rfl rfl rfl<|xMv rfl<|xMv rfl<|wIp (f:=aG) h rfl rfl rfl rfl rfl rfl (fun _=>rfl) rfl (fun e30_14 ke30_14 h=> ?_)
 refine xFd rfl<|Cl (f:=aG) (v':=aB.mk e30_14.f0 e30_14.f1 (IntKind.wrap .i64 ((IntKind.wrap .i64 (v1_2+(1:Int)))+(1:Int))) e30_14.f3) h ke30_14 rfl rfl rfl rfl rfl rfl rfl rfl rfl (fun u0_15 h=> ?_)
 refine oRs<|xMv rfl<|cD rfl<|xAs rfl<|oNl<|cRg<|wAl rfl rfl rfl rfl<|xMv rfl<|wIp (f:=aG) h rfl rfl rfl rfl rfl rfl (fun _=>rfl) rfl (fun e36_16 ke36_16 h=> ?_)
 refine xFd rfl<|wLq (f:=aG) ke36_16 rfl rfl rfl rfl rfl rfl rfl rfl rfl rfl<|xMv rfl<|xIoN aG (fun c40_17=>u0_15.set (Int.toNat v5_3) (aB.mk e36_16.f0 e36_16.f1 e36_16.f2 c40_17.2)) h (yH ·) rfl (nav1 ke36_16 rfl) (fun _=>OT ke36_16 rfl rfl) (fun c40_17 u0_18 h=> ?_)
 exact xAs rfl<|oNl<|cRg<|xMv rfl<|cD rfl<|xAs rfl<|oNl<|eL h rfl
 exact cEx<|eX h rfl
 obtain⟨v0_4,v1_5,v5_6,v9_7⟩:=q
 refine cRs<|xMv rfl<|xAs rfl<|oNl<|cRt ?_
 cases h
 exact eRi rfl rfl rfl rfl rfl
abbrev gP:Type:=(List aA)→Int→Option (Int×(List aA))
abbrev lQ(p:gP):Prop:= ∀ {t0_0:List aA} {t1_0:Int} {r:Int×(List aA)},p t0_0 t1_0=some r→Big Try.prog τ An (.fn 116 [.one (.c (.sl (t0_0.map aD))), .one (.c (.int .i64 t1_0))] [] (.one (.c (.int .i64 r.1))) (some (.sl (r.2.map aD))) [] none)
def fW(n:Nat)(r_laws_markPatS:gP):((List aA)×Int×Int)→Option (((List aA)×Int×Int)⊕(((List aA)×Int×Int×Bool)))
  | (v0_1,v1_2,v5_3)=>bif decide (v5_3<(v0_1.length:Int))then(ix v0_1 v5_3).bind fun e15_9=>(some (v0_1.set (Int.toNat v5_3) (aA.mk v1_2 e15_9.f1 e15_9.f2 e15_9.f3))).bind fun u0_10=>(ix u0_10 v5_3).bind fun e22_11=>(some (u0_10.set (Int.toNat v5_3) (aA.mk e22_11.f0 (IntKind.wrap .i64 (v1_2+(1:Int))) e22_11.f2 e22_11.f3))).bind fun u0_12=>(cI n (IntKind.wrap .i64 ((IntKind.wrap .i64 (v1_2+(1:Int)))+(1:Int)))).bind fun c29_13=>(ix u0_12 v5_3).bind fun e30_14=>(some (u0_12.set (Int.toNat v5_3) (aA.mk e30_14.f0 e30_14.f1 c29_13 e30_14.f3))).bind fun u0_15=>(ix u0_15 v5_3).bind fun e36_16=>(r_laws_markPatS e36_16.f3 (IntKind.wrap .i64 ((IntKind.wrap .i64 ((IntKind.wrap .i64 (v1_2+(1:Int)))+(1:Int)))+(1:Int)))).bind fun c40_17=>(some (u0_15.set (Int.toNat v5_3) (aA.mk e36_16.f0 e36_16.f1 e36_16.f2 c40_17.2))).bind fun u0_18=>some (.inl (u0_18,c40_17.1,(IntKind.wrap .i64 (v5_3+(1:Int)))))else some (.inr (v0_1,v1_2,v5_3,false))
def gM(n:Nat)(r_laws_markPatS:gP)(t0_0:List aA)(t1_0:Int):Option (Int×(List aA)):=
  (loopN (fW n r_laws_markPatS) n (t0_0,t1_0,(0:Int))).bind fun(v0_4,v1_5,v5_6,v9_7)=>some (v1_5,v0_4)
theorem wR{n:Nat}{r_laws_markPatS:gP}(ih_laws_markPatS:lQ r_laws_markPatS):lQ (gM n r_laws_markPatS):=by
 intro t0_0 t1_0 r h
 unfold gM at h
 refine bFi Try.func116 rfl rfl<|cRs<|xAs rfl<|oNl<|cSq<|cRs<|xAs rfl<|oNl<|cLp h [(0,1),(5,40)] [] (fun(v0_1,v1_2,v5_3)=>([(0,Li aD v0_1),(1,I64 v1_2),(5,I64 v5_3)],[])) (fun(v0_4,v1_5,v5_6,v9_7)=>(.e 0,[(0,Li aD v0_4),(1,I64 v1_5),(5,I64 v5_6),(9,Bo v9_7)],[])) rfl (fun st _ h=> ?_) (fun q h=> ?_)
 obtain⟨v0_1,v1_2,v5_3⟩:=st
 unfold fW at h
 refine cSq<|cRs<|xMv rfl<|xMv rfl<|xLn rfl<|xLt rfl<|oNl<|cIf h rfl (fun q8 h=> ?_) (fun q8 h=> ?_)
 refine cSk<|cSq<|cBk<|cRs<|wAl rfl rfl rfl rfl<|xMv rfl<|xMv rfl<|wIp (f:=aD) h rfl rfl rfl rfl rfl rfl (fun a=>by rw[aH]; rfl) rfl (fun e15_9 ke15_9 h=> ?_)
 refine xFd rfl<|Cl (f:=aD) (v':=aA.mk v1_2 e15_9.f1 e15_9.f2 e15_9.f3) h ke15_9 rfl rfl rfl rfl rfl rfl rfl (by rw[aH]; rfl) (by rw[aH,cW]; rfl) (fun u0_10 h=> ?_)
 refine oRs<|xMv rfl<|cD rfl<|xAs rfl<|oRs<|wAl rfl rfl rfl rfl<|xMv rfl<|xMv rfl<|wIp (f:=aD) h rfl rfl rfl rfl rfl rfl (fun a=>by rw[aH]; rfl) rfl (fun e22_11 ke22_11 h=> ?_)
 refine xFd rfl<|Cl (f:=aD) (v':=aA.mk e22_11.f0 (IntKind.wrap .i64 (v1_2+(1:Int))) e22_11.f2 e22_11.f3) h ke22_11 rfl rfl rfl rfl rfl rfl rfl (by rw[aH]; rfl) (by rw[aH,cW]; rfl) (fun u0_12 h=> ?_)
 refine oRs<|xMv rfl<|cD rfl<|xAs rfl<|oRs<|wAl rfl rfl rfl rfl<|xMv rfl<|xMv rfl<|xC0 h (eS ·) rfl (fun c29_13 h=> ?_)
 refine wIp (f:=aD) h rfl rfl rfl rfl rfl rfl (fun a=>by rw[aH]; rfl) rfl (fun e30_14 ke30_14 h=> ?_)
 refine xFd rfl<|Cl (f:=aD) (v':=aA.mk e30_14.f0 e30_14.f1 c29_13 e30_14.f3) h ke30_14 rfl rfl rfl rfl rfl rfl rfl (by rw[aH]; rfl) (by rw[aH,cW]; rfl) (fun u0_15 h=> ?_)
 refine oRs<|xMv rfl<|cD rfl<|xAs rfl<|oNl<|cRg<|wAl rfl rfl rfl rfl<|xMv rfl<|wIp (f:=aD) h rfl rfl rfl rfl rfl rfl (fun a=>by rw[aH]; rfl) rfl (fun e36_16 ke36_16 h=> ?_)
 refine xFd rfl<|wLq (f:=aD) ke36_16 rfl rfl rfl rfl rfl rfl rfl (by rw[aH]) rfl rfl<|xMv rfl<|xIoN aD (fun c40_17=>u0_15.set (Int.toNat v5_3) (aA.mk e36_16.f0 e36_16.f1 e36_16.f2 c40_17.2)) h (ih_laws_markPatS ·) rfl (nav1 ke36_16 (by rw[aH]; rfl)) (fun _=>OT ke36_16 (by rw[aH]; rfl) (by rw[aH,cW]; rfl)) (fun c40_17 u0_18 h=> ?_)
 exact xAs rfl<|oNl<|cRg<|xMv rfl<|cD rfl<|xAs rfl<|oNl<|eL h rfl
 exact cEx<|eX h rfl
 obtain⟨v0_4,v1_5,v5_6,v9_7⟩:=q
 refine cRs<|xMv rfl<|xAs rfl<|oNl<|cRt ?_
 cases h
 exact eRi rfl rfl rfl rfl rfl
def sN:Nat→(gP)
  | 0=>(fun _ _=>none)
  | n+1=>gM n (sN n)
def cY(n:Nat):gP:=sN n
theorem wV(n:Nat):lQ (cY n):=by
  induction n with
  | zero=>exact(fun h=>nomatch h)
  | succ n ih=>exact wR (n:=n) ih
theorem yG{n:Nat}:lQ (cY n):=(wV n)
theorem p_laws_markPatS_succ(n:Nat):cY (n+1)=gM n (cY n):=rfl
abbrev tF(p:(List Int)→Option (Bool)):Prop:= ∀ {t0_0:List Int} {r:Bool},p t0_0=some r→Big Try.prog τ An (.fn 8 [.one (.c (.sl (t0_0.map rI_u8)))] [] (.one (.c (.bool r))) none [] none)
def gA(n:Nat)(t0_0:List Int):Option (Bool):=
  bif decide ((1048576:Int)<(t0_0.length:Int))then some true else(eO n t0_0).bind fun c18_2=>(kE n c18_2).bind fun c19_3=>(eO n t0_0).bind fun c23_4=>(iV n c23_4).bind fun c26_5=>((iB n c26_5.1 c26_5.2.1 c19_3.1 c19_3.2.1).bind fun c31_7=>bif !c31_7 then some true else some (!(c26_5.2.2 == c19_3.2.2))).bind fun v37_6=>bif v37_6 then some false else(eO n t0_0).bind fun c40_10=>(kH n c23_4 c40_10).bind fun c41_11=>bif !c41_11 then some false else(iN n c23_4 (1:Int)).bind fun c45_13=>(bif decide (c45_13.1<(0:Int))then some true else(iB n c26_5.1 c26_5.2.1 c19_3.1 c19_3.2.1).bind fun c51_16=>bif !c51_16 then some true else some (!(c26_5.2.2 == c19_3.2.2))).bind fun v58_14=>bif v58_14 then some false else(kF n c26_5.1 (1:Int)).bind fun m15_19=>(cY n c26_5.2.1 m15_19.1).bind fun m15_20=>(gO n m15_19.2 m15_20.2 (1:Int)).bind fun c64_21=>bif decide (c64_21<(0:Int))then some false else bif !decide (c64_21=m15_20.1)then some false else(eO n t0_0).bind fun c72_24=>(iV n c72_24).bind fun c73_25=>((iB n c73_25.1 c73_25.2.1 c19_3.1 c19_3.2.1).bind fun c78_27=>bif !c78_27 then some true else some (!(c73_25.2.2 == c19_3.2.2))).bind fun v84_26=>bif v84_26 then some false else(gO n m15_19.2 m15_20.2 (1:Int)).bind fun c87_30=>bif decide (c87_30<(0:Int))then some false else bif !decide (c87_30=m15_20.1)then some false else some true
theorem rA{n:Nat}:tF (gA n):=by
 intro t0_0 r h
 unfold gA at h
 refine bF Try.func8 rfl rfl<|cRs<|xAs rfl<|oNl<|cSq<|cRs<|xMv rfl<|xLn rfl<|xGt rfl<|oNl<|cIf h rfl (fun q1 h=> ?_) (fun q1 h=> ?_)
 refine cRs<|xAs rfl<|oNl<|cRt ?_
 cases h
 exact eR rfl rfl rfl rfl
 refine cSk<|cRs<|xMv rfl<|xC0 h (kU ·) rfl (fun c18_2 h=> ?_)
 refine xC0 h (AI ·) rfl (fun c19_3 h=> ?_)
 refine xMv rfl<|xEt rfl<|xEt rfl<|xAz [.sl ([].map aG), .sl ([].map aD)] rfl<|xSt rfl<|xAs rfl<|oRs<|xMv rfl<|xC0 h (kU ·) rfl (fun c23_4 h=> ?_)
 refine xAs rfl<|oRs<|xMv rfl<|xC0 h (rN ·) rfl (fun c26_5 h=> ?_)
 refine xMv rfl<|xEt rfl<|xEt rfl<|xAz [.sl ([].map aG), .sl ([].map aD)] rfl<|xSt rfl<|xAs rfl<|oNl<|cSq<|cRs<|oJn h [(29,37)] [] (fun v37_6=>(.n,[(37,Bo v37_6)],[])) (fun _ h=> ?_) (fun v37_6 h=> ?_)
 refine xLd rfl<|xLd rfl<|xC0 h (oG ·) rfl (fun c31_7 h=> ?_)
 refine fC rfl<|xMv rfl<|oIf 33 h rfl (fun q8 h=> ?_) (fun q8 h=> ?_)
 exact wSk rfl<|wSk rfl<|wSk rfl<|xPk rfl<|oNl<|eJ h rfl
 exact xMv rfl<|xMv rfl<|wBi (.bool (!(c26_5.2.2 == c19_3.2.2))) rfl rfl rfl rfl rfl<|xPk rfl<|oNl<|eJ h rfl
 refine cIf h rfl (fun q9 h=> ?_) (fun q9 h=> ?_)
 refine cRs<|xAs rfl<|oNl<|cRt ?_
 cases h
 exact eR rfl rfl rfl rfl
 refine cSk<|cSq<|cRs<|xMv rfl<|xMv rfl<|xC0 h (kU ·) rfl (fun c40_10 h=> ?_)
 refine xC0 h (AL ·) rfl (fun c41_11 h=> ?_)
 refine fC rfl<|oNl<|cIf h rfl (fun q12 h=> ?_) (fun q12 h=> ?_)
 refine cRs<|xAs rfl<|oNl<|cRt ?_
 cases h
 exact eR rfl rfl rfl rfl
 refine cSk<|cRs<|xAs rfl<|oRs<|wAl rfl rfl rfl rfl<|xMv rfl<|xIo (fun c45_13=> .sl (c45_13.2.map rI_u8)) h (wZ ·) rfl (Qr _) (fun _=>FU _ _) (fun c45_13 h=> ?_)
 refine xAs rfl<|oNl<|cSq<|cRs<|oJn h [(46,58)] [] (fun v58_14=>(.n,[(58,Bo v58_14)],[])) (fun _ h=> ?_) (fun v58_14 h=> ?_)
 refine xMv rfl<|xLt rfl<|xMv rfl<|oIf 48 h rfl (fun q15 h=> ?_) (fun q15 h=> ?_)
 exact wSk rfl<|wSk rfl<|wSk rfl<|wSk rfl<|xPk rfl<|xMv rfl<|wSk rfl<|wSk rfl<|wSk rfl<|xPk rfl<|oNl<|eJ h rfl
 refine xLd rfl<|xLd rfl<|xC0 h (oG ·) rfl (fun c51_16 h=> ?_)
 refine fC rfl<|xPk rfl<|xMv rfl<|oIf 54 h rfl (fun q17 h=> ?_) (fun q17 h=> ?_)
 exact wSk rfl<|wSk rfl<|wSk rfl<|xPk rfl<|oNl<|eJ h rfl
 exact xMv rfl<|xMv rfl<|wBi (.bool (!(c26_5.2.2 == c19_3.2.2))) rfl rfl rfl rfl rfl<|xPk rfl<|oNl<|eJ h rfl
 refine cIf h rfl (fun q18 h=> ?_) (fun q18 h=> ?_)
 refine cRs<|xAs rfl<|oNl<|cRt ?_
 cases h
 exact eR rfl rfl rfl rfl
 refine cSk<|cRs<|xAs rfl<|oNl ?_
 obtain⟨m15_19,em15_19,h⟩:=bind_some h
 obtain⟨m15_20,em15_20,h⟩:=bind_some h
 refine cMk [⟨0,115,c26_5.1.map aG,m15_19.2.map aG,1,m15_19.1⟩,⟨1,116,c26_5.2.1.map aD,m15_20.2.map aD,m15_19.1,m15_20.1⟩] Ng ⟨AJ em15_19,yG em15_20,trivial⟩ rfl rfl ⟨rfl,rfl,rfl,rfl,rfl,rfl⟩<|cRs<|xAs rfl<|oRs<|xLd rfl<|xMv rfl<|xC0 h (qN ·) rfl (fun c64_21 h=> ?_)
 refine xAs rfl<|oNl<|cSq<|cRs<|xMv rfl<|xLt rfl<|oNl<|cIf h rfl (fun q22 h=> ?_) (fun q22 h=> ?_)
 refine cRs<|xAs rfl<|oNl<|cRt ?_
 cases h
 exact eR rfl rfl rfl rfl
 refine cSk<|cSq<|cRs<|xMv rfl<|xMv rfl<|xNe rfl<|oNl<|cIf h rfl (fun q23 h=> ?_) (fun q23 h=> ?_)
 refine cRs<|xAs rfl<|oNl<|cRt ?_
 cases h
 exact eR rfl rfl rfl rfl
 refine cSk<|cRs<|xMv rfl<|xC0 h (kU ·) rfl (fun c72_24 h=> ?_)
 refine xC0 h (rN ·) rfl (fun c73_25 h=> ?_)
 refine xMv rfl<|xEt rfl<|xEt rfl<|xAz [.sl ([].map aG), .sl ([].map aD)] rfl<|xSt rfl<|xAs rfl<|oNl<|cSq<|cRs<|oJn h [(76,84)] [] (fun v84_26=>(.n,[(84,Bo v84_26)],[])) (fun _ h=> ?_) (fun v84_26 h=> ?_)
 refine xLd rfl<|xLd rfl<|xC0 h (oG ·) rfl (fun c78_27 h=> ?_)
 refine fC rfl<|xMv rfl<|oIf 80 h rfl (fun q28 h=> ?_) (fun q28 h=> ?_)
 exact wSk rfl<|wSk rfl<|wSk rfl<|xPk rfl<|oNl<|eJ h rfl
 exact xMv rfl<|xMv rfl<|wBi (.bool (!(c73_25.2.2 == c19_3.2.2))) rfl rfl rfl rfl rfl<|xPk rfl<|oNl<|eJ h rfl
 refine cIf h rfl (fun q29 h=> ?_) (fun q29 h=> ?_)
 refine cRs<|xAs rfl<|oNl<|cRt ?_
 cases h
 exact eR rfl rfl rfl rfl
 refine cSk<|cRs<|xAs rfl<|oRs<|xLd rfl<|xMv rfl<|xC0 h (qN ·) rfl (fun c87_30 h=> ?_)
 refine xAs rfl<|oNl<|cSq<|cRs<|xMv rfl<|xLt rfl<|oNl<|cIf h rfl (fun q31 h=> ?_) (fun q31 h=> ?_)
 refine cRs<|xAs rfl<|oNl<|cRt ?_
 cases h
 exact eR rfl rfl rfl rfl
 refine cSk<|cSq<|cRs<|xMv rfl<|xMv rfl<|xNe rfl<|oNl<|cIf h rfl (fun q32 h=> ?_) (fun q32 h=> ?_)
 refine cRs<|xAs rfl<|oNl<|cRt ?_
 cases h
 exact eR rfl rfl rfl rfl
 refine cSk<|cRs<|xAs rfl<|oNl<|cRt ?_
 cases h
 exact eR rfl rfl rfl rfl
end Go.Own
