/- Each function on plain data, and its walk. No conditions. -/
import Derived.Test.YtjfgchodolnmcaaW27V
set_option linter.unusedVariables false
set_option linter.unusedSimpArgs false
set_option linter.unnecessarySimpa false
namespace Go.Own
open Go Go.Proofs
def p_impl_climber_leaves(n:Nat)(t1_0:Int)(t2_0:Int)(t2_1:Int)(t2_2:List UInt8)(t2_3:Int)(o0_0:List Int)(o0_1:Bool):Option ((List Int)×Bool):=
  (ix o0_0 t1_0).bind fun e12_1=>((p_impl_takesOf n t2_0 t2_1 t2_2 t2_3).bind fun c16_3=>bif decide (e12_1<c16_3)then some true else bif decide (t2_0=(9:Int))then some (decide (t2_3≤t1_0))else bif decide (t2_0=(10:Int))then some (decide (t2_3≤t1_0))else some false).bind fun v33_2=>bif v33_2 then some (o0_0,true)else bif decide (t2_0=(9:Int))then(p_impl_climber_comes n (IntKind.wrap .i64 (t1_0+(1:Int))) (IntKind.wrap .i64 (e12_1 - (1:Int))) o0_0 o0_1).bind fun c55_9=>(p_impl_climber_comes n t2_3 e12_1 c55_9.1 c55_9.2).bind fun c60_10=>some (c60_10.1,c60_10.2)else bif decide (t2_0=(10:Int))then(p_impl_climber_comes n t2_3 e12_1 o0_0 o0_1).bind fun c67_12=>some (c67_12.1,c67_12.2)else bif decide (t2_0=(11:Int))then some (o0_0,o0_1)else bif decide (t2_0=(12:Int))then(bif o0_1 then some (o0_0,true)else some (o0_0,(!decide (e12_1=(1:Int))))).bind fun(w1000000_15,w1000000_16)=>some (w1000000_15,w1000000_16)else(p_impl_takesOf n t2_0 t2_1 t2_2 t2_3).bind fun c44_18=>(p_impl_climber_comes n (IntKind.wrap .i64 (t1_0+(1:Int))) (IntKind.wrap .i64 ((IntKind.wrap .i64 (e12_1 - c44_18))+(1:Int))) o0_0 o0_1).bind fun c47_19=>some (c47_19.1,c47_19.2)
theorem big_impl_climber_leaves{n:Nat}:B_impl_climber_leaves (p_impl_climber_leaves n):=by
 intro t1_0 t2_0 t2_1 t2_2 t2_3 o0_0 o0_1 r h
 unfold p_impl_climber_leaves at h
 refine bF Try.func273 rfl rfl<|cRs<|xBx rfl<|oRs<|xMv rfl<|xNc rfl<|xFd rfl<|xLd rfl<|xMv rfl<|xIx h rI_i64_eq rfl (fun e12_1 h=> ?_)
 refine xLd rfl<|xAs rfl<|oNl<|cSq<|cRs<|oJn h [(14,33)] [] (fun v33_2=>(.n,[(33,Bo v33_2)],[])) (fun _ h=> ?_) (fun v33_2 h=> ?_)
 refine xMv rfl<|xLd rfl<|xC0 h (big_impl_takesOf ·) rfl (fun c16_3 h=> ?_)
 refine xLt rfl<|xMv rfl<|oIf 18 h rfl (fun q4 h=> ?_) (fun q4 h=> ?_)
 refine wSk rfl<|wSk rfl<|wSk rfl<|wSk rfl<|wSk rfl<|wSk rfl<|wSk rfl<|wSk rfl<|wSk rfl<|wSk rfl<|wSk rfl<|wSk rfl<|wSk rfl<|wSk rfl ?_
 exact xPk rfl<|oNl<|eJ h rfl
 refine xFd rfl<|xLd rfl<|xEq rfl<|xMv rfl<|oIf 22 h rfl (fun q5 h=> ?_) (fun q5 h=> ?_)
 exact wSk rfl<|wSk rfl<|wSk rfl<|xPk rfl<|xMv rfl<|xFd rfl<|xLd rfl<|xMv rfl<|xLe rfl<|xPk rfl<|xPk rfl<|oNl<|eJ h rfl
 refine xFd rfl<|xLd rfl<|xEq rfl<|xPk rfl<|xMv rfl<|oIf 27 h rfl (fun q6 h=> ?_) (fun q6 h=> ?_)
 exact xFd rfl<|xLd rfl<|xMv rfl<|xLe rfl<|xPk rfl<|xPk rfl<|oNl<|eJ h rfl
 exact wSk rfl<|wSk rfl<|wSk rfl<|wSk rfl<|xPk rfl<|xPk rfl<|oNl<|eJ h rfl
 refine cIf h rfl (fun q7 h=> ?_) (fun q7 h=> ?_)
 refine cRs<|xMv rfl<|xNc rfl<|xFd rfl<|xSt rfl<|oNl<|cRt ?_
 cases h
 exact eR rfl rfl rfl rfl
 refine cSk<|cRs<|xFd rfl<|xLd rfl<|oNl<|cBk<|cRs<|xEq rfl<|xAs rfl<|oNl<|cIf h rfl (fun q8 h=> ?_) (fun q8 h=> ?_)
 refine cRs<|xMv rfl<|xMv rfl<|xAdd rfl<|xMv rfl<|xSub rfl<|xC1 h (big_impl_climber_comes ·) rfl (fun c55_9 h=> ?_)
 refine oNl<|cRg<|xMv rfl<|xFd rfl<|xLd rfl<|xMv rfl<|xC1 h (big_impl_climber_comes ·) rfl (fun c60_10 h=> ?_)
 refine oNl ?_
 cases h
 exact eN rfl rfl rfl rfl
 refine cRs<|xEq rfl<|xAs rfl<|oNl<|cIf h rfl (fun q11 h=> ?_) (fun q11 h=> ?_)
 refine cRg<|xMv rfl<|xFd rfl<|xLd rfl<|xMv rfl<|xC1 h (big_impl_climber_comes ·) rfl (fun c67_12 h=> ?_)
 refine oNl ?_
 cases h
 exact eN rfl rfl rfl rfl
 refine cRs<|xEq rfl<|xAs rfl<|oNl<|cIf h rfl (fun q13 h=> ?_) (fun q13 h=> ?_)
 refine cSk ?_
 cases h
 exact eN rfl rfl rfl rfl
 refine cRs<|xEq rfl<|xAs rfl<|oNl<|cIf h rfl (fun q14 h=> ?_) (fun q14 h=> ?_)
 refine cRg<|oJn h [(72,82)] [(1000000,1000000)] (fun(w1000000_15,w1000000_16)=>(.n,[],[(1000000,[.sl (w1000000_15.map rI_i64), .bool w1000000_16])])) (fun _ h=> ?_) (fun q h=> ?_)
 refine xMv rfl<|xMv rfl<|xNc rfl<|xFd rfl<|xLd rfl<|xMv rfl<|oIf 77 h rfl (fun q17 h=> ?_) (fun q17 h=> ?_)
 exact wSk rfl<|wSk rfl<|xPk rfl<|xNc rfl<|xFd rfl<|xSt rfl<|oNl<|eJ h rfl
 exact xMv rfl<|xNe rfl<|xPk rfl<|xNc rfl<|xFd rfl<|xSt rfl<|oNl<|eJ h rfl
 obtain⟨w1000000_15,w1000000_16⟩:=q
 cases h
 exact eN rfl rfl rfl rfl
 refine cRg<|xMv rfl<|xMv rfl<|xAdd rfl<|xMv rfl<|xLd rfl<|xC0 h (big_impl_takesOf ·) rfl (fun c44_18 h=> ?_)
 refine xSub rfl<|xAdd rfl<|xC1 h (big_impl_climber_comes ·) rfl (fun c47_19 h=> ?_)
 refine oNl ?_
 cases h
 exact eN rfl rfl rfl rfl
abbrev B_impl_heightsOf(p:(List UInt8)→Int→Int→(List S_impl_Ins)→Option ((List Int)×Bool)):Prop:= ∀ {t0_0:List UInt8} {t0_1 t0_2:Int} {t0_3:List S_impl_Ins} {r:(List Int)×Bool},p t0_0 t0_1 t0_2 t0_3=some r→Big Try.prog τ An (.fn 215 [.one (.cp [.str t0_0, .int .i64 t0_1, .int .i64 t0_2, .sl (t0_3.map rS_impl_Ins)])] [] (.tup [.c (.sl (r.1.map rI_i64)), .c (.bool r.2)]) none [] none)
def p_impl_heightsOf_b1(n:Nat)(t0_3:List S_impl_Ins):(Int×(List Int)×Bool)→Option ((Int×(List Int)×Bool)⊕((Int×Bool×(List Int)×Bool)))
  | (v18_2,w4_3,w4_4)=>bif decide (v18_2<((List.replicate (Int.toNat (t0_3.length:Int)) (0:Int)).length:Int))then(ix w4_3 v18_2).bind fun e24_10=>(some (w4_3.set (Int.toNat v18_2) ((-1):Int))).bind fun u4_11=>some (.inl ((IntKind.wrap .i64 (v18_2+(1:Int))),u4_11,w4_4))else some (.inr (v18_2,false,w4_3,w4_4))
def p_impl_heightsOf_b2(n:Nat)(t0_3:List S_impl_Ins):(Int×(List Int)×Bool)→Option ((Int×(List Int)×Bool)⊕(((List Int)×Bool)⊕(Int×Bool×(List Int)×Bool)))
  | (v32_13,w4_14,w4_15)=>bif decide (v32_13<(t0_3.length:Int))then(ix t0_3 v32_13).bind fun e35_23=>(bif w4_15 then some true else(ix w4_14 v32_13).bind fun e43_26=>some (decide (e43_26<(0:Int)))).bind fun v46_24=>bif v46_24 then some (.inr (.inl (([]:List Int),false)))else(p_impl_climber_leaves n v32_13 e35_23.f0 e35_23.f1 e35_23.f2 e35_23.f3 w4_14 w4_15).bind fun c49_28=>some (.inl ((IntKind.wrap .i64 (v32_13+(1:Int))),c49_28.1,c49_28.2))else some (.inr (.inr (v32_13,false,w4_14,w4_15)))
def p_impl_heightsOf(n:Nat)(t0_0:List UInt8)(t0_1:Int)(t0_2:Int)(t0_3:List S_impl_Ins):Option ((List Int)×Bool):=
  (ck (decide (0≤(t0_3.length:Int)∧(t0_3.length:Int)≤maxLen∧8*(t0_3.length:Int)≤281474976710656))).bind fun _=>(loopN (p_impl_heightsOf_b1 n t0_3) n ((0:Int),(List.replicate (Int.toNat (t0_3.length:Int)) (0:Int)),false)).bind fun(v18_5,v19_6,w4_7,w4_8)=>(p_impl_climber_comes n (0:Int) (0:Int) w4_7 w4_8).bind fun c26_12=>(loopN (p_impl_heightsOf_b2 n t0_3) n ((0:Int),c26_12.1,c26_12.2)).bind fun q=>(match q with | .inl (v2_16,v3_17)=>some (v2_16,v3_17) | .inr (v32_18,v33_19,w4_20,w4_21)=>some (w4_20,(!w4_21)))
theorem big_impl_heightsOf{n:Nat}:B_impl_heightsOf (p_impl_heightsOf n):=by
 intro t0_0 t0_1 t0_2 t0_3 r h
 unfold p_impl_heightsOf at h
 refine bF Try.func215 rfl rfl<|cRs<|wAe (Li rI_i64 []) rfl rfl rfl rfl<|xAs rfl<|oRs<|xMv rfl<|xNc rfl<|xFd rfl<|xLd rfl<|xLn rfl<|oCk h (fun k13_0 h=> ?_)
 refine wMk (z:=(0:Int)) (f:=rI_i64) k13_0 rfl rfl rfl rfl rfl rfl rfl<|wBd [.sl ((List.replicate (Int.toNat (t0_3.length:Int)) (0:Int)).map rI_i64), .bool false] rfl rfl rfl rfl rfl rfl<|xAz [.sl ([].map rI_i64), .bool false] rfl<|xSt rfl<|oNl<|cSq<|cRs<|xFd rfl<|xLd rfl<|xLn rfl<|xMv rfl<|oNl<|cLp h [(5,5),(18,25)] [(4,4)] (fun(v18_2,w4_3,w4_4)=>([(18,I64 v18_2)],[(4,[.sl (w4_3.map rI_i64), .bool w4_4])])) (fun(v18_5,v19_6,w4_7,w4_8)=>(.e 0,[(18,I64 v18_5),(19,Bo v19_6)],[(4,[.sl (w4_7.map rI_i64), .bool w4_8])])) rfl (fun st _ h=> ?_) (fun q h=> ?_)
 obtain⟨v18_2,w4_3,w4_4⟩:=st
 unfold p_impl_heightsOf_b1 at h
 refine cRs<|xLt rfl<|oNl<|cSq<|cIf h rfl (fun q9 h=> ?_) (fun q9 h=> ?_)
 refine cSk<|cSq<|cBk<|cRs<|xMv rfl<|xAs rfl<|oNl<|cRg<|xFd rfl<|wLa rfl rfl rfl rfl rfl rfl rfl<|xMv rfl<|wIp (f:=rI_i64) h rfl rfl rfl rfl rfl rfl (fun _=>rfl) rfl (fun e24_10 ke24_10 h=> ?_)
 refine wSpN (f:=rI_i64) (v':=((-1):Int)) h ke24_10 rfl rfl rfl rfl rfl rfl rfl rfl rfl (fun u4_11 h=> ?_)
 exact oNl<|cRg<|xAdd rfl<|xMv rfl<|oNl<|eL h rfl
 exact cEx<|eX h rfl
 obtain⟨v18_5,v19_6,w4_7,w4_8⟩:=q
 refine cRs<|xC1 h (big_impl_climber_comes ·) rfl (fun c26_12 h=> ?_)
 refine oNl<|cSq<|cRs<|xMv rfl<|xNc rfl<|xFd rfl<|xLd rfl<|xLn rfl<|xMv rfl<|oNl<|cLp h [(2,3),(6,7),(32,50)] [(4,4),(7,7)] (fun(v32_13,w4_14,w4_15)=>([(32,I64 v32_13)],[(4,[.sl (w4_14.map rI_i64), .bool w4_15])])) (fun q=>match q with | .inl (v2_16,v3_17)=>(.r,[(2,Li rI_i64 v2_16),(3,Bo v3_17)],[]) | .inr (v32_18,v33_19,w4_20,w4_21)=>(.e 2,[(32,I64 v32_18),(33,Bo v33_19)],[(4,[.sl (w4_20.map rI_i64), .bool w4_21])])) rfl (fun st _ h=> ?_) (fun q h=> ?_)
 obtain⟨v32_13,w4_14,w4_15⟩:=st
 unfold p_impl_heightsOf_b2 at h
 refine cRs<|xLt rfl<|oNl<|cSq<|cIf h rfl (fun q22 h=> ?_) (fun q22 h=> ?_)
 refine cSk<|cSq<|cBk<|cRs<|xMv rfl<|xIx h rS_impl_Ins_eq rfl (fun e35_23 h=> ?_)
 refine xLd rfl<|xAc rfl<|xAs rfl<|xSt rfl<|oNl<|cSq<|cRs<|oJn h [(37,46)] [] (fun v46_24=>(.n,[(46,Bo v46_24)],[])) (fun _ h=> ?_) (fun v46_24 h=> ?_)
 refine xFd rfl<|xLd rfl<|xMv rfl<|oIf 39 h rfl (fun q25 h=> ?_) (fun q25 h=> ?_)
 exact wSk rfl<|wSk rfl<|wSk rfl<|wSk rfl<|wSk rfl<|wSk rfl<|xPk rfl<|oNl<|eJ h rfl
 refine xFd rfl<|xLd rfl<|xMv rfl<|xIx h rI_i64_eq rfl (fun e43_26 h=> ?_)
 exact xLd rfl<|xLt rfl<|xPk rfl<|oNl<|eJ h rfl
 refine cIf h rfl (fun q27 h=> ?_) (fun q27 h=> ?_)
 exact cRs<|wAe (Li rI_i64 []) rfl rfl rfl rfl<|xAs rfl<|oNl<|cRt<|eXr h rfl
 refine cSk<|cRg<|xMv rfl<|xLd rfl<|xC1 h (big_impl_climber_leaves ·) rfl (fun c49_28 h=> ?_)
 exact oNl<|cRg<|xAdd rfl<|xMv rfl<|oNl<|eL h rfl
 exact cEx<|eX h rfl
 rcases q with⟨v2_16,v3_17⟩ | ⟨v32_18,v33_19,w4_20,w4_21⟩
 cases h
 exact eR rfl rfl rfl rfl
 refine cRs<|xFd rfl<|xLd rfl<|xFd rfl<|xLd rfl<|xNot rfl<|xAs rfl<|xAs rfl<|oNl<|cRt ?_
 cases h
 exact eR rfl rfl rfl rfl
abbrev B_impl_fnOk(p:(List UInt8)→Int→Int→(List S_impl_Ins)→(List S_impl_Fn)→(List S_impl_Pat)→Option (Bool×(List S_impl_Fn)×(List S_impl_Pat))):Prop:= ∀ {t1_0:List UInt8} {t1_1 t1_2:Int} {t1_3:List S_impl_Ins} {o0_0:List S_impl_Fn} {o0_1:List S_impl_Pat} {r:Bool×(List S_impl_Fn)×(List S_impl_Pat)},p t1_0 t1_1 t1_2 t1_3 o0_0 o0_1=some r→Big Try.prog τ An (.fn 129 [.one (.ptr 1000000 0), .one (.cp [.str t1_0, .int .i64 t1_1, .int .i64 t1_2, .sl (t1_3.map rS_impl_Ins)])] [[.sl (o0_0.map rS_impl_Fn), .sl (o0_1.map rS_impl_Pat)]] (.one (.c (.bool r.1))) none [[.sl (r.2.1.map rS_impl_Fn), .sl (r.2.2.map rS_impl_Pat)]] none)
def p_impl_fnOk_b1(n:Nat)(t1_0:List UInt8)(t1_1:Int)(t1_2:Int)(t1_3:List S_impl_Ins):(Int×(List S_impl_Fn)×(List S_impl_Pat))→Option ((Int×(List S_impl_Fn)×(List S_impl_Pat))⊕((Bool×(List S_impl_Fn)×(List S_impl_Pat))⊕(Int×Bool×(List S_impl_Fn)×(List S_impl_Pat))))
  | (v49_10,w1000000_11,w1000000_12)=>bif decide (v49_10<(t1_3.length:Int))then(ix t1_3 v49_10).bind fun e51_21=>(p_impl_insOk n t1_0 t1_1 t1_2 t1_3 e51_21.f0 e51_21.f1 e51_21.f2 e51_21.f3 w1000000_11 w1000000_12).bind fun c56_22=>bif !c56_22.1 then some (.inr (.inl (false,c56_22.2.1,c56_22.2.2)))else some (.inl ((IntKind.wrap .i64 (v49_10+(1:Int))),c56_22.2.1,c56_22.2.2))else some (.inr (.inr (v49_10,false,w1000000_11,w1000000_12)))
def p_impl_fnOk(n:Nat)(t1_0:List UInt8)(t1_1:Int)(t1_2:Int)(t1_3:List S_impl_Ins)(o0_0:List S_impl_Fn)(o0_1:List S_impl_Pat):Option (Bool×(List S_impl_Fn)×(List S_impl_Pat)):=
  ((p_impl_xAtomOk n t1_0).bind fun c13_2=>bif !c13_2 then some true else(p_impl_inRange n t1_1 (0:Int) (4:Int)).bind fun c20_4=>bif !c20_4 then some true else(p_impl_inRange n t1_2 t1_1 (400:Int)).bind fun c32_6=>bif !c32_6 then some true else(p_impl_inRange n (t1_3.length:Int) (1:Int) (1500:Int)).bind fun c41_8=>some (!c41_8)).bind fun v43_1=>bif v43_1 then some (false,o0_0,o0_1)else(loopN (p_impl_fnOk_b1 n t1_0 t1_1 t1_2 t1_3) n ((0:Int),o0_0,o0_1)).bind fun q=>(match q with | .inl (v4_13,w1000000_14,w1000000_15)=>some (v4_13,w1000000_14,w1000000_15) | .inr (v49_16,v50_17,w1000000_18,w1000000_19)=>(p_impl_heightsOf n t1_0 t1_1 t1_2 t1_3).bind fun c61_24=>some (c61_24.2,w1000000_18,w1000000_19))
theorem big_impl_fnOk{n:Nat}:B_impl_fnOk (p_impl_fnOk n):=by
 intro t1_0 t1_1 t1_2 t1_3 o0_0 o0_1 r h
 unfold p_impl_fnOk at h
 refine bF Try.func129 rfl rfl<|cRs<|xAs rfl<|oNl<|cSq<|cRs<|oJn h [(9,43)] [] (fun v43_1=>(.n,[(43,Bo v43_1)],[])) (fun _ h=> ?_) (fun v43_1 h=> ?_)
 refine xMv rfl<|xNc rfl<|xFd rfl<|xLd rfl<|xC0 h (big_impl_xAtomOk ·) rfl (fun c13_2 h=> ?_)
 refine xNot rfl<|xMv rfl<|oIf 15 h rfl (fun q3 h=> ?_) (fun q3 h=> ?_)
 refine wSk rfl<|wSk rfl<|wSk rfl<|wSk rfl<|wSk rfl<|wSk rfl<|xPk rfl<|xMv rfl<|wSk rfl<|wSk rfl<|wSk rfl<|wSk rfl<|wSk rfl<|wSk rfl ?_
 refine wSk rfl<|wSk rfl<|wSk rfl<|wSk rfl<|xPk rfl<|xMv rfl<|wSk rfl<|wSk rfl<|wSk rfl<|wSk rfl<|wSk rfl<|wSk rfl<|wSk rfl<|xPk rfl ?_
 exact oNl<|eJ h rfl
 refine xMv rfl<|xNc rfl<|xFd rfl<|xLd rfl<|xC0 h (big_impl_inRange ·) rfl (fun c20_4 h=> ?_)
 refine xNot rfl<|xPk rfl<|xMv rfl<|oIf 23 h rfl (fun q5 h=> ?_) (fun q5 h=> ?_)
 refine wSk rfl<|wSk rfl<|wSk rfl<|wSk rfl<|wSk rfl<|wSk rfl<|wSk rfl<|wSk rfl<|wSk rfl<|wSk rfl<|xPk rfl<|xMv rfl<|wSk rfl<|wSk rfl ?_
 exact wSk rfl<|wSk rfl<|wSk rfl<|wSk rfl<|wSk rfl<|xPk rfl<|oNl<|eJ h rfl
 refine xMv rfl<|xNc rfl<|xFd rfl<|xLd rfl<|xMv rfl<|xNc rfl<|xFd rfl<|xLd rfl<|xC0 h (big_impl_inRange ·) rfl (fun c32_6 h=> ?_)
 refine xNot rfl<|xPk rfl<|xMv rfl<|oIf 35 h rfl (fun q7 h=> ?_) (fun q7 h=> ?_)
 exact wSk rfl<|wSk rfl<|wSk rfl<|wSk rfl<|wSk rfl<|wSk rfl<|wSk rfl<|xPk rfl<|oNl<|eJ h rfl
 refine xMv rfl<|xNc rfl<|xFd rfl<|xLd rfl<|xLn rfl<|xC0 h (big_impl_inRange ·) rfl (fun c41_8 h=> ?_)
 exact xNot rfl<|xPk rfl<|oNl<|eJ h rfl
 refine cIf h rfl (fun q9 h=> ?_) (fun q9 h=> ?_)
 refine cRs<|xAs rfl<|oNl<|cRt ?_
 cases h
 exact eR rfl rfl rfl rfl
 refine cSk<|cSq<|cRs<|xMv rfl<|xNc rfl<|xFd rfl<|xLd rfl<|xLn rfl<|xMv rfl<|oNl<|cLp h [(4,4),(6,6),(49,58)] [(6,6),(1000000,1000000)] (fun(v49_10,w1000000_11,w1000000_12)=>([(49,I64 v49_10)],[(1000000,[.sl (w1000000_11.map rS_impl_Fn), .sl (w1000000_12.map rS_impl_Pat)])])) (fun q=>match q with | .inl (v4_13,w1000000_14,w1000000_15)=>(.r,[(4,Bo v4_13)],[(1000000,[.sl (w1000000_14.map rS_impl_Fn), .sl (w1000000_15.map rS_impl_Pat)])]) | .inr (v49_16,v50_17,w1000000_18,w1000000_19)=>(.e 0,[(49,I64 v49_16),(50,Bo v50_17)],[(1000000,[.sl (w1000000_18.map rS_impl_Fn), .sl (w1000000_19.map rS_impl_Pat)])])) rfl (fun st _ h=> ?_) (fun q h=> ?_)
 obtain⟨v49_10,w1000000_11,w1000000_12⟩:=st
 unfold p_impl_fnOk_b1 at h
 refine cRs<|xLt rfl<|oNl<|cSq<|cIf h rfl (fun q20 h=> ?_) (fun q20 h=> ?_)
 refine cSk<|cSq<|cBk<|cRs<|xIx h rS_impl_Ins_eq rfl (fun e51_21 h=> ?_)
 refine xLd rfl<|xAc rfl<|xSt rfl<|oRs<|xMv rfl<|xMv rfl<|xLd rfl<|xC1 h (big_impl_insOk ·) rfl (fun c56_22 h=> ?_)
 refine xNot rfl<|oNl<|cIf h rfl (fun q23 h=> ?_) (fun q23 h=> ?_)
 exact cRs<|xAs rfl<|oNl<|cRt<|eXr h rfl
 exact cSk<|cRg<|xAdd rfl<|xMv rfl<|oNl<|eL h rfl
 exact cEx<|eX h rfl
 rcases q with⟨v4_13,w1000000_14,w1000000_15⟩ | ⟨v49_16,v50_17,w1000000_18,w1000000_19⟩
 cases h
 exact eR rfl rfl rfl rfl
 refine cRs<|xMv rfl<|xC0 h (big_impl_heightsOf ·) rfl (fun c61_24 h=> ?_)
 refine xMv rfl<|xEt rfl<|xEt rfl<|xAs rfl<|xAs rfl<|oRs<|xMv rfl<|xAs rfl<|oNl<|cRt ?_
 cases h
 exact eR rfl rfl rfl rfl
abbrev B_impl_CodeOk(p:(List S_impl_Fn)→(List S_impl_Pat)→Option (Bool)):Prop:= ∀ {t0_0:List S_impl_Fn} {t0_1:List S_impl_Pat} {r:Bool},p t0_0 t0_1=some r→Big Try.prog τ An (.fn 44 [.one (.ag [.sl (t0_0.map rS_impl_Fn), .sl (t0_1.map rS_impl_Pat)])] [] (.one (.c (.bool r))) none [] none)
def p_impl_CodeOk_b1(n:Nat)(t0_0:List S_impl_Fn):(Int×(List S_impl_Fn)×(List S_impl_Pat))→Option ((Int×(List S_impl_Fn)×(List S_impl_Pat))⊕((Bool)⊕(Int×Bool×(List S_impl_Fn)×(List S_impl_Pat))))
  | (v17_4,w1_5,w1_6)=>bif decide (v17_4<(t0_0.length:Int))then((ix w1_5 v17_4).bind fun e23_16=>(p_impl_fnAt n e23_16.f0 w1_5 w1_6).bind fun c26_17=>bif !decide (c26_17.1=v17_4)then some (true,c26_17.2.1,c26_17.2.2)else(ix c26_17.2.1 v17_4).bind fun e33_19=>(p_impl_fnOk n e33_19.f0 e33_19.f1 e33_19.f2 e33_19.f3 c26_17.2.1 c26_17.2.2).bind fun c34_20=>some ((!c34_20.1),c34_20.2.1,c34_20.2.2)).bind fun(v36_13,w1_14,w1_15)=>bif v36_13 then some (.inr (.inl false))else some (.inl ((IntKind.wrap .i64 (v17_4+(1:Int))),w1_14,w1_15))else some (.inr (.inr (v17_4,false,w1_5,w1_6)))
def p_impl_CodeOk(n:Nat)(t0_0:List S_impl_Fn)(t0_1:List S_impl_Pat):Option (Bool):=
  (bif decide ((12:Int)<(t0_0.length:Int))then some true else some (decide ((2000:Int)<(t0_1.length:Int)))).bind fun v13_1=>bif v13_1 then some false else(loopN (p_impl_CodeOk_b1 n t0_0) n ((0:Int),t0_0,t0_1)).bind fun q=>(match q with | .inl v2_7=>some v2_7 | .inr (v17_8,v18_9,w1_10,w1_11)=>some true)
theorem big_impl_CodeOk{n:Nat}:B_impl_CodeOk (p_impl_CodeOk n):=by
 intro t0_0 t0_1 r h
 unfold p_impl_CodeOk at h
 refine bF Try.func44 rfl rfl<|cRs<|xBx rfl<|xAs rfl<|oNl<|cSq<|cRs<|oJn h [(4,13)] [] (fun v13_1=>(.n,[(13,Bo v13_1)],[])) (fun _ h=> ?_) (fun v13_1 h=> ?_)
 refine xFd rfl<|xLd rfl<|xLn rfl<|xGt rfl<|xMv rfl<|oIf 8 h rfl (fun q2 h=> ?_) (fun q2 h=> ?_)
 exact wSk rfl<|wSk rfl<|wSk rfl<|wSk rfl<|xPk rfl<|oNl<|eJ h rfl
 exact xFd rfl<|xLd rfl<|xLn rfl<|xGt rfl<|xPk rfl<|oNl<|eJ h rfl
 refine cIf h rfl (fun q3 h=> ?_) (fun q3 h=> ?_)
 refine cRs<|xAs rfl<|oNl<|cRt ?_
 cases h
 exact eR rfl rfl rfl rfl
 refine cSk<|cSq<|cRs<|xFd rfl<|xLd rfl<|xLn rfl<|xMv rfl<|oNl<|cLp h [(2,3),(17,37)] [(1,1)] (fun(v17_4,w1_5,w1_6)=>([(17,I64 v17_4)],[(1,[.sl (w1_5.map rS_impl_Fn), .sl (w1_6.map rS_impl_Pat)])])) (fun q=>match q with | .inl v2_7=>(.r,[(2,Bo v2_7)],[]) | .inr (v17_8,v18_9,w1_10,w1_11)=>(.e 0,[(17,I64 v17_8),(18,Bo v18_9)],[(1,[.sl (w1_10.map rS_impl_Fn), .sl (w1_11.map rS_impl_Pat)])])) rfl (fun st _ h=> ?_) (fun q h=> ?_)
 obtain⟨v17_4,w1_5,w1_6⟩:=st
 unfold p_impl_CodeOk_b1 at h
 refine cRs<|xLt rfl<|oNl<|cSq<|cIf h rfl (fun q12 h=> ?_) (fun q12 h=> ?_)
 refine cSk<|cSq<|cBk<|cRs<|xMv rfl<|xAs rfl<|oRs<|oJn h [(20,36)] [(1,1)] (fun(v36_13,w1_14,w1_15)=>(.n,[(36,Bo v36_13)],[(1,[.sl (w1_14.map rS_impl_Fn), .sl (w1_15.map rS_impl_Pat)])])) (fun _ h=> ?_) (fun q h=> ?_)
 refine xFd rfl<|xLd rfl<|xMv rfl<|xIx h rS_impl_Fn_eq rfl (fun e23_16 h=> ?_)
 refine xFd rfl<|xLd rfl<|xC1 h (big_impl_fnAt ·) rfl (fun c26_17 h=> ?_)
 refine xMv rfl<|xNe rfl<|xMv rfl<|oIf 29 h rfl (fun q18 h=> ?_) (fun q18 h=> ?_)
 exact wSk rfl<|wSk rfl<|wSk rfl<|wSk rfl<|wSk rfl<|wSk rfl<|xPk rfl<|oNl<|eJ h rfl
 refine xFd rfl<|xLd rfl<|xMv rfl<|xIx h rS_impl_Fn_eq rfl (fun e33_19 h=> ?_)
 refine xC1 h (big_impl_fnOk ·) rfl (fun c34_20 h=> ?_)
 exact xNot rfl<|xPk rfl<|oNl<|eJ h rfl
 obtain⟨v36_13,w1_14,w1_15⟩:=q
 refine cIf h rfl (fun q21 h=> ?_) (fun q21 h=> ?_)
 exact cRs<|xAs rfl<|oNl<|cRt<|eXr h rfl
 exact cSk<|cRg<|xAdd rfl<|xMv rfl<|oNl<|eL h rfl
 exact cEx<|eX h rfl
 rcases q with v2_7 | ⟨v17_8,v18_9,w1_10,w1_11⟩
 cases h
 exact eR rfl rfl rfl rfl
 refine cRs<|xAs rfl<|oNl<|cRt ?_
 cases h
 exact eR rfl rfl rfl rfl
abbrev B_impl_patsFit(p:(List S_impl_Fn)→(List S_impl_Pat)→Option (Bool)):Prop:= ∀ {t0_0:List S_impl_Fn} {t0_1:List S_impl_Pat} {r:Bool},p t0_0 t0_1=some r→Big Try.prog τ An (.fn 109 [.one (.ag [.sl (t0_0.map rS_impl_Fn), .sl (t0_1.map rS_impl_Pat)])] [] (.one (.c (.bool r))) none [] none)
def p_impl_patsFit_b1(n:Nat)(t0_1:List S_impl_Pat):(Int)→Option ((Int)⊕((Bool)⊕(Int×Bool)))
  | v8_1=>bif decide (v8_1<(t0_1.length:Int))then(ix t0_1 v8_1).bind fun e10_6=>(p_impl_PatFits n e10_6.f0 e10_6.f1 e10_6.f2 e10_6.f3 (400:Int)).bind fun c13_7=>bif !c13_7 then some (.inr (.inl false))else some (.inl (IntKind.wrap .i64 (v8_1+(1:Int))))else some (.inr (.inr (v8_1,false)))
def p_impl_patsFit(n:Nat)(t0_0:List S_impl_Fn)(t0_1:List S_impl_Pat):Option (Bool):=
  (loopN (p_impl_patsFit_b1 n t0_1) n (0:Int)).bind fun q=>(match q with | .inl v2_2=>some v2_2 | .inr (v8_3,v9_4)=>some true)
theorem big_impl_patsFit{n:Nat}:B_impl_patsFit (p_impl_patsFit n):=by
 intro t0_0 t0_1 r h
 unfold p_impl_patsFit at h
 refine bF Try.func109 rfl rfl<|cRs<|xBx rfl<|xAs rfl<|oNl<|cSq<|cRs<|xFd rfl<|xLd rfl<|xLn rfl<|xMv rfl<|oNl<|cLp h [(2,2),(4,4),(8,15)] [(4,4)] (fun v8_1=>([(8,I64 v8_1)],[])) (fun q=>match q with | .inl v2_2=>(.r,[(2,Bo v2_2)],[]) | .inr (v8_3,v9_4)=>(.e 0,[(8,I64 v8_3),(9,Bo v9_4)],[])) rfl (fun v8_1 _ h=> ?_) (fun q h=> ?_)
 unfold p_impl_patsFit_b1 at h
 refine cRs<|xLt rfl<|oNl<|cSq<|cIf h rfl (fun q5 h=> ?_) (fun q5 h=> ?_)
 refine cSk<|cSq<|cBk<|cRs<|xIx h rS_impl_Pat_eq rfl (fun e10_6 h=> ?_)
 refine xLd rfl<|xAz [.int .i64 0, .int .i64 0, .str [], .sl ([].map rS_impl_Pat)] rfl<|xSt rfl<|oRs<|xLd rfl<|xC0 h (big_impl_PatFits ·) rfl (fun c13_7 h=> ?_)
 refine xNot rfl<|oNl<|cIf h rfl (fun q8 h=> ?_) (fun q8 h=> ?_)
 exact cRs<|xAs rfl<|oNl<|cRt<|eXr h rfl
 exact cSk<|cRg<|xAdd rfl<|xMv rfl<|oNl<|eL h rfl
 exact cEx<|eX h rfl
 rcases q with v2_2 | ⟨v8_3,v9_4⟩
 cases h
 exact eR rfl rfl rfl rfl
 refine cRs<|xAs rfl<|oNl<|cRt ?_
 cases h
 exact eR rfl rfl rfl rfl
abbrev B_impl_putNum(p:(List Int)→Int→Option ((List Int))):Prop:= ∀ {t0_0:List Int} {t1_0:Int} {r:(List Int)},p t0_0 t1_0=some r→Big Try.prog τ An (.fn 110 [.one (.c (.sl (t0_0.map rI_u8))), .one (.c (.int .i64 t1_0))] [] (.one (.c (.sl (r.map rI_u8)))) none [] none)
def p_impl_putNum_b1(n:Nat):((List Int)×Int)→Option (((List Int)×Int)⊕(((List Int)×Int×Bool)))
  | (v0_2,v5_3)=>bif decide ((127:Int)<v5_3)then(app2 1 v0_2 ([(IntKind.wrap .u8 (bits .or .i64 (128:Int) (bits .and .i64 v5_3 (127:Int))))]:List Int)).bind fun v24_8=>some (.inl (v24_8,(Int.fdiv v5_3 (2 ^ 7))))else some (.inr (v0_2,v5_3,false))
def p_impl_putNum_b2(n:Nat):((List Int)×Int)→Option (((List Int)×Int)⊕(((List Int)×Int×Bool)))
  | (v0_10,v5_11)=>bif decide ((127:Int)<v5_11)then(app2 1 v0_10 ([(IntKind.wrap .u8 (bits .or .i64 (128:Int) (bits .and .i64 v5_11 (127:Int))))]:List Int)).bind fun v24_16=>some (.inl (v24_16,(Int.fdiv v5_11 (2 ^ 7))))else some (.inr (v0_10,v5_11,false))
def p_impl_putNum(n:Nat)(t0_0:List Int)(t1_0:Int):Option ((List Int)):=
  bif decide ((if(if(1000000000000:Int)<t1_0 then(1000000000000:Int)else t1_0) > ((-1000000000000):Int)then(if(1000000000000:Int)<t1_0 then(1000000000000:Int)else t1_0)else((-1000000000000):Int))<(0:Int))then(loopN (p_impl_putNum_b1 n) n (t0_0,(IntKind.wrap .i64 ((IntKind.wrap .i64 (((-2):Int)*(if(if(1000000000000:Int)<t1_0 then(1000000000000:Int)else t1_0) > ((-1000000000000):Int)then(if(1000000000000:Int)<t1_0 then(1000000000000:Int)else t1_0)else((-1000000000000):Int)))) - (1:Int))))).bind fun(v0_4,v5_5,v17_6)=>(app2 1 v0_4 ([(IntKind.wrap .u8 v5_5)]:List Int)).bind fun v31_9=>some v31_9 else(loopN (p_impl_putNum_b2 n) n (t0_0,(IntKind.wrap .i64 ((2:Int)*(if(if(1000000000000:Int)<t1_0 then(1000000000000:Int)else t1_0) > ((-1000000000000):Int)then(if(1000000000000:Int)<t1_0 then(1000000000000:Int)else t1_0)else((-1000000000000):Int)))))).bind fun(v0_12,v5_13,v17_14)=>(app2 1 v0_12 ([(IntKind.wrap .u8 v5_13)]:List Int)).bind fun v31_17=>some v31_17
theorem big_impl_putNum{n:Nat}:B_impl_putNum (p_impl_putNum n):=by
 intro t0_0 t1_0 r h
 unfold p_impl_putNum at h
 refine bF Try.func110 rfl rfl<|cRs<|wAe (Li rI_u8 []) rfl rfl rfl rfl<|oRs<|xMv rfl<|wMn rfl rfl rfl rfl<|wMx rfl rfl rfl rfl<|xAs rfl<|oRs<|xMv rfl<|xMul rfl<|xAs rfl<|oNl<|cSq ?_
 refine cRs<|xMv rfl<|xLt rfl<|oNl<|cIf h rfl (fun q1 h=> ?_) (fun q1 h=> ?_)
 refine cRg<|xMv rfl<|xMul rfl<|xSub rfl<|xAs rfl<|oNl<|cSq<|cLp h [(0,0),(5,5),(16,26)] [] (fun(v0_2,v5_3)=>([(0,Li rI_u8 v0_2),(5,I64 v5_3)],[])) (fun(v0_4,v5_5,v17_6)=>(.e 0,[(0,Li rI_u8 v0_4),(5,I64 v5_5),(17,Bo v17_6)],[])) rfl (fun st _ h=> ?_) (fun q h=> ?_)
 obtain⟨v0_2,v5_3⟩:=st
 unfold p_impl_putNum_b1 at h
 refine cSq<|cRs<|xMv rfl<|xGt rfl<|oNl<|cIf h rfl (fun q7 h=> ?_) (fun q7 h=> ?_)
 refine cSk<|cBk<|cRs<|xMv rfl<|xMv rfl<|wBi (.int .i64 (bits .and .i64 v5_3 (127:Int))) rfl rfl rfl rfl rfl<|wBi (.int .i64 (bits .or .i64 (128:Int) (bits .and .i64 v5_3 (127:Int)))) rfl rfl rfl rfl rfl<|wCv rfl rfl rfl rfl rfl<|wLt' (L:=([(IntKind.wrap .u8 (bits .or .i64 (128:Int) (bits .and .i64 v5_3 (127:Int))))]:List Int)) (f:=rI_u8) rfl rfl rfl rfl rfl rfl rfl<|wAp (f:=rI_u8) h rfl rfl rfl rfl rfl rfl rfl rfl rfl (fun _=>rfl) rfl (fun v24_8 h=> ?_)
 exact xAs rfl<|oNl<|cRg<|xMv rfl<|wBi (.int .i64 (Int.fdiv v5_3 (2 ^ 7))) rfl rfl rfl rfl rfl<|xAs rfl<|oNl<|eL h rfl
 exact cEx<|eX h rfl
 obtain⟨v0_4,v5_5,v17_6⟩:=q
 refine cRs<|xMv rfl<|xMv rfl<|wCv rfl rfl rfl rfl rfl<|wLt' (L:=([(IntKind.wrap .u8 v5_5)]:List Int)) (f:=rI_u8) rfl rfl rfl rfl rfl rfl rfl<|wAp (f:=rI_u8) h rfl rfl rfl rfl rfl rfl rfl rfl rfl (fun _=>rfl) rfl (fun v31_9 h=> ?_)
 refine xAs rfl<|oNl<|cRt ?_
 cases h
 exact eR rfl rfl rfl rfl
 refine cSk<|cSq<|cLp h [(0,0),(5,5),(16,26)] [] (fun(v0_10,v5_11)=>([(0,Li rI_u8 v0_10),(5,I64 v5_11)],[])) (fun(v0_12,v5_13,v17_14)=>(.e 0,[(0,Li rI_u8 v0_12),(5,I64 v5_13),(17,Bo v17_14)],[])) rfl (fun st _ h=> ?_) (fun q h=> ?_)
 obtain⟨v0_10,v5_11⟩:=st
 unfold p_impl_putNum_b2 at h
 refine cSq<|cRs<|xMv rfl<|xGt rfl<|oNl<|cIf h rfl (fun q15 h=> ?_) (fun q15 h=> ?_)
 refine cSk<|cBk<|cRs<|xMv rfl<|xMv rfl<|wBi (.int .i64 (bits .and .i64 v5_11 (127:Int))) rfl rfl rfl rfl rfl<|wBi (.int .i64 (bits .or .i64 (128:Int) (bits .and .i64 v5_11 (127:Int)))) rfl rfl rfl rfl rfl<|wCv rfl rfl rfl rfl rfl<|wLt' (L:=([(IntKind.wrap .u8 (bits .or .i64 (128:Int) (bits .and .i64 v5_11 (127:Int))))]:List Int)) (f:=rI_u8) rfl rfl rfl rfl rfl rfl rfl<|wAp (f:=rI_u8) h rfl rfl rfl rfl rfl rfl rfl rfl rfl (fun _=>rfl) rfl (fun v24_16 h=> ?_)
 exact xAs rfl<|oNl<|cRg<|xMv rfl<|wBi (.int .i64 (Int.fdiv v5_11 (2 ^ 7))) rfl rfl rfl rfl rfl<|xAs rfl<|oNl<|eL h rfl
 exact cEx<|eX h rfl
 obtain⟨v0_12,v5_13,v17_14⟩:=q
 refine cRs<|xMv rfl<|xMv rfl<|wCv rfl rfl rfl rfl rfl<|wLt' (L:=([(IntKind.wrap .u8 v5_13)]:List Int)) (f:=rI_u8) rfl rfl rfl rfl rfl rfl rfl<|wAp (f:=rI_u8) h rfl rfl rfl rfl rfl rfl rfl rfl rfl (fun _=>rfl) rfl (fun v31_17 h=> ?_)
 refine xAs rfl<|oNl<|cRt ?_
 cases h
 exact eR rfl rfl rfl rfl
abbrev B_impl_putText(p:(List Int)→(List UInt8)→Option ((List Int))):Prop:= ∀ {t0_0:List Int} {t1_0:List UInt8} {r:(List Int)},p t0_0 t1_0=some r→Big Try.prog τ An (.fn 111 [.one (.c (.sl (t0_0.map rI_u8))), .one (.c (.str t1_0))] [] (.one (.c (.sl (r.map rI_u8)))) none [] none)
def p_impl_putText(n:Nat)(t0_0:List Int)(t1_0:List UInt8):Option ((List Int)):=
  (p_impl_putNum n t0_0 (t1_0.length:Int)).bind fun c8_1=>(app2 1 c8_1 (t1_0.map fun c=>((c.toNat:Nat):Int))).bind fun v10_2=>some v10_2
theorem big_impl_putText{n:Nat}:B_impl_putText (p_impl_putText n):=by
 intro t0_0 t1_0 r h
 unfold p_impl_putText at h
 refine bF Try.func111 rfl rfl<|cRs<|wAe (Li rI_u8 []) rfl rfl rfl rfl<|oRs<|xMv rfl<|xMv rfl<|xLs rfl<|xC0 h (big_impl_putNum ·) rfl (fun c8_1 h=> ?_)
 refine xMv rfl<|wAps (f:=rI_u8) h rfl rfl rfl rfl rfl (fun _=>rfl) rfl (fun _=>rfl) rfl (fun v10_2 h=> ?_)
 refine xAs rfl<|oNl<|cRt ?_
 cases h
 exact eR rfl rfl rfl rfl
abbrev Y_impl_putPat:Type:=(List Int)→Int→Int→(List UInt8)→(List S_impl_Pat)→Option ((List Int))
abbrev B_impl_putPat(p:Y_impl_putPat):Prop:= ∀ {t0_0:List Int} {t1_0 t1_1:Int} {t1_2:List UInt8} {t1_3:List S_impl_Pat} {r:(List Int)},p t0_0 t1_0 t1_1 t1_2 t1_3=some r→Big Try.prog τ An (.fn 112 [.one (.c (.sl (t0_0.map rI_u8))), .one (.ag [.int .i64 t1_0, .int .i64 t1_1, .str t1_2, .sl (t1_3.map rS_impl_Pat)])] [] (.one (.c (.sl (r.map rI_u8)))) none [] none)
def p_impl_putPat_b1(n:Nat)(r_impl_putPat:Y_impl_putPat)(t1_3:List S_impl_Pat):((List Int)×Int)→Option (((List Int)×Int)⊕(((List Int)×Int×Bool)))
  | (v0_5,v24_6)=>bif decide (v24_6<(t1_3.length:Int))then(ix t1_3 v24_6).bind fun e26_11=>(r_impl_putPat v0_5 e26_11.f0 e26_11.f1 e26_11.f2 e26_11.f3).bind fun c30_12=>some (.inl (c30_12,(IntKind.wrap .i64 (v24_6+(1:Int)))))else some (.inr (v0_5,v24_6,false))
def s_impl_putPat(n:Nat)(r_impl_putPat:Y_impl_putPat)(t0_0:List Int)(t1_0:Int)(t1_1:Int)(t1_2:List UInt8)(t1_3:List S_impl_Pat):Option ((List Int)):=
  (p_impl_putNum n t0_0 t1_0).bind fun c10_1=>(p_impl_putNum n c10_1 t1_1).bind fun c13_2=>(p_impl_putText n c13_2 t1_2).bind fun c16_3=>(p_impl_putNum n c16_3 (t1_3.length:Int)).bind fun c20_4=>(loopN (p_impl_putPat_b1 n r_impl_putPat t1_3) n (c20_4,(0:Int))).bind fun(v0_7,v24_8,v25_9)=>some v0_7
theorem step_impl_putPat{n:Nat}{r_impl_putPat:Y_impl_putPat}(ih_impl_putPat:B_impl_putPat r_impl_putPat):B_impl_putPat (s_impl_putPat n r_impl_putPat):=by
 intro t0_0 t1_0 t1_1 t1_2 t1_3 r h
 unfold s_impl_putPat at h
 refine bF Try.func112 rfl rfl<|cRs<|xBx rfl<|wAe (Li rI_u8 []) rfl rfl rfl rfl<|oRs<|xMv rfl<|xFd rfl<|xLd rfl<|xC0 h (big_impl_putNum ·) rfl (fun c10_1 h=> ?_)
 refine xFd rfl<|xLd rfl<|xC0 h (big_impl_putNum ·) rfl (fun c13_2 h=> ?_)
 refine xFd rfl<|xLd rfl<|xC0 h (big_impl_putText ·) rfl (fun c16_3 h=> ?_)
 refine xFd rfl<|xLd rfl<|xLn rfl<|xC0 h (big_impl_putNum ·) rfl (fun c20_4 h=> ?_)
 refine xAs rfl<|oNl<|cSq<|cRs<|xFd rfl<|xLd rfl<|xLn rfl<|xMv rfl<|oNl<|cLp h [(0,0),(6,6),(24,31)] [(6,6)] (fun(v0_5,v24_6)=>([(0,Li rI_u8 v0_5),(24,I64 v24_6)],[])) (fun(v0_7,v24_8,v25_9)=>(.e 0,[(0,Li rI_u8 v0_7),(24,I64 v24_8),(25,Bo v25_9)],[])) rfl (fun st _ h=> ?_) (fun q h=> ?_)
 obtain⟨v0_5,v24_6⟩:=st
 unfold p_impl_putPat_b1 at h
 refine cRs<|xLt rfl<|oNl<|cSq<|cIf h rfl (fun q10 h=> ?_) (fun q10 h=> ?_)
 refine cSk<|cSq<|cBk<|cRs<|xIx h rS_impl_Pat_eq rfl (fun e26_11 h=> ?_)
 refine xLd rfl<|xAz [.int .i64 0, .int .i64 0, .str [], .sl ([].map rS_impl_Pat)] rfl<|xSt rfl<|oNl<|cRg<|xMv rfl<|xLd rfl<|xC0 h (ih_impl_putPat ·) rfl (fun c30_12 h=> ?_)
 exact xAs rfl<|oNl<|cRg<|xAdd rfl<|xMv rfl<|oNl<|eL h rfl
 exact cEx<|eX h rfl
 obtain⟨v0_7,v24_8,v25_9⟩:=q
 refine cRs<|xMv rfl<|xAs rfl<|oNl<|cRt ?_
 cases h
 exact eR rfl rfl rfl rfl
def q_impl_putPat:Nat→(Y_impl_putPat)
  | 0=>(fun _ _ _ _ _=>none)
  | n+1=>s_impl_putPat n (q_impl_putPat n)
def p_impl_putPat(n:Nat):Y_impl_putPat:=q_impl_putPat n
theorem bigs_impl_putPat(n:Nat):B_impl_putPat (p_impl_putPat n):=by
  induction n with
  | zero=>exact(fun h=>nomatch h)
  | succ n ih=>exact step_impl_putPat (n:=n) ih
theorem big_impl_putPat{n:Nat}:B_impl_putPat (p_impl_putPat n):=(bigs_impl_putPat n)
theorem p_impl_putPat_succ(n:Nat):p_impl_putPat (n+1)=s_impl_putPat n (p_impl_putPat n):=rfl
abbrev B_impl_PutCode(p:(List S_impl_Fn)→(List S_impl_Pat)→Option ((List Int))):Prop:= ∀ {t0_0:List S_impl_Fn} {t0_1:List S_impl_Pat} {r:(List Int)},p t0_0 t0_1=some r→Big Try.prog τ An (.fn 34 [.one (.ag [.sl (t0_0.map rS_impl_Fn), .sl (t0_1.map rS_impl_Pat)])] [] (.one (.c (.sl (r.map rI_u8)))) none [] none)
def p_impl_PutCode_b2(n:Nat)(e27_13:S_impl_Fn):((List Int)×Int)→Option (((List Int)×Int)⊕(((List Int)×Int×Bool)))
  | (v3_18,v46_19)=>bif decide (v46_19<(e27_13.f3.length:Int))then(ix e27_13.f3 v46_19).bind fun e48_24=>(p_impl_putNum n v3_18 e48_24.f0).bind fun c53_25=>(p_impl_putNum n c53_25 e48_24.f1).bind fun c56_26=>(p_impl_putText n c56_26 e48_24.f2).bind fun c59_27=>(p_impl_putNum n c59_27 e48_24.f3).bind fun c62_28=>some (.inl (c62_28,(IntKind.wrap .i64 (v46_19+(1:Int)))))else some (.inr (v3_18,v46_19,false))
def p_impl_PutCode_b1(n:Nat)(t0_0:List S_impl_Fn):((List Int)×Int)→Option (((List Int)×Int)⊕(((List Int)×Int×Bool)))
  | (v3_7,v25_8)=>bif decide (v25_8<(t0_0.length:Int))then(ix t0_0 v25_8).bind fun e27_13=>(p_impl_putText n v3_7 e27_13.f0).bind fun c32_14=>(p_impl_putNum n c32_14 e27_13.f1).bind fun c35_15=>(p_impl_putNum n c35_15 e27_13.f2).bind fun c38_16=>(p_impl_putNum n c38_16 (e27_13.f3.length:Int)).bind fun c42_17=>(loopN (p_impl_PutCode_b2 n e27_13) n (c42_17,(0:Int))).bind fun(v3_20,v46_21,v47_22)=>some (.inl (v3_20,(IntKind.wrap .i64 (v25_8+(1:Int)))))else some (.inr (v3_7,v25_8,false))
def p_impl_PutCode_b3(n:Nat)(t0_1:List S_impl_Pat):((List Int)×Int)→Option (((List Int)×Int)⊕(((List Int)×Int×Bool)))
  | (v3_30,v73_31)=>bif decide (v73_31<(t0_1.length:Int))then(ix t0_1 v73_31).bind fun e75_36=>(p_impl_putPat n v3_30 e75_36.f0 e75_36.f1 e75_36.f2 e75_36.f3).bind fun c79_37=>some (.inl (c79_37,(IntKind.wrap .i64 (v73_31+(1:Int)))))else some (.inr (v3_30,v73_31,false))
def p_impl_PutCode(n:Nat)(t0_0:List S_impl_Fn)(t0_1:List S_impl_Pat):Option ((List Int)):=
  ((p_impl_CodeOk n t0_0 t0_1).bind fun c11_2=>bif !c11_2 then some true else(p_impl_patsFit n t0_0 t0_1).bind fun c15_4=>some (!c15_4)).bind fun v17_1=>bif v17_1 then some ([]:List Int)else(p_impl_putNum n ([]:List Int) (t0_0.length:Int)).bind fun c21_6=>(loopN (p_impl_PutCode_b1 n t0_0) n (c21_6,(0:Int))).bind fun(v3_9,v25_10,v26_11)=>(p_impl_putNum n v3_9 (t0_1.length:Int)).bind fun c69_29=>(loopN (p_impl_PutCode_b3 n t0_1) n (c69_29,(0:Int))).bind fun(v3_32,v73_33,v74_34)=>some v3_32
theorem big_impl_PutCode{n:Nat}:B_impl_PutCode (p_impl_PutCode n):=by
 intro t0_0 t0_1 r h
 unfold p_impl_PutCode at h
 refine bF Try.func34 rfl rfl<|cRs<|xBx rfl<|wAe (Li rI_u8 []) rfl rfl rfl rfl<|oNl<|cSq<|cRs<|oJn h [(10,17)] [] (fun v17_1=>(.n,[(17,Bo v17_1)],[])) (fun _ h=> ?_) (fun v17_1 h=> ?_)
 refine xLd rfl<|xC0 h (big_impl_CodeOk ·) rfl (fun c11_2 h=> ?_)
 refine xNot rfl<|xMv rfl<|oIf 13 h rfl (fun q3 h=> ?_) (fun q3 h=> ?_)
 exact wSk rfl<|wSk rfl<|wSk rfl<|xPk rfl<|oNl<|eJ h rfl
 refine xLd rfl<|xC0 h (big_impl_patsFit ·) rfl (fun c15_4 h=> ?_)
 exact xNot rfl<|xPk rfl<|oNl<|eJ h rfl
 refine cIf h rfl (fun q5 h=> ?_) (fun q5 h=> ?_)
 refine cRs<|wAe (Li rI_u8 []) rfl rfl rfl rfl<|oNl<|cRt ?_
 cases h
 exact eR rfl rfl rfl rfl
 refine cSk<|cRs<|xFd rfl<|xLd rfl<|xLn rfl<|xC0 h (big_impl_putNum ·) rfl (fun c21_6 h=> ?_)
 refine xAs rfl<|oNl<|cSq<|cRs<|xFd rfl<|xLd rfl<|xLn rfl<|xMv rfl<|oNl<|cLp h [(3,3),(5,5),(7,7),(25,64)] [(5,5),(7,7)] (fun(v3_7,v25_8)=>([(3,Li rI_u8 v3_7),(25,I64 v25_8)],[])) (fun(v3_9,v25_10,v26_11)=>(.e 0,[(3,Li rI_u8 v3_9),(25,I64 v25_10),(26,Bo v26_11)],[])) rfl (fun st _ h=> ?_) (fun q h=> ?_)
 obtain⟨v3_7,v25_8⟩:=st
 unfold p_impl_PutCode_b1 at h
 refine cRs<|xLt rfl<|oNl<|cSq<|cIf h rfl (fun q12 h=> ?_) (fun q12 h=> ?_)
 refine cSk<|cSq<|cBk<|cRs<|xIx h rS_impl_Fn_eq rfl (fun e27_13 h=> ?_)
 refine xLd rfl<|xAz [.str [], .int .i64 0, .int .i64 0, .sl ([].map rS_impl_Ins)] rfl<|xSt rfl<|oRs<|xMv rfl<|xFd rfl<|xLd rfl<|xC0 h (big_impl_putText ·) rfl (fun c32_14 h=> ?_)
 refine xFd rfl<|xLd rfl<|xC0 h (big_impl_putNum ·) rfl (fun c35_15 h=> ?_)
 refine xFd rfl<|xLd rfl<|xC0 h (big_impl_putNum ·) rfl (fun c38_16 h=> ?_)
 refine xFd rfl<|xLd rfl<|xLn rfl<|xC0 h (big_impl_putNum ·) rfl (fun c42_17 h=> ?_)
 refine xAs rfl<|oRs<|xFd rfl<|xLd rfl<|xLn rfl<|xMv rfl<|oNl<|cLp h [(3,3),(7,7),(46,63)] [(7,7)] (fun(v3_18,v46_19)=>([(3,Li rI_u8 v3_18),(46,I64 v46_19)],[])) (fun(v3_20,v46_21,v47_22)=>(.e 2,[(3,Li rI_u8 v3_20),(46,I64 v46_21),(47,Bo v47_22)],[])) rfl (fun st _ h=> ?_) (fun q h=> ?_)
 obtain⟨v3_18,v46_19⟩:=st
 unfold p_impl_PutCode_b2 at h
 refine cRs<|xLt rfl<|oNl<|cSq<|cIf h rfl (fun q23 h=> ?_) (fun q23 h=> ?_)
 refine cSk<|cSq<|cBk<|cRs<|xIx h rS_impl_Ins_eq rfl (fun e48_24 h=> ?_)
 refine xLd rfl<|xAc rfl<|xSt rfl<|oNl<|cRg<|xMv rfl<|xFd rfl<|xLd rfl<|xC0 h (big_impl_putNum ·) rfl (fun c53_25 h=> ?_)
 refine xFd rfl<|xLd rfl<|xC0 h (big_impl_putNum ·) rfl (fun c56_26 h=> ?_)
 refine xFd rfl<|xLd rfl<|xC0 h (big_impl_putText ·) rfl (fun c59_27 h=> ?_)
 refine xFd rfl<|xLd rfl<|xC0 h (big_impl_putNum ·) rfl (fun c62_28 h=> ?_)
 exact xAs rfl<|oNl<|cRg<|xAdd rfl<|xMv rfl<|oNl<|eL h rfl
 exact cEx<|eX h rfl
 obtain⟨v3_20,v46_21,v47_22⟩:=q
 exact cRg<|xAdd rfl<|xMv rfl<|oNl<|eL h rfl
 exact cEx<|eX h rfl
 obtain⟨v3_9,v25_10,v26_11⟩:=q
 refine cRs<|xMv rfl<|xFd rfl<|xLd rfl<|xLn rfl<|xC0 h (big_impl_putNum ·) rfl (fun c69_29 h=> ?_)
 refine xAs rfl<|oNl<|cSq<|cRs<|xFd rfl<|xLd rfl<|xLn rfl<|xMv rfl<|oNl<|cLp h [(3,3),(9,9),(73,80)] [(9,9)] (fun(v3_30,v73_31)=>([(3,Li rI_u8 v3_30),(73,I64 v73_31)],[])) (fun(v3_32,v73_33,v74_34)=>(.e 4,[(3,Li rI_u8 v3_32),(73,I64 v73_33),(74,Bo v74_34)],[])) rfl (fun st _ h=> ?_) (fun q h=> ?_)
 obtain⟨v3_30,v73_31⟩:=st
 unfold p_impl_PutCode_b3 at h
 refine cRs<|xLt rfl<|oNl<|cSq<|cIf h rfl (fun q35 h=> ?_) (fun q35 h=> ?_)
 refine cSk<|cSq<|cBk<|cRs<|xIx h rS_impl_Pat_eq rfl (fun e75_36 h=> ?_)
 refine xLd rfl<|xAz [.int .i64 0, .int .i64 0, .str [], .sl ([].map rS_impl_Pat)] rfl<|xSt rfl<|oNl<|cRg<|xMv rfl<|xLd rfl<|xC0 h (big_impl_putPat ·) rfl (fun c79_37 h=> ?_)
 exact xAs rfl<|oNl<|cRg<|xAdd rfl<|xMv rfl<|oNl<|eL h rfl
 exact cEx<|eX h rfl
 obtain⟨v3_32,v73_33,v74_34⟩:=q
 refine cRs<|xMv rfl<|xAs rfl<|oNl<|cRt ?_
 cases h
 exact eR rfl rfl rfl rfl
abbrev B_laws_eqByteS(p:(List Int)→(List Int)→Option (Bool)):Prop:= ∀ {t0_0 t1_0:List Int} {r:Bool},p t0_0 t1_0=some r→Big Try.prog τ An (.fn 35 [.one (.c (.sl (t0_0.map rI_u8))), .one (.c (.sl (t1_0.map rI_u8)))] [] (.one (.c (.bool r))) none [] none)
def p_laws_eqByteS_b1(n:Nat)(t0_0:List Int)(t1_0:List Int):(Int)→Option ((Int)⊕((Bool)⊕(Int×Bool)))
  | v5_2=>bif decide (v5_2<(t0_0.length:Int))then(ix t0_0 v5_2).bind fun e19_7=>(ix t1_0 v5_2).bind fun e23_8=>bif !decide (e19_7=e23_8)then some (.inr (.inl false))else some (.inl (IntKind.wrap .i64 (v5_2+(1:Int))))else some (.inr (.inr (v5_2,false)))
def p_laws_eqByteS(n:Nat)(t0_0:List Int)(t1_0:List Int):Option (Bool):=
  bif !decide ((t0_0.length:Int)=(t1_0.length:Int))then some false else(loopN (p_laws_eqByteS_b1 n t0_0 t1_0) n (0:Int)).bind fun q=>(match q with | .inl v4_3=>some v4_3 | .inr (v5_4,v14_5)=>some true)
theorem big_laws_eqByteS{n:Nat}:B_laws_eqByteS (p_laws_eqByteS n):=by
 intro t0_0 t1_0 r h
 unfold p_laws_eqByteS at h
 refine bF Try.func35 rfl rfl<|cRs<|xAs rfl<|oNl<|cSq<|cRs<|xMv rfl<|xLn rfl<|xMv rfl<|xLn rfl<|xNe rfl<|oNl<|cIf h rfl (fun q1 h=> ?_) (fun q1 h=> ?_)
 refine cRs<|xAs rfl<|oNl<|cRt ?_
 cases h
 exact eR rfl rfl rfl rfl
 refine cSk<|cSq<|cRs<|xAs rfl<|oNl<|cLp h [(4,5),(11,25)] [] (fun v5_2=>([(5,I64 v5_2)],[])) (fun q=>match q with | .inl v4_3=>(.r,[(4,Bo v4_3)],[]) | .inr (v5_4,v14_5)=>(.e 0,[(5,I64 v5_4),(14,Bo v14_5)],[])) rfl (fun v5_2 _ h=> ?_) (fun q h=> ?_)
 unfold p_laws_eqByteS_b1 at h
 refine cSq<|cRs<|xMv rfl<|xMv rfl<|xLn rfl<|xLt rfl<|oNl<|cIf h rfl (fun q6 h=> ?_) (fun q6 h=> ?_)
 refine cSk<|cSq<|cBk<|cRs<|xMv rfl<|xMv rfl<|xIx h rI_u8_eq rfl (fun e19_7 h=> ?_)
 refine xLd rfl<|xMv rfl<|xMv rfl<|xIx h rI_u8_eq rfl (fun e23_8 h=> ?_)
 refine xLd rfl<|xNe rfl<|oNl<|cIf h rfl (fun q9 h=> ?_) (fun q9 h=> ?_)
 exact cRs<|xAs rfl<|oNl<|cRt<|eXr h rfl
 exact cSk<|cRg<|xMv rfl<|xAdd rfl<|xAs rfl<|oNl<|eL h rfl
 exact cEx<|eX h rfl
 rcases q with v4_3 | ⟨v5_4,v14_5⟩
 cases h
 exact eR rfl rfl rfl rfl
 refine cRs<|xAs rfl<|oNl<|cRt ?_
 cases h
 exact eR rfl rfl rfl rfl
abbrev B_laws_eqIns(p:Int→Int→(List UInt8)→Int→Int→Int→(List UInt8)→Int→Option (Bool)):Prop:= ∀ {t0_0 t0_1:Int} {t0_2:List UInt8} {t0_3 t1_0 t1_1:Int} {t1_2:List UInt8} {t1_3:Int} {r:Bool},p t0_0 t0_1 t0_2 t0_3 t1_0 t1_1 t1_2 t1_3=some r→Big Try.prog τ An (.fn 293 [.one (.ag [.int .i64 t0_0, .int .i64 t0_1, .str t0_2, .int .i64 t0_3]), .one (.ag [.int .i64 t1_0, .int .i64 t1_1, .str t1_2, .int .i64 t1_3])] [] (.one (.c (.bool r))) none [] none)
def p_laws_eqIns(n:Nat)(t0_0:Int)(t0_1:Int)(t0_2:List UInt8)(t0_3:Int)(t1_0:Int)(t1_1:Int)(t1_2:List UInt8)(t1_3:Int):Option (Bool):=
  bif !decide (t0_0=t1_0)then some false else bif !decide (t0_1=t1_1)then some false else bif !decide (t0_2=t1_2)then some false else bif !decide (t0_3=t1_3)then some false else some true
theorem big_laws_eqIns{n:Nat}:B_laws_eqIns (p_laws_eqIns n):=by
 intro t0_0 t0_1 t0_2 t0_3 t1_0 t1_1 t1_2 t1_3 r h
 unfold p_laws_eqIns at h
 refine bF Try.func293 rfl rfl<|cRs<|xBx rfl<|xBx rfl<|xAs rfl<|oNl<|cSq<|cRs<|xFd rfl<|xLd rfl<|xFd rfl<|xLd rfl<|xNe rfl<|oNl<|cIf h rfl (fun q1 h=> ?_) (fun q1 h=> ?_)
 refine cRs<|xAs rfl<|oNl<|cRt ?_
 cases h
 exact eR rfl rfl rfl rfl
 refine cSk<|cSq<|cRs<|xFd rfl<|xLd rfl<|xFd rfl<|xLd rfl<|xNe rfl<|oNl<|cIf h rfl (fun q2 h=> ?_) (fun q2 h=> ?_)
 refine cRs<|xAs rfl<|oNl<|cRt ?_
 cases h
 exact eR rfl rfl rfl rfl
 refine cSk<|cSq<|cRs<|xFd rfl<|xLd rfl<|xFd rfl<|xLd rfl<|xNs rfl<|oNl<|cIf h rfl (fun q3 h=> ?_) (fun q3 h=> ?_)
 refine cRs<|xAs rfl<|oNl<|cRt ?_
 cases h
 exact eR rfl rfl rfl rfl
 refine cSk<|cSq<|cRs<|xFd rfl<|xLd rfl<|xFd rfl<|xLd rfl<|xNe rfl<|oNl<|cIf h rfl (fun q4 h=> ?_) (fun q4 h=> ?_)
 refine cRs<|xAs rfl<|oNl<|cRt ?_
 cases h
 exact eR rfl rfl rfl rfl
 refine cSk<|cRs<|xAs rfl<|oNl<|cRt ?_
 cases h
 exact eR rfl rfl rfl rfl
abbrev B_laws_eqInsS(p:(List S_impl_Ins)→(List S_impl_Ins)→Option (Bool)):Prop:= ∀ {t0_0 t1_0:List S_impl_Ins} {r:Bool},p t0_0 t1_0=some r→Big Try.prog τ An (.fn 263 [.one (.c (.sl (t0_0.map rS_impl_Ins))), .one (.c (.sl (t1_0.map rS_impl_Ins)))] [] (.one (.c (.bool r))) none [] none)
def p_laws_eqInsS_b1(n:Nat)(t0_0:List S_impl_Ins)(t1_0:List S_impl_Ins):(Int)→Option ((Int)⊕((Bool)⊕(Int×Bool)))
  | v5_2=>bif decide (v5_2<(t0_0.length:Int))then(ix t0_0 v5_2).bind fun e19_7=>(ix t1_0 v5_2).bind fun e23_8=>(p_laws_eqIns n e19_7.f0 e19_7.f1 e19_7.f2 e19_7.f3 e23_8.f0 e23_8.f1 e23_8.f2 e23_8.f3).bind fun c25_9=>bif !c25_9 then some (.inr (.inl false))else some (.inl (IntKind.wrap .i64 (v5_2+(1:Int))))else some (.inr (.inr (v5_2,false)))
def p_laws_eqInsS(n:Nat)(t0_0:List S_impl_Ins)(t1_0:List S_impl_Ins):Option (Bool):=
  bif !decide ((t0_0.length:Int)=(t1_0.length:Int))then some false else(loopN (p_laws_eqInsS_b1 n t0_0 t1_0) n (0:Int)).bind fun q=>(match q with | .inl v4_3=>some v4_3 | .inr (v5_4,v14_5)=>some true)
theorem big_laws_eqInsS{n:Nat}:B_laws_eqInsS (p_laws_eqInsS n):=by
 intro t0_0 t1_0 r h
 unfold p_laws_eqInsS at h
 refine bF Try.func263 rfl rfl<|cRs<|xAs rfl<|oNl<|cSq<|cRs<|xMv rfl<|xLn rfl<|xMv rfl<|xLn rfl<|xNe rfl<|oNl<|cIf h rfl (fun q1 h=> ?_) (fun q1 h=> ?_)
 refine cRs<|xAs rfl<|oNl<|cRt ?_
 cases h
 exact eR rfl rfl rfl rfl
 refine cSk<|cSq<|cRs<|xAs rfl<|oNl<|cLp h [(4,5),(11,26)] [] (fun v5_2=>([(5,I64 v5_2)],[])) (fun q=>match q with | .inl v4_3=>(.r,[(4,Bo v4_3)],[]) | .inr (v5_4,v14_5)=>(.e 0,[(5,I64 v5_4),(14,Bo v14_5)],[])) rfl (fun v5_2 _ h=> ?_) (fun q h=> ?_)
 unfold p_laws_eqInsS_b1 at h
 refine cSq<|cRs<|xMv rfl<|xMv rfl<|xLn rfl<|xLt rfl<|oNl<|cIf h rfl (fun q6 h=> ?_) (fun q6 h=> ?_)
 refine cSk<|cSq<|cBk<|cRs<|xMv rfl<|xMv rfl<|xIx h rS_impl_Ins_eq rfl (fun e19_7 h=> ?_)
 refine xLd rfl<|xMv rfl<|xMv rfl<|xIx h rS_impl_Ins_eq rfl (fun e23_8 h=> ?_)
 refine xLd rfl<|xC0 h (big_laws_eqIns ·) rfl (fun c25_9 h=> ?_)
 refine xNot rfl<|oNl<|cIf h rfl (fun q10 h=> ?_) (fun q10 h=> ?_)
 exact cRs<|xAs rfl<|oNl<|cRt<|eXr h rfl
 exact cSk<|cRg<|xMv rfl<|xAdd rfl<|xAs rfl<|oNl<|eL h rfl
 exact cEx<|eX h rfl
 rcases q with v4_3 | ⟨v5_4,v14_5⟩
 cases h
 exact eR rfl rfl rfl rfl
 refine cRs<|xAs rfl<|oNl<|cRt ?_
 cases h
 exact eR rfl rfl rfl rfl
abbrev B_laws_eqFn(p:(List UInt8)→Int→Int→(List S_impl_Ins)→(List UInt8)→Int→Int→(List S_impl_Ins)→Option (Bool)):Prop:= ∀ {t0_0:List UInt8} {t0_1 t0_2:Int} {t0_3:List S_impl_Ins} {t1_0:List UInt8} {t1_1 t1_2:Int} {t1_3:List S_impl_Ins} {r:Bool},p t0_0 t0_1 t0_2 t0_3 t1_0 t1_1 t1_2 t1_3=some r→Big Try.prog τ An (.fn 197 [.one (.ag [.str t0_0, .int .i64 t0_1, .int .i64 t0_2, .sl (t0_3.map rS_impl_Ins)]), .one (.ag [.str t1_0, .int .i64 t1_1, .int .i64 t1_2, .sl (t1_3.map rS_impl_Ins)])] [] (.one (.c (.bool r))) none [] none)
def p_laws_eqFn(n:Nat)(t0_0:List UInt8)(t0_1:Int)(t0_2:Int)(t0_3:List S_impl_Ins)(t1_0:List UInt8)(t1_1:Int)(t1_2:Int)(t1_3:List S_impl_Ins):Option (Bool):=
  bif !decide (t0_0=t1_0)then some false else bif !decide (t0_1=t1_1)then some false else bif !decide (t0_2=t1_2)then some false else(p_laws_eqInsS n t0_3 t1_3).bind fun c24_4=>bif !c24_4 then some false else some true
theorem big_laws_eqFn{n:Nat}:B_laws_eqFn (p_laws_eqFn n):=by
 intro t0_0 t0_1 t0_2 t0_3 t1_0 t1_1 t1_2 t1_3 r h
 unfold p_laws_eqFn at h
 refine bF Try.func197 rfl rfl<|cRs<|xBx rfl<|xBx rfl<|xAs rfl<|oNl<|cSq<|cRs<|xFd rfl<|xLd rfl<|xFd rfl<|xLd rfl<|xNs rfl<|oNl<|cIf h rfl (fun q1 h=> ?_) (fun q1 h=> ?_)
 refine cRs<|xAs rfl<|oNl<|cRt ?_
 cases h
 exact eR rfl rfl rfl rfl
 refine cSk<|cSq<|cRs<|xFd rfl<|xLd rfl<|xFd rfl<|xLd rfl<|xNe rfl<|oNl<|cIf h rfl (fun q2 h=> ?_) (fun q2 h=> ?_)
 refine cRs<|xAs rfl<|oNl<|cRt ?_
 cases h
 exact eR rfl rfl rfl rfl
 refine cSk<|cSq<|cRs<|xFd rfl<|xLd rfl<|xFd rfl<|xLd rfl<|xNe rfl<|oNl<|cIf h rfl (fun q3 h=> ?_) (fun q3 h=> ?_)
 refine cRs<|xAs rfl<|oNl<|cRt ?_
 cases h
 exact eR rfl rfl rfl rfl
 refine cSk<|cSq<|cRs<|xFd rfl<|xLd rfl<|xFd rfl<|xLd rfl<|xC0 h (big_laws_eqInsS ·) rfl (fun c24_4 h=> ?_)
 refine xNot rfl<|oNl<|cIf h rfl (fun q5 h=> ?_) (fun q5 h=> ?_)
 refine cRs<|xAs rfl<|oNl<|cRt ?_
 cases h
 exact eR rfl rfl rfl rfl
 refine cSk<|cRs<|xAs rfl<|oNl<|cRt ?_
 cases h
 exact eR rfl rfl rfl rfl
abbrev B_laws_eqFnS(p:(List S_impl_Fn)→(List S_impl_Fn)→Option (Bool)):Prop:= ∀ {t0_0 t1_0:List S_impl_Fn} {r:Bool},p t0_0 t1_0=some r→Big Try.prog τ An (.fn 113 [.one (.c (.sl (t0_0.map rS_impl_Fn))), .one (.c (.sl (t1_0.map rS_impl_Fn)))] [] (.one (.c (.bool r))) none [] none)
def p_laws_eqFnS_b1(n:Nat)(t0_0:List S_impl_Fn)(t1_0:List S_impl_Fn):(Int)→Option ((Int)⊕((Bool)⊕(Int×Bool)))
  | v5_2=>bif decide (v5_2<(t0_0.length:Int))then(ix t0_0 v5_2).bind fun e19_7=>(ix t1_0 v5_2).bind fun e23_8=>(p_laws_eqFn n e19_7.f0 e19_7.f1 e19_7.f2 e19_7.f3 e23_8.f0 e23_8.f1 e23_8.f2 e23_8.f3).bind fun c25_9=>bif !c25_9 then some (.inr (.inl false))else some (.inl (IntKind.wrap .i64 (v5_2+(1:Int))))else some (.inr (.inr (v5_2,false)))
def p_laws_eqFnS(n:Nat)(t0_0:List S_impl_Fn)(t1_0:List S_impl_Fn):Option (Bool):=
  bif !decide ((t0_0.length:Int)=(t1_0.length:Int))then some false else(loopN (p_laws_eqFnS_b1 n t0_0 t1_0) n (0:Int)).bind fun q=>(match q with | .inl v4_3=>some v4_3 | .inr (v5_4,v14_5)=>some true)
theorem big_laws_eqFnS{n:Nat}:B_laws_eqFnS (p_laws_eqFnS n):=by
 intro t0_0 t1_0 r h
 unfold p_laws_eqFnS at h
 refine bF Try.func113 rfl rfl<|cRs<|xAs rfl<|oNl<|cSq<|cRs<|xMv rfl<|xLn rfl<|xMv rfl<|xLn rfl<|xNe rfl<|oNl<|cIf h rfl (fun q1 h=> ?_) (fun q1 h=> ?_)
 refine cRs<|xAs rfl<|oNl<|cRt ?_
 cases h
 exact eR rfl rfl rfl rfl
 refine cSk<|cSq<|cRs<|xAs rfl<|oNl<|cLp h [(4,5),(11,26)] [] (fun v5_2=>([(5,I64 v5_2)],[])) (fun q=>match q with | .inl v4_3=>(.r,[(4,Bo v4_3)],[]) | .inr (v5_4,v14_5)=>(.e 0,[(5,I64 v5_4),(14,Bo v14_5)],[])) rfl (fun v5_2 _ h=> ?_) (fun q h=> ?_)
 unfold p_laws_eqFnS_b1 at h
 refine cSq<|cRs<|xMv rfl<|xMv rfl<|xLn rfl<|xLt rfl<|oNl<|cIf h rfl (fun q6 h=> ?_) (fun q6 h=> ?_)
 refine cSk<|cSq<|cBk<|cRs<|xMv rfl<|xMv rfl<|xIx h rS_impl_Fn_eq rfl (fun e19_7 h=> ?_)
 refine xLd rfl<|xMv rfl<|xMv rfl<|xIx h rS_impl_Fn_eq rfl (fun e23_8 h=> ?_)
 refine xLd rfl<|xC0 h (big_laws_eqFn ·) rfl (fun c25_9 h=> ?_)
 refine xNot rfl<|oNl<|cIf h rfl (fun q10 h=> ?_) (fun q10 h=> ?_)
 exact cRs<|xAs rfl<|oNl<|cRt<|eXr h rfl
 exact cSk<|cRg<|xMv rfl<|xAdd rfl<|xAs rfl<|oNl<|eL h rfl
 exact cEx<|eX h rfl
 rcases q with v4_3 | ⟨v5_4,v14_5⟩
 cases h
 exact eR rfl rfl rfl rfl
 refine cRs<|xAs rfl<|oNl<|cRt ?_
 cases h
 exact eR rfl rfl rfl rfl
abbrev Y_laws_eqPat:Type:=Int→Int→(List UInt8)→(List S_impl_Pat)→Int→Int→(List UInt8)→(List S_impl_Pat)→Option (Bool)
abbrev B_laws_eqPat(p:Y_laws_eqPat):Prop:= ∀ {t0_0 t0_1:Int} {t0_2:List UInt8} {t0_3:List S_impl_Pat} {t1_0 t1_1:Int} {t1_2:List UInt8} {t1_3:List S_impl_Pat} {r:Bool},p t0_0 t0_1 t0_2 t0_3 t1_0 t1_1 t1_2 t1_3=some r→Big Try.prog τ An (.fn 198 [.one (.ag [.int .i64 t0_0, .int .i64 t0_1, .str t0_2, .sl (t0_3.map rS_impl_Pat)]), .one (.ag [.int .i64 t1_0, .int .i64 t1_1, .str t1_2, .sl (t1_3.map rS_impl_Pat)])] [] (.one (.c (.bool r))) none [] none)
abbrev Y_laws_eqPatS:Type:=(List S_impl_Pat)→(List S_impl_Pat)→Option (Bool)
abbrev B_laws_eqPatS(p:Y_laws_eqPatS):Prop:= ∀ {t0_0 t1_0:List S_impl_Pat} {r:Bool},p t0_0 t1_0=some r→Big Try.prog τ An (.fn 114 [.one (.c (.sl (t0_0.map rS_impl_Pat))), .one (.c (.sl (t1_0.map rS_impl_Pat)))] [] (.one (.c (.bool r))) none [] none)
def s_laws_eqPat(n:Nat)(r_laws_eqPatS:Y_laws_eqPatS)(r_laws_eqPat:Y_laws_eqPat)(t0_0:Int)(t0_1:Int)(t0_2:List UInt8)(t0_3:List S_impl_Pat)(t1_0:Int)(t1_1:Int)(t1_2:List UInt8)(t1_3:List S_impl_Pat):Option (Bool):=
  bif !decide (t0_0=t1_0)then some false else bif !decide (t0_1=t1_1)then some false else bif !decide (t0_2=t1_2)then some false else(r_laws_eqPatS t0_3 t1_3).bind fun c24_4=>bif !c24_4 then some false else some true
theorem step_laws_eqPat{n:Nat}{r_laws_eqPatS:Y_laws_eqPatS}(ih_laws_eqPatS:B_laws_eqPatS r_laws_eqPatS){r_laws_eqPat:Y_laws_eqPat}(ih_laws_eqPat:B_laws_eqPat r_laws_eqPat):B_laws_eqPat (s_laws_eqPat n r_laws_eqPatS r_laws_eqPat):=by
 intro t0_0 t0_1 t0_2 t0_3 t1_0 t1_1 t1_2 t1_3 r h
 unfold s_laws_eqPat at h
 refine bF Try.func198 rfl rfl<|cRs<|xBx rfl<|xBx rfl<|xAs rfl<|oNl<|cSq<|cRs<|xFd rfl<|xLd rfl<|xFd rfl<|xLd rfl<|xNe rfl<|oNl<|cIf h rfl (fun q1 h=> ?_) (fun q1 h=> ?_)
 refine cRs<|xAs rfl<|oNl<|cRt ?_
 cases h
 exact eR rfl rfl rfl rfl
 refine cSk<|cSq<|cRs<|xFd rfl<|xLd rfl<|xFd rfl<|xLd rfl<|xNe rfl<|oNl<|cIf h rfl (fun q2 h=> ?_) (fun q2 h=> ?_)
 refine cRs<|xAs rfl<|oNl<|cRt ?_
 cases h
 exact eR rfl rfl rfl rfl
 refine cSk<|cSq<|cRs<|xFd rfl<|xLd rfl<|xFd rfl<|xLd rfl<|xNs rfl<|oNl<|cIf h rfl (fun q3 h=> ?_) (fun q3 h=> ?_)
 refine cRs<|xAs rfl<|oNl<|cRt ?_
 cases h
 exact eR rfl rfl rfl rfl
 refine cSk<|cSq<|cRs<|xFd rfl<|xLd rfl<|xFd rfl<|xLd rfl<|xC0 h (ih_laws_eqPatS ·) rfl (fun c24_4 h=> ?_)
 refine xNot rfl<|oNl<|cIf h rfl (fun q5 h=> ?_) (fun q5 h=> ?_)
 refine cRs<|xAs rfl<|oNl<|cRt ?_
 cases h
 exact eR rfl rfl rfl rfl
 refine cSk<|cRs<|xAs rfl<|oNl<|cRt ?_
 cases h
 exact eR rfl rfl rfl rfl
def p_laws_eqPatS_b1(n:Nat)(r_laws_eqPat:Y_laws_eqPat)(t0_0:List S_impl_Pat)(t1_0:List S_impl_Pat):(Int)→Option ((Int)⊕((Bool)⊕(Int×Bool)))
  | v5_2=>bif decide (v5_2<(t0_0.length:Int))then(ix t0_0 v5_2).bind fun e19_7=>(ix t1_0 v5_2).bind fun e23_8=>(r_laws_eqPat e19_7.f0 e19_7.f1 e19_7.f2 e19_7.f3 e23_8.f0 e23_8.f1 e23_8.f2 e23_8.f3).bind fun c25_9=>bif !c25_9 then some (.inr (.inl false))else some (.inl (IntKind.wrap .i64 (v5_2+(1:Int))))else some (.inr (.inr (v5_2,false)))
def s_laws_eqPatS(n:Nat)(r_laws_eqPatS:Y_laws_eqPatS)(r_laws_eqPat:Y_laws_eqPat)(t0_0:List S_impl_Pat)(t1_0:List S_impl_Pat):Option (Bool):=
  bif !decide ((t0_0.length:Int)=(t1_0.length:Int))then some false else(loopN (p_laws_eqPatS_b1 n r_laws_eqPat t0_0 t1_0) n (0:Int)).bind fun q=>(match q with | .inl v4_3=>some v4_3 | .inr (v5_4,v14_5)=>some true)
theorem step_laws_eqPatS{n:Nat}{r_laws_eqPatS:Y_laws_eqPatS}(ih_laws_eqPatS:B_laws_eqPatS r_laws_eqPatS){r_laws_eqPat:Y_laws_eqPat}(ih_laws_eqPat:B_laws_eqPat r_laws_eqPat):B_laws_eqPatS (s_laws_eqPatS n r_laws_eqPatS r_laws_eqPat):=by
 intro t0_0 t1_0 r h
 unfold s_laws_eqPatS at h
 refine bF Try.func114 rfl rfl<|cRs<|xAs rfl<|oNl<|cSq<|cRs<|xMv rfl<|xLn rfl<|xMv rfl<|xLn rfl<|xNe rfl<|oNl<|cIf h rfl (fun q1 h=> ?_) (fun q1 h=> ?_)
 refine cRs<|xAs rfl<|oNl<|cRt ?_
 cases h
 exact eR rfl rfl rfl rfl
 refine cSk<|cSq<|cRs<|xAs rfl<|oNl<|cLp h [(4,5),(11,26)] [] (fun v5_2=>([(5,I64 v5_2)],[])) (fun q=>match q with | .inl v4_3=>(.r,[(4,Bo v4_3)],[]) | .inr (v5_4,v14_5)=>(.e 0,[(5,I64 v5_4),(14,Bo v14_5)],[])) rfl (fun v5_2 _ h=> ?_) (fun q h=> ?_)
 unfold p_laws_eqPatS_b1 at h
 refine cSq<|cRs<|xMv rfl<|xMv rfl<|xLn rfl<|xLt rfl<|oNl<|cIf h rfl (fun q6 h=> ?_) (fun q6 h=> ?_)
 refine cSk<|cSq<|cBk<|cRs<|xMv rfl<|xMv rfl<|xIx h rS_impl_Pat_eq rfl (fun e19_7 h=> ?_)
 refine xLd rfl<|xMv rfl<|xMv rfl<|xIx h rS_impl_Pat_eq rfl (fun e23_8 h=> ?_)
 refine xLd rfl<|xC0 h (ih_laws_eqPat ·) rfl (fun c25_9 h=> ?_)
 refine xNot rfl<|oNl<|cIf h rfl (fun q10 h=> ?_) (fun q10 h=> ?_)
 exact cRs<|xAs rfl<|oNl<|cRt<|eXr h rfl
 exact cSk<|cRg<|xMv rfl<|xAdd rfl<|xAs rfl<|oNl<|eL h rfl
 exact cEx<|eX h rfl
 rcases q with v4_3 | ⟨v5_4,v14_5⟩
 cases h
 exact eR rfl rfl rfl rfl
 refine cRs<|xAs rfl<|oNl<|cRt ?_
 cases h
 exact eR rfl rfl rfl rfl
def q_laws_eqPatS:Nat→(Y_laws_eqPatS)×(Y_laws_eqPat)
  | 0=>((fun _ _=>none),(fun _ _ _ _ _ _ _ _=>none))
  | n+1=>(s_laws_eqPatS n ((q_laws_eqPatS n).1) ((q_laws_eqPatS n).2),s_laws_eqPat n ((q_laws_eqPatS n).1) ((q_laws_eqPatS n).2))
def p_laws_eqPatS(n:Nat):Y_laws_eqPatS:=(q_laws_eqPatS n).1
def p_laws_eqPat(n:Nat):Y_laws_eqPat:=(q_laws_eqPatS n).2
theorem bigs_laws_eqPatS(n:Nat):B_laws_eqPatS (p_laws_eqPatS n)∧B_laws_eqPat (p_laws_eqPat n):=by
  induction n with
  | zero=>exact⟨(fun h=>nomatch h),(fun h=>nomatch h)⟩
  | succ n ih=>exact⟨step_laws_eqPatS (n:=n) (ih.1) (ih.2),step_laws_eqPat (n:=n) (ih.1) (ih.2)⟩
theorem big_laws_eqPatS{n:Nat}:B_laws_eqPatS (p_laws_eqPatS n):=(bigs_laws_eqPatS n).1
theorem big_laws_eqPat{n:Nat}:B_laws_eqPat (p_laws_eqPat n):=(bigs_laws_eqPatS n).2
theorem p_laws_eqPatS_succ(n:Nat):p_laws_eqPatS (n+1)=s_laws_eqPatS n (p_laws_eqPatS n) (p_laws_eqPat n):=rfl
theorem p_laws_eqPat_succ(n:Nat):p_laws_eqPat (n+1)=s_laws_eqPat n (p_laws_eqPatS n) (p_laws_eqPat n):=rfl
abbrev B_laws_eqCode(p:(List S_impl_Fn)→(List S_impl_Pat)→(List S_impl_Fn)→(List S_impl_Pat)→Option (Bool)):Prop:= ∀ {t0_0:List S_impl_Fn} {t0_1:List S_impl_Pat} {t1_0:List S_impl_Fn} {t1_1:List S_impl_Pat} {r:Bool},p t0_0 t0_1 t1_0 t1_1=some r→Big Try.prog τ An (.fn 36 [.one (.ag [.sl (t0_0.map rS_impl_Fn), .sl (t0_1.map rS_impl_Pat)]), .one (.ag [.sl (t1_0.map rS_impl_Fn), .sl (t1_1.map rS_impl_Pat)])] [] (.one (.c (.bool r))) none [] none)
def p_laws_eqCode(n:Nat)(t0_0:List S_impl_Fn)(t0_1:List S_impl_Pat)(t1_0:List S_impl_Fn)(t1_1:List S_impl_Pat):Option (Bool):=
  (p_laws_eqFnS n t0_0 t1_0).bind fun c9_1=>bif !c9_1 then some false else(p_laws_eqPatS n t0_1 t1_1).bind fun c15_3=>bif !c15_3 then some false else some true
theorem big_laws_eqCode{n:Nat}:B_laws_eqCode (p_laws_eqCode n):=by
 intro t0_0 t0_1 t1_0 t1_1 r h
 unfold p_laws_eqCode at h
 refine bF Try.func36 rfl rfl<|cRs<|xBx rfl<|xBx rfl<|xAs rfl<|oNl<|cSq<|cRs<|xFd rfl<|xLd rfl<|xFd rfl<|xLd rfl<|xC0 h (big_laws_eqFnS ·) rfl (fun c9_1 h=> ?_)
 refine xNot rfl<|oNl<|cIf h rfl (fun q2 h=> ?_) (fun q2 h=> ?_)
 refine cRs<|xAs rfl<|oNl<|cRt ?_
 cases h
 exact eR rfl rfl rfl rfl
 refine cSk<|cSq<|cRs<|xFd rfl<|xLd rfl<|xFd rfl<|xLd rfl<|xC0 h (big_laws_eqPatS ·) rfl (fun c15_3 h=> ?_)
 refine xNot rfl<|oNl<|cIf h rfl (fun q4 h=> ?_) (fun q4 h=> ?_)
 refine cRs<|xAs rfl<|oNl<|cRt ?_
 cases h
 exact eR rfl rfl rfl rfl
 refine cSk<|cRs<|xAs rfl<|oNl<|cRt ?_
 cases h
 exact eR rfl rfl rfl rfl
abbrev B_laws_markByteS(p:(List Int)→Int→Option (Int×(List Int))):Prop:= ∀ {t0_0:List Int} {t1_0:Int} {r:Int×(List Int)},p t0_0 t1_0=some r→Big Try.prog τ An (.fn 38 [.one (.c (.sl (t0_0.map rI_u8))), .one (.c (.int .i64 t1_0))] [] (.one (.c (.int .i64 r.1))) (some (.sl (r.2.map rI_u8))) [] none)
def p_laws_markByteS_b1(n:Nat):((List Int)×Int×Int)→Option (((List Int)×Int×Int)⊕(((List Int)×Int×Int×Bool)))
  | (v0_1,v1_2,v5_3)=>bif decide (v5_3<(v0_1.length:Int))then(ix v0_1 v5_3).bind fun e16_9=>(some (v0_1.set (Int.toNat v5_3) (IntKind.wrap .u8 v1_2))).bind fun u0_10=>some (.inl (u0_10,(IntKind.wrap .i64 (v1_2+(1:Int))),(IntKind.wrap .i64 (v5_3+(1:Int)))))else some (.inr (v0_1,v1_2,v5_3,false))
def p_laws_markByteS(n:Nat)(t0_0:List Int)(t1_0:Int):Option (Int×(List Int)):=
  (loopN (p_laws_markByteS_b1 n) n (t0_0,t1_0,(0:Int))).bind fun(v0_4,v1_5,v5_6,v9_7)=>some (v1_5,v0_4)
theorem big_laws_markByteS{n:Nat}:B_laws_markByteS (p_laws_markByteS n):=by
 intro t0_0 t1_0 r h
 unfold p_laws_markByteS at h
 refine bFi Try.func38 rfl rfl<|cRs<|xAs rfl<|oNl<|cSq<|cRs<|xAs rfl<|oNl<|cLp h [(0,1),(5,18)] [] (fun(v0_1,v1_2,v5_3)=>([(0,Li rI_u8 v0_1),(1,I64 v1_2),(5,I64 v5_3)],[])) (fun(v0_4,v1_5,v5_6,v9_7)=>(.e 0,[(0,Li rI_u8 v0_4),(1,I64 v1_5),(5,I64 v5_6),(9,Bo v9_7)],[])) rfl (fun st _ h=> ?_) (fun q h=> ?_)
 obtain⟨v0_1,v1_2,v5_3⟩:=st
 unfold p_laws_markByteS_b1 at h
 refine cSq<|cRs<|xMv rfl<|xMv rfl<|xLn rfl<|xLt rfl<|oNl<|cIf h rfl (fun q8 h=> ?_) (fun q8 h=> ?_)
 refine cSk<|cSq<|cBk<|cRs<|wAl rfl rfl rfl rfl<|xMv rfl<|xMv rfl<|wCv rfl rfl rfl rfl rfl<|wIp (f:=rI_u8) h rfl rfl rfl rfl rfl rfl (fun _=>rfl) rfl (fun e16_9 ke16_9 h=> ?_)
 refine wSpN (f:=rI_u8) (v':=(IntKind.wrap .u8 v1_2)) h ke16_9 rfl rfl rfl rfl rfl rfl rfl rfl rfl (fun u0_10 h=> ?_)
 exact oNl<|cRg<|xMv rfl<|xAdd rfl<|xAs rfl<|oNl<|cRg<|xMv rfl<|xAdd rfl<|xAs rfl<|oNl<|eL h rfl
 exact cEx<|eX h rfl
 obtain⟨v0_4,v1_5,v5_6,v9_7⟩:=q
 refine cRs<|xMv rfl<|xAs rfl<|oNl<|cRt ?_
 cases h
 exact eRi rfl rfl rfl rfl rfl
abbrev B_laws_heldByteS(p:(List Int)→Int→Option (Int)):Prop:= ∀ {t0_0:List Int} {t1_0:Int} {r:Int},p t0_0 t1_0=some r→Big Try.prog τ An (.fn 39 [.one (.c (.sl (t0_0.map rI_u8))), .one (.c (.int .i64 t1_0))] [] (.one (.c (.int .i64 r))) none [] none)
def p_laws_heldByteS_b1(n:Nat)(t0_0:List Int):(Int×Int)→Option ((Int×Int)⊕((Int)⊕(Int×Int×Bool)))
  | (v1_1,v5_2)=>bif decide (v5_2<(t0_0.length:Int))then(ix t0_0 v5_2).bind fun e14_8=>bif !decide (e14_8=(IntKind.wrap .u8 v1_1))then some (.inr (.inl ((-1):Int)))else some (.inl ((IntKind.wrap .i64 (v1_1+(1:Int))),(IntKind.wrap .i64 (v5_2+(1:Int)))))else some (.inr (.inr (v1_1,v5_2,false)))
def p_laws_heldByteS(n:Nat)(t0_0:List Int)(t1_0:Int):Option (Int):=
  (loopN (p_laws_heldByteS_b1 n t0_0) n (t1_0,(0:Int))).bind fun q=>(match q with | .inl v4_3=>some v4_3 | .inr (v1_4,v5_5,v9_6)=>some v1_4)
theorem big_laws_heldByteS{n:Nat}:B_laws_heldByteS (p_laws_heldByteS n):=by
 intro t0_0 t1_0 r h
 unfold p_laws_heldByteS at h
 refine bF Try.func39 rfl rfl<|cRs<|xAs rfl<|oNl<|cSq<|cRs<|xAs rfl<|oNl<|cLp h [(1,1),(4,20)] [] (fun(v1_1,v5_2)=>([(1,I64 v1_1),(5,I64 v5_2)],[])) (fun q=>match q with | .inl v4_3=>(.r,[(4,I64 v4_3)],[]) | .inr (v1_4,v5_5,v9_6)=>(.e 0,[(1,I64 v1_4),(5,I64 v5_5),(9,Bo v9_6)],[])) rfl (fun st _ h=> ?_) (fun q h=> ?_)
 obtain⟨v1_1,v5_2⟩:=st
 unfold p_laws_heldByteS_b1 at h
 refine cSq<|cRs<|xMv rfl<|xMv rfl<|xLn rfl<|xLt rfl<|oNl<|cIf h rfl (fun q7 h=> ?_) (fun q7 h=> ?_)
 refine cSk<|cSq<|cBk<|cSq<|cRs<|xMv rfl<|xMv rfl<|xIx h rI_u8_eq rfl (fun e14_8 h=> ?_)
 refine xLd rfl<|xMv rfl<|wCv rfl rfl rfl rfl rfl<|xNe rfl<|oNl<|cIf h rfl (fun q9 h=> ?_) (fun q9 h=> ?_)
 exact cRs<|xAs rfl<|oNl<|cRt<|eXr h rfl
 exact cSk<|cRg<|xMv rfl<|xAdd rfl<|xAs rfl<|oNl<|cRg<|xMv rfl<|xAdd rfl<|xAs rfl<|oNl<|eL h rfl
 exact cEx<|eX h rfl
 rcases q with v4_3 | ⟨v1_4,v5_5,v9_6⟩
 cases h
 exact eR rfl rfl rfl rfl
 refine cRs<|xMv rfl<|xAs rfl<|oNl<|cRt ?_
 cases h
 exact eR rfl rfl rfl rfl
abbrev B_laws_markText(p:Int→Option ((List UInt8))):Prop:= ∀ {t0_0:Int} {r:(List UInt8)},p t0_0=some r→Big Try.prog τ An (.fn 88 [.one (.c (.int .i64 t0_0))] [] (.one (.c (.str r))) none [] none)
def p_laws_markText_b1(n:Nat):(Int×(List UInt8))→Option ((Int×(List UInt8))⊕((Int×(List UInt8)×Bool)))
  | (v0_2,v3_3)=>bif decide ((0:Int)<v0_2)then(toStr ([(IntKind.wrap .u8 (IntKind.wrap .i64 ((48:Int)+(Int.tmod v0_2 (10:Int)))))]:List Int)).bind fun v13_8=>(ck (decide (v13_8.length+v3_3.length≤9223372036854775807))).bind fun _=>some (.inl ((IntKind.wrap .i64 (Int.tdiv v0_2 (10:Int))),(v13_8++v3_3)))else some (.inr (v0_2,v3_3,false))
def p_laws_markText(n:Nat)(t0_0:Int):Option ((List UInt8)):=
  bif decide (t0_0≤(0:Int))then some ([109,48]:List UInt8)else(loopN (p_laws_markText_b1 n) n (t0_0,([]:List UInt8))).bind fun(v0_4,v3_5,v7_6)=>(ck (decide (([109]:List UInt8).length+v3_5.length≤9223372036854775807))).bind fun _=>some (([109]:List UInt8)++v3_5)
theorem big_laws_markText{n:Nat}:B_laws_markText (p_laws_markText n):=by
 intro t0_0 r h
 unfold p_laws_markText at h
 refine bF Try.func88 rfl rfl<|cRs<|xAs rfl<|oNl<|cSq<|cRs<|xMv rfl<|xLe rfl<|oNl<|cIf h rfl (fun q1 h=> ?_) (fun q1 h=> ?_)
 refine cRs<|xAs rfl<|oNl<|cRt ?_
 cases h
 exact eR rfl rfl rfl rfl
 refine cSk<|cRs<|xAs rfl<|oNl<|cSq<|cLp h [(0,0),(3,3),(6,17)] [] (fun(v0_2,v3_3)=>([(0,I64 v0_2),(3,St' v3_3)],[])) (fun(v0_4,v3_5,v7_6)=>(.e 0,[(0,I64 v0_4),(3,St' v3_5),(7,Bo v7_6)],[])) rfl (fun st _ h=> ?_) (fun q h=> ?_)
 obtain⟨v0_2,v3_3⟩:=st
 unfold p_laws_markText_b1 at h
 refine cSq<|cRs<|xMv rfl<|xGt rfl<|oNl<|cIf h rfl (fun q7 h=> ?_) (fun q7 h=> ?_)
 refine cSk<|cBk<|cRs<|xMv rfl<|wBi (.int .i64 (Int.tmod v0_2 (10:Int))) rfl rfl rfl rfl rfl<|xAdd rfl<|wCv rfl rfl rfl rfl rfl<|wLt' (L:=([(IntKind.wrap .u8 (IntKind.wrap .i64 ((48:Int)+(Int.tmod v0_2 (10:Int)))))]:List Int)) (f:=rI_u8) rfl rfl rfl rfl rfl rfl rfl<|wTs h rfl rfl ⟨rfl,rfl⟩ rfl rI_u8_eq rfl (fun v13_8 h=> ?_)
 refine xMv rfl<|oCk h (fun k15_8 h=> ?_)
 exact wCat k15_8 rfl rfl rfl rfl<|xAs rfl<|oNl<|cRg<|xMv rfl<|wBi (.int .i64 (IntKind.wrap .i64 (Int.tdiv v0_2 (10:Int)))) rfl rfl rfl rfl rfl<|xAs rfl<|oNl<|eL h rfl
 exact cEx<|eX h rfl
 obtain⟨v0_4,v3_5,v7_6⟩:=q
 refine cRs<|xMv rfl<|oCk h (fun k19_9 h=> ?_)
 refine wCat k19_9 rfl rfl rfl rfl<|xAs rfl<|oNl<|cRt ?_
 cases h
 exact eR rfl rfl rfl rfl
abbrev B_laws_markInsS(p:(List S_impl_Ins)→Int→Option (Int×(List S_impl_Ins))):Prop:= ∀ {t0_0:List S_impl_Ins} {t1_0:Int} {r:Int×(List S_impl_Ins)},p t0_0 t1_0=some r→Big Try.prog τ An (.fn 199 [.one (.c (.sl (t0_0.map rS_impl_Ins))), .one (.c (.int .i64 t1_0))] [] (.one (.c (.int .i64 r.1))) (some (.sl (r.2.map rS_impl_Ins))) [] none)
def p_laws_markInsS_b1(n:Nat):((List S_impl_Ins)×Int×Int)→Option (((List S_impl_Ins)×Int×Int)⊕(((List S_impl_Ins)×Int×Int×Bool)))
  | (v0_1,v1_2,v5_3)=>bif decide (v5_3<(v0_1.length:Int))then(ix v0_1 v5_3).bind fun e15_9=>(some (v0_1.set (Int.toNat v5_3) (S_impl_Ins.mk v1_2 e15_9.f1 e15_9.f2 e15_9.f3))).bind fun u0_10=>(ix u0_10 v5_3).bind fun e22_11=>(some (u0_10.set (Int.toNat v5_3) (S_impl_Ins.mk e22_11.f0 (IntKind.wrap .i64 (v1_2+(1:Int))) e22_11.f2 e22_11.f3))).bind fun u0_12=>(p_laws_markText n (IntKind.wrap .i64 ((IntKind.wrap .i64 (v1_2+(1:Int)))+(1:Int)))).bind fun c29_13=>(ix u0_12 v5_3).bind fun e30_14=>(some (u0_12.set (Int.toNat v5_3) (S_impl_Ins.mk e30_14.f0 e30_14.f1 c29_13 e30_14.f3))).bind fun u0_15=>(ix u0_15 v5_3).bind fun e37_16=>(some (u0_15.set (Int.toNat v5_3) (S_impl_Ins.mk e37_16.f0 e37_16.f1 e37_16.f2 (IntKind.wrap .i64 ((IntKind.wrap .i64 ((IntKind.wrap .i64 (v1_2+(1:Int)))+(1:Int)))+(1:Int)))))).bind fun u0_17=>some (.inl (u0_17,(IntKind.wrap .i64 ((IntKind.wrap .i64 ((IntKind.wrap .i64 ((IntKind.wrap .i64 (v1_2+(1:Int)))+(1:Int)))+(1:Int)))+(1:Int))),(IntKind.wrap .i64 (v5_3+(1:Int)))))else some (.inr (v0_1,v1_2,v5_3,false))
def p_laws_markInsS(n:Nat)(t0_0:List S_impl_Ins)(t1_0:Int):Option (Int×(List S_impl_Ins)):=
  (loopN (p_laws_markInsS_b1 n) n (t0_0,t1_0,(0:Int))).bind fun(v0_4,v1_5,v5_6,v9_7)=>some (v1_5,v0_4)
theorem big_laws_markInsS{n:Nat}:B_laws_markInsS (p_laws_markInsS n):=by
 intro t0_0 t1_0 r h
 unfold p_laws_markInsS at h
 refine bFi Try.func199 rfl rfl<|cRs<|xAs rfl<|oNl<|cSq<|cRs<|xAs rfl<|oNl<|cLp h [(0,1),(5,40)] [] (fun(v0_1,v1_2,v5_3)=>([(0,Li rS_impl_Ins v0_1),(1,I64 v1_2),(5,I64 v5_3)],[])) (fun(v0_4,v1_5,v5_6,v9_7)=>(.e 0,[(0,Li rS_impl_Ins v0_4),(1,I64 v1_5),(5,I64 v5_6),(9,Bo v9_7)],[])) rfl (fun st _ h=> ?_) (fun q h=> ?_)
 obtain⟨v0_1,v1_2,v5_3⟩:=st
 unfold p_laws_markInsS_b1 at h
 refine cSq<|cRs<|xMv rfl<|xMv rfl<|xLn rfl<|xLt rfl<|oNl<|cIf h rfl (fun q8 h=> ?_) (fun q8 h=> ?_)
 refine cSk<|cSq<|cBk<|cRs<|wAl rfl rfl rfl rfl<|xMv rfl<|xMv rfl<|wIp (f:=rS_impl_Ins) h rfl rfl rfl rfl rfl rfl (fun _=>rfl) rfl (fun e15_9 ke15_9 h=> ?_)
 refine xFd rfl<|wSpN (f:=rS_impl_Ins) (v':=S_impl_Ins.mk v1_2 e15_9.f1 e15_9.f2 e15_9.f3) h ke15_9 rfl rfl rfl rfl rfl rfl rfl rfl rfl (fun u0_10 h=> ?_)
 refine oRs<|xMv rfl<|xAdd rfl<|xAs rfl<|oRs<|wAl rfl rfl rfl rfl<|xMv rfl<|xMv rfl<|wIp (f:=rS_impl_Ins) h rfl rfl rfl rfl rfl rfl (fun _=>rfl) rfl (fun e22_11 ke22_11 h=> ?_)
 refine xFd rfl<|wSpN (f:=rS_impl_Ins) (v':=S_impl_Ins.mk e22_11.f0 (IntKind.wrap .i64 (v1_2+(1:Int))) e22_11.f2 e22_11.f3) h ke22_11 rfl rfl rfl rfl rfl rfl rfl rfl rfl (fun u0_12 h=> ?_)
 refine oRs<|xMv rfl<|xAdd rfl<|xAs rfl<|oRs<|wAl rfl rfl rfl rfl<|xMv rfl<|xMv rfl<|xC0 h (big_laws_markText ·) rfl (fun c29_13 h=> ?_)
 refine wIp (f:=rS_impl_Ins) h rfl rfl rfl rfl rfl rfl (fun _=>rfl) rfl (fun e30_14 ke30_14 h=> ?_)
 refine xFd rfl<|wSpN (f:=rS_impl_Ins) (v':=S_impl_Ins.mk e30_14.f0 e30_14.f1 c29_13 e30_14.f3) h ke30_14 rfl rfl rfl rfl rfl rfl rfl rfl rfl (fun u0_15 h=> ?_)
 refine oRs<|xMv rfl<|xAdd rfl<|xAs rfl<|oRs<|wAl rfl rfl rfl rfl<|xMv rfl<|xMv rfl<|wIp (f:=rS_impl_Ins) h rfl rfl rfl rfl rfl rfl (fun _=>rfl) rfl (fun e37_16 ke37_16 h=> ?_)
 refine xFd rfl<|wSpN (f:=rS_impl_Ins) (v':=S_impl_Ins.mk e37_16.f0 e37_16.f1 e37_16.f2 (IntKind.wrap .i64 ((IntKind.wrap .i64 ((IntKind.wrap .i64 (v1_2+(1:Int)))+(1:Int)))+(1:Int)))) h ke37_16 rfl rfl rfl rfl rfl rfl rfl rfl rfl (fun u0_17 h=> ?_)
 exact oNl<|cRg<|xMv rfl<|xAdd rfl<|xAs rfl<|oNl<|cRg<|xMv rfl<|xAdd rfl<|xAs rfl<|oNl<|eL h rfl
 exact cEx<|eX h rfl
 obtain⟨v0_4,v1_5,v5_6,v9_7⟩:=q
 refine cRs<|xMv rfl<|xAs rfl<|oNl<|cRt ?_
 cases h
 exact eRi rfl rfl rfl rfl rfl
abbrev B_laws_markFnS(p:(List S_impl_Fn)→Int→Option (Int×(List S_impl_Fn))):Prop:= ∀ {t0_0:List S_impl_Fn} {t1_0:Int} {r:Int×(List S_impl_Fn)},p t0_0 t1_0=some r→Big Try.prog τ An (.fn 115 [.one (.c (.sl (t0_0.map rS_impl_Fn))), .one (.c (.int .i64 t1_0))] [] (.one (.c (.int .i64 r.1))) (some (.sl (r.2.map rS_impl_Fn))) [] none)
def p_laws_markFnS_b1(n:Nat):((List S_impl_Fn)×Int×Int)→Option (((List S_impl_Fn)×Int×Int)⊕(((List S_impl_Fn)×Int×Int×Bool)))
  | (v0_1,v1_2,v5_3)=>bif decide (v5_3<(v0_1.length:Int))then(p_laws_markText n v1_2).bind fun c15_9=>(ix v0_1 v5_3).bind fun e16_10=>(some (v0_1.set (Int.toNat v5_3) (S_impl_Fn.mk c15_9 e16_10.f1 e16_10.f2 e16_10.f3))).bind fun u0_11=>(ix u0_11 v5_3).bind fun e23_12=>(some (u0_11.set (Int.toNat v5_3) (S_impl_Fn.mk e23_12.f0 (IntKind.wrap .i64 (v1_2+(1:Int))) e23_12.f2 e23_12.f3))).bind fun u0_13=>(ix u0_13 v5_3).bind fun e30_14=>(some (u0_13.set (Int.toNat v5_3) (S_impl_Fn.mk e30_14.f0 e30_14.f1 (IntKind.wrap .i64 ((IntKind.wrap .i64 (v1_2+(1:Int)))+(1:Int))) e30_14.f3))).bind fun u0_15=>(ix u0_15 v5_3).bind fun e36_16=>(p_laws_markInsS n e36_16.f3 (IntKind.wrap .i64 ((IntKind.wrap .i64 ((IntKind.wrap .i64 (v1_2+(1:Int)))+(1:Int)))+(1:Int)))).bind fun c40_17=>(some (u0_15.set (Int.toNat v5_3) (S_impl_Fn.mk e36_16.f0 e36_16.f1 e36_16.f2 c40_17.2))).bind fun u0_18=>some (.inl (u0_18,c40_17.1,(IntKind.wrap .i64 (v5_3+(1:Int)))))else some (.inr (v0_1,v1_2,v5_3,false))
def p_laws_markFnS(n:Nat)(t0_0:List S_impl_Fn)(t1_0:Int):Option (Int×(List S_impl_Fn)):=
  (loopN (p_laws_markFnS_b1 n) n (t0_0,t1_0,(0:Int))).bind fun(v0_4,v1_5,v5_6,v9_7)=>some (v1_5,v0_4)
theorem big_laws_markFnS{n:Nat}:B_laws_markFnS (p_laws_markFnS n):=by
 intro t0_0 t1_0 r h
 unfold p_laws_markFnS at h
 refine bFi Try.func115 rfl rfl<|cRs<|xAs rfl<|oNl<|cSq<|cRs<|xAs rfl<|oNl<|cLp h [(0,1),(5,40)] [] (fun(v0_1,v1_2,v5_3)=>([(0,Li rS_impl_Fn v0_1),(1,I64 v1_2),(5,I64 v5_3)],[])) (fun(v0_4,v1_5,v5_6,v9_7)=>(.e 0,[(0,Li rS_impl_Fn v0_4),(1,I64 v1_5),(5,I64 v5_6),(9,Bo v9_7)],[])) rfl (fun st _ h=> ?_) (fun q h=> ?_)
 obtain⟨v0_1,v1_2,v5_3⟩:=st
 unfold p_laws_markFnS_b1 at h
 refine cSq<|cRs<|xMv rfl<|xMv rfl<|xLn rfl<|xLt rfl<|oNl<|cIf h rfl (fun q8 h=> ?_) (fun q8 h=> ?_)
 refine cSk<|cSq<|cBk<|cRs<|wAl rfl rfl rfl rfl<|xMv rfl<|xMv rfl<|xC0 h (big_laws_markText ·) rfl (fun c15_9 h=> ?_)
 refine wIp (f:=rS_impl_Fn) h rfl rfl rfl rfl rfl rfl (fun _=>rfl) rfl (fun e16_10 ke16_10 h=> ?_)
 refine xFd rfl<|wSpN (f:=rS_impl_Fn) (v':=S_impl_Fn.mk c15_9 e16_10.f1 e16_10.f2 e16_10.f3) h ke16_10 rfl rfl rfl rfl rfl rfl rfl rfl rfl (fun u0_11 h=> ?_)
 refine oRs<|xMv rfl<|xAdd rfl<|xAs rfl<|oRs<|wAl rfl rfl rfl rfl<|xMv rfl<|xMv rfl<|wIp (f:=rS_impl_Fn) h rfl rfl rfl rfl rfl rfl (fun _=>rfl) rfl (fun e23_12 ke23_12 h=> ?_)
 refine xFd rfl<|wSpN (f:=rS_impl_Fn) (v':=S_impl_Fn.mk e23_12.f0 (IntKind.wrap .i64 (v1_2+(1:Int))) e23_12.f2 e23_12.f3) h ke23_12 rfl rfl rfl rfl rfl rfl rfl rfl rfl (fun u0_13 h=> ?_)
 refine oRs<|xMv rfl<|xAdd rfl<|xAs rfl<|oRs<|wAl rfl rfl rfl rfl<|xMv rfl<|xMv rfl<|wIp (f:=rS_impl_Fn) h rfl rfl rfl rfl rfl rfl (fun _=>rfl) rfl (fun e30_14 ke30_14 h=> ?_)
 refine xFd rfl<|wSpN (f:=rS_impl_Fn) (v':=S_impl_Fn.mk e30_14.f0 e30_14.f1 (IntKind.wrap .i64 ((IntKind.wrap .i64 (v1_2+(1:Int)))+(1:Int))) e30_14.f3) h ke30_14 rfl rfl rfl rfl rfl rfl rfl rfl rfl (fun u0_15 h=> ?_)
 refine oRs<|xMv rfl<|xAdd rfl<|xAs rfl<|oNl<|cRg<|wAl rfl rfl rfl rfl<|xMv rfl<|wIp (f:=rS_impl_Fn) h rfl rfl rfl rfl rfl rfl (fun _=>rfl) rfl (fun e36_16 ke36_16 h=> ?_)
 refine xFd rfl<|wLq (f:=rS_impl_Fn) ke36_16 rfl rfl rfl rfl rfl rfl rfl rfl rfl rfl<|xMv rfl<|xIoN rS_impl_Fn (fun c40_17=>u0_15.set (Int.toNat v5_3) (S_impl_Fn.mk e36_16.f0 e36_16.f1 e36_16.f2 c40_17.2)) h (big_laws_markInsS ·) rfl (nav1 ke36_16 rfl) (fun _=>setAt1 ke36_16 rfl rfl) (fun c40_17 u0_18 h=> ?_)
 exact xAs rfl<|oNl<|cRg<|xMv rfl<|xAdd rfl<|xAs rfl<|oNl<|eL h rfl
 exact cEx<|eX h rfl
 obtain⟨v0_4,v1_5,v5_6,v9_7⟩:=q
 refine cRs<|xMv rfl<|xAs rfl<|oNl<|cRt ?_
 cases h
 exact eRi rfl rfl rfl rfl rfl
abbrev Y_laws_markPatS:Type:=(List S_impl_Pat)→Int→Option (Int×(List S_impl_Pat))
abbrev B_laws_markPatS(p:Y_laws_markPatS):Prop:= ∀ {t0_0:List S_impl_Pat} {t1_0:Int} {r:Int×(List S_impl_Pat)},p t0_0 t1_0=some r→Big Try.prog τ An (.fn 116 [.one (.c (.sl (t0_0.map rS_impl_Pat))), .one (.c (.int .i64 t1_0))] [] (.one (.c (.int .i64 r.1))) (some (.sl (r.2.map rS_impl_Pat))) [] none)
def p_laws_markPatS_b1(n:Nat)(r_laws_markPatS:Y_laws_markPatS):((List S_impl_Pat)×Int×Int)→Option (((List S_impl_Pat)×Int×Int)⊕(((List S_impl_Pat)×Int×Int×Bool)))
  | (v0_1,v1_2,v5_3)=>bif decide (v5_3<(v0_1.length:Int))then(ix v0_1 v5_3).bind fun e15_9=>(some (v0_1.set (Int.toNat v5_3) (S_impl_Pat.mk v1_2 e15_9.f1 e15_9.f2 e15_9.f3))).bind fun u0_10=>(ix u0_10 v5_3).bind fun e22_11=>(some (u0_10.set (Int.toNat v5_3) (S_impl_Pat.mk e22_11.f0 (IntKind.wrap .i64 (v1_2+(1:Int))) e22_11.f2 e22_11.f3))).bind fun u0_12=>(p_laws_markText n (IntKind.wrap .i64 ((IntKind.wrap .i64 (v1_2+(1:Int)))+(1:Int)))).bind fun c29_13=>(ix u0_12 v5_3).bind fun e30_14=>(some (u0_12.set (Int.toNat v5_3) (S_impl_Pat.mk e30_14.f0 e30_14.f1 c29_13 e30_14.f3))).bind fun u0_15=>(ix u0_15 v5_3).bind fun e36_16=>(r_laws_markPatS e36_16.f3 (IntKind.wrap .i64 ((IntKind.wrap .i64 ((IntKind.wrap .i64 (v1_2+(1:Int)))+(1:Int)))+(1:Int)))).bind fun c40_17=>(some (u0_15.set (Int.toNat v5_3) (S_impl_Pat.mk e36_16.f0 e36_16.f1 e36_16.f2 c40_17.2))).bind fun u0_18=>some (.inl (u0_18,c40_17.1,(IntKind.wrap .i64 (v5_3+(1:Int)))))else some (.inr (v0_1,v1_2,v5_3,false))
def s_laws_markPatS(n:Nat)(r_laws_markPatS:Y_laws_markPatS)(t0_0:List S_impl_Pat)(t1_0:Int):Option (Int×(List S_impl_Pat)):=
  (loopN (p_laws_markPatS_b1 n r_laws_markPatS) n (t0_0,t1_0,(0:Int))).bind fun(v0_4,v1_5,v5_6,v9_7)=>some (v1_5,v0_4)
theorem step_laws_markPatS{n:Nat}{r_laws_markPatS:Y_laws_markPatS}(ih_laws_markPatS:B_laws_markPatS r_laws_markPatS):B_laws_markPatS (s_laws_markPatS n r_laws_markPatS):=by
 intro t0_0 t1_0 r h
 unfold s_laws_markPatS at h
 refine bFi Try.func116 rfl rfl<|cRs<|xAs rfl<|oNl<|cSq<|cRs<|xAs rfl<|oNl<|cLp h [(0,1),(5,40)] [] (fun(v0_1,v1_2,v5_3)=>([(0,Li rS_impl_Pat v0_1),(1,I64 v1_2),(5,I64 v5_3)],[])) (fun(v0_4,v1_5,v5_6,v9_7)=>(.e 0,[(0,Li rS_impl_Pat v0_4),(1,I64 v1_5),(5,I64 v5_6),(9,Bo v9_7)],[])) rfl (fun st _ h=> ?_) (fun q h=> ?_)
 obtain⟨v0_1,v1_2,v5_3⟩:=st
 unfold p_laws_markPatS_b1 at h
 refine cSq<|cRs<|xMv rfl<|xMv rfl<|xLn rfl<|xLt rfl<|oNl<|cIf h rfl (fun q8 h=> ?_) (fun q8 h=> ?_)
 refine cSk<|cSq<|cBk<|cRs<|wAl rfl rfl rfl rfl<|xMv rfl<|xMv rfl<|wIp (f:=rS_impl_Pat) h rfl rfl rfl rfl rfl rfl (fun a=>by rw[rS_impl_Pat_eq]; rfl) rfl (fun e15_9 ke15_9 h=> ?_)
 refine xFd rfl<|wSpN (f:=rS_impl_Pat) (v':=S_impl_Pat.mk v1_2 e15_9.f1 e15_9.f2 e15_9.f3) h ke15_9 rfl rfl rfl rfl rfl rfl rfl (by rw[rS_impl_Pat_eq]; rfl) (by rw[rS_impl_Pat_eq,rS_impl_Pat_mk]; rfl) (fun u0_10 h=> ?_)
 refine oRs<|xMv rfl<|xAdd rfl<|xAs rfl<|oRs<|wAl rfl rfl rfl rfl<|xMv rfl<|xMv rfl<|wIp (f:=rS_impl_Pat) h rfl rfl rfl rfl rfl rfl (fun a=>by rw[rS_impl_Pat_eq]; rfl) rfl (fun e22_11 ke22_11 h=> ?_)
 refine xFd rfl<|wSpN (f:=rS_impl_Pat) (v':=S_impl_Pat.mk e22_11.f0 (IntKind.wrap .i64 (v1_2+(1:Int))) e22_11.f2 e22_11.f3) h ke22_11 rfl rfl rfl rfl rfl rfl rfl (by rw[rS_impl_Pat_eq]; rfl) (by rw[rS_impl_Pat_eq,rS_impl_Pat_mk]; rfl) (fun u0_12 h=> ?_)
 refine oRs<|xMv rfl<|xAdd rfl<|xAs rfl<|oRs<|wAl rfl rfl rfl rfl<|xMv rfl<|xMv rfl<|xC0 h (big_laws_markText ·) rfl (fun c29_13 h=> ?_)
 refine wIp (f:=rS_impl_Pat) h rfl rfl rfl rfl rfl rfl (fun a=>by rw[rS_impl_Pat_eq]; rfl) rfl (fun e30_14 ke30_14 h=> ?_)
 refine xFd rfl<|wSpN (f:=rS_impl_Pat) (v':=S_impl_Pat.mk e30_14.f0 e30_14.f1 c29_13 e30_14.f3) h ke30_14 rfl rfl rfl rfl rfl rfl rfl (by rw[rS_impl_Pat_eq]; rfl) (by rw[rS_impl_Pat_eq,rS_impl_Pat_mk]; rfl) (fun u0_15 h=> ?_)
 refine oRs<|xMv rfl<|xAdd rfl<|xAs rfl<|oNl<|cRg<|wAl rfl rfl rfl rfl<|xMv rfl<|wIp (f:=rS_impl_Pat) h rfl rfl rfl rfl rfl rfl (fun a=>by rw[rS_impl_Pat_eq]; rfl) rfl (fun e36_16 ke36_16 h=> ?_)
 refine xFd rfl<|wLq (f:=rS_impl_Pat) ke36_16 rfl rfl rfl rfl rfl rfl rfl (by rw[rS_impl_Pat_eq]) rfl rfl<|xMv rfl<|xIoN rS_impl_Pat (fun c40_17=>u0_15.set (Int.toNat v5_3) (S_impl_Pat.mk e36_16.f0 e36_16.f1 e36_16.f2 c40_17.2)) h (ih_laws_markPatS ·) rfl (nav1 ke36_16 (by rw[rS_impl_Pat_eq]; rfl)) (fun _=>setAt1 ke36_16 (by rw[rS_impl_Pat_eq]; rfl) (by rw[rS_impl_Pat_eq,rS_impl_Pat_mk]; rfl)) (fun c40_17 u0_18 h=> ?_)
 exact xAs rfl<|oNl<|cRg<|xMv rfl<|xAdd rfl<|xAs rfl<|oNl<|eL h rfl
 exact cEx<|eX h rfl
 obtain⟨v0_4,v1_5,v5_6,v9_7⟩:=q
 refine cRs<|xMv rfl<|xAs rfl<|oNl<|cRt ?_
 cases h
 exact eRi rfl rfl rfl rfl rfl
def q_laws_markPatS:Nat→(Y_laws_markPatS)
  | 0=>(fun _ _=>none)
  | n+1=>s_laws_markPatS n (q_laws_markPatS n)
def p_laws_markPatS(n:Nat):Y_laws_markPatS:=q_laws_markPatS n
theorem bigs_laws_markPatS(n:Nat):B_laws_markPatS (p_laws_markPatS n):=by
  induction n with
  | zero=>exact(fun h=>nomatch h)
  | succ n ih=>exact step_laws_markPatS (n:=n) ih
theorem big_laws_markPatS{n:Nat}:B_laws_markPatS (p_laws_markPatS n):=(bigs_laws_markPatS n)
theorem p_laws_markPatS_succ(n:Nat):p_laws_markPatS (n+1)=s_laws_markPatS n (p_laws_markPatS n):=rfl
abbrev B_laws_FnExactPutCode(p:(List S_laws_Fn)→(List S_laws_Pat)→Option (Bool)):Prop:= ∀ {t0_0:List S_laws_Fn} {t0_1:List S_laws_Pat} {r:Bool},p t0_0 t0_1=some r→Big Try.prog τ An (.fn 5 [.one (.ag [.sl (t0_0.map rS_laws_Fn), .sl (t0_1.map rS_laws_Pat)])] [] (.one (.c (.bool r))) none [] none)
def p_laws_FnExactPutCode(n:Nat)(t0_0:List S_laws_Fn)(t0_1:List S_laws_Pat):Option (Bool):=
  (p_laws_szCode n t0_0 t0_1 (1048576:Int)).bind fun c13_1=>bif decide (c13_1<(0:Int))then some true else(p_laws_toCode n t0_0 t0_1).bind fun c17_3=>(p_spec_PutCode n c17_3.1 c17_3.2).bind fun c18_4=>(p_laws_toCode n t0_0 t0_1).bind fun c20_5=>(p_impl_PutCode n c20_5.1 c20_5.2).bind fun c22_6=>(p_laws_eqByteS n c22_6 c18_4).bind fun c25_7=>bif !c25_7 then some false else(p_laws_toCode n t0_0 t0_1).bind fun c29_9=>(p_laws_eqCode n c20_5.1 c20_5.2 c29_9.1 c29_9.2).bind fun c30_10=>bif !c30_10 then some false else(p_laws_markFnS n c20_5.1 (1:Int)).bind fun m13_12=>(p_laws_markPatS n c20_5.2 m13_12.1).bind fun m13_13=>(bif decide (m13_13.1<(0:Int))then some true else(p_laws_eqByteS n c22_6 c18_4).bind fun c40_16=>some (!c40_16)).bind fun v42_14=>bif v42_14 then some false else(p_laws_markByteS n c22_6 (1:Int)).bind fun c45_18=>(p_laws_heldByteS n c45_18.2 (1:Int)).bind fun c48_19=>bif decide (c48_19<(0:Int))then some false else bif !decide (c48_19=c45_18.1)then some false else(p_laws_toCode n t0_0 t0_1).bind fun c55_22=>(p_impl_PutCode n c55_22.1 c55_22.2).bind fun c56_23=>(p_laws_eqByteS n c56_23 c18_4).bind fun c59_24=>bif !c59_24 then some false else(p_laws_heldByteS n c45_18.2 (1:Int)).bind fun c63_26=>bif decide (c63_26<(0:Int))then some false else bif !decide (c63_26=c45_18.1)then some false else some true
theorem big_laws_FnExactPutCode{n:Nat}:B_laws_FnExactPutCode (p_laws_FnExactPutCode n):=by
 intro t0_0 t0_1 r h
 unfold p_laws_FnExactPutCode at h
 refine bF Try.func5 rfl rfl<|cRs<|xBx rfl<|xAs rfl<|oRs<|xAs rfl<|oRs<|xLd rfl<|xMv rfl<|xC0 h (big_laws_szCode ·) rfl (fun c13_1 h=> ?_)
 refine xAs rfl<|oNl<|cSq<|cRs<|xMv rfl<|xLt rfl<|oNl<|cIf h rfl (fun q2 h=> ?_) (fun q2 h=> ?_)
 refine cRs<|xAs rfl<|oNl<|cRt ?_
 cases h
 exact eR rfl rfl rfl rfl
 refine cSk<|cRs<|xLd rfl<|xC0 h (big_laws_toCode ·) rfl (fun c17_3 h=> ?_)
 refine xC0 h (big_spec_PutCode ·) rfl (fun c18_4 h=> ?_)
 refine xAs rfl<|oRs<|xLd rfl<|xC0 h (big_laws_toCode ·) rfl (fun c20_5 h=> ?_)
 refine xAz [.sl ([].map rS_impl_Fn), .sl ([].map rS_impl_Pat)] rfl<|xSt rfl<|oRs<|xLd rfl<|xC0 h (big_impl_PutCode ·) rfl (fun c22_6 h=> ?_)
 refine xAs rfl<|oNl<|cSq<|cRs<|xMv rfl<|xMv rfl<|xC0 h (big_laws_eqByteS ·) rfl (fun c25_7 h=> ?_)
 refine xNot rfl<|oNl<|cIf h rfl (fun q8 h=> ?_) (fun q8 h=> ?_)
 refine cRs<|xAs rfl<|oNl<|cRt ?_
 cases h
 exact eR rfl rfl rfl rfl
 refine cSk<|cSq<|cRs<|xLd rfl<|xLd rfl<|xC0 h (big_laws_toCode ·) rfl (fun c29_9 h=> ?_)
 refine xC0 h (big_laws_eqCode ·) rfl (fun c30_10 h=> ?_)
 refine xNot rfl<|oNl<|cIf h rfl (fun q11 h=> ?_) (fun q11 h=> ?_)
 refine cRs<|xAs rfl<|oNl<|cRt ?_
 cases h
 exact eR rfl rfl rfl rfl
 refine cSk<|cRs<|xAs rfl<|oNl ?_
 obtain⟨m13_12,em13_12,h⟩:=bind_some h
 obtain⟨m13_13,em13_13,h⟩:=bind_some h
 refine cMk [⟨0,115,c20_5.1.map rS_impl_Fn,m13_12.2.map rS_impl_Fn,1,m13_12.1⟩,⟨1,116,c20_5.2.map rS_impl_Pat,m13_13.2.map rS_impl_Pat,m13_12.1,m13_13.1⟩] marks_37 ⟨big_laws_markFnS em13_12,big_laws_markPatS em13_13,trivial⟩ rfl rfl ⟨rfl,rfl,rfl,rfl,rfl,rfl⟩<|cSq<|cRs<|oJn h [(35,42)] [] (fun v42_14=>(.n,[(42,Bo v42_14)],[])) (fun _ h=> ?_) (fun v42_14 h=> ?_)
 refine xMv rfl<|xLt rfl<|xMv rfl<|oIf 37 h rfl (fun q15 h=> ?_) (fun q15 h=> ?_)
 exact wSk rfl<|wSk rfl<|wSk rfl<|wSk rfl<|xPk rfl<|oNl<|eJ h rfl
 refine xMv rfl<|xMv rfl<|xC0 h (big_laws_eqByteS ·) rfl (fun c40_16 h=> ?_)
 exact xNot rfl<|xPk rfl<|oNl<|eJ h rfl
 refine cIf h rfl (fun q17 h=> ?_) (fun q17 h=> ?_)
 refine cRs<|xAs rfl<|oNl<|cRt ?_
 cases h
 exact eR rfl rfl rfl rfl
 refine cSk<|cRs<|xAs rfl<|oRs<|wAl rfl rfl rfl rfl<|xMv rfl<|xIo (fun c45_18=> .sl (c45_18.2.map rI_u8)) h (big_laws_markByteS ·) rfl (nav0 _) (fun _=>setAt0 _ _) (fun c45_18 h=> ?_)
 refine xAs rfl<|oRs<|xAs rfl<|oRs<|xMv rfl<|xMv rfl<|xC0 h (big_laws_heldByteS ·) rfl (fun c48_19 h=> ?_)
 refine xAs rfl<|oNl<|cSq<|cRs<|xMv rfl<|xLt rfl<|oNl<|cIf h rfl (fun q20 h=> ?_) (fun q20 h=> ?_)
 refine cRs<|xAs rfl<|oNl<|cRt ?_
 cases h
 exact eR rfl rfl rfl rfl
 refine cSk<|cSq<|cRs<|xMv rfl<|xMv rfl<|xNe rfl<|oNl<|cIf h rfl (fun q21 h=> ?_) (fun q21 h=> ?_)
 refine cRs<|xAs rfl<|oNl<|cRt ?_
 cases h
 exact eR rfl rfl rfl rfl
 refine cSk<|cRs<|xLd rfl<|xC0 h (big_laws_toCode ·) rfl (fun c55_22 h=> ?_)
 refine xC0 h (big_impl_PutCode ·) rfl (fun c56_23 h=> ?_)
 refine xAs rfl<|oNl<|cSq<|cRs<|xMv rfl<|xMv rfl<|xC0 h (big_laws_eqByteS ·) rfl (fun c59_24 h=> ?_)
 refine xNot rfl<|oNl<|cIf h rfl (fun q25 h=> ?_) (fun q25 h=> ?_)
 refine cRs<|xAs rfl<|oNl<|cRt ?_
 cases h
 exact eR rfl rfl rfl rfl
 refine cSk<|cRs<|xAs rfl<|oRs<|xMv rfl<|xMv rfl<|xC0 h (big_laws_heldByteS ·) rfl (fun c63_26 h=> ?_)
 refine xAs rfl<|oNl<|cSq<|cRs<|xMv rfl<|xLt rfl<|oNl<|cIf h rfl (fun q27 h=> ?_) (fun q27 h=> ?_)
 refine cRs<|xAs rfl<|oNl<|cRt ?_
 cases h
 exact eR rfl rfl rfl rfl
 refine cSk<|cSq<|cRs<|xMv rfl<|xMv rfl<|xNe rfl<|oNl<|cIf h rfl (fun q28 h=> ?_) (fun q28 h=> ?_)
 refine cRs<|xAs rfl<|oNl<|cRt ?_
 cases h
 exact eR rfl rfl rfl rfl
 refine cSk<|cRs<|xAs rfl<|oNl<|cRt ?_
 cases h
 exact eR rfl rfl rfl rfl
end Go.Own
