/- A part of the proof. No conditions. -/
import Derived.Test.YtgeomhdbckjkcaaW22A
set_option linter.unusedVariables false
set_option linter.unusedSimpArgs false
set_option linter.unnecessarySimpa false
namespace Go.Own
open Go Go.Proofs
def rI_u8(a:Int):List T:=[.int .u8 a]
theorem Kd(a:Int):rI_u8 a=[.int .u8 a]:=rfl
def dN(a:List UInt8):List T:=[.str a]
theorem oF(a:List UInt8):dN a=[.str a]:=rfl
def qN(a:Int):List T:=[.int .i64 a]
theorem No(a:Int):qN a=[.int .i64 a]:=rfl
inductive aB where
  | mk (f0:Int) (f1:Int) (f2:List UInt8) (f3:List aB)
def aB.f0:aB→Int
  | .mk a _ _ _=>a
def aB.f1:aB→Int
  | .mk _ a _ _=>a
def aB.f2:aB→List UInt8
  | .mk _ _ a _=>a
def aB.f3:aB→List aB
  | .mk _ _ _ a=>a
mutual
def aF:aB→List T
  | .mk a0 a1 a2 a3=> [.int .i64 a0, .int .i64 a1, .str a2, .sl (lY a3)]
def lY:List aB→List (List T)
  | []=> []
  | x::r=>aF x::lY r
end
theorem nB: ∀l:List aB,lY l=l.map aF
  | []=>by simp [lY]
  | x::r=>by simp [lY,nB r]
theorem aO(a:aB):aF a=[.int .i64 a.f0, .int .i64 a.f1, .str a.f2, .sl (a.f3.map aF)]:=by
  cases a
  simp [aF,nB,aB.f0,aB.f1,aB.f2,aB.f3]
theorem dC(a0:Int)(a1:Int)(a2:List UInt8)(a3:List aB):aF (.mk a0 a1 a2 a3)=[.int .i64 a0, .int .i64 a1, .str a2, .sl (a3.map aF)]:=by simp [aF,nB]
mutual
inductive aA where
  | mk (f0:Int) (f1:Int) (f2:List UInt8) (f3:List aA) (f4:List aC)
inductive aC where
  | two (p x:aA)
end
def aC.p:aC→aA
  | .two a _=>a
def aC.x:aC→aA
  | .two _ a=>a
def aA.f0:aA→Int
  | .mk a _ _ _ _=>a
def aA.f1:aA→Int
  | .mk _ a _ _ _=>a
def aA.f2:aA→List UInt8
  | .mk _ _ a _ _=>a
def aA.f3:aA→List aA
  | .mk _ _ _ a _=>a
def aA.f4:aA→List aC
  | .mk _ _ _ _ a=>a
def aC.f0(c:aC):Int:=aA.f0 (aC.p c)
def aC.f1(c:aC):Int:=aA.f1 (aC.p c)
def aC.f2(c:aC):List UInt8:=aA.f2 (aC.p c)
def aC.f3(c:aC):List aA:=aA.f3 (aC.p c)
def aC.f4(c:aC):List aC:=aA.f4 (aC.p c)
def aC.f5(c:aC):Int:=aA.f0 (aC.x c)
def aC.f6(c:aC):Int:=aA.f1 (aC.x c)
def aC.f7(c:aC):List UInt8:=aA.f2 (aC.x c)
def aC.f8(c:aC):List aA:=aA.f3 (aC.x c)
def aC.f9(c:aC):List aC:=aA.f4 (aC.x c)
def aC.mk(a0:Int)(a1:Int)(a2:List UInt8)(a3:List aA)(a4:List aC)(a5:Int)(a6:Int)(a7:List UInt8)(a8:List aA)(a9:List aC):aC:= .two (.mk a0 a1 a2 a3 a4) (.mk a5 a6 a7 a8 a9)
mutual
def aE:aA→List T
  | .mk a0 a1 a2 a3 a4=> [.int .i64 a0, .int .i64 a1, .str a2, .sl (lZ a3), .sl (jC a4)]
def lZ:List aA→List (List T)
  | []=> []
  | x::r=>aE x::lZ r
def aD:aC→List T
  | .two p x=>aE p++aE x
def jC:List aC→List (List T)
  | []=> []
  | x::r=>aD x::jC r
end
theorem rU: ∀l:List aA,lZ l=l.map aE
  | []=>by simp [lZ]
  | x::r=>by simp [lZ,rU r]
theorem pP: ∀l:List aC,jC l=l.map aD
  | []=>by simp [jC]
  | x::r=>by simp [jC,pP r]
theorem aP(a0:Int)(a1:Int)(a2:List UInt8)(a3:List aA)(a4:List aC):aE (.mk a0 a1 a2 a3 a4)=[.int .i64 a0, .int .i64 a1, .str a2, .sl (a3.map aE), .sl (a4.map aD)]:=by simp only[aE,rU,pP]
theorem aL(a:aA):aE a=[.int .i64 a.f0, .int .i64 a.f1, .str a.f2, .sl (a.f3.map aE), .sl (a.f4.map aD)]:=by
  cases a
  exact aP _ _ _ _ _
theorem aW(a:aC):aD a=[.int .i64 a.f0, .int .i64 a.f1, .str a.f2, .sl (a.f3.map aE), .sl (a.f4.map aD), .int .i64 a.f5, .int .i64 a.f6, .str a.f7, .sl (a.f8.map aE), .sl (a.f9.map aD)]:=by
  cases a with
  | two p x=>
    simp only[aD]
    rw[aL p,aL x]; rfl
theorem dL(a0:Int)(a1:Int)(a2:List UInt8)(a3:List aA)(a4:List aC)(a5:Int)(a6:Int)(a7:List UInt8)(a8:List aA)(a9:List aC):aD (.mk a0 a1 a2 a3 a4 a5 a6 a7 a8 a9)=[.int .i64 a0, .int .i64 a1, .str a2, .sl (a3.map aE), .sl (a4.map aD), .int .i64 a5, .int .i64 a6, .str a7, .sl (a8.map aE), .sl (a9.map aD)]:=aW _
structure aG where
  f0:List UInt8
  f1:Int
  f2:Int
  f3:List UInt8
  f4:List aB
def aM(a:aG):List T:=[.str a.f0, .int .i64 a.f1, .int .i64 a.f2, .str a.f3, .sl (a.f4.map aF)]
theorem mG(a:aG):aM a=[.str a.f0, .int .i64 a.f1, .int .i64 a.f2, .str a.f3, .sl (a.f4.map aF)]:=rfl
def qY(a:List aB):List T:=[.sl (a.map aF)]
theorem rV(a:List aB):qY a=[.sl (a.map aF)]:=rfl

abbrev Ln(p:(List Int)→Option (Bool)):Prop:= ∀ {t0_0:List Int} {r:Bool},p t0_0=some r→Big Try.prog τ An (.fn 45 [.one (.c (.sl (t0_0.map rI_u8)))] [] (.one (.c (.bool r))) none [] none)
def uR(n:Nat)(t0_0:List Int):Option (Bool):=
  some (decide ((1048576:Int)<(t0_0.length:Int)))
theorem IL{n:Nat}:Ln (uR n):=by
 intro t0_0 r h
 unfold uR at h
 exact bF Try.func45 rfl rfl<|gco 7 rfl<|xLn rfl<|geo
abbrev bS:Type:=(List aB)→(List aB)→Option (Bool)
abbrev dF(p:bS):Prop:= ∀ {t0_0 t1_0:List aB} {r:Bool},p t0_0 t1_0=some r→Big Try.prog τ An (.fn 122 [.one (.c (.sl (t0_0.map aF))), .one (.c (.sl (t1_0.map aF))), .one (.fn 48 [])] [] (.one (.c (.bool r))) none [] none)
abbrev dT:Type:=Int→Int→(List UInt8)→(List aB)→Int→Int→(List UInt8)→(List aB)→Option (Bool)
abbrev jH(p:dT):Prop:= ∀ {t0_0 t0_1:Int} {t0_2:List UInt8} {t0_3:List aB} {t1_0 t1_1:Int} {t1_2:List UInt8} {t1_3:List aB} {r:Bool},p t0_0 t0_1 t0_2 t0_3 t1_0 t1_1 t1_2 t1_3=some r→Big Try.prog τ An (.fn 48 [.one (.ag [.int .i64 t0_0, .int .i64 t0_1, .str t0_2, .sl (t0_3.map aF)]), .one (.ag [.int .i64 t1_0, .int .i64 t1_1, .str t1_2, .sl (t1_3.map aF)])] [] (.one (.c (.bool r))) none [] none)
def dI(n:Nat)(r_impl_SameTerm:dT)(t0_0:List aB)(t1_0:List aB):(Int)→Option ((Int)⊕((Bool)⊕(Int×Bool)))
  | v17_2=>bif decide (v17_2<(t0_0.length:Int))then(ix t0_0 v17_2).bind fun e20_7=>(ix t1_0 v17_2).bind fun e24_8=>(r_impl_SameTerm e20_7.f0 e20_7.f1 e20_7.f2 e20_7.f3 e24_8.f0 e24_8.f1 e24_8.f2 e24_8.f3).bind fun c29_9=>bif !c29_9 then some (.inr (.inl false))else some (.inl (IntKind.wrap .i64 (v17_2+(1:Int))))else some (.inr (.inr (v17_2,false)))
def dD(n:Nat)(r_impl_SameTerm:dT)(r_slices_EqualFunc_7600:bS)(t0_0:List aB)(t1_0:List aB):Option (Bool):=
  bif !decide ((t0_0.length:Int)=(t1_0.length:Int))then some false else(loopN (dI n r_impl_SameTerm t0_0 t1_0) n (0:Int)).bind fun q=>(match q with | .inl v6_3=>some v6_3 | .inr (v17_4,v18_5)=>some true)
theorem qS{n:Nat}{r_impl_SameTerm:dT}(ih_impl_SameTerm:jH r_impl_SameTerm){r_slices_EqualFunc_7600:bS}(ih_slices_EqualFunc_7600:dF r_slices_EqualFunc_7600):dF (dD n r_impl_SameTerm r_slices_EqualFunc_7600):=by
 intro t0_0 t1_0 r h
 unfold dD at h
 refine bF Try.func122 rfl rfl<|gco 8 rfl<|xLn rfl<|xMv rfl<|xLn rfl<|goc 2 rfl<|cIf h rfl (fun q1 h=> ?_) (fun q1 h=> ?_)
 exact gec
 refine gco 5 rfl<|xLn rfl<|goc 2 rfl<|cLp h [(6,9),(17,31)] [(8,9)] (fun v17_2=>([(17,I64 v17_2)],[])) (fun q=>match q with | .inl v6_3=>(.r,[(6,Bo v6_3)],[]) | .inr (v17_4,v18_5)=>(.e 0,[(17,I64 v17_4),(18,Bo v18_5)],[])) rfl (fun v17_2 _ h=> ?_) (fun q h=> ?_)
 unfold dI at h
 refine gcc 5 rfl<|cIf h rfl (fun q6 h=> ?_) (fun q6 h=> ?_)
 refine gco 6 rfl<|xIx h aO rfl (fun e20_7 h=> ?_)
 refine xLd rfl<|xAz [.int .i64 0, .int .i64 0, .str [], .sl ([].map aF)] rfl<|goo 7 rfl<|xIx h aO rfl (fun e24_8 h=> ?_)
 refine xLd rfl<|xAz [.int .i64 0, .int .i64 0, .str [], .sl ([].map aF)] rfl<|goo 7 rfl<|xC0 h (ih_impl_SameTerm ·) rfl (fun c29_9 h=> ?_)
 refine goc 2 rfl<|cIf h rfl (fun q10 h=> ?_) (fun q10 h=> ?_)
 exact gec
 exact gec
 exact gec
 rcases q with v6_3 | ⟨v17_4,v18_5⟩
 exact en
 exact gec
def jB(n:Nat)(r_impl_SameTerm:dT)(r_slices_EqualFunc_7600:bS)(t0_0:Int)(t0_1:Int)(t0_2:List UInt8)(t0_3:List aB)(t1_0:Int)(t1_1:Int)(t1_2:List UInt8)(t1_3:List aB):Option (Bool):=
  (bif decide (t0_0=t1_0)then bif decide (t0_1=t1_1)then bif decide (t0_2=t1_2)then(r_slices_EqualFunc_7600 t0_3 t1_3).bind fun c29_5=>some c29_5 else some false else some false else some false).bind fun v4_1=>some v4_1
theorem yY{n:Nat}{r_impl_SameTerm:dT}(ih_impl_SameTerm:jH r_impl_SameTerm){r_slices_EqualFunc_7600:bS}(ih_slices_EqualFunc_7600:dF r_slices_EqualFunc_7600):jH (jB n r_impl_SameTerm r_slices_EqualFunc_7600):=by
 intro t0_0 t0_1 t0_2 t0_3 t1_0 t1_1 t1_2 t1_3 r h
 unfold jB at h
 refine bF Try.func48 rfl rfl<|gco 8 rfl<|oJn h [(4,30)] [] (fun v4_1=>(.n,[(4,Bo v4_1)],[])) (fun _ h=> ?_) (fun v4_1 h=> ?_)
 refine goo 6 rfl<|oIf 10 h rfl (fun q2 h=> ?_) (fun q2 h=> ?_)
 refine goo 7 rfl<|oIf 17 h rfl (fun q3 h=> ?_) (fun q3 h=> ?_)
 refine goo 7 rfl<|oIf 24 h rfl (fun q4 h=> ?_) (fun q4 h=> ?_)
 refine goo 4 rfl<|xC0 h (ih_slices_EqualFunc_7600 ·) rfl (fun c29_5 h=> ?_)
 exact geo
 exact geo
 exact geo
 exact geo
 exact gec
def gH:Nat→(dT)×(bS)
  | 0=>((fun _ _ _ _ _ _ _ _=>none),(fun _ _=>none))
  | n+1=>(jB n ((gH n).1) ((gH n).2),dD n ((gH n).1) ((gH n).2))
def cM(n:Nat):dT:=(gH n).1
def cI(n:Nat):bS:=(gH n).2
theorem qT(n:Nat):jH (cM n)∧dF (cI n):=by
  induction n with
  | zero=>exact⟨(fun h=>nomatch h),(fun h=>nomatch h)⟩
  | succ n ih=>exact⟨yY (n:=n) (ih.1) (ih.2),qS (n:=n) (ih.1) (ih.2)⟩
theorem sD{n:Nat}:jH (cM n):=(qT n).1
theorem EM{n:Nat}:dF (cI n):=(qT n).2
theorem vO(n:Nat):cM (n+1)=jB n (cM n) (cI n):=rfl
theorem pB(n:Nat):cI (n+1)=dD n (cM n) (cI n):=rfl
abbrev EL(p:Int→Int→Int→Option (Bool)):Prop:= ∀ {t0_0 t1_0 t2_0:Int} {r:Bool},p t0_0 t1_0 t2_0=some r→Big Try.prog τ An (.fn 75 [.one (.c (.int .i64 t0_0)), .one (.c (.int .i64 t1_0)), .one (.c (.int .i64 t2_0))] [] (.one (.c (.bool r))) none [] none)
def dA(n:Nat)(t0_0:Int)(t1_0:Int)(t2_0:Int):Option (Bool):=
  (bif decide (t1_0≤t0_0)then some (decide (t0_0≤t2_0))else some false).bind fun v6_1=>some v6_1
theorem fS{n:Nat}:EL (dA n):=by
 intro t0_0 t1_0 t2_0 r h
 unfold dA at h
 refine bF Try.func75 rfl rfl<|gco 6 rfl<|oJn h [(6,14)] [] (fun v6_1=>(.n,[(6,Bo v6_1)],[])) (fun _ h=> ?_) (fun v6_1 h=> ?_)
 refine goo 4 rfl<|oIf 10 h rfl (fun q2 h=> ?_) (fun q2 h=> ?_)
 exact geo
 exact geo
 exact gec
abbrev EJ(p:Int→Option (Bool)):Prop:= ∀ {t0_0:Int} {r:Bool},p t0_0=some r→Big Try.prog τ An (.fn 236 [.one (.c (.int .u8 t0_0))] [] (.one (.c (.bool r))) none [] none)
def gD(n:Nat)(t0_0:Int):Option (Bool):=
  (bif decide ((97:Int)≤t0_0)then some (decide (t0_0≤(122:Int)))else some false).bind fun v2_1=>some v2_1
theorem tA{n:Nat}:EJ (gD n):=by
 intro t0_0 r h
 unfold gD at h
 refine bF Try.func236 rfl rfl<|gco 6 rfl<|oJn h [(2,8)] [] (fun v2_1=>(.n,[(2,Bo v2_1)],[])) (fun _ h=> ?_) (fun v2_1 h=> ?_)
 refine goo 3 rfl<|oIf 5 h rfl (fun q2 h=> ?_) (fun q2 h=> ?_)
 exact geo
 exact geo
 exact gec
abbrev DS(p:Int→Option (Bool)):Prop:= ∀ {t0_0:Int} {r:Bool},p t0_0=some r→Big Try.prog τ An (.fn 237 [.one (.c (.int .u8 t0_0))] [] (.one (.c (.bool r))) none [] none)
def eT(n:Nat)(t0_0:Int):Option (Bool):=
  (bif decide ((48:Int)≤t0_0)then some (decide (t0_0≤(57:Int)))else some false).bind fun v2_1=>some v2_1
theorem sB{n:Nat}:DS (eT n):=by
 intro t0_0 r h
 unfold eT at h
 refine bF Try.func237 rfl rfl<|gco 6 rfl<|oJn h [(2,8)] [] (fun v2_1=>(.n,[(2,Bo v2_1)],[])) (fun _ h=> ?_) (fun v2_1 h=> ?_)
 refine goo 3 rfl<|oIf 5 h rfl (fun q2 h=> ?_) (fun q2 h=> ?_)
 exact geo
 exact geo
 exact gec
abbrev GZ(p:(List UInt8)→Option (Bool)):Prop:= ∀ {t0_0:List UInt8} {r:Bool},p t0_0=some r→Big Try.prog τ An (.fn 196 [.one (.c (.str t0_0))] [] (.one (.c (.bool r))) none [] none)
def lA(n:Nat)(t0_0:List UInt8):(Int)→Option ((Int)⊕((Bool)⊕(Int×Bool)))
  | v3_1=>bif decide (v3_1<(t0_0.length:Int))then((ixs t0_0 v3_1).bind fun e12_7=>(gD n e12_7).bind fun c13_8=>bif !c13_8 then bif decide (v3_1=(0:Int))then some true else(ixs t0_0 v3_1).bind fun e21_11=>(eT n e21_11).bind fun c22_12=>bif !c22_12 then(ixs t0_0 v3_1).bind fun e27_14=>some (!decide (e27_14=(95:Int)))else some false else some false).bind fun v31_6=>bif v31_6 then some (.inr (.inl false))else some (.inl (IntKind.wrap .i64 (v3_1+(1:Int))))else some (.inr (.inr (v3_1,false)))
def jO(n:Nat)(t0_0:List UInt8):Option (Bool):=
  (loopN (lA n t0_0) n (0:Int)).bind fun q=>(match q with | .inl v2_2=>some v2_2 | .inr (v3_3,v7_4)=>(dA n (t0_0.length:Int) (1:Int) (20:Int)).bind fun c34_16=>some c34_16)
theorem uO{n:Nat}:GZ (jO n):=by
 intro t0_0 r h
 unfold jO at h
 refine bF Try.func196 rfl rfl<|gcc 9 rfl<|cLp h [(2,31)] [] (fun v3_1=>([(3,I64 v3_1)],[])) (fun q=>match q with | .inl v2_2=>(.r,[(2,Bo v2_2)],[]) | .inr (v3_3,v7_4)=>(.e 0,[(3,I64 v3_3),(7,Bo v7_4)],[])) rfl (fun v3_1 _ h=> ?_) (fun q h=> ?_)
 unfold lA at h
 refine gco 5 rfl<|xLs rfl<|goc 2 rfl<|cIf h rfl (fun q5 h=> ?_) (fun q5 h=> ?_)
 refine gco 5 rfl<|oJn h [(10,31)] [] (fun v31_6=>(.n,[(31,Bo v31_6)],[])) (fun _ h=> ?_) (fun v31_6 h=> ?_)
 refine goo 2 rfl<|MU h rfl rfl rfl rfl rfl (fun e12_7 h=> ?_)
 refine xC0 h (tA ·) rfl (fun c13_8 h=> ?_)
 refine goo 2 rfl<|oIf 15 h rfl (fun q9 h=> ?_) (fun q9 h=> ?_)
 refine goo 3 rfl<|oIf 18 h rfl (fun q10 h=> ?_) (fun q10 h=> ?_)
 exact geo
 refine goo 2 rfl<|MU h rfl rfl rfl rfl rfl (fun e21_11 h=> ?_)
 refine xC0 h (sB ·) rfl (fun c22_12 h=> ?_)
 refine goo 2 rfl<|oIf 24 h rfl (fun q13 h=> ?_) (fun q13 h=> ?_)
 refine goo 2 rfl<|MU h rfl rfl rfl rfl rfl (fun e27_14 h=> ?_)
 exact geo
 exact geo
 exact geo
 refine cIf h rfl (fun q15 h=> ?_) (fun q15 h=> ?_)
 exact gec
 exact gec
 exact gec
 rcases q with v2_2 | ⟨v3_3,v7_4⟩
 exact en
 refine gco 3 rfl<|xLs rfl<|xC0 h (fS ·) rfl (fun c34_16 h=> ?_)
 exact geo
abbrev xA(p:Int→Int→(List UInt8)→(List aB)→Option (Bool)):Prop:= ∀ {t0_0 t0_1:Int} {t0_2:List UInt8} {t0_3:List aB} {r:Bool},p t0_0 t0_1 t0_2 t0_3=some r→Big Try.prog τ An (.fn 203 [.one (.ag [.int .i64 t0_0, .int .i64 t0_1, .str t0_2, .sl (t0_3.map aF)])] [] (.one (.c (.bool r))) none [] none)
def fC(n:Nat)(t0_0:Int)(t0_1:Int)(t0_2:List UInt8)(t0_3:List aB):Option (Bool):=
  bif decide (t0_0=(1:Int))then((dA n t0_1 ((-1000000000000):Int) (1000000000000:Int)).bind fun c9_3=>bif c9_3 then bif decide (t0_2=([]:List UInt8))then some (decide ((t0_3.length:Int)=(0:Int)))else some false else some false).bind fun v2_2=>some v2_2 else bif decide (t0_0=(2:Int))then(bif decide (t0_1=(0:Int))then(jO n t0_2).bind fun c29_9=>bif c29_9 then some (decide ((t0_3.length:Int)=(0:Int)))else some false else some false).bind fun v2_7=>some v2_7 else bif decide (t0_0=(3:Int))then((dA n t0_1 (0:Int) (1000000:Int)).bind fun c41_13=>bif c41_13 then bif decide (t0_2=([]:List UInt8))then some (decide ((t0_3.length:Int)=(0:Int)))else some false else some false).bind fun v2_12=>some v2_12 else bif decide (t0_0=(4:Int))then(bif decide (t0_1=(0:Int))then bif decide (t0_2=([]:List UInt8))then some (decide ((t0_3.length:Int)≤(20:Int)))else some false else some false).bind fun v2_17=>some v2_17 else bif decide (t0_0=(5:Int))then(bif decide (t0_1=(0:Int))then bif decide (t0_2=([]:List UInt8))then some (decide ((t0_3.length:Int)≤(60:Int)))else some false else some false).bind fun v2_21=>some v2_21 else some false
theorem uZ{n:Nat}:xA (fC n):=by
 intro t0_0 t0_1 t0_2 t0_3 r h
 unfold fC at h
 refine bF Try.func203 rfl rfl<|gcc 17 rfl<|cIf h rfl (fun q1 h=> ?_) (fun q1 h=> ?_)
 refine cRs<|oJn h [(2,2),(7,20)] [] (fun v2_2=>(.n,[(2,Bo v2_2)],[])) (fun _ h=> ?_) (fun v2_2 h=> ?_)
 refine goo 2 rfl<|xC0 h (fS ·) rfl (fun c9_3 h=> ?_)
 refine xMv rfl<|oIf 10 h rfl (fun q4 h=> ?_) (fun q4 h=> ?_)
 refine goo 5 rfl<|oIf 15 h rfl (fun q5 h=> ?_) (fun q5 h=> ?_)
 exact goo 2 rfl<|xLn rfl<|geo
 exact geo
 exact geo
 exact gec
 refine gcc 5 rfl<|cIf h rfl (fun q6 h=> ?_) (fun q6 h=> ?_)
 refine cRs<|oJn h [(2,2),(23,36)] [] (fun v2_7=>(.n,[(2,Bo v2_7)],[])) (fun _ h=> ?_) (fun v2_7 h=> ?_)
 refine goo 4 rfl<|oIf 26 h rfl (fun q8 h=> ?_) (fun q8 h=> ?_)
 refine goo 2 rfl<|xC0 h (uO ·) rfl (fun c29_9 h=> ?_)
 refine goo 2 rfl<|oIf 31 h rfl (fun q10 h=> ?_) (fun q10 h=> ?_)
 exact goo 2 rfl<|xLn rfl<|geo
 exact geo
 exact geo
 exact gec
 refine gcc 5 rfl<|cIf h rfl (fun q11 h=> ?_) (fun q11 h=> ?_)
 refine cRs<|oJn h [(2,2),(39,52)] [] (fun v2_12=>(.n,[(2,Bo v2_12)],[])) (fun _ h=> ?_) (fun v2_12 h=> ?_)
 refine goo 2 rfl<|xC0 h (fS ·) rfl (fun c41_13 h=> ?_)
 refine xMv rfl<|oIf 42 h rfl (fun q14 h=> ?_) (fun q14 h=> ?_)
 refine goo 5 rfl<|oIf 47 h rfl (fun q15 h=> ?_) (fun q15 h=> ?_)
 exact goo 2 rfl<|xLn rfl<|geo
 exact geo
 exact geo
 exact gec
 refine gcc 5 rfl<|cIf h rfl (fun q16 h=> ?_) (fun q16 h=> ?_)
 refine cRs<|oJn h [(2,2),(55,68)] [] (fun v2_17=>(.n,[(2,Bo v2_17)],[])) (fun _ h=> ?_) (fun v2_17 h=> ?_)
 refine goo 4 rfl<|oIf 58 h rfl (fun q18 h=> ?_) (fun q18 h=> ?_)
 refine goo 5 rfl<|oIf 63 h rfl (fun q19 h=> ?_) (fun q19 h=> ?_)
 exact goo 2 rfl<|xLn rfl<|geo
 exact geo
 exact geo
 exact gec
 refine gcc 5 rfl<|cIf h rfl (fun q20 h=> ?_) (fun q20 h=> ?_)
 refine cRs<|oJn h [(2,2),(71,84)] [] (fun v2_21=>(.n,[(2,Bo v2_21)],[])) (fun _ h=> ?_) (fun v2_21 h=> ?_)
 refine goo 4 rfl<|oIf 74 h rfl (fun q22 h=> ?_) (fun q22 h=> ?_)
 refine goo 5 rfl<|oIf 79 h rfl (fun q23 h=> ?_) (fun q23 h=> ?_)
 exact goo 2 rfl<|xLn rfl<|geo
 exact geo
 exact geo
 exact gec
 exact gec
abbrev dO:Type:=Int→Int→(List UInt8)→(List aB)→Int→Option (Int)
abbrev gW(p:dO):Prop:= ∀ {t0_0 t0_1:Int} {t0_2:List UInt8} {t0_3:List aB} {t1_0:Int} {r:Int},p t0_0 t0_1 t0_2 t0_3 t1_0=some r→Big Try.prog τ An (.fn 133 [.one (.ag [.int .i64 t0_0, .int .i64 t0_1, .str t0_2, .sl (t0_3.map aF)]), .one (.c (.int .i64 t1_0))] [] (.one (.c (.int .i64 r))) none [] none)
def cN(n:Nat)(r_impl_Term_measure:dO)(t1_0:Int)(t0_3:List aB):(Int×Int)→Option ((Int×Int)⊕((Int)⊕(Int×Int×Bool)))
  | (v5_5,v18_6)=>bif decide (v18_6<(t0_3.length:Int))then(ix t0_3 v18_6).bind fun e20_12=>(r_impl_Term_measure e20_12.f0 e20_12.f1 e20_12.f2 e20_12.f3 (IntKind.wrap .i64 (t1_0+(1:Int)))).bind fun c26_13=>bif decide ((300:Int)<(IntKind.wrap .i64 (v5_5+c26_13)))then some (.inr (.inl (301:Int)))else some (.inl ((IntKind.wrap .i64 (v5_5+c26_13)),(IntKind.wrap .i64 (v18_6+(1:Int)))))else some (.inr (.inr (v5_5,v18_6,false)))
def eV(n:Nat)(r_impl_Term_measure:dO)(t0_0:Int)(t0_1:Int)(t0_2:List UInt8)(t0_3:List aB)(t1_0:Int):Option (Int):=
  (bif decide ((8:Int)<t1_0)then some true else(fC n t0_0 t0_1 t0_2 t0_3).bind fun c12_3=>some (!c12_3)).bind fun v14_1=>bif v14_1 then some (301:Int)else(loopN (cN n r_impl_Term_measure t1_0 t0_3) n ((1:Int),(0:Int))).bind fun q=>(match q with | .inl v4_7=>some v4_7 | .inr (v5_8,v18_9,v19_10)=>some v5_8)
theorem tH{n:Nat}{r_impl_Term_measure:dO}(ih_impl_Term_measure:gW r_impl_Term_measure):gW (eV n r_impl_Term_measure):=by
 intro t0_0 t0_1 t0_2 t0_3 t1_0 r h
 unfold eV at h
 refine bF Try.func133 rfl rfl<|gco 8 rfl<|oJn h [(8,14)] [] (fun v14_1=>(.n,[(14,Bo v14_1)],[])) (fun _ h=> ?_) (fun v14_1 h=> ?_)
 refine goo 3 rfl<|oIf 10 h rfl (fun q2 h=> ?_) (fun q2 h=> ?_)
 exact geo
 refine xLd rfl<|xC0 h (uZ ·) rfl (fun c12_3 h=> ?_)
 exact geo
 refine cIf h rfl (fun q4 h=> ?_) (fun q4 h=> ?_)
 exact gec
 refine gco 10 rfl<|xLn rfl<|goc 2 rfl<|cLp h [(4,5),(7,7),(18,30)] [(7,7)] (fun(v5_5,v18_6)=>([(5,I64 v5_5),(18,I64 v18_6)],[])) (fun q=>match q with | .inl v4_7=>(.r,[(4,I64 v4_7)],[]) | .inr (v5_8,v18_9,v19_10)=>(.e 0,[(5,I64 v5_8),(18,I64 v18_9),(19,Bo v19_10)],[])) rfl (fun st _ h=> ?_) (fun q h=> ?_)
 obtain⟨v5_5,v18_6⟩:=st
 unfold cN at h
 refine gcc 5 rfl<|cIf h rfl (fun q11 h=> ?_) (fun q11 h=> ?_)
 refine gco 5 rfl<|xIx h aO rfl (fun e20_12 h=> ?_)
 refine xLd rfl<|xAz [.int .i64 0, .int .i64 0, .str [], .sl ([].map aF)] rfl<|goo 8 rfl<|xC0 h (ih_impl_Term_measure ·) rfl (fun c26_13 h=> ?_)
 refine goc 8 rfl<|cIf h rfl (fun q14 h=> ?_) (fun q14 h=> ?_)
 exact gec
 exact gec
 exact gec
 rcases q with v4_7 | ⟨v5_8,v18_9,v19_10⟩
 exact en
 exact gec
def pQ:Nat→(dO)
  | 0=>(fun _ _ _ _ _=>none)
  | n+1=>eV n (pQ n)
def bR(n:Nat):dO:=pQ n
theorem tI(n:Nat):gW (bR n):=by
  induction n with
  | zero=>exact(fun h=>nomatch h)
  | succ n ih=>exact tH (n:=n) ih
theorem vA{n:Nat}:gW (bR n):=(tI n)
theorem sH(n:Nat):bR (n+1)=eV n (bR n):=rfl
abbrev GX(p:Int→Int→(List UInt8)→(List aB)→Option (Bool)):Prop:= ∀ {t0_0 t0_1:Int} {t0_2:List UInt8} {t0_3:List aB} {r:Bool},p t0_0 t0_1 t0_2 t0_3=some r→Big Try.prog τ An (.fn 61 [.one (.ag [.int .i64 t0_0, .int .i64 t0_1, .str t0_2, .sl (t0_3.map aF)])] [] (.one (.c (.bool r))) none [] none)
def eH(n:Nat)(t0_0:Int)(t0_1:Int)(t0_2:List UInt8)(t0_3:List aB):Option (Bool):=
  (bR n t0_0 t0_1 t0_2 t0_3 (1:Int)).bind fun c4_1=>some (decide (c4_1≤(300:Int)))
theorem pN{n:Nat}:GX (eH n):=by
 intro t0_0 t0_1 t0_2 t0_3 r h
 unfold eH at h
 refine bF Try.func61 rfl rfl<|gco 8 rfl<|xC0 h (vA ·) rfl (fun c4_1 h=> ?_)
 exact geo
abbrev wZ(p:(List (List UInt8))→(List UInt8)→Option (Int)):Prop:= ∀ {t0_0:List (List UInt8)} {t1_0:List UInt8} {r:Int},p t0_0 t1_0=some r→Big Try.prog τ An (.fn 156 [.one (.c (.sl (t0_0.map dN))), .one (.c (.str t1_0))] [] (.one (.c (.int .i64 r))) none [] none)
def dJ(n:Nat)(t0_0:List (List UInt8))(t1_0:List UInt8):(Int)→Option ((Int)⊕((Int)⊕(Int×Bool)))
  | v8_1=>bif decide (v8_1<(t0_0.length:Int))then(ix t0_0 v8_1).bind fun e14_6=>bif decide (t1_0=e14_6)then some (.inr (.inl v8_1))else some (.inl (IntKind.wrap .i64 (v8_1+(1:Int))))else some (.inr (.inr (v8_1,false)))
def eW(n:Nat)(t0_0:List (List UInt8))(t1_0:List UInt8):Option (Int):=
  (loopN (dJ n t0_0 t1_0) n (0:Int)).bind fun q=>(match q with | .inl v4_2=>some v4_2 | .inr (v8_3,v9_4)=>some ((-1):Int))
theorem uY{n:Nat}:wZ (eW n):=by
 intro t0_0 t1_0 r h
 unfold eW at h
 refine bF Try.func156 rfl rfl<|gco 8 rfl<|xLn rfl<|goc 2 rfl<|cLp h [(4,5),(8,18)] [] (fun v8_1=>([(8,I64 v8_1)],[])) (fun q=>match q with | .inl v4_2=>(.r,[(4,I64 v4_2)],[]) | .inr (v8_3,v9_4)=>(.e 0,[(8,I64 v8_3),(9,Bo v9_4)],[])) rfl (fun v8_1 _ h=> ?_) (fun q h=> ?_)
 unfold dJ at h
 refine gcc 5 rfl<|cIf h rfl (fun q5 h=> ?_) (fun q5 h=> ?_)
 refine gco 13 rfl<|xIx h oF rfl (fun e14_6 h=> ?_)
 refine goc 3 rfl<|cIf h rfl (fun q7 h=> ?_) (fun q7 h=> ?_)
 exact gec
 exact gec
 exact gec
 rcases q with v4_2 | ⟨v8_3,v9_4⟩
 exact en
 exact gec
abbrev tK(p:(List (List UInt8))→(List UInt8)→Option (Bool)):Prop:= ∀ {t0_0:List (List UInt8)} {t1_0:List UInt8} {r:Bool},p t0_0 t1_0=some r→Big Try.prog τ An (.fn 77 [.one (.c (.sl (t0_0.map dN))), .one (.c (.str t1_0))] [] (.one (.c (.bool r))) none [] none)
def dK(n:Nat)(t0_0:List (List UInt8))(t1_0:List UInt8):Option (Bool):=
  (eW n t0_0 t1_0).bind fun c7_1=>some (decide ((0:Int)≤c7_1))
theorem sI{n:Nat}:tK (dK n):=by
 intro t0_0 t1_0 r h
 unfold dK at h
 refine bF Try.func77 rfl rfl<|gco 8 rfl<|xC0 h (uY ·) rfl (fun c7_1 h=> ?_)
 exact geo
abbrev EK(p:Int→Option (Bool)):Prop:= ∀ {t0_0:Int} {r:Bool},p t0_0=some r→Big Try.prog τ An (.fn 258 [.one (.c (.int .u8 t0_0))] [] (.one (.c (.bool r))) none [] none)
def iL(n:Nat)(t0_0:Int):Option (Bool):=
  (bif decide ((65:Int)≤t0_0)then bif decide (t0_0≤(90:Int))then some true else some (decide (t0_0=(95:Int)))else some (decide (t0_0=(95:Int)))).bind fun v2_1=>some v2_1
theorem tB{n:Nat}:EK (iL n):=by
 intro t0_0 r h
 unfold iL at h
 refine bF Try.func258 rfl rfl<|gco 6 rfl<|oJn h [(2,12)] [] (fun v2_1=>(.n,[(2,Bo v2_1)],[])) (fun _ h=> ?_) (fun v2_1 h=> ?_)
 refine goo 3 rfl<|oIf 5 h rfl (fun q2 h=> ?_) (fun q2 h=> ?_)
 refine goo 4 rfl<|oIf 9 h rfl (fun q3 h=> ?_) (fun q3 h=> ?_)
 exact geo
 exact geo
 exact geo
 exact gec
abbrev AR(p:Int→Option (Bool)):Prop:= ∀ {t0_0:Int} {r:Bool},p t0_0=some r→Big Try.prog τ An (.fn 257 [.one (.c (.int .u8 t0_0))] [] (.one (.c (.bool r))) none [] none)
def gI(n:Nat)(t0_0:Int):Option (Bool):=
  ((gD n t0_0).bind fun c4_2=>bif c4_2 then some true else(iL n t0_0).bind fun c7_4=>bif c7_4 then some true else(eT n t0_0).bind fun c11_6=>some c11_6).bind fun v2_1=>some v2_1
theorem wY{n:Nat}:AR (gI n):=by
 intro t0_0 r h
 unfold gI at h
 refine bF Try.func257 rfl rfl<|gco 6 rfl<|oJn h [(2,12)] [] (fun v2_1=>(.n,[(2,Bo v2_1)],[])) (fun _ h=> ?_) (fun v2_1 h=> ?_)
 refine xMv rfl<|xC0 h (tA ·) rfl (fun c4_2 h=> ?_)
 refine xMv rfl<|oIf 5 h rfl (fun q3 h=> ?_) (fun q3 h=> ?_)
 exact geo
 refine xMv rfl<|xC0 h (tB ·) rfl (fun c7_4 h=> ?_)
 refine goo 2 rfl<|oIf 9 h rfl (fun q5 h=> ?_) (fun q5 h=> ?_)
 exact geo
 refine xMv rfl<|xC0 h (sB ·) rfl (fun c11_6 h=> ?_)
 exact geo
 exact gec
abbrev IX(p:(List UInt8)→Option (Bool)):Prop:= ∀ {t0_0:List UInt8} {r:Bool},p t0_0=some r→Big Try.prog τ An (.fn 227 [.one (.c (.str t0_0))] [] (.one (.c (.bool r))) none [] none)
def mM(n:Nat)(t0_0:List UInt8):(Int)→Option ((Int)⊕((Bool)⊕(Int×Bool)))
  | v3_1=>bif decide (v3_1<(t0_0.length:Int))then(ixs t0_0 v3_1).bind fun e12_6=>(gI n e12_6).bind fun c13_7=>bif !c13_7 then some (.inr (.inl false))else some (.inl (IntKind.wrap .i64 (v3_1+(1:Int))))else some (.inr (.inr (v3_1,false)))
def nQ(n:Nat)(t0_0:List UInt8):Option (Bool):=
  (loopN (mM n t0_0) n (0:Int)).bind fun q=>(match q with | .inl v2_2=>some v2_2 | .inr (v3_3,v7_4)=>((dA n (t0_0.length:Int) (1:Int) (20:Int)).bind fun c17_10=>bif c17_10 then(ixs t0_0 (0:Int)).bind fun e20_12=>(iL n e20_12).bind fun c21_13=>some c21_13 else some false).bind fun v2_9=>some v2_9)
theorem Dw{n:Nat}:IX (nQ n):=by
 intro t0_0 r h
 unfold nQ at h
 refine bF Try.func227 rfl rfl<|gcc 9 rfl<|cLp h [(2,14)] [] (fun v3_1=>([(3,I64 v3_1)],[])) (fun q=>match q with | .inl v2_2=>(.r,[(2,Bo v2_2)],[]) | .inr (v3_3,v7_4)=>(.e 0,[(3,I64 v3_3),(7,Bo v7_4)],[])) rfl (fun v3_1 _ h=> ?_) (fun q h=> ?_)
 unfold mM at h
 refine gco 5 rfl<|xLs rfl<|goc 2 rfl<|cIf h rfl (fun q5 h=> ?_) (fun q5 h=> ?_)
 refine gco 7 rfl<|MU h rfl rfl rfl rfl rfl (fun e12_6 h=> ?_)
 refine xC0 h (wY ·) rfl (fun c13_7 h=> ?_)
 refine goc 2 rfl<|cIf h rfl (fun q8 h=> ?_) (fun q8 h=> ?_)
 exact gec
 exact gec
 exact gec
 rcases q with v2_2 | ⟨v3_3,v7_4⟩
 exact en
 refine cRs<|oJn h [(2,2),(15,22)] [] (fun v2_9=>(.n,[(2,Bo v2_9)],[])) (fun _ h=> ?_) (fun v2_9 h=> ?_)
 refine xMv rfl<|xLs rfl<|xC0 h (fS ·) rfl (fun c17_10 h=> ?_)
 refine xMv rfl<|oIf 18 h rfl (fun q11 h=> ?_) (fun q11 h=> ?_)
 refine xMv rfl<|MU h rfl rfl rfl rfl rfl (fun e20_12 h=> ?_)
 refine xC0 h (tB ·) rfl (fun c21_13 h=> ?_)
 exact geo
 exact geo
 exact gec
abbrev EH(p:(List UInt8)→Option (Bool)):Prop:= ∀ {t0_0:List UInt8} {r:Bool},p t0_0=some r→Big Try.prog τ An (.fn 228 [.one (.c (.str t0_0))] [] (.one (.c (.bool r))) none [] none)
def iK(n:Nat)(t0_0:List UInt8):Option (Bool):=
  ((jO n t0_0).bind fun c4_2=>bif c4_2 then bif !decide (t0_0=([99,97,115,101]:List UInt8))then bif !decide (t0_0=([111,102]:List UInt8))then some (!decide (t0_0=([101,110,100]:List UInt8)))else some false else some false else some false).bind fun v2_1=>some v2_1
theorem sZ{n:Nat}:EH (iK n):=by
 intro t0_0 r h
 unfold iK at h
 refine bF Try.func228 rfl rfl<|gco 6 rfl<|oJn h [(2,16)] [] (fun v2_1=>(.n,[(2,Bo v2_1)],[])) (fun _ h=> ?_) (fun v2_1 h=> ?_)
 refine xMv rfl<|xC0 h (uO ·) rfl (fun c4_2 h=> ?_)
 refine xMv rfl<|oIf 5 h rfl (fun q3 h=> ?_) (fun q3 h=> ?_)
 refine goo 4 rfl<|oIf 9 h rfl (fun q4 h=> ?_) (fun q4 h=> ?_)
 refine goo 4 rfl<|oIf 13 h rfl (fun q5 h=> ?_) (fun q5 h=> ?_)
 exact geo
 exact geo
 exact geo
 exact geo
 exact gec
abbrev KM(p:(List UInt8)→Option (Bool)):Prop:= ∀ {t0_0:List UInt8} {r:Bool},p t0_0=some r→Big Try.prog τ An (.fn 261 [.one (.c (.str t0_0))] [] (.one (.c (.bool r))) none [] none)
def pE(n:Nat)(t0_0:List UInt8):Option (Bool):=
  bif decide (t0_0=([43]:List UInt8))then some true else bif decide (t0_0=([45]:List UInt8))then some true else bif decide (t0_0=([42]:List UInt8))then some true else bif decide (t0_0=([61,61]:List UInt8))then some true else bif decide (t0_0=([60]:List UInt8))then some true else some false
theorem GK{n:Nat}:KM (pE n):=by
 intro t0_0 r h
 unfold pE at h
 refine bF Try.func261 rfl rfl<|gcc 16 rfl<|cIf h rfl (fun q1 h=> ?_) (fun q1 h=> ?_)
 exact gec
 refine gcc 5 rfl<|cIf h rfl (fun q2 h=> ?_) (fun q2 h=> ?_)
 exact gec
 refine gcc 5 rfl<|cIf h rfl (fun q3 h=> ?_) (fun q3 h=> ?_)
 exact gec
 refine gcc 5 rfl<|cIf h rfl (fun q4 h=> ?_) (fun q4 h=> ?_)
 exact gec
 refine gcc 4 rfl<|cIf h rfl (fun q5 h=> ?_) (fun q5 h=> ?_)
 exact gec
 exact gec
abbrev EI(p:Int→Int→(List UInt8)→Int→Option (Bool)):Prop:= ∀ {t0_0 t1_0:Int} {t2_0:List UInt8} {t3_0:Int} {r:Bool},p t0_0 t1_0 t2_0 t3_0=some r→Big Try.prog τ An (.fn 234 [.one (.c (.int .i64 t0_0)), .one (.c (.int .i64 t1_0)), .one (.c (.str t2_0)), .one (.c (.int .i64 t3_0))] [] (.one (.c (.bool r))) none [] none)
def kI(n:Nat)(t0_0:Int)(t1_0:Int)(t2_0:List UInt8)(t3_0:Int):Option (Bool):=
  bif decide (t0_0=(1:Int))then((dA n t1_0 (0:Int) (1000000000000:Int)).bind fun c13_3=>bif c13_3 then bif decide (t2_0=([]:List UInt8))then some (decide (t3_0=(0:Int)))else some false else some false).bind fun v8_2=>some v8_2 else bif decide (t0_0=(2:Int))then(bif decide (t1_0=(0:Int))then(iK n t2_0).bind fun c28_9=>bif c28_9 then some (decide (t3_0=(0:Int)))else some false else some false).bind fun v8_7=>some v8_7 else bif decide (t0_0=(3:Int))then(bif decide (t1_0=(0:Int))then(nQ n t2_0).bind fun c40_14=>bif c40_14 then some (decide (t3_0=(0:Int)))else some false else some false).bind fun v8_12=>some v8_12 else bif decide (t0_0=(4:Int))then(bif decide (t1_0=(0:Int))then bif decide (t2_0=([]:List UInt8))then some (decide (t3_0≤(20:Int)))else some false else some false).bind fun v8_17=>some v8_17 else bif decide (t0_0=(5:Int))then(bif decide (t1_0=(0:Int))then bif decide (t2_0=([]:List UInt8))then some (decide (t3_0≤(20:Int)))else some false else some false).bind fun v8_21=>some v8_21 else bif decide (t0_0=(6:Int))then(bif decide (t1_0=(0:Int))then bif decide (t2_0=([]:List UInt8))then(dA n t3_0 (2:Int) (6:Int)).bind fun c69_28=>some c69_28 else some false else some false).bind fun v8_25=>some v8_25 else bif decide (t0_0=(7:Int))then(bif decide (t1_0=(0:Int))then(pE n t2_0).bind fun c77_32=>bif c77_32 then some (decide (t3_0=(2:Int)))else some false else some false).bind fun v8_30=>some v8_30 else bif decide (t0_0=(8:Int))then(bif decide (t1_0=(0:Int))then(iK n t2_0).bind fun c89_37=>bif c89_37 then some (decide (t3_0≤(4:Int)))else some false else some false).bind fun v8_35=>some v8_35 else bif decide (t0_0=(9:Int))then(bif decide (t1_0=(0:Int))then bif decide (t2_0=([]:List UInt8))then some (decide (t3_0=(1:Int)))else some false else some false).bind fun v8_40=>some v8_40 else some false
theorem Bc{n:Nat}:EI (kI n):=by
 intro t0_0 t1_0 t2_0 t3_0 r h
 unfold kI at h
 refine bF Try.func234 rfl rfl<|gcc 15 rfl<|cIf h rfl (fun q1 h=> ?_) (fun q1 h=> ?_)
 refine cRs<|oJn h [(8,8),(12,21)] [] (fun v8_2=>(.n,[(8,Bo v8_2)],[])) (fun _ h=> ?_) (fun v8_2 h=> ?_)
 refine xMv rfl<|xC0 h (fS ·) rfl (fun c13_3 h=> ?_)
 refine xMv rfl<|oIf 14 h rfl (fun q4 h=> ?_) (fun q4 h=> ?_)
 refine goo 4 rfl<|oIf 18 h rfl (fun q5 h=> ?_) (fun q5 h=> ?_)
 exact geo
 exact geo
 exact geo
 exact gec
 refine gcc 5 rfl<|cIf h rfl (fun q6 h=> ?_) (fun q6 h=> ?_)
 refine cRs<|oJn h [(8,8),(24,33)] [] (fun v8_7=>(.n,[(8,Bo v8_7)],[])) (fun _ h=> ?_) (fun v8_7 h=> ?_)
 refine goo 3 rfl<|oIf 26 h rfl (fun q8 h=> ?_) (fun q8 h=> ?_)
 refine xMv rfl<|xC0 h (sZ ·) rfl (fun c28_9 h=> ?_)
 refine goo 2 rfl<|oIf 30 h rfl (fun q10 h=> ?_) (fun q10 h=> ?_)
 exact geo
 exact geo
 exact geo
 exact gec
 refine gcc 5 rfl<|cIf h rfl (fun q11 h=> ?_) (fun q11 h=> ?_)
 refine cRs<|oJn h [(8,8),(36,45)] [] (fun v8_12=>(.n,[(8,Bo v8_12)],[])) (fun _ h=> ?_) (fun v8_12 h=> ?_)
 refine goo 3 rfl<|oIf 38 h rfl (fun q13 h=> ?_) (fun q13 h=> ?_)
 refine xMv rfl<|xC0 h (Dw ·) rfl (fun c40_14 h=> ?_)
 refine goo 2 rfl<|oIf 42 h rfl (fun q15 h=> ?_) (fun q15 h=> ?_)
 exact geo
 exact geo
 exact geo
 exact gec
 refine gcc 6 rfl<|cIf h rfl (fun q16 h=> ?_) (fun q16 h=> ?_)
 refine gco 4 rfl<|oJn h [(8,8),(49,58)] [] (fun v8_17=>(.n,[(8,Bo v8_17)],[])) (fun _ h=> ?_) (fun v8_17 h=> ?_)
 refine goo 3 rfl<|oIf 51 h rfl (fun q18 h=> ?_) (fun q18 h=> ?_)
 refine goo 4 rfl<|oIf 55 h rfl (fun q19 h=> ?_) (fun q19 h=> ?_)
 exact geo
 exact geo
 exact geo
 exact gec
 refine gcc 4 rfl<|cIf h rfl (fun q20 h=> ?_) (fun q20 h=> ?_)
 refine cRs<|oJn h [(8,8),(49,58)] [] (fun v8_21=>(.n,[(8,Bo v8_21)],[])) (fun _ h=> ?_) (fun v8_21 h=> ?_)
 refine goo 3 rfl<|oIf 51 h rfl (fun q22 h=> ?_) (fun q22 h=> ?_)
 refine goo 4 rfl<|oIf 55 h rfl (fun q23 h=> ?_) (fun q23 h=> ?_)
 exact geo
 exact geo
 exact geo
 exact gec
 refine gcc 5 rfl<|cIf h rfl (fun q24 h=> ?_) (fun q24 h=> ?_)
 refine cRs<|oJn h [(8,8),(61,70)] [] (fun v8_25=>(.n,[(8,Bo v8_25)],[])) (fun _ h=> ?_) (fun v8_25 h=> ?_)
 refine goo 3 rfl<|oIf 63 h rfl (fun q26 h=> ?_) (fun q26 h=> ?_)
 refine goo 4 rfl<|oIf 67 h rfl (fun q27 h=> ?_) (fun q27 h=> ?_)
 refine xMv rfl<|xC0 h (fS ·) rfl (fun c69_28 h=> ?_)
 exact geo
 exact geo
 exact geo
 exact gec
 refine gcc 5 rfl<|cIf h rfl (fun q29 h=> ?_) (fun q29 h=> ?_)
 refine cRs<|oJn h [(8,8),(73,82)] [] (fun v8_30=>(.n,[(8,Bo v8_30)],[])) (fun _ h=> ?_) (fun v8_30 h=> ?_)
 refine goo 3 rfl<|oIf 75 h rfl (fun q31 h=> ?_) (fun q31 h=> ?_)
 refine xMv rfl<|xC0 h (GK ·) rfl (fun c77_32 h=> ?_)
 refine goo 2 rfl<|oIf 79 h rfl (fun q33 h=> ?_) (fun q33 h=> ?_)
 exact geo
 exact geo
 exact geo
 exact gec
 refine gcc 5 rfl<|cIf h rfl (fun q34 h=> ?_) (fun q34 h=> ?_)
 refine cRs<|oJn h [(8,8),(85,94)] [] (fun v8_35=>(.n,[(8,Bo v8_35)],[])) (fun _ h=> ?_) (fun v8_35 h=> ?_)
 refine goo 3 rfl<|oIf 87 h rfl (fun q36 h=> ?_) (fun q36 h=> ?_)
 refine xMv rfl<|xC0 h (sZ ·) rfl (fun c89_37 h=> ?_)
 refine goo 2 rfl<|oIf 91 h rfl (fun q38 h=> ?_) (fun q38 h=> ?_)
 exact geo
 exact geo
 exact geo
 exact gec
 refine gcc 5 rfl<|cIf h rfl (fun q39 h=> ?_) (fun q39 h=> ?_)
 refine cRs<|oJn h [(8,8),(97,106)] [] (fun v8_40=>(.n,[(8,Bo v8_40)],[])) (fun _ h=> ?_) (fun v8_40 h=> ?_)
 refine goo 3 rfl<|oIf 99 h rfl (fun q41 h=> ?_) (fun q41 h=> ?_)
 refine goo 4 rfl<|oIf 103 h rfl (fun q42 h=> ?_) (fun q42 h=> ?_)
 exact geo
 exact geo
 exact geo
 exact gec
 exact gec
abbrev dZ:Type:=Int→Int→(List UInt8)→(List aA)→(List aC)→Int→Int→(List (List UInt8))→Option (Bool×Int×(List (List UInt8)))
abbrev lB(p:dZ):Prop:= ∀ {t1_0 t1_1:Int} {t1_2:List UInt8} {t1_3:List aA} {t1_4:List aC} {t2_0 o0_0:Int} {o0_1:List (List UInt8)} {r:Bool×Int×(List (List UInt8))},p t1_0 t1_1 t1_2 t1_3 t1_4 t2_0 o0_0 o0_1=some r→Big Try.prog τ An (.fn 192 [.one (.ptr 1000000 0), .one (.ag [.int .i64 t1_0, .int .i64 t1_1, .str t1_2, .sl (t1_3.map aE), .sl (t1_4.map aD)]), .one (.c (.int .i64 t2_0))] [[.int .i64 o0_0, .sl (o0_1.map dN)]] (.one (.c (.bool r.1))) none [[.int .i64 r.2.1, .sl (r.2.2.map dN)]] none)
def eZ(n:Nat)(r_impl_judge_pat:dZ)(t2_0:Int)(t1_3:List aA):(Int×Int×(List (List UInt8)))→Option ((Int×Int×(List (List UInt8)))⊕((Bool×Int×(List (List UInt8)))⊕(Int×Bool×Int×(List (List UInt8)))))
  | (v78_14,w1000000_15,w1000000_16)=>bif decide (v78_14<(t1_3.length:Int))then(ix t1_3 v78_14).bind fun e80_25=>(r_impl_judge_pat e80_25.f0 e80_25.f1 e80_25.f2 e80_25.f3 e80_25.f4 (IntKind.wrap .i64 (t2_0+(1:Int))) w1000000_15 w1000000_16).bind fun c86_26=>bif !c86_26.1 then some (.inr (.inl (false,c86_26.2.1,c86_26.2.2)))else some (.inl ((IntKind.wrap .i64 (v78_14+(1:Int))),c86_26.2.1,c86_26.2.2))else some (.inr (.inr (v78_14,false,w1000000_15,w1000000_16)))
def cB(n:Nat)(r_impl_judge_pat:dZ)(t2_0:Int)(t1_3:List aA):(Int×Int×(List (List UInt8)))→Option ((Int×Int×(List (List UInt8)))⊕((Bool×Int×(List (List UInt8)))⊕(Int×Bool×Int×(List (List UInt8)))))
  | (v78_28,w1000000_29,w1000000_30)=>bif decide (v78_28<(t1_3.length:Int))then(ix t1_3 v78_28).bind fun e80_39=>(r_impl_judge_pat e80_39.f0 e80_39.f1 e80_39.f2 e80_39.f3 e80_39.f4 (IntKind.wrap .i64 (t2_0+(1:Int))) w1000000_29 w1000000_30).bind fun c86_40=>bif !c86_40.1 then some (.inr (.inl (false,c86_40.2.1,c86_40.2.2)))else some (.inl ((IntKind.wrap .i64 (v78_28+(1:Int))),c86_40.2.1,c86_40.2.2))else some (.inr (.inr (v78_28,false,w1000000_29,w1000000_30)))
def iA(n:Nat)(r_impl_judge_pat:dZ)(t1_0:Int)(t1_1:Int)(t1_2:List UInt8)(t1_3:List aA)(t1_4:List aC)(t2_0:Int)(o0_0:Int)(o0_1:List (List UInt8)):Option (Bool×Int×(List (List UInt8))):=
  (bif decide ((10:Int)<t2_0)then some true else bif decide ((300:Int)<(IntKind.wrap .i64 (o0_0+(1:Int))))then some true else bif decide ((6:Int)<t1_0)then some true else bif decide ((0:Int)<(t1_4.length:Int))then some true else(kI n t1_0 t1_1 t1_2 (t1_3.length:Int)).bind fun c46_6=>some (!c46_6)).bind fun v48_1=>bif v48_1 then some (false,(IntKind.wrap .i64 (o0_0+(1:Int))),o0_1)else(bif decide (t1_0=(3:Int))then some (!decide (t1_2=([95]:List UInt8)))else some false).bind fun v56_8=>bif v56_8 then(dK n o0_1 t1_2).bind fun c63_11=>bif c63_11 then some (false,(IntKind.wrap .i64 (o0_0+(1:Int))),o0_1)else(gA 16 o0_1 ([t1_2]:List (List UInt8))).bind fun v72_13=>(loopN (eZ n r_impl_judge_pat t2_0 t1_3) n ((0:Int),(IntKind.wrap .i64 (o0_0+(1:Int))),v72_13)).bind fun q=>(match q with | .inl (v6_17,w1000000_18,w1000000_19)=>some (v6_17,w1000000_18,w1000000_19) | .inr (v78_20,v79_21,w1000000_22,w1000000_23)=>some (true,w1000000_22,w1000000_23))else(loopN (cB n r_impl_judge_pat t2_0 t1_3) n ((0:Int),(IntKind.wrap .i64 (o0_0+(1:Int))),o0_1)).bind fun q=>(match q with | .inl (v6_31,w1000000_32,w1000000_33)=>some (v6_31,w1000000_32,w1000000_33) | .inr (v78_34,v79_35,w1000000_36,w1000000_37)=>some (true,w1000000_36,w1000000_37))
theorem wT{n:Nat}{r_impl_judge_pat:dZ}(ih_impl_judge_pat:lB r_impl_judge_pat):lB (iA n r_impl_judge_pat):=by
 intro t1_0 t1_1 t1_2 t1_3 t1_4 t2_0 o0_0 o0_1 r h
 unfold iA at h
 refine bF Try.func192 rfl rfl<|gco 19 rfl<|oJn h [(16,48)] [] (fun v48_1=>(.n,[(48,Bo v48_1)],[])) (fun _ h=> ?_) (fun v48_1 h=> ?_)
 refine goo 3 rfl<|oIf 18 h rfl (fun q2 h=> ?_) (fun q2 h=> ?_)
 exact geo
 refine goo 7 rfl<|oIf 25 h rfl (fun q3 h=> ?_) (fun q3 h=> ?_)
 exact geo
 refine goo 5 rfl<|oIf 30 h rfl (fun q4 h=> ?_) (fun q4 h=> ?_)
 exact geo
 refine goo 2 rfl<|xLn rfl<|goo 3 rfl<|oIf 36 h rfl (fun q5 h=> ?_) (fun q5 h=> ?_)
 exact geo
 refine goo 8 rfl<|xLn rfl<|xC0 h (Bc ·) rfl (fun c46_6 h=> ?_)
 exact geo
 refine cIf h rfl (fun q7 h=> ?_) (fun q7 h=> ?_)
 exact gec
 refine gco 4 rfl<|oJn h [(49,56)] [] (fun v56_8=>(.n,[(56,Bo v56_8)],[])) (fun _ h=> ?_) (fun v56_8 h=> ?_)
 refine goo 4 rfl<|oIf 52 h rfl (fun q9 h=> ?_) (fun q9 h=> ?_)
 exact geo
 exact geo
 refine cIf h rfl (fun q10 h=> ?_) (fun q10 h=> ?_)
 refine gco 9 rfl<|xC0 h (sI ·) rfl (fun c63_11 h=> ?_)
 refine oNl<|cIf h rfl (fun q12 h=> ?_) (fun q12 h=> ?_)
 exact gec
 refine gco 9 rfl<|cY (L:=([t1_2]:List (List UInt8))) (f:=dN) rfl rfl rfl rfl rfl rfl rfl<|wAp (f:=dN) h rfl rfl rfl rfl rfl rfl rfl rfl rfl (fun _=>rfl) rfl (fun v72_13 h=> ?_)
 refine goo 9 rfl<|xLn rfl<|goc 2 rfl<|cLp h [(6,6),(8,8),(78,88)] [(8,8),(1000000,1000000)] (fun(v78_14,w1000000_15,w1000000_16)=>([(78,I64 v78_14)],[(1000000,[.int .i64 w1000000_15, .sl (w1000000_16.map dN)])])) (fun q=>match q with | .inl (v6_17,w1000000_18,w1000000_19)=>(.r,[(6,Bo v6_17)],[(1000000,[.int .i64 w1000000_18, .sl (w1000000_19.map dN)])]) | .inr (v78_20,v79_21,w1000000_22,w1000000_23)=>(.e 0,[(78,I64 v78_20),(79,Bo v79_21)],[(1000000,[.int .i64 w1000000_22, .sl (w1000000_23.map dN)])])) rfl (fun st _ h=> ?_) (fun q h=> ?_)
 obtain⟨v78_14,w1000000_15,w1000000_16⟩:=st
 unfold eZ at h
 refine gcc 5 rfl<|cIf h rfl (fun q24 h=> ?_) (fun q24 h=> ?_)
 refine gco 5 rfl<|xIx h aL rfl (fun e80_25 h=> ?_)
 refine xLd rfl<|xAz [.int .i64 0, .int .i64 0, .str [], .sl ([].map aE), .sl ([].map aD)] rfl<|goo 8 rfl<|xC1 h (ih_impl_judge_pat ·) rfl (fun c86_26 h=> ?_)
 refine goc 2 rfl<|cIf h rfl (fun q27 h=> ?_) (fun q27 h=> ?_)
 exact gec
 exact gec
 exact gec
 rcases q with⟨v6_17,w1000000_18,w1000000_19⟩ | ⟨v78_20,v79_21,w1000000_22,w1000000_23⟩
 exact en
 exact gec
 refine gco 6 rfl<|xLn rfl<|goc 2 rfl<|cLp h [(6,6),(8,8),(78,88)] [(8,8),(1000000,1000000)] (fun(v78_28,w1000000_29,w1000000_30)=>([(78,I64 v78_28)],[(1000000,[.int .i64 w1000000_29, .sl (w1000000_30.map dN)])])) (fun q=>match q with | .inl (v6_31,w1000000_32,w1000000_33)=>(.r,[(6,Bo v6_31)],[(1000000,[.int .i64 w1000000_32, .sl (w1000000_33.map dN)])]) | .inr (v78_34,v79_35,w1000000_36,w1000000_37)=>(.e 0,[(78,I64 v78_34),(79,Bo v79_35)],[(1000000,[.int .i64 w1000000_36, .sl (w1000000_37.map dN)])])) rfl (fun st _ h=> ?_) (fun q h=> ?_)
 obtain⟨v78_28,w1000000_29,w1000000_30⟩:=st
 unfold cB at h
 refine gcc 5 rfl<|cIf h rfl (fun q38 h=> ?_) (fun q38 h=> ?_)
 refine gco 5 rfl<|xIx h aL rfl (fun e80_39 h=> ?_)
 refine xLd rfl<|xAz [.int .i64 0, .int .i64 0, .str [], .sl ([].map aE), .sl ([].map aD)] rfl<|goo 8 rfl<|xC1 h (ih_impl_judge_pat ·) rfl (fun c86_40 h=> ?_)
 refine goc 2 rfl<|cIf h rfl (fun q41 h=> ?_) (fun q41 h=> ?_)
 exact gec
 exact gec
 exact gec
 rcases q with⟨v6_31,w1000000_32,w1000000_33⟩ | ⟨v78_34,v79_35,w1000000_36,w1000000_37⟩
 exact en
 exact gec
def sU:Nat→(dZ)
  | 0=>(fun _ _ _ _ _ _ _ _=>none)
  | n+1=>iA n (sU n)
def bT(n:Nat):dZ:=sU n
theorem wW(n:Nat):lB (bT n):=by
  induction n with
  | zero=>exact(fun h=>nomatch h)
  | succ n ih=>exact wT (n:=n) ih
theorem zK{n:Nat}:lB (bT n):=(wW n)
theorem uW(n:Nat):bT (n+1)=iA n (bT n):=rfl
abbrev IY(p:Int→Int→(List UInt8)→(List aA)→(List aC)→Option (Bool)):Prop:= ∀ {t0_0 t0_1:Int} {t0_2:List UInt8} {t0_3:List aA} {t0_4:List aC} {r:Bool},p t0_0 t0_1 t0_2 t0_3 t0_4=some r→Big Try.prog τ An (.fn 123 [.one (.ag [.int .i64 t0_0, .int .i64 t0_1, .str t0_2, .sl (t0_3.map aE), .sl (t0_4.map aD)])] [] (.one (.c (.bool r))) none [] none)
def iU(n:Nat)(t0_0:Int)(t0_1:Int)(t0_2:List UInt8)(t0_3:List aA)(t0_4:List aC):Option (Bool):=
  (bT n t0_0 t0_1 t0_2 t0_3 t0_4 (1:Int) (0:Int) ([]:List (List UInt8))).bind fun c5_1=>some c5_1.1
theorem vX{n:Nat}:IY (iU n):=by
 intro t0_0 t0_1 t0_2 t0_3 t0_4 r h
 unfold iU at h
 refine bF Try.func123 rfl rfl<|gco 7 rfl<|xAz [.int .i64 0, .sl ([].map dN)] rfl<|goo 4 rfl<|xC1 h (zK ·) rfl (fun c5_1 h=> ?_)
 exact geo
abbrev eA:Type:=(List aB)→Option ((List aB))
abbrev iI(p:eA):Prop:= ∀ {t0_0:List aB} {r:(List aB)},p t0_0=some r→Big Try.prog τ An (.fn 112 [.one (.c (.sl (t0_0.map aF)))] [] (.one (.c (.sl (r.map aF)))) none [] none)
abbrev dR:Type:=Int→Int→(List UInt8)→(List aB)→Option (Int×Int×(List UInt8)×(List aB))
abbrev jG(p:dR):Prop:= ∀ {t0_0 t0_1:Int} {t0_2:List UInt8} {t0_3:List aB} {r:Int×Int×(List UInt8)×(List aB)},p t0_0 t0_1 t0_2 t0_3=some r→Big Try.prog τ An (.fn 132 [.one (.ag [.int .i64 t0_0, .int .i64 t0_1, .str t0_2, .sl (t0_3.map aF)])] [] (.one (.ag [.int .i64 r.1, .int .i64 r.2.1, .str r.2.2.1, .sl (r.2.2.2.map aF)])) none [] none)
def fA(n:Nat)(r_impl_copyTerm:dR)(t0_0:List aB):((List aB)×Int)→Option (((List aB)×Int)⊕(((List aB)×Int×Bool)))
  | (v3_1,v8_2)=>bif decide (v8_2<(t0_0.length:Int))then(ix t0_0 v8_2).bind fun e10_7=>(r_impl_copyTerm e10_7.f0 e10_7.f1 e10_7.f2 e10_7.f3).bind fun c14_8=>(gA 56 v3_1 ([aB.mk c14_8.1 c14_8.2.1 c14_8.2.2.1 c14_8.2.2.2]:List aB)).bind fun v16_9=>some (.inl (v16_9,(IntKind.wrap .i64 (v8_2+(1:Int)))))else some (.inr (v3_1,v8_2,false))
def iB(n:Nat)(r_impl_copyTerms:eA)(r_impl_copyTerm:dR)(t0_0:List aB):Option ((List aB)):=
  (loopN (fA n r_impl_copyTerm t0_0) n (([]:List aB),(0:Int))).bind fun(v3_3,v8_4,v9_5)=>some v3_3
theorem wU{n:Nat}{r_impl_copyTerms:eA}(ih_impl_copyTerms:iI r_impl_copyTerms){r_impl_copyTerm:dR}(ih_impl_copyTerm:jG r_impl_copyTerm):iI (iB n r_impl_copyTerms r_impl_copyTerm):=by
 intro t0_0 r h
 unfold iB at h
 refine bF Try.func112 rfl rfl<|cRs<|wAe (Li aF []) rfl rfl rfl rfl<|oRs<|wAe (Li aF []) rfl rfl rfl rfl<|goo 5 rfl<|xLn rfl<|goc 2 rfl<|cLp h [(3,3),(5,5),(8,17)] [(5,5)] (fun(v3_1,v8_2)=>([(3,Li aF v3_1),(8,I64 v8_2)],[])) (fun(v3_3,v8_4,v9_5)=>(.e 0,[(3,Li aF v3_3),(8,I64 v8_4),(9,Bo v9_5)],[])) rfl (fun st _ h=> ?_) (fun q h=> ?_)
 obtain⟨v3_1,v8_2⟩:=st
 unfold fA at h
 refine gcc 5 rfl<|cIf h rfl (fun q6 h=> ?_) (fun q6 h=> ?_)
 refine gco 5 rfl<|xIx h aO rfl (fun e10_7 h=> ?_)
 refine xLd rfl<|xAz [.int .i64 0, .int .i64 0, .str [], .sl ([].map aF)] rfl<|goo 5 rfl<|xC0 h (ih_impl_copyTerm ·) rfl (fun c14_8 h=> ?_)
 refine cY (L:=([aB.mk c14_8.1 c14_8.2.1 c14_8.2.2.1 c14_8.2.2.2]:List aB)) (f:=aF) rfl rfl rfl rfl (by simp only[List.map,dC]<;>rfl) rfl rfl<|wAp (f:=aF) h rfl rfl rfl rfl rfl rfl rfl rfl rfl (fun a=>by rw[aO]; rfl) rfl (fun v16_9 h=> ?_)
 exact geo
 exact gec
 obtain⟨v3_3,v8_4,v9_5⟩:=q
 exact gec
def jA(n:Nat)(r_impl_copyTerms:eA)(r_impl_copyTerm:dR)(t0_0:Int)(t0_1:Int)(t0_2:List UInt8)(t0_3:List aB):Option (Int×Int×(List UInt8)×(List aB)):=
  (r_impl_copyTerms t0_3).bind fun c5_1=>some (t0_0,t0_1,t0_2,c5_1)
theorem yX{n:Nat}{r_impl_copyTerms:eA}(ih_impl_copyTerms:iI r_impl_copyTerms){r_impl_copyTerm:dR}(ih_impl_copyTerm:jG r_impl_copyTerm):jG (jA n r_impl_copyTerms r_impl_copyTerm):=by
 intro t0_0 t0_1 t0_2 t0_3 r h
 unfold jA at h
 refine bF Try.func132 rfl rfl<|gco 3 rfl<|xAz [.int .i64 0, .int .i64 0, .str [], .sl ([].map aF)] rfl<|goo 5 rfl<|xC0 h (ih_impl_copyTerms ·) rfl (fun c5_1 h=> ?_)
 exact geo
def fN:Nat→(eA)×(dR)
  | 0=>((fun _=>none),(fun _ _ _ _=>none))
  | n+1=>(iB n ((fN n).1) ((fN n).2),jA n ((fN n).1) ((fN n).2))
def fQ(n:Nat):eA:=(fN n).1
def bZ(n:Nat):dR:=(fN n).2
theorem pR(n:Nat):iI (fQ n)∧jG (bZ n):=by
  induction n with
  | zero=>exact⟨(fun h=>nomatch h),(fun h=>nomatch h)⟩
  | succ n ih=>exact⟨wU (n:=n) (ih.1) (ih.2),yX (n:=n) (ih.1) (ih.2)⟩
theorem LE{n:Nat}:iI (fQ n):=(pR n).1
theorem sC{n:Nat}:jG (bZ n):=(pR n).2
theorem uX(n:Nat):fQ (n+1)=iB n (fQ n) (bZ n):=rfl
theorem vN(n:Nat):bZ (n+1)=jA n (fQ n) (bZ n):=rfl
abbrev eU:Type:=(List aA)→(List aB)→(List aG)→Option ((List aG)×Bool)
abbrev jF(p:eU):Prop:= ∀ {t0_0:List aA} {t1_0:List aB} {t2_0:List aG} {r:(List aG)×Bool},p t0_0 t1_0 t2_0=some r→Big Try.prog τ An (.fn 193 [.one (.c (.sl (t0_0.map aE))), .one (.c (.sl (t1_0.map aF))), .one (.c (.sl (t2_0.map aM)))] [] (.tup [.c (.sl (r.1.map aM)), .c (.bool r.2)]) none [] none)
abbrev gL:Type:=Int→Int→(List UInt8)→(List aA)→(List aC)→Int→Int→(List UInt8)→(List aB)→(List aG)→Option ((List aG)×Bool)
abbrev nS(p:gL):Prop:= ∀ {t0_0 t0_1:Int} {t0_2:List UInt8} {t0_3:List aA} {t0_4:List aC} {t1_0 t1_1:Int} {t1_2:List UInt8} {t1_3:List aB} {t2_0:List aG} {r:(List aG)×Bool},p t0_0 t0_1 t0_2 t0_3 t0_4 t1_0 t1_1 t1_2 t1_3 t2_0=some r→Big Try.prog τ An (.fn 124 [.one (.ag [.int .i64 t0_0, .int .i64 t0_1, .str t0_2, .sl (t0_3.map aE), .sl (t0_4.map aD)]), .one (.ag [.int .i64 t1_0, .int .i64 t1_1, .str t1_2, .sl (t1_3.map aF)]), .one (.c (.sl (t2_0.map aM)))] [] (.tup [.c (.sl (r.1.map aM)), .c (.bool r.2)]) none [] none)
def dW(n:Nat)(r_impl_match:gL)(t0_0:List aA)(t1_0:List aB):((List aG)×Int)→Option (((List aG)×Int)⊕(((List aG)×Bool)⊕((List aG)×Int×Bool)))
  | (v2_1,v13_2)=>bif decide (v13_2<(t0_0.length:Int))then(ix t0_0 v13_2).bind fun e16_9=>(ix t1_0 v13_2).bind fun e22_10=>(r_impl_match e16_9.f0 e16_9.f1 e16_9.f2 e16_9.f3 e16_9.f4 e22_10.f0 e22_10.f1 e22_10.f2 e22_10.f3 v2_1).bind fun c25_11=>bif !c25_11.2 then some (.inr (.inl (c25_11.1,false)))else some (.inl (c25_11.1,(IntKind.wrap .i64 (v13_2+(1:Int)))))else some (.inr (.inr (v2_1,v13_2,false)))
def iZ(n:Nat)(r_impl_match:gL)(r_impl_matchAll:eU)(t0_0:List aA)(t1_0:List aB)(t2_0:List aG):Option ((List aG)×Bool):=
  (loopN (dW n r_impl_match t0_0 t1_0) n (t2_0,(0:Int))).bind fun q=>(match q with | .inl (v6_3,v7_4)=>some (v6_3,v7_4) | .inr (v2_5,v13_6,v14_7)=>some (v2_5,true))
theorem yW{n:Nat}{r_impl_match:gL}(ih_impl_match:nS r_impl_match){r_impl_matchAll:eU}(ih_impl_matchAll:jF r_impl_matchAll):jF (iZ n r_impl_match r_impl_matchAll):=by
 intro t0_0 t1_0 t2_0 r h
 unfold iZ at h
 refine bF Try.func193 rfl rfl<|cRs<|wAe (Li aM []) rfl rfl rfl rfl<|goo 10 rfl<|xLn rfl<|goc 2 rfl<|cLp h [(2,2),(6,10),(13,31)] [(10,10)] (fun(v2_1,v13_2)=>([(2,Li aM v2_1),(13,I64 v13_2)],[])) (fun q=>match q with | .inl (v6_3,v7_4)=>(.r,[(6,Li aM v6_3),(7,Bo v7_4)],[]) | .inr (v2_5,v13_6,v14_7)=>(.e 0,[(2,Li aM v2_5),(13,I64 v13_6),(14,Bo v14_7)],[])) rfl (fun st _ h=> ?_) (fun q h=> ?_)
 obtain⟨v2_1,v13_2⟩:=st
 unfold dW at h
 refine gcc 5 rfl<|cIf h rfl (fun q8 h=> ?_) (fun q8 h=> ?_)
 refine gco 6 rfl<|xIx h aL rfl (fun e16_9 h=> ?_)
 refine xLd rfl<|xAz [.int .i64 0, .int .i64 0, .str [], .sl ([].map aE), .sl ([].map aD)] rfl<|goo 8 rfl<|xIx h aO rfl (fun e22_10 h=> ?_)
 refine goo 2 rfl<|xC0 h (ih_impl_match ·) rfl (fun c25_11 h=> ?_)
 refine goc 11 rfl<|cIf h rfl (fun q12 h=> ?_) (fun q12 h=> ?_)
 exact gec
 exact gec
 exact gec
 rcases q with⟨v6_3,v7_4⟩ | ⟨v2_5,v13_6,v14_7⟩
 exact en
 exact gec
def nK(n:Nat)(r_impl_match:gL)(r_impl_matchAll:eU)(t0_0:Int)(t0_1:Int)(t0_2:List UInt8)(t0_3:List aA)(t0_4:List aC)(t1_0:Int)(t1_1:Int)(t1_2:List UInt8)(t1_3:List aB)(t2_0:List aG):Option ((List aG)×Bool):=
  bif decide (t0_0=(1:Int))then(bif decide (t1_0=(1:Int))then some (decide (t1_1=t0_1))else some false).bind fun v7_2=>some (t2_0,v7_2)else bif decide (t0_0=(2:Int))then(bif decide (t1_0=(2:Int))then some (decide (t1_2=t0_2))else some false).bind fun v7_5=>some (t2_0,v7_5)else bif decide (t0_0=(3:Int))then bif !decide (t0_2=([95]:List UInt8))then(bZ n t1_0 t1_1 t1_2 t1_3).bind fun c47_9=>(gA 72 t2_0 ([aG.mk t0_2 c47_9.1 c47_9.2.1 c47_9.2.2.1 c47_9.2.2.2]:List aG)).bind fun v50_10=>some (v50_10,true)else some (t2_0,true)else bif decide (t0_0=(4:Int))then(bif !decide (t1_0=(4:Int))then some true else some (!decide ((t1_3.length:Int)=(t0_3.length:Int)))).bind fun v65_12=>bif v65_12 then some (t2_0,false)else(r_impl_matchAll t0_3 t1_3 t2_0).bind fun c72_15=>some (c72_15.1,c72_15.2)else bif decide (t0_0=(5:Int))then(bif !decide (t1_0=(5:Int))then some true else some (!decide ((t1_3.length:Int)=(t0_3.length:Int)))).bind fun v88_17=>bif v88_17 then some (t2_0,false)else(r_impl_matchAll t0_3 t1_3 t2_0).bind fun c95_20=>some (c95_20.1,c95_20.2)else(bif !decide (t1_0=(5:Int))then some true else some (decide ((t1_3.length:Int)<(IntKind.wrap .i64 ((t0_3.length:Int) - (1:Int)))))).bind fun v111_21=>bif v111_21 then some (t2_0,false)else(sub t0_3 none (some (IntKind.wrap .i64 ((t0_3.length:Int) - (1:Int))))).bind fun v117_24=>(sub t1_3 none (some (IntKind.wrap .i64 ((t0_3.length:Int) - (1:Int))))).bind fun v121_25=>(r_impl_matchAll v117_24 v121_25 t2_0).bind fun c123_26=>bif !c123_26.2 then some (c123_26.1,false)else(ix t0_3 (IntKind.wrap .i64 ((t0_3.length:Int) - (1:Int)))).bind fun e132_28=>(sub t1_3 (some (IntKind.wrap .i64 ((t0_3.length:Int) - (1:Int)))) none).bind fun v137_29=>(r_impl_match e132_28.f0 e132_28.f1 e132_28.f2 e132_28.f3 e132_28.f4 (5:Int) (0:Int) ([]:List UInt8) v137_29 c123_26.1).bind fun c140_30=>some (c140_30.1,c140_30.2)
theorem Cw{n:Nat}{r_impl_match:gL}(ih_impl_match:nS r_impl_match){r_impl_matchAll:eU}(ih_impl_matchAll:jF r_impl_matchAll):nS (nK n r_impl_match r_impl_matchAll):=by
 intro t0_0 t0_1 t0_2 t0_3 t0_4 t1_0 t1_1 t1_2 t1_3 t2_0 r h
 unfold nK at h
 refine bF Try.func124 rfl rfl<|gco 4 rfl<|wAe (Li aM []) rfl rfl rfl rfl<|goc 14 rfl<|cIf h rfl (fun q1 h=> ?_) (fun q1 h=> ?_)
 refine cRs<|oJn h [(6,7),(14,24)] [] (fun v7_2=>(.n,[(6,Li aM t2_0),(7,Bo v7_2)],[])) (fun _ h=> ?_) (fun v7_2 h=> ?_)
 refine goo 5 rfl<|oIf 18 h rfl (fun q3 h=> ?_) (fun q3 h=> ?_)
 exact geo
 exact geo
 exact gec
 refine gcc 5 rfl<|cIf h rfl (fun q4 h=> ?_) (fun q4 h=> ?_)
 refine cRs<|oJn h [(6,7),(27,37)] [] (fun v7_5=>(.n,[(6,Li aM t2_0),(7,Bo v7_5)],[])) (fun _ h=> ?_) (fun v7_5 h=> ?_)
 refine goo 5 rfl<|oIf 31 h rfl (fun q6 h=> ?_) (fun q6 h=> ?_)
 exact geo
 exact geo
 exact gec
 refine gcc 5 rfl<|cIf h rfl (fun q7 h=> ?_) (fun q7 h=> ?_)
 refine gcc 7 rfl<|cIf h rfl (fun q8 h=> ?_) (fun q8 h=> ?_)
 refine gco 5 rfl<|xC0 h (sC ·) rfl (fun c47_9 h=> ?_)
 refine wBd [.str t0_2, .int .i64 c47_9.1, .int .i64 c47_9.2.1, .str c47_9.2.2.1, .sl (c47_9.2.2.2.map aF)] rfl rfl rfl rfl rfl rfl<|cY (L:=([aG.mk t0_2 c47_9.1 c47_9.2.1 c47_9.2.2.1 c47_9.2.2.2]:List aG)) (f:=aM) rfl rfl rfl rfl rfl rfl rfl<|wAp (f:=aM) h rfl rfl rfl rfl rfl rfl rfl rfl rfl (fun _=>rfl) rfl (fun v50_10 h=> ?_)
 exact geo
 exact gec
 refine gcc 5 rfl<|cIf h rfl (fun q11 h=> ?_) (fun q11 h=> ?_)
 refine gco 3 rfl<|oJn h [(54,65)] [] (fun v65_12=>(.n,[(65,Bo v65_12)],[])) (fun _ h=> ?_) (fun v65_12 h=> ?_)
 refine goo 4 rfl<|oIf 57 h rfl (fun q13 h=> ?_) (fun q13 h=> ?_)
 exact geo
 exact goo 2 rfl<|xLn rfl<|goo 2 rfl<|xLn rfl<|geo
 refine cIf h rfl (fun q14 h=> ?_) (fun q14 h=> ?_)
 exact gec
 refine gco 8 rfl<|xC0 h (ih_impl_matchAll ·) rfl (fun c72_15 h=> ?_)
 exact geo
 refine gcc 5 rfl<|cIf h rfl (fun q16 h=> ?_) (fun q16 h=> ?_)
 refine gco 3 rfl<|oJn h [(77,88)] [] (fun v88_17=>(.n,[(88,Bo v88_17)],[])) (fun _ h=> ?_) (fun v88_17 h=> ?_)
 refine goo 4 rfl<|oIf 80 h rfl (fun q18 h=> ?_) (fun q18 h=> ?_)
 exact geo
 exact goo 2 rfl<|xLn rfl<|goo 2 rfl<|xLn rfl<|geo
 refine cIf h rfl (fun q19 h=> ?_) (fun q19 h=> ?_)
 exact gec
 refine gco 8 rfl<|xC0 h (ih_impl_matchAll ·) rfl (fun c95_20 h=> ?_)
 exact geo
 refine gco 5 rfl<|xLn rfl<|goo 6 rfl<|oJn h [(102,111)] [] (fun v111_21=>(.n,[(111,Bo v111_21)],[])) (fun _ h=> ?_) (fun v111_21 h=> ?_)
 refine goo 4 rfl<|oIf 105 h rfl (fun q22 h=> ?_) (fun q22 h=> ?_)
 exact geo
 exact goo 2 rfl<|xLn rfl<|geo
 refine cIf h rfl (fun q23 h=> ?_) (fun q23 h=> ?_)
 exact gec
 refine gco 6 rfl<|wSl (rf:=aE) h rfl rfl rfl rfl .no (.so rfl) (fun a=>by rw[aL]; rfl) rfl (fun v117_24 h=> ?_)
 refine goo 3 rfl<|wSl (rf:=aF) h rfl rfl rfl rfl .no (.so rfl) (fun a=>by rw[aO]; rfl) rfl (fun v121_25 h=> ?_)
 refine xMv rfl<|xC0 h (ih_impl_matchAll ·) rfl (fun c123_26 h=> ?_)
 refine goc 12 rfl<|cIf h rfl (fun q27 h=> ?_) (fun q27 h=> ?_)
 exact gec
 refine gco 6 rfl<|xIx h aL rfl (fun e132_28 h=> ?_)
 refine goo 4 rfl<|wSl (rf:=aF) h rfl rfl rfl rfl (.so rfl) .no (fun a=>by rw[aO]; rfl) rfl (fun v137_29 h=> ?_)
 refine wBd [.int .i64 5, .int .i64 0, .str [], .sl (v137_29.map aF)] rfl rfl rfl rfl rfl rfl<|xMv rfl<|xC0 h (ih_impl_match ·) rfl (fun c140_30 h=> ?_)
 exact geo
def lG:Nat→(gL)×(eU)
  | 0=>((fun _ _ _ _ _ _ _ _ _ _=>none),(fun _ _ _=>none))
  | n+1=>(nK n ((lG n).1) ((lG n).2),iZ n ((lG n).1) ((lG n).2))
def eI(n:Nat):gL:=(lG n).1
def dQ(n:Nat):eU:=(lG n).2
theorem uE(n:Nat):nS (eI n)∧jF (dQ n):=by
  induction n with
  | zero=>exact⟨(fun h=>nomatch h),(fun h=>nomatch h)⟩
  | succ n ih=>exact⟨Cw (n:=n) (ih.1) (ih.2),yW (n:=n) (ih.1) (ih.2)⟩
theorem Dx{n:Nat}:nS (eI n):=(uE n).1
theorem Lo{n:Nat}:jF (dQ n):=(uE n).2
theorem AM(n:Nat):eI (n+1)=nK n (eI n) (dQ n):=rfl
theorem vM(n:Nat):dQ (n+1)=iZ n (eI n) (dQ n):=rfl
abbrev IZ(p:Int→Int→(List UInt8)→(List aA)→(List aC)→Int→Int→(List UInt8)→(List aB)→Option ((List aG)×Bool)):Prop:= ∀ {t0_0 t0_1:Int} {t0_2:List UInt8} {t0_3:List aA} {t0_4:List aC} {t1_0 t1_1:Int} {t1_2:List UInt8} {t1_3:List aB} {r:(List aG)×Bool},p t0_0 t0_1 t0_2 t0_3 t0_4 t1_0 t1_1 t1_2 t1_3=some r→Big Try.prog τ An (.fn 49 [.one (.ag [.int .i64 t0_0, .int .i64 t0_1, .str t0_2, .sl (t0_3.map aE), .sl (t0_4.map aD)]), .one (.ag [.int .i64 t1_0, .int .i64 t1_1, .str t1_2, .sl (t1_3.map aF)])] [] (.tup [.c (.sl (r.1.map aM)), .c (.bool r.2)]) none [] none)
def lI(n:Nat)(t0_0:Int)(t0_1:Int)(t0_2:List UInt8)(t0_3:List aA)(t0_4:List aC)(t1_0:Int)(t1_1:Int)(t1_2:List UInt8)(t1_3:List aB):Option ((List aG)×Bool):=
  ((iU n t0_0 t0_1 t0_2 t0_3 t0_4).bind fun c9_2=>bif !c9_2 then some true else(eH n t1_0 t1_1 t1_2 t1_3).bind fun c13_4=>some (!c13_4)).bind fun v15_1=>bif v15_1 then some (([]:List aG),false)else(eI n t0_0 t0_1 t0_2 t0_3 t0_4 t1_0 t1_1 t1_2 t1_3 ([]:List aG)).bind fun c19_6=>bif !c19_6.2 then some (([]:List aG),false)else some (c19_6.1,true)
theorem Dy{n:Nat}:IZ (lI n):=by
 intro t0_0 t0_1 t0_2 t0_3 t0_4 t1_0 t1_1 t1_2 t1_3 r h
 unfold lI at h
 refine bF Try.func49 rfl rfl<|gco 4 rfl<|wAe (Li aM []) rfl rfl rfl rfl<|goo 5 rfl<|oJn h [(8,15)] [] (fun v15_1=>(.n,[(15,Bo v15_1)],[])) (fun _ h=> ?_) (fun v15_1 h=> ?_)
 refine xLd rfl<|xC0 h (vX ·) rfl (fun c9_2 h=> ?_)
 refine goo 2 rfl<|oIf 11 h rfl (fun q3 h=> ?_) (fun q3 h=> ?_)
 exact geo
 refine xLd rfl<|xC0 h (pN ·) rfl (fun c13_4 h=> ?_)
 exact geo
 refine cIf h rfl (fun q5 h=> ?_) (fun q5 h=> ?_)
 exact cRs<|wAe (Li aM []) rfl rfl rfl rfl<|geo
 refine gco 5 rfl<|xC0 h (Dx ·) rfl (fun c19_6 h=> ?_)
 refine goc 12 rfl<|cIf h rfl (fun q7 h=> ?_) (fun q7 h=> ?_)
 exact cRs<|wAe (Li aM []) rfl rfl rfl rfl<|geo
 exact gec
abbrev IP(p:(List (List UInt8))→(List UInt8)→Option (Bool)):Prop:= ∀ {t0_0:List (List UInt8)} {t1_0:List UInt8} {r:Bool},p t0_0 t1_0=some r→Big Try.prog τ An (.fn 96 [.one (.c (.sl (t0_0.map dN))), .one (.c (.str t1_0))] [] (.one (.c (.bool r))) none [] none)
def jD(n:Nat)(t0_0:List (List UInt8))(t1_0:List UInt8):(Int)→Option ((Int)⊕((Bool)⊕(Int×Bool)))
  | v5_1=>bif decide (v5_1<(t0_0.length:Int))then(ix t0_0 v5_1).bind fun e14_6=>bif decide (e14_6=t1_0)then some (.inr (.inl true))else some (.inl (IntKind.wrap .i64 (v5_1+(1:Int))))else some (.inr (.inr (v5_1,false)))
def fM(n:Nat)(t0_0:List (List UInt8))(t1_0:List UInt8):Option (Bool):=
  (loopN (jD n t0_0 t1_0) n (0:Int)).bind fun q=>(match q with | .inl v4_2=>some v4_2 | .inr (v5_3,v9_4)=>some false)
theorem nH{n:Nat}:IP (fM n):=by
 intro t0_0 t1_0 r h
 unfold fM at h
 refine bF Try.func96 rfl rfl<|gcc 9 rfl<|cLp h [(4,17)] [] (fun v5_1=>([(5,I64 v5_1)],[])) (fun q=>match q with | .inl v4_2=>(.r,[(4,Bo v4_2)],[]) | .inr (v5_3,v9_4)=>(.e 0,[(5,I64 v5_3),(9,Bo v9_4)],[])) rfl (fun v5_1 _ h=> ?_) (fun q h=> ?_)
 unfold jD at h
 refine gco 5 rfl<|xLn rfl<|goc 2 rfl<|cIf h rfl (fun q5 h=> ?_) (fun q5 h=> ?_)
 refine gco 7 rfl<|xIx h oF rfl (fun e14_6 h=> ?_)
 refine goc 4 rfl<|cIf h rfl (fun q7 h=> ?_) (fun q7 h=> ?_)
 exact gec
 exact gec
 exact gec
 rcases q with v4_2 | ⟨v5_3,v9_4⟩
 exact en
 exact gec
abbrev GN(p:(List (List UInt8))→Option (Bool)):Prop:= ∀ {t0_0:List (List UInt8)} {r:Bool},p t0_0=some r→Big Try.prog τ An (.fn 72 [.one (.c (.sl (t0_0.map dN)))] [] (.one (.c (.bool r))) none [] none)
def kQ(n:Nat)(t0_0:List (List UInt8)):(Int)→Option ((Int)⊕((Bool)⊕(Int×Bool)))
  | v3_1=>bif decide (v3_1<(t0_0.length:Int))then(sub t0_0 none (some v3_1)).bind fun v12_6=>(ix t0_0 v3_1).bind fun e15_7=>(fM n v12_6 e15_7).bind fun c17_8=>bif c17_8 then some (.inr (.inl false))else some (.inl (IntKind.wrap .i64 (v3_1+(1:Int))))else some (.inr (.inr (v3_1,false)))
def jK(n:Nat)(t0_0:List (List UInt8)):Option (Bool):=
  (loopN (kQ n t0_0) n (0:Int)).bind fun q=>(match q with | .inl v2_2=>some v2_2 | .inr (v3_3,v7_4)=>some true)
theorem uF{n:Nat}:GN (jK n):=by
 intro t0_0 r h
 unfold jK at h
 refine bF Try.func72 rfl rfl<|gcc 9 rfl<|cLp h [(2,17)] [] (fun v3_1=>([(3,I64 v3_1)],[])) (fun q=>match q with | .inl v2_2=>(.r,[(2,Bo v2_2)],[]) | .inr (v3_3,v7_4)=>(.e 0,[(3,I64 v3_3),(7,Bo v7_4)],[])) rfl (fun v3_1 _ h=> ?_) (fun q h=> ?_)
 unfold kQ at h
 refine gco 5 rfl<|xLn rfl<|goc 2 rfl<|cIf h rfl (fun q5 h=> ?_) (fun q5 h=> ?_)
 refine gco 7 rfl<|wSl (rf:=dN) h rfl rfl rfl rfl .no (.so rfl) (fun _=>rfl) rfl (fun v12_6 h=> ?_)
 refine goo 2 rfl<|xIx h oF rfl (fun e15_7 h=> ?_)
 refine xLd rfl<|xC0 h (nH ·) rfl (fun c17_8 h=> ?_)
 refine oNl<|cIf h rfl (fun q9 h=> ?_) (fun q9 h=> ?_)
 exact gec
 exact gec
 exact gec
 rcases q with v2_2 | ⟨v3_3,v7_4⟩
 exact en
 exact gec
abbrev jS:Type:=Int→Int→(List UInt8)→(List aA)→(List aC)→Option ((List (List UInt8)))
abbrev oT(p:jS):Prop:= ∀ {t0_0 t0_1:Int} {t0_2:List UInt8} {t0_3:List aA} {t0_4:List aC} {r:(List (List UInt8))},p t0_0 t0_1 t0_2 t0_3 t0_4=some r→Big Try.prog τ An (.fn 184 [.one (.ag [.int .i64 t0_0, .int .i64 t0_1, .str t0_2, .sl (t0_3.map aE), .sl (t0_4.map aD)])] [] (.one (.c (.sl (r.map dN)))) none [] none)
def iF(n:Nat)(r_spec_VarsOf:jS)(t0_3:List aA):((List (List UInt8))×Int)→Option (((List (List UInt8))×Int)⊕(((List (List UInt8))×Int×Bool)))
  | (v3_4,v4_5)=>bif decide (v4_5<(t0_3.length:Int))then(ix t0_3 v4_5).bind fun e29_10=>(r_spec_VarsOf e29_10.f0 e29_10.f1 e29_10.f2 e29_10.f3 e29_10.f4).bind fun c31_11=>(gA 16 v3_4 c31_11).bind fun v32_12=>some (.inl (v32_12,(IntKind.wrap .i64 (v4_5+(1:Int)))))else some (.inr (v3_4,v4_5,false))
def lW(n:Nat)(r_spec_VarsOf:jS)(t0_0:Int)(t0_1:Int)(t0_2:List UInt8)(t0_3:List aA)(t0_4:List aC):Option ((List (List UInt8))):=
  bif decide (t0_0=(3:Int))then bif !decide (t0_2=([95]:List UInt8))then(gA 16 ([]:List (List UInt8)) ([t0_2]:List (List UInt8))).bind fun v16_3=>some v16_3 else some ([]:List (List UInt8))else(loopN (iF n r_spec_VarsOf t0_3) n (([]:List (List UInt8)),(0:Int))).bind fun(v3_6,v4_7,v22_8)=>some v3_6
theorem BJ{n:Nat}{r_spec_VarsOf:jS}(ih_spec_VarsOf:oT r_spec_VarsOf):oT (lW n r_spec_VarsOf):=by
 intro t0_0 t0_1 t0_2 t0_3 t0_4 r h
 unfold lW at h
 refine bF Try.func184 rfl rfl<|gco 3 rfl<|wAe (Li dN []) rfl rfl rfl rfl<|oRs<|cY (L:=([]:List (List UInt8))) (f:=dN) rfl rfl rfl rfl rfl rfl rfl<|goc 9 rfl<|cIf h rfl (fun q1 h=> ?_) (fun q1 h=> ?_)
 refine gcc 7 rfl<|cIf h rfl (fun q2 h=> ?_) (fun q2 h=> ?_)
 refine gco 4 rfl<|cY (L:=([t0_2]:List (List UInt8))) (f:=dN) rfl rfl rfl rfl rfl rfl rfl<|wAp (f:=dN) h rfl rfl rfl rfl rfl rfl rfl rfl rfl (fun _=>rfl) rfl (fun v16_3 h=> ?_)
 exact geo
 exact gec
 refine gcc 6 rfl<|cLp h [(3,4),(18,32)] [] (fun(v3_4,v4_5)=>([(3,Li dN v3_4),(4,I64 v4_5)],[])) (fun(v3_6,v4_7,v22_8)=>(.e 0,[(3,Li dN v3_6),(4,I64 v4_7),(22,Bo v22_8)],[])) rfl (fun st _ h=> ?_) (fun q h=> ?_)
 obtain⟨v3_4,v4_5⟩:=st
 unfold iF at h
 refine gco 6 rfl<|xLn rfl<|goc 2 rfl<|cIf h rfl (fun q9 h=> ?_) (fun q9 h=> ?_)
 refine gco 8 rfl<|xIx h aL rfl (fun e29_10 h=> ?_)
 refine xLd rfl<|xC0 h (ih_spec_VarsOf ·) rfl (fun c31_11 h=> ?_)
 refine wAp (f:=dN) h rfl rfl rfl rfl rfl rfl rfl rfl rfl (fun _=>rfl) rfl (fun v32_12 h=> ?_)
 exact geo
 exact gec
 obtain⟨v3_6,v4_7,v22_8⟩:=q
 exact gec
def yH:Nat→(jS)
  | 0=>(fun _ _ _ _ _=>none)
  | n+1=>lW n (yH n)
def eG(n:Nat):jS:=yH n
theorem BS(n:Nat):oT (eG n):=by
  induction n with
  | zero=>exact(fun h=>nomatch h)
  | succ n ih=>exact BJ (n:=n) ih
theorem uL{n:Nat}:oT (eG n):=(BS n)
theorem zG(n:Nat):eG (n+1)=lW n (eG n):=rfl
abbrev KL(p:Int→Int→Int→Option (Bool)):Prop:= ∀ {t0_0 t1_0 t2_0:Int} {r:Bool},p t0_0 t1_0 t2_0=some r→Big Try.prog τ An (.fn 69 [.one (.c (.int .i64 t0_0)), .one (.c (.int .i64 t1_0)), .one (.c (.int .i64 t2_0))] [] (.one (.c (.bool r))) none [] none)
def cH(n:Nat)(t0_0:Int)(t1_0:Int)(t2_0:Int):Option (Bool):=
  (bif decide (t1_0≤t0_0)then some (decide (t0_0≤t2_0))else some false).bind fun v6_1=>some v6_1
theorem cO{n:Nat}:KL (cH n):=by
 intro t0_0 t1_0 t2_0 r h
 unfold cH at h
 refine bF Try.func69 rfl rfl<|gco 6 rfl<|oJn h [(6,14)] [] (fun v6_1=>(.n,[(6,Bo v6_1)],[])) (fun _ h=> ?_) (fun v6_1 h=> ?_)
 refine goo 4 rfl<|oIf 10 h rfl (fun q2 h=> ?_) (fun q2 h=> ?_)
 exact geo
 exact geo
 exact gec
abbrev ED(p:Int→Option (Bool)):Prop:= ∀ {t0_0:Int} {r:Bool},p t0_0=some r→Big Try.prog τ An (.fn 253 [.one (.c (.int .u8 t0_0))] [] (.one (.c (.bool r))) none [] none)
def kF(n:Nat)(t0_0:Int):Option (Bool):=
  ((cH n (IntKind.wrap .i64 t0_0) (65:Int) (90:Int)).bind fun c5_2=>bif c5_2 then some true else some (decide (t0_0=(95:Int)))).bind fun v2_1=>some v2_1
theorem BZ{n:Nat}:ED (kF n):=by
 intro t0_0 r h
 unfold kF at h
 refine bF Try.func253 rfl rfl<|gco 6 rfl<|oJn h [(2,9)] [] (fun v2_1=>(.n,[(2,Bo v2_1)],[])) (fun _ h=> ?_) (fun v2_1 h=> ?_)
 refine goo 2 rfl<|xC0 h (cO ·) rfl (fun c5_2 h=> ?_)
 refine xMv rfl<|oIf 6 h rfl (fun q3 h=> ?_) (fun q3 h=> ?_)
 exact geo
 exact geo
 exact gec
abbrev EC(p:Int→Option (Bool)):Prop:= ∀ {t0_0:Int} {r:Bool},p t0_0=some r→Big Try.prog τ An (.fn 254 [.one (.c (.int .u8 t0_0))] [] (.one (.c (.bool r))) none [] none)
def kE(n:Nat)(t0_0:Int):Option (Bool):=
  (cH n (IntKind.wrap .i64 t0_0) (97:Int) (122:Int)).bind fun c5_1=>some c5_1
theorem BY{n:Nat}:EC (kE n):=by
 intro t0_0 r h
 unfold kE at h
 refine bF Try.func254 rfl rfl<|gco 8 rfl<|xC0 h (cO ·) rfl (fun c5_1 h=> ?_)
 exact geo
abbrev EE(p:Int→Option (Bool)):Prop:= ∀ {t0_0:Int} {r:Bool},p t0_0=some r→Big Try.prog τ An (.fn 255 [.one (.c (.int .u8 t0_0))] [] (.one (.c (.bool r))) none [] none)
def kG(n:Nat)(t0_0:Int):Option (Bool):=
  (cH n (IntKind.wrap .i64 t0_0) (48:Int) (57:Int)).bind fun c5_1=>some c5_1
theorem Ba{n:Nat}:EE (kG n):=by
 intro t0_0 r h
 unfold kG at h
 refine bF Try.func255 rfl rfl<|gco 8 rfl<|xC0 h (cO ·) rfl (fun c5_1 h=> ?_)
 exact geo
abbrev EB(p:(List UInt8)→Option (Bool)):Prop:= ∀ {t0_0:List UInt8} {r:Bool},p t0_0=some r→Big Try.prog τ An (.fn 223 [.one (.c (.str t0_0))] [] (.one (.c (.bool r))) none [] none)
def jW(n:Nat)(t0_0:List UInt8):(Int)→Option ((Int)⊕((Bool)⊕(Int×Bool)))
  | v3_1=>bif decide (v3_1<(t0_0.length:Int))then((ixs t0_0 v3_1).bind fun e12_7=>(kF n e12_7).bind fun c13_8=>bif !c13_8 then bif decide (v3_1=(0:Int))then some true else(ixs t0_0 v3_1).bind fun e21_11=>(kE n e21_11).bind fun c22_12=>bif !c22_12 then(ixs t0_0 v3_1).bind fun e27_14=>(kG n e27_14).bind fun c28_15=>some (!c28_15)else some false else some false).bind fun v32_6=>bif v32_6 then some (.inr (.inl false))else some (.inl (IntKind.wrap .i64 (v3_1+(1:Int))))else some (.inr (.inr (v3_1,false)))
def kD(n:Nat)(t0_0:List UInt8):Option (Bool):=
  (loopN (jW n t0_0) n (0:Int)).bind fun q=>(match q with | .inl v2_2=>some v2_2 | .inr (v3_3,v7_4)=>(cH n (t0_0.length:Int) (1:Int) (20:Int)).bind fun c35_17=>some c35_17)
theorem BX{n:Nat}:EB (kD n):=by
 intro t0_0 r h
 unfold kD at h
 refine bF Try.func223 rfl rfl<|gcc 9 rfl<|cLp h [(2,32)] [] (fun v3_1=>([(3,I64 v3_1)],[])) (fun q=>match q with | .inl v2_2=>(.r,[(2,Bo v2_2)],[]) | .inr (v3_3,v7_4)=>(.e 0,[(3,I64 v3_3),(7,Bo v7_4)],[])) rfl (fun v3_1 _ h=> ?_) (fun q h=> ?_)
 unfold jW at h
 refine gco 5 rfl<|xLs rfl<|goc 2 rfl<|cIf h rfl (fun q5 h=> ?_) (fun q5 h=> ?_)
 refine gco 5 rfl<|oJn h [(10,32)] [] (fun v32_6=>(.n,[(32,Bo v32_6)],[])) (fun _ h=> ?_) (fun v32_6 h=> ?_)
 refine goo 2 rfl<|MU h rfl rfl rfl rfl rfl (fun e12_7 h=> ?_)
 refine xC0 h (BZ ·) rfl (fun c13_8 h=> ?_)
 refine goo 2 rfl<|oIf 15 h rfl (fun q9 h=> ?_) (fun q9 h=> ?_)
 refine goo 3 rfl<|oIf 18 h rfl (fun q10 h=> ?_) (fun q10 h=> ?_)
 exact geo
 refine goo 2 rfl<|MU h rfl rfl rfl rfl rfl (fun e21_11 h=> ?_)
 refine xC0 h (BY ·) rfl (fun c22_12 h=> ?_)
 refine goo 2 rfl<|oIf 24 h rfl (fun q13 h=> ?_) (fun q13 h=> ?_)
 refine goo 2 rfl<|MU h rfl rfl rfl rfl rfl (fun e27_14 h=> ?_)
 refine xC0 h (Ba ·) rfl (fun c28_15 h=> ?_)
 exact geo
 exact geo
 exact geo
 refine cIf h rfl (fun q16 h=> ?_) (fun q16 h=> ?_)
 exact gec
 exact gec
 exact gec
 rcases q with v2_2 | ⟨v3_3,v7_4⟩
 exact en
 refine gco 3 rfl<|xLs rfl<|xC0 h (cO ·) rfl (fun c35_17 h=> ?_)
 exact geo
abbrev GV(p:(List UInt8)→Option (Bool)):Prop:= ∀ {t0_0:List UInt8} {r:Bool},p t0_0=some r→Big Try.prog τ An (.fn 194 [.one (.c (.str t0_0))] [] (.one (.c (.bool r))) none [] none)
def kW(n:Nat)(t0_0:List UInt8):(Int)→Option ((Int)⊕((Bool)⊕(Int×Bool)))
  | v3_1=>bif decide (v3_1<(t0_0.length:Int))then(ixs t0_0 v3_1).bind fun e14_6=>(cH n (IntKind.wrap .i64 e14_6) (97:Int) (122:Int)).bind fun c17_7=>(bif !c17_7 then bif decide (v3_1=(0:Int))then some true else(cH n (IntKind.wrap .i64 e14_6) (48:Int) (57:Int)).bind fun c25_11=>bif !c25_11 then some (!decide ((IntKind.wrap .i64 e14_6)=(95:Int)))else some false else some false).bind fun v32_8=>bif v32_8 then some (.inr (.inl false))else some (.inl (IntKind.wrap .i64 (v3_1+(1:Int))))else some (.inr (.inr (v3_1,false)))
def jN(n:Nat)(t0_0:List UInt8):Option (Bool):=
  (loopN (kW n t0_0) n (0:Int)).bind fun q=>(match q with | .inl v2_2=>some v2_2 | .inr (v3_3,v9_4)=>(cH n (t0_0.length:Int) (1:Int) (20:Int)).bind fun c35_14=>some c35_14)
theorem uM{n:Nat}:GV (jN n):=by
 intro t0_0 r h
 unfold jN at h
 refine bF Try.func194 rfl rfl<|gcc 9 rfl<|cLp h [(2,32)] [] (fun v3_1=>([(3,I64 v3_1)],[])) (fun q=>match q with | .inl v2_2=>(.r,[(2,Bo v2_2)],[]) | .inr (v3_3,v9_4)=>(.e 0,[(3,I64 v3_3),(9,Bo v9_4)],[])) rfl (fun v3_1 _ h=> ?_) (fun q h=> ?_)
 unfold kW at h
 refine gco 5 rfl<|xLs rfl<|goc 2 rfl<|cIf h rfl (fun q5 h=> ?_) (fun q5 h=> ?_)
 refine gco 7 rfl<|MU h rfl rfl rfl rfl rfl (fun e14_6 h=> ?_)
 refine goo 6 rfl<|xC0 h (cO ·) rfl (fun c17_7 h=> ?_)
 refine goo 4 rfl<|oJn h [(18,32)] [] (fun v32_8=>(.n,[(32,Bo v32_8)],[])) (fun _ h=> ?_) (fun v32_8 h=> ?_)
 refine goo 3 rfl<|oIf 20 h rfl (fun q9 h=> ?_) (fun q9 h=> ?_)
 refine goo 3 rfl<|oIf 23 h rfl (fun q10 h=> ?_) (fun q10 h=> ?_)
 exact geo
 refine xMv rfl<|xC0 h (cO ·) rfl (fun c25_11 h=> ?_)
 refine goo 2 rfl<|oIf 27 h rfl (fun q12 h=> ?_) (fun q12 h=> ?_)
 exact geo
 exact geo
 exact geo
 refine cIf h rfl (fun q13 h=> ?_) (fun q13 h=> ?_)
 exact gec
 exact gec
 exact gec
 rcases q with v2_2 | ⟨v3_3,v9_4⟩
 exact en
 refine gco 3 rfl<|xLs rfl<|xC0 h (cO ·) rfl (fun c35_14 h=> ?_)
 exact geo
abbrev AQ(p:(List UInt8)→Option (Bool)):Prop:= ∀ {t0_0:List UInt8} {r:Bool},p t0_0=some r→Big Try.prog τ An (.fn 256 [.one (.c (.str t0_0))] [] (.one (.c (.bool r))) none [] none)
def jV(n:Nat)(t0_0:List UInt8):Option (Bool):=
  (bif decide (t0_0=([99,97,115,101]:List UInt8))then some true else bif decide (t0_0=([111,102]:List UInt8))then some true else some (decide (t0_0=([101,110,100]:List UInt8)))).bind fun v2_1=>some v2_1
theorem wX{n:Nat}:AQ (jV n):=by
 intro t0_0 r h
 unfold jV at h
 refine bF Try.func256 rfl rfl<|gco 6 rfl<|oJn h [(2,12)] [] (fun v2_1=>(.n,[(2,Bo v2_1)],[])) (fun _ h=> ?_) (fun v2_1 h=> ?_)
 refine goo 3 rfl<|oIf 5 h rfl (fun q2 h=> ?_) (fun q2 h=> ?_)
 exact geo
 refine goo 4 rfl<|oIf 9 h rfl (fun q3 h=> ?_) (fun q3 h=> ?_)
 exact geo
 exact geo
 exact gec
abbrev GP(p:(List UInt8)→Option (Bool)):Prop:= ∀ {t0_0:List UInt8} {r:Bool},p t0_0=some r→Big Try.prog τ An (.fn 224 [.one (.c (.str t0_0))] [] (.one (.c (.bool r))) none [] none)
def jM(n:Nat)(t0_0:List UInt8):Option (Bool):=
  ((jN n t0_0).bind fun c4_2=>bif c4_2 then(jV n t0_0).bind fun c7_4=>some (!c7_4)else some false).bind fun v2_1=>some v2_1
theorem uI{n:Nat}:GP (jM n):=by
 intro t0_0 r h
 unfold jM at h
 refine bF Try.func224 rfl rfl<|gco 6 rfl<|oJn h [(2,9)] [] (fun v2_1=>(.n,[(2,Bo v2_1)],[])) (fun _ h=> ?_) (fun v2_1 h=> ?_)
 refine xMv rfl<|xC0 h (uM ·) rfl (fun c4_2 h=> ?_)
 refine xMv rfl<|oIf 5 h rfl (fun q3 h=> ?_) (fun q3 h=> ?_)
 refine xMv rfl<|xC0 h (wX ·) rfl (fun c7_4 h=> ?_)
 exact geo
 exact geo
 exact gec
abbrev KJ(p:(List UInt8)→Option (Bool)):Prop:= ∀ {t0_0:List UInt8} {r:Bool},p t0_0=some r→Big Try.prog τ An (.fn 260 [.one (.c (.str t0_0))] [] (.one (.c (.bool r))) none [] none)
def pD(n:Nat)(t0_0:List UInt8):Option (Bool):=
  (bif decide (t0_0=([43]:List UInt8))then some true else bif decide (t0_0=([45]:List UInt8))then some true else bif decide (t0_0=([42]:List UInt8))then some true else bif decide (t0_0=([61,61]:List UInt8))then some true else some (decide (t0_0=([60]:List UInt8)))).bind fun v2_1=>some v2_1
theorem GJ{n:Nat}:KJ (pD n):=by
 intro t0_0 r h
 unfold pD at h
 refine bF Try.func260 rfl rfl<|gco 6 rfl<|oJn h [(2,20)] [] (fun v2_1=>(.n,[(2,Bo v2_1)],[])) (fun _ h=> ?_) (fun v2_1 h=> ?_)
 refine goo 3 rfl<|oIf 5 h rfl (fun q2 h=> ?_) (fun q2 h=> ?_)
 exact geo
 refine goo 4 rfl<|oIf 9 h rfl (fun q3 h=> ?_) (fun q3 h=> ?_)
 exact geo
 refine goo 4 rfl<|oIf 13 h rfl (fun q4 h=> ?_) (fun q4 h=> ?_)
 exact geo
 refine goo 4 rfl<|oIf 17 h rfl (fun q5 h=> ?_) (fun q5 h=> ?_)
 exact geo
 exact geo
 exact gec
abbrev Dz(p:Int→Int→(List UInt8)→(List aA)→(List aC)→Bool→Option (Bool)):Prop:= ∀ {t0_0 t0_1:Int} {t0_2:List UInt8} {t0_3:List aA} {t0_4:List aC} {t1_0:Bool} {r:Bool},p t0_0 t0_1 t0_2 t0_3 t0_4 t1_0=some r→Big Try.prog τ An (.fn 232 [.one (.ag [.int .i64 t0_0, .int .i64 t0_1, .str t0_2, .sl (t0_3.map aE), .sl (t0_4.map aD)]), .one (.c (.bool t1_0))] [] (.one (.c (.bool r))) none [] none)
def kB(n:Nat)(t0_0:Int)(t0_1:Int)(t0_2:List UInt8)(t0_3:List aA)(t0_4:List aC)(t1_0:Bool):Option (Bool):=
  (bif !decide (t0_0=(9:Int))then bif decide ((0:Int)<(t0_4.length:Int))then some true else bif !decide (t0_0=(1:Int))then some (!decide (t0_1=(0:Int)))else some false else bif !decide (t0_0=(1:Int))then some (!decide (t0_1=(0:Int)))else some false).bind fun v27_1=>bif v27_1 then some false else bif decide (t0_0=(1:Int))then((cH n t0_1 (0:Int) (1000000000000:Int)).bind fun c34_9=>bif c34_9 then bif decide (t0_2=([]:List UInt8))then some (decide ((t0_3.length:Int)=(0:Int)))else some false else some false).bind fun v4_8=>some v4_8 else bif decide (t0_0=(2:Int))then((jM n t0_2).bind fun c48_14=>bif c48_14 then some (decide ((t0_3.length:Int)=(0:Int)))else some false).bind fun v4_13=>some v4_13 else bif decide (t0_0=(3:Int))then((kD n t0_2).bind fun c57_18=>bif c57_18 then bif decide ((t0_3.length:Int)=(0:Int))then bif t1_0 then some true else some (!decide (t0_2=([95]:List UInt8)))else some false else some false).bind fun v4_17=>some v4_17 else bif decide (t0_0=(4:Int))then(bif decide (t0_2=([]:List UInt8))then some (decide ((t0_3.length:Int)≤(20:Int)))else some false).bind fun v4_23=>some v4_23 else bif decide (t0_0=(5:Int))then(bif decide (t0_2=([]:List UInt8))then some (decide ((t0_3.length:Int)≤(20:Int)))else some false).bind fun v4_26=>some v4_26 else bif decide (t0_0=(6:Int))then(bif decide (t0_2=([]:List UInt8))then(cH n (t0_3.length:Int) (2:Int) (6:Int)).bind fun c87_31=>some c87_31 else some false).bind fun v4_29=>some v4_29 else bif decide (t0_0=(7:Int))then(bif !t1_0 then(pD n t0_2).bind fun c96_35=>bif c96_35 then some (decide ((t0_3.length:Int)=(2:Int)))else some false else some false).bind fun v4_33=>some v4_33 else bif decide (t0_0=(8:Int))then(bif !t1_0 then(jM n t0_2).bind fun c109_40=>bif c109_40 then some (decide ((t0_3.length:Int)≤(4:Int)))else some false else some false).bind fun v4_38=>some v4_38 else bif decide (t0_0=(9:Int))then(bif !t1_0 then bif decide (t0_2=([]:List UInt8))then bif decide ((t0_3.length:Int)=(1:Int))then(cH n (t0_4.length:Int) (1:Int) (6:Int)).bind fun c132_47=>some c132_47 else some false else some false else some false).bind fun v4_43=>some v4_43 else some false
theorem BV{n:Nat}:Dz (kB n):=by
 intro t0_0 t0_1 t0_2 t0_3 t0_4 t1_0 r h
 unfold kB at h
 refine bF Try.func232 rfl rfl<|gco 9 rfl<|xLn rfl<|goo 5 rfl<|oJn h [(9,27)] [] (fun v27_1=>(.n,[(27,Bo v27_1)],[])) (fun _ h=> ?_) (fun v27_1 h=> ?_)
 refine goo 4 rfl<|oIf 12 h rfl (fun q2 h=> ?_) (fun q2 h=> ?_)
 refine goo 2 rfl<|xLn rfl<|goo 3 rfl<|oIf 18 h rfl (fun q3 h=> ?_) (fun q3 h=> ?_)
 exact geo
 refine goo 4 rfl<|oIf 22 h rfl (fun q4 h=> ?_) (fun q4 h=> ?_)
 exact geo
 exact geo
 refine goo 10 rfl<|oIf 22 h rfl (fun q5 h=> ?_) (fun q5 h=> ?_)
 exact geo
 exact geo
 refine cIf h rfl (fun q6 h=> ?_) (fun q6 h=> ?_)
 exact gec
 refine gcc 13 rfl<|cIf h rfl (fun q7 h=> ?_) (fun q7 h=> ?_)
 refine cRs<|oJn h [(4,4),(32,43)] [] (fun v4_8=>(.n,[(4,Bo v4_8)],[])) (fun _ h=> ?_) (fun v4_8 h=> ?_)
 refine goo 2 rfl<|xC0 h (cO ·) rfl (fun c34_9 h=> ?_)
 refine xMv rfl<|oIf 35 h rfl (fun q10 h=> ?_) (fun q10 h=> ?_)
 refine goo 5 rfl<|oIf 40 h rfl (fun q11 h=> ?_) (fun q11 h=> ?_)
 exact geo
 exact geo
 exact geo
 exact gec
 refine gcc 5 rfl<|cIf h rfl (fun q12 h=> ?_) (fun q12 h=> ?_)
 refine cRs<|oJn h [(4,4),(46,52)] [] (fun v4_13=>(.n,[(4,Bo v4_13)],[])) (fun _ h=> ?_) (fun v4_13 h=> ?_)
 refine goo 2 rfl<|xC0 h (uI ·) rfl (fun c48_14 h=> ?_)
 refine xMv rfl<|oIf 49 h rfl (fun q15 h=> ?_) (fun q15 h=> ?_)
 exact geo
 exact geo
 exact gec
 refine gcc 5 rfl<|cIf h rfl (fun q16 h=> ?_) (fun q16 h=> ?_)
 refine cRs<|oJn h [(4,4),(55,69)] [] (fun v4_17=>(.n,[(4,Bo v4_17)],[])) (fun _ h=> ?_) (fun v4_17 h=> ?_)
 refine goo 2 rfl<|xC0 h (BX ·) rfl (fun c57_18 h=> ?_)
 refine xMv rfl<|oIf 58 h rfl (fun q19 h=> ?_) (fun q19 h=> ?_)
 refine goo 4 rfl<|oIf 62 h rfl (fun q20 h=> ?_) (fun q20 h=> ?_)
 refine goo 2 rfl<|oIf 64 h rfl (fun q21 h=> ?_) (fun q21 h=> ?_)
 exact geo
 exact geo
 exact geo
 exact geo
 exact gec
 refine gcc 6 rfl<|cIf h rfl (fun q22 h=> ?_) (fun q22 h=> ?_)
 refine gco 4 rfl<|oJn h [(4,4),(73,79)] [] (fun v4_23=>(.n,[(4,Bo v4_23)],[])) (fun _ h=> ?_) (fun v4_23 h=> ?_)
 refine goo 4 rfl<|oIf 76 h rfl (fun q24 h=> ?_) (fun q24 h=> ?_)
 exact geo
 exact geo
 exact gec
 refine gcc 4 rfl<|cIf h rfl (fun q25 h=> ?_) (fun q25 h=> ?_)
 refine cRs<|oJn h [(4,4),(73,79)] [] (fun v4_26=>(.n,[(4,Bo v4_26)],[])) (fun _ h=> ?_) (fun v4_26 h=> ?_)
 refine goo 4 rfl<|oIf 76 h rfl (fun q27 h=> ?_) (fun q27 h=> ?_)
 exact geo
 exact geo
 exact gec
 refine gcc 5 rfl<|cIf h rfl (fun q28 h=> ?_) (fun q28 h=> ?_)
 refine cRs<|oJn h [(4,4),(82,88)] [] (fun v4_29=>(.n,[(4,Bo v4_29)],[])) (fun _ h=> ?_) (fun v4_29 h=> ?_)
 refine goo 4 rfl<|oIf 85 h rfl (fun q30 h=> ?_) (fun q30 h=> ?_)
 refine xMv rfl<|xC0 h (cO ·) rfl (fun c87_31 h=> ?_)
 exact geo
 exact geo
 exact gec
 refine gcc 5 rfl<|cIf h rfl (fun q32 h=> ?_) (fun q32 h=> ?_)
 refine cRs<|oJn h [(4,4),(91,101)] [] (fun v4_33=>(.n,[(4,Bo v4_33)],[])) (fun _ h=> ?_) (fun v4_33 h=> ?_)
 refine goo 3 rfl<|oIf 93 h rfl (fun q34 h=> ?_) (fun q34 h=> ?_)
 refine goo 2 rfl<|xC0 h (GJ ·) rfl (fun c96_35 h=> ?_)
 refine goo 2 rfl<|oIf 98 h rfl (fun q36 h=> ?_) (fun q36 h=> ?_)
 exact geo
 exact geo
 exact geo
 exact gec
 refine gcc 5 rfl<|cIf h rfl (fun q37 h=> ?_) (fun q37 h=> ?_)
 refine cRs<|oJn h [(4,4),(104,114)] [] (fun v4_38=>(.n,[(4,Bo v4_38)],[])) (fun _ h=> ?_) (fun v4_38 h=> ?_)
 refine goo 3 rfl<|oIf 106 h rfl (fun q39 h=> ?_) (fun q39 h=> ?_)
 refine goo 2 rfl<|xC0 h (uI ·) rfl (fun c109_40 h=> ?_)
 refine goo 2 rfl<|oIf 111 h rfl (fun q41 h=> ?_) (fun q41 h=> ?_)
 exact geo
 exact geo
 exact geo
 exact gec
 refine gcc 5 rfl<|cIf h rfl (fun q42 h=> ?_) (fun q42 h=> ?_)
 refine cRs<|oJn h [(4,4),(117,133)] [] (fun v4_43=>(.n,[(4,Bo v4_43)],[])) (fun _ h=> ?_) (fun v4_43 h=> ?_)
 refine goo 3 rfl<|oIf 119 h rfl (fun q44 h=> ?_) (fun q44 h=> ?_)
 refine goo 5 rfl<|oIf 124 h rfl (fun q45 h=> ?_) (fun q45 h=> ?_)
 refine goo 4 rfl<|oIf 128 h rfl (fun q46 h=> ?_) (fun q46 h=> ?_)
 refine goo 2 rfl<|xLn rfl<|xC0 h (cO ·) rfl (fun c132_47 h=> ?_)
 exact geo
 exact geo
 exact geo
 exact geo
 exact gec
 exact gec
abbrev gT:Type:=Int→Int→(List UInt8)→(List aA)→(List aC)→Bool→Int→Int→Option (Int)
abbrev oN(p:gT):Prop:= ∀ {t0_0 t0_1:Int} {t0_2:List UInt8} {t0_3:List aA} {t0_4:List aC} {t1_0:Bool} {t2_0 t3_0:Int} {r:Int},p t0_0 t0_1 t0_2 t0_3 t0_4 t1_0 t2_0 t3_0=some r→Big Try.prog τ An (.fn 183 [.one (.ag [.int .i64 t0_0, .int .i64 t0_1, .str t0_2, .sl (t0_3.map aE), .sl (t0_4.map aD)]), .one (.c (.bool t1_0)), .one (.c (.int .i64 t2_0)), .one (.c (.int .i64 t3_0))] [] (.one (.c (.int .i64 r))) none [] none)
def dY(n:Nat)(r_spec_l4Look:gT)(t1_0:Bool)(t2_0:Int)(t0_3:List aA):(Int×Int)→Option ((Int×Int)⊕((Int×Int×Bool)))
  | (v3_6,v9_7)=>(bif decide (v9_7<(t0_3.length:Int))then some (decide ((0:Int)≤v3_6))else some false).bind fun v33_11=>bif v33_11 then(ix t0_3 v9_7).bind fun e39_14=>(r_spec_l4Look e39_14.f0 e39_14.f1 e39_14.f2 e39_14.f3 e39_14.f4 t1_0 (IntKind.wrap .i64 (t2_0 - (1:Int))) v3_6).bind fun c45_15=>some (.inl (c45_15,(IntKind.wrap .i64 (v9_7+(1:Int)))))else some (.inr (v3_6,v9_7,false))
def dX(n:Nat)(r_spec_l4Look:gT)(t2_0:Int)(t0_4:List aC):(Int×Int)→Option ((Int×Int)⊕((Int)⊕(Int×Int×Bool)))
  | (v3_16,v10_17)=>(bif decide (v10_17<(t0_4.length:Int))then some (decide ((0:Int)≤v3_16))else some false).bind fun v54_22=>bif v54_22 then(((ix t0_4 v10_17).bind fun e60_27=>(eG n e60_27.f0 e60_27.f1 e60_27.f2 e60_27.f3 e60_27.f4).bind fun c63_28=>(jK n c63_28).bind fun c64_29=>bif !c64_29 then some (.inl ((-1):Int))else(ix t0_4 v10_17).bind fun e69_31=>(r_spec_l4Look e69_31.f0 e69_31.f1 e69_31.f2 e69_31.f3 e69_31.f4 true (IntKind.wrap .i64 (t2_0 - (1:Int))) v3_16).bind fun c75_32=>bif decide ((0:Int)≤c75_32)then(ix t0_4 v10_17).bind fun e81_34=>(r_spec_l4Look e81_34.f5 e81_34.f6 e81_34.f7 e81_34.f8 e81_34.f9 false (IntKind.wrap .i64 (t2_0 - (1:Int))) c75_32).bind fun c87_35=>some (.inr c87_35)else some (.inr c75_32):Option ((Int)⊕(Int)))).bind fun q=>(match q with | .inl v8_25=>some (.inr (.inl v8_25)) | .inr v3_26=>some (.inl (v3_26,(IntKind.wrap .i64 (v10_17+(1:Int))))))else some (.inr (.inr (v3_16,v10_17,false)))
def lQ(n:Nat)(r_spec_l4Look:gT)(t0_0:Int)(t0_1:Int)(t0_2:List UInt8)(t0_3:List aA)(t0_4:List aC)(t1_0:Bool)(t2_0:Int)(t3_0:Int):Option (Int):=
  (bif decide (t2_0<(1:Int))then some true else bif decide (t3_0<(1:Int))then some true else(kB n t0_0 t0_1 t0_2 t0_3 t0_4 t1_0).bind fun c20_4=>some (!c20_4)).bind fun v22_1=>bif v22_1 then some ((-1):Int)else(loopN (dY n r_spec_l4Look t1_0 t2_0 t0_3) n ((IntKind.wrap .i64 (t3_0 - (1:Int))),(0:Int))).bind fun(v3_8,v9_9,v33_10)=>(loopN (dX n r_spec_l4Look t2_0 t0_4) n (v3_8,(0:Int))).bind fun q=>(match q with | .inl v8_18=>some v8_18 | .inr (v3_19,v10_20,v54_21)=>some v3_19)
theorem BD{n:Nat}{r_spec_l4Look:gT}(ih_spec_l4Look:oN r_spec_l4Look):oN (lQ n r_spec_l4Look):=by
 intro t0_0 t0_1 t0_2 t0_3 t0_4 t1_0 t2_0 t3_0 r h
 unfold lQ at h
 refine bF Try.func183 rfl rfl<|gco 8 rfl<|oJn h [(11,22)] [] (fun v22_1=>(.n,[(22,Bo v22_1)],[])) (fun _ h=> ?_) (fun v22_1 h=> ?_)
 refine goo 3 rfl<|oIf 13 h rfl (fun q2 h=> ?_) (fun q2 h=> ?_)
 exact geo
 refine goo 4 rfl<|oIf 17 h rfl (fun q3 h=> ?_) (fun q3 h=> ?_)
 exact geo
 refine goo 2 rfl<|xC0 h (BV ·) rfl (fun c20_4 h=> ?_)
 exact geo
 refine cIf h rfl (fun q5 h=> ?_) (fun q5 h=> ?_)
 exact gec
 refine gcc 12 rfl<|cLp h [(3,3),(9,9),(25,45)] [] (fun(v3_6,v9_7)=>([(3,I64 v3_6),(9,I64 v9_7)],[])) (fun(v3_8,v9_9,v33_10)=>(.e 0,[(3,I64 v3_8),(9,I64 v9_9),(33,Bo v33_10)],[])) rfl (fun st _ h=> ?_) (fun q h=> ?_)
 obtain⟨v3_6,v9_7⟩:=st
 unfold dY at h
 refine gco 3 rfl<|oJn h [(25,33)] [] (fun v33_11=>(.n,[(33,Bo v33_11)],[])) (fun _ h=> ?_) (fun v33_11 h=> ?_)
 refine goo 3 rfl<|xLn rfl<|goo 2 rfl<|oIf 30 h rfl (fun q12 h=> ?_) (fun q12 h=> ?_)
 exact geo
 exact geo
 refine cIf h rfl (fun q13 h=> ?_) (fun q13 h=> ?_)
 refine gco 7 rfl<|xIx h aL rfl (fun e39_14 h=> ?_)
 refine goo 5 rfl<|xC0 h (ih_spec_l4Look ·) rfl (fun c45_15 h=> ?_)
 exact geo
 exact gec
 obtain⟨v3_8,v9_9,v33_10⟩:=q
 refine gcc 5 rfl<|cLp h [(3,3),(8,8),(10,10),(46,87)] [] (fun(v3_16,v10_17)=>([(3,I64 v3_16),(10,I64 v10_17)],[])) (fun q=>match q with | .inl v8_18=>(.r,[(8,I64 v8_18)],[]) | .inr (v3_19,v10_20,v54_21)=>(.e 2,[(3,I64 v3_19),(10,I64 v10_20),(54,Bo v54_21)],[])) rfl (fun st _ h=> ?_) (fun q h=> ?_)
 obtain⟨v3_16,v10_17⟩:=st
 unfold dX at h
 refine gco 3 rfl<|oJn h [(46,54)] [] (fun v54_22=>(.n,[(54,Bo v54_22)],[])) (fun _ h=> ?_) (fun v54_22 h=> ?_)
 refine goo 3 rfl<|xLn rfl<|goo 2 rfl<|oIf 51 h rfl (fun q23 h=> ?_) (fun q23 h=> ?_)
 exact geo
 exact geo
 refine cIf h rfl (fun q24 h=> ?_) (fun q24 h=> ?_)
 refine gcc 2 rfl<|cJn h [(3,3),(8,8),(57,87)] [] (fun q=>match q with | .inl v8_25=>(.r,[(8,I64 v8_25)],[]) | .inr v3_26=>(.n,[(3,I64 v3_26)],[])) (fun _ h=> ?_) (fun q h=> ?_)
 refine gco 7 rfl<|xIx h aW rfl (fun e60_27 h=> ?_)
 refine goo 2 rfl<|xC0 h (uL ·) rfl (fun c63_28 h=> ?_)
 refine xC0 h (uF ·) rfl (fun c64_29 h=> ?_)
 refine goc 2 rfl<|cIf h rfl (fun q30 h=> ?_) (fun q30 h=> ?_)
 exact gec
 refine gco 6 rfl<|xIx h aW rfl (fun e69_31 h=> ?_)
 refine goo 5 rfl<|xC0 h (ih_spec_l4Look ·) rfl (fun c75_32 h=> ?_)
 refine goc 7 rfl<|cIf h rfl (fun q33 h=> ?_) (fun q33 h=> ?_)
 refine gco 4 rfl<|xIx h aW rfl (fun e81_34 h=> ?_)
 refine goo 5 rfl<|xC0 h (ih_spec_l4Look ·) rfl (fun c87_35 h=> ?_)
 exact geo
 exact gec
 rcases q with v8_25 | v3_26
 exact en
 exact gec
 exact gec
 rcases q with v8_18 | ⟨v3_19,v10_20,v54_21⟩
 exact en
 exact gec
def yB:Nat→(gT)
  | 0=>(fun _ _ _ _ _ _ _ _=>none)
  | n+1=>lQ n (yB n)
def bP(n:Nat):gT:=yB n
theorem BM(n:Nat):oN (bP n):=by
  induction n with
  | zero=>exact(fun h=>nomatch h)
  | succ n ih=>exact BD (n:=n) ih
theorem uG{n:Nat}:oN (bP n):=(BM n)
theorem zA(n:Nat):bP (n+1)=lQ n (bP n):=rfl
abbrev IV(p:Int→Int→(List UInt8)→(List aA)→(List aC)→Option (Bool)):Prop:= ∀ {t0_0 t0_1:Int} {t0_2:List UInt8} {t0_3:List aA} {t0_4:List aC} {r:Bool},p t0_0 t0_1 t0_2 t0_3 t0_4=some r→Big Try.prog τ An (.fn 107 [.one (.ag [.int .i64 t0_0, .int .i64 t0_1, .str t0_2, .sl (t0_3.map aE), .sl (t0_4.map aD)])] [] (.one (.c (.bool r))) none [] none)
def nP(n:Nat)(t0_0:Int)(t0_1:Int)(t0_2:List UInt8)(t0_3:List aA)(t0_4:List aC):Option (Bool):=
  ((bP n t0_0 t0_1 t0_2 t0_3 t0_4 true (10:Int) (300:Int)).bind fun c4_2=>bif decide ((0:Int)≤c4_2)then(eG n t0_0 t0_1 t0_2 t0_3 t0_4).bind fun c8_4=>(jK n c8_4).bind fun c9_5=>some c9_5 else some false).bind fun v2_1=>some v2_1
theorem Du{n:Nat}:IV (nP n):=by
 intro t0_0 t0_1 t0_2 t0_3 t0_4 r h
 unfold nP at h
 refine bF Try.func107 rfl rfl<|gco 7 rfl<|oJn h [(2,10)] [] (fun v2_1=>(.n,[(2,Bo v2_1)],[])) (fun _ h=> ?_) (fun v2_1 h=> ?_)
 refine xLd rfl<|xC0 h (uG ·) rfl (fun c4_2 h=> ?_)
 refine goo 2 rfl<|oIf 6 h rfl (fun q3 h=> ?_) (fun q3 h=> ?_)
 refine xLd rfl<|xC0 h (uL ·) rfl (fun c8_4 h=> ?_)
 refine xC0 h (uF ·) rfl (fun c9_5 h=> ?_)
 exact geo
 exact geo
 exact gec
abbrev EF(p:Int→Int→(List UInt8)→(List aB)→Option (Bool)):Prop:= ∀ {t0_0 t0_1:Int} {t0_2:List UInt8} {t0_3:List aB} {r:Bool},p t0_0 t0_1 t0_2 t0_3=some r→Big Try.prog τ An (.fn 233 [.one (.ag [.int .i64 t0_0, .int .i64 t0_1, .str t0_2, .sl (t0_3.map aF)])] [] (.one (.c (.bool r))) none [] none)
def kH(n:Nat)(t0_0:Int)(t0_1:Int)(t0_2:List UInt8)(t0_3:List aB):Option (Bool):=
  bif decide (t0_0=(1:Int))then((cH n t0_1 ((-1000000000000):Int) (1000000000000:Int)).bind fun c9_3=>bif c9_3 then bif decide (t0_2=([]:List UInt8))then some (decide ((t0_3.length:Int)=(0:Int)))else some false else some false).bind fun v2_2=>some v2_2 else bif decide (t0_0=(2:Int))then((jN n t0_2).bind fun c25_8=>bif c25_8 then bif decide (t0_1=(0:Int))then some (decide ((t0_3.length:Int)=(0:Int)))else some false else some false).bind fun v2_7=>some v2_7 else bif decide (t0_0=(3:Int))then((cH n t0_1 (0:Int) (1000000:Int)).bind fun c41_13=>bif c41_13 then bif decide (t0_2=([]:List UInt8))then some (decide ((t0_3.length:Int)=(0:Int)))else some false else some false).bind fun v2_12=>some v2_12 else bif decide (t0_0=(4:Int))then(bif decide (t0_1=(0:Int))then bif decide (t0_2=([]:List UInt8))then some (decide ((t0_3.length:Int)≤(20:Int)))else some false else some false).bind fun v2_17=>some v2_17 else bif decide (t0_0=(5:Int))then(bif decide (t0_1=(0:Int))then bif decide (t0_2=([]:List UInt8))then some (decide ((t0_3.length:Int)≤(60:Int)))else some false else some false).bind fun v2_21=>some v2_21 else some false
theorem Bb{n:Nat}:EF (kH n):=by
 intro t0_0 t0_1 t0_2 t0_3 r h
 unfold kH at h
 refine bF Try.func233 rfl rfl<|gcc 17 rfl<|cIf h rfl (fun q1 h=> ?_) (fun q1 h=> ?_)
 refine cRs<|oJn h [(2,2),(7,20)] [] (fun v2_2=>(.n,[(2,Bo v2_2)],[])) (fun _ h=> ?_) (fun v2_2 h=> ?_)
 refine goo 2 rfl<|xC0 h (cO ·) rfl (fun c9_3 h=> ?_)
 refine xMv rfl<|oIf 10 h rfl (fun q4 h=> ?_) (fun q4 h=> ?_)
 refine goo 5 rfl<|oIf 15 h rfl (fun q5 h=> ?_) (fun q5 h=> ?_)
 exact goo 2 rfl<|xLn rfl<|geo
 exact geo
 exact geo
 exact gec
 refine gcc 5 rfl<|cIf h rfl (fun q6 h=> ?_) (fun q6 h=> ?_)
 refine cRs<|oJn h [(2,2),(23,36)] [] (fun v2_7=>(.n,[(2,Bo v2_7)],[])) (fun _ h=> ?_) (fun v2_7 h=> ?_)
 refine goo 2 rfl<|xC0 h (uM ·) rfl (fun c25_8 h=> ?_)
 refine xMv rfl<|oIf 26 h rfl (fun q9 h=> ?_) (fun q9 h=> ?_)
 refine goo 5 rfl<|oIf 31 h rfl (fun q10 h=> ?_) (fun q10 h=> ?_)
 exact goo 2 rfl<|xLn rfl<|geo
 exact geo
 exact geo
 exact gec
 refine gcc 5 rfl<|cIf h rfl (fun q11 h=> ?_) (fun q11 h=> ?_)
 refine cRs<|oJn h [(2,2),(39,52)] [] (fun v2_12=>(.n,[(2,Bo v2_12)],[])) (fun _ h=> ?_) (fun v2_12 h=> ?_)
 refine goo 2 rfl<|xC0 h (cO ·) rfl (fun c41_13 h=> ?_)
 refine xMv rfl<|oIf 42 h rfl (fun q14 h=> ?_) (fun q14 h=> ?_)
 refine goo 5 rfl<|oIf 47 h rfl (fun q15 h=> ?_) (fun q15 h=> ?_)
 exact goo 2 rfl<|xLn rfl<|geo
 exact geo
 exact geo
 exact gec
 refine gcc 5 rfl<|cIf h rfl (fun q16 h=> ?_) (fun q16 h=> ?_)
 refine cRs<|oJn h [(2,2),(55,68)] [] (fun v2_17=>(.n,[(2,Bo v2_17)],[])) (fun _ h=> ?_) (fun v2_17 h=> ?_)
 refine goo 4 rfl<|oIf 58 h rfl (fun q18 h=> ?_) (fun q18 h=> ?_)
 refine goo 5 rfl<|oIf 63 h rfl (fun q19 h=> ?_) (fun q19 h=> ?_)
 exact goo 2 rfl<|xLn rfl<|geo
 exact geo
 exact geo
 exact gec
 refine gcc 5 rfl<|cIf h rfl (fun q20 h=> ?_) (fun q20 h=> ?_)
 refine cRs<|oJn h [(2,2),(71,84)] [] (fun v2_21=>(.n,[(2,Bo v2_21)],[])) (fun _ h=> ?_) (fun v2_21 h=> ?_)
 refine goo 4 rfl<|oIf 74 h rfl (fun q22 h=> ?_) (fun q22 h=> ?_)
 refine goo 5 rfl<|oIf 79 h rfl (fun q23 h=> ?_) (fun q23 h=> ?_)
 exact goo 2 rfl<|xLn rfl<|geo
 exact geo
 exact geo
 exact gec
 exact gec
abbrev jP:Type:=Int→Int→(List UInt8)→(List aB)→Int→Int→Option (Int)
abbrev oQ(p:jP):Prop:= ∀ {t0_0 t0_1:Int} {t0_2:List UInt8} {t0_3:List aB} {t1_0 t2_0:Int} {r:Int},p t0_0 t0_1 t0_2 t0_3 t1_0 t2_0=some r→Big Try.prog τ An (.fn 185 [.one (.ag [.int .i64 t0_0, .int .i64 t0_1, .str t0_2, .sl (t0_3.map aF)]), .one (.c (.int .i64 t1_0)), .one (.c (.int .i64 t2_0))] [] (.one (.c (.int .i64 r))) none [] none)
def fP(n:Nat)(r_spec_l2Look:jP)(t1_0:Int)(t0_3:List aB):(Int×Int)→Option ((Int×Int)⊕((Int×Int×Bool)))
  | (v2_6,v7_7)=>(bif decide (v7_7<(t0_3.length:Int))then some (decide ((0:Int)≤v2_6))else some false).bind fun v29_11=>bif v29_11 then(ix t0_3 v7_7).bind fun e35_14=>(r_spec_l2Look e35_14.f0 e35_14.f1 e35_14.f2 e35_14.f3 (IntKind.wrap .i64 (t1_0 - (1:Int))) v2_6).bind fun c40_15=>some (.inl (c40_15,(IntKind.wrap .i64 (v7_7+(1:Int)))))else some (.inr (v2_6,v7_7,false))
def lT(n:Nat)(r_spec_l2Look:jP)(t0_0:Int)(t0_1:Int)(t0_2:List UInt8)(t0_3:List aB)(t1_0:Int)(t2_0:Int):Option (Int):=
  (bif decide (t1_0<(1:Int))then some true else bif decide (t2_0<(1:Int))then some true else(kH n t0_0 t0_1 t0_2 t0_3).bind fun c16_4=>some (!c16_4)).bind fun v18_1=>bif v18_1 then some ((-1):Int)else(loopN (fP n r_spec_l2Look t1_0 t0_3) n ((IntKind.wrap .i64 (t2_0 - (1:Int))),(0:Int))).bind fun(v2_8,v7_9,v29_10)=>some v2_8
theorem BG{n:Nat}{r_spec_l2Look:jP}(ih_spec_l2Look:oQ r_spec_l2Look):oQ (lT n r_spec_l2Look):=by
 intro t0_0 t0_1 t0_2 t0_3 t1_0 t2_0 r h
 unfold lT at h
 refine bF Try.func185 rfl rfl<|gco 8 rfl<|oJn h [(8,18)] [] (fun v18_1=>(.n,[(18,Bo v18_1)],[])) (fun _ h=> ?_) (fun v18_1 h=> ?_)
 refine goo 3 rfl<|oIf 10 h rfl (fun q2 h=> ?_) (fun q2 h=> ?_)
 exact geo
 refine goo 4 rfl<|oIf 14 h rfl (fun q3 h=> ?_) (fun q3 h=> ?_)
 exact geo
 refine xLd rfl<|xC0 h (Bb ·) rfl (fun c16_4 h=> ?_)
 exact geo
 refine cIf h rfl (fun q5 h=> ?_) (fun q5 h=> ?_)
 exact gec
 refine gcc 12 rfl<|cLp h [(2,2),(7,7),(21,40)] [] (fun(v2_6,v7_7)=>([(2,I64 v2_6),(7,I64 v7_7)],[])) (fun(v2_8,v7_9,v29_10)=>(.e 0,[(2,I64 v2_8),(7,I64 v7_9),(29,Bo v29_10)],[])) rfl (fun st _ h=> ?_) (fun q h=> ?_)
 obtain⟨v2_6,v7_7⟩:=st
 unfold fP at h
 refine gco 3 rfl<|oJn h [(21,29)] [] (fun v29_11=>(.n,[(29,Bo v29_11)],[])) (fun _ h=> ?_) (fun v29_11 h=> ?_)
 refine goo 3 rfl<|xLn rfl<|goo 2 rfl<|oIf 26 h rfl (fun q12 h=> ?_) (fun q12 h=> ?_)
 exact geo
 exact geo
 refine cIf h rfl (fun q13 h=> ?_) (fun q13 h=> ?_)
 refine gco 7 rfl<|xIx h aO rfl (fun e35_14 h=> ?_)
 refine goo 4 rfl<|xC0 h (ih_spec_l2Look ·) rfl (fun c40_15 h=> ?_)
 exact geo
 exact gec
 obtain⟨v2_8,v7_9,v29_10⟩:=q
 exact gec
def yE:Nat→(jP)
  | 0=>(fun _ _ _ _ _ _=>none)
  | n+1=>lT n (yE n)
def eE(n:Nat):jP:=yE n
theorem BP(n:Nat):oQ (eE n):=by
  induction n with
  | zero=>exact(fun h=>nomatch h)
  | succ n ih=>exact BG (n:=n) ih
theorem DC{n:Nat}:oQ (eE n):=(BP n)
theorem zD(n:Nat):eE (n+1)=lT n (eE n):=rfl
abbrev GT(p:Int→Int→(List UInt8)→(List aB)→Option (Bool)):Prop:= ∀ {t0_0 t0_1:Int} {t0_2:List UInt8} {t0_3:List aB} {r:Bool},p t0_0 t0_1 t0_2 t0_3=some r→Big Try.prog τ An (.fn 108 [.one (.ag [.int .i64 t0_0, .int .i64 t0_1, .str t0_2, .sl (t0_3.map aF)])] [] (.one (.c (.bool r))) none [] none)
def mB(n:Nat)(t0_0:Int)(t0_1:Int)(t0_2:List UInt8)(t0_3:List aB):Option (Bool):=
  (eE n t0_0 t0_1 t0_2 t0_3 (8:Int) (300:Int)).bind fun c4_1=>some (decide ((0:Int)≤c4_1))
theorem DF{n:Nat}:GT (mB n):=by
 intro t0_0 t0_1 t0_2 t0_3 r h
 unfold mB at h
 refine bF Try.func108 rfl rfl<|gco 8 rfl<|xC0 h (DC ·) rfl (fun c4_1 h=> ?_)
 exact geo
abbrev jR:Type:=Int→Int→(List UInt8)→(List aB)→Option (Int×Int×(List UInt8)×(List aB))
abbrev oS(p:jR):Prop:= ∀ {t0_0 t0_1:Int} {t0_2:List UInt8} {t0_3:List aB} {r:Int×Int×(List UInt8)×(List aB)},p t0_0 t0_1 t0_2 t0_3=some r→Big Try.prog τ An (.fn 182 [.one (.ag [.int .i64 t0_0, .int .i64 t0_1, .str t0_2, .sl (t0_3.map aF)])] [] (.one (.ag [.int .i64 r.1, .int .i64 r.2.1, .str r.2.2.1, .sl (r.2.2.2.map aF)])) none [] none)
def iE(n:Nat)(r_spec_l2Copy:jR)(t0_3:List aB):(Int×Int×Int×(List UInt8)×(List aB))→Option ((Int×Int×Int×(List UInt8)×(List aB))⊕((Int×Bool×Int×Int×(List UInt8)×(List aB))))
  | (v4_1,w3_2,w3_3,w3_4,w3_5)=>bif decide (v4_1<(t0_3.length:Int))then(ix t0_3 v4_1).bind fun e20_13=>(r_spec_l2Copy e20_13.f0 e20_13.f1 e20_13.f2 e20_13.f3).bind fun c22_14=>(gA 56 w3_5 ([aB.mk c22_14.1 c22_14.2.1 c22_14.2.2.1 c22_14.2.2.2]:List aB)).bind fun v24_15=>some (.inl ((IntKind.wrap .i64 (v4_1+(1:Int))),w3_2,w3_3,w3_4,v24_15))else some (.inr (v4_1,false,w3_2,w3_3,w3_4,w3_5))
def lV(n:Nat)(r_spec_l2Copy:jR)(t0_0:Int)(t0_1:Int)(t0_2:List UInt8)(t0_3:List aB):Option (Int×Int×(List UInt8)×(List aB)):=
  (loopN (iE n r_spec_l2Copy t0_3) n ((0:Int),t0_0,t0_1,t0_2,([]:List aB))).bind fun(v4_6,v12_7,w3_8,w3_9,w3_10,w3_11)=>some (w3_8,w3_9,w3_10,w3_11)
theorem BI{n:Nat}{r_spec_l2Copy:jR}(ih_spec_l2Copy:oS r_spec_l2Copy):oS (lV n r_spec_l2Copy):=by
 intro t0_0 t0_1 t0_2 t0_3 r h
 unfold lV at h
 refine bF Try.func182 rfl rfl<|gco 3 rfl<|xAz [.int .i64 0, .int .i64 0, .str [], .sl ([].map aF)] rfl<|goo 4 rfl<|xAz [.int .i64 0, .int .i64 0, .str [], .sl ([].map aF)] rfl<|goo 4 rfl<|cY (L:=([]:List aB)) (f:=aF) rfl rfl rfl rfl rfl rfl rfl<|goc 8 rfl<|cLp h [(4,4),(8,25)] [(3,3)] (fun(v4_1,w3_2,w3_3,w3_4,w3_5)=>([(4,I64 v4_1)],[(3,[.int .i64 w3_2, .int .i64 w3_3, .str w3_4, .sl (w3_5.map aF)])])) (fun(v4_6,v12_7,w3_8,w3_9,w3_10,w3_11)=>(.e 0,[(4,I64 v4_6),(12,Bo v12_7)],[(3,[.int .i64 w3_8, .int .i64 w3_9, .str w3_10, .sl (w3_11.map aF)])])) rfl (fun st _ h=> ?_) (fun q h=> ?_)
 obtain⟨v4_1,w3_2,w3_3,w3_4,w3_5⟩:=st
 unfold iE at h
 refine gco 6 rfl<|xLn rfl<|goc 2 rfl<|cIf h rfl (fun q12 h=> ?_) (fun q12 h=> ?_)
 refine gco 9 rfl<|xIx h aO rfl (fun e20_13 h=> ?_)
 refine xLd rfl<|xC0 h (ih_spec_l2Copy ·) rfl (fun c22_14 h=> ?_)
 refine cY (L:=([aB.mk c22_14.1 c22_14.2.1 c22_14.2.2.1 c22_14.2.2.2]:List aB)) (f:=aF) rfl rfl rfl rfl (by simp only[List.map,dC]<;>rfl) rfl rfl<|wAp (f:=aF) h rfl rfl rfl rfl rfl rfl rfl rfl rfl (fun a=>by rw[aO]; rfl) rfl (fun v24_15 h=> ?_)
 exact geo
 exact gec
 obtain⟨v4_6,v12_7,w3_8,w3_9,w3_10,w3_11⟩:=q
 exact gec
def yG:Nat→(jR)
  | 0=>(fun _ _ _ _=>none)
  | n+1=>lV n (yG n)
def eF(n:Nat):jR:=yG n
theorem BR(n:Nat):oS (eF n):=by
  induction n with
  | zero=>exact(fun h=>nomatch h)
  | succ n ih=>exact BI (n:=n) ih
theorem uK{n:Nat}:oS (eF n):=(BR n)
theorem zF(n:Nat):eF (n+1)=lV n (eF n):=rfl
abbrev gR:Type:=(List aA)→(List aB)→(List aG)→Option (Bool×(List aG))
abbrev mD(p:gR):Prop:= ∀ {t0_0:List aA} {t1_0:List aB} {o0_0:List aG} {r:Bool×(List aG)},p t0_0 t1_0 o0_0=some r→Big Try.prog τ An (.fn 186 [.one (.c (.sl (t0_0.map aE))), .one (.c (.sl (t1_0.map aF))), .one (.ptr 1000000 0)] [[.sl (o0_0.map aM)]] (.one (.c (.bool r.1))) none [[.sl (r.2.map aM)]] none)
abbrev eM:Type:=Int→Int→(List UInt8)→(List aA)→(List aC)→Int→Int→(List UInt8)→(List aB)→(List aG)→Option (Bool×(List aG))
abbrev kJ(p:eM):Prop:= ∀ {t0_0 t0_1:Int} {t0_2:List UInt8} {t0_3:List aA} {t0_4:List aC} {t1_0 t1_1:Int} {t1_2:List UInt8} {t1_3:List aB} {o0_0:List aG} {r:Bool×(List aG)},p t0_0 t0_1 t0_2 t0_3 t0_4 t1_0 t1_1 t1_2 t1_3 o0_0=some r→Big Try.prog τ An (.fn 109 [.one (.ag [.int .i64 t0_0, .int .i64 t0_1, .str t0_2, .sl (t0_3.map aE), .sl (t0_4.map aD)]), .one (.ag [.int .i64 t1_0, .int .i64 t1_1, .str t1_2, .sl (t1_3.map aF)]), .one (.ptr 1000000 0)] [[.sl (o0_0.map aM)]] (.one (.c (.bool r.1))) none [[.sl (r.2.map aM)]] none)
def fO(n:Nat)(r_spec_l7Match:eM)(t0_0:List aA)(t1_0:List aB):(Int×(List aG))→Option ((Int×(List aG))⊕((Bool×(List aG))⊕(Int×Bool×(List aG))))
  | (v7_1,w1000000_2)=>bif decide (v7_1<(t0_0.length:Int))then(ix t0_0 v7_1).bind fun e16_9=>(ix t1_0 v7_1).bind fun e20_10=>(r_spec_l7Match e16_9.f0 e16_9.f1 e16_9.f2 e16_9.f3 e16_9.f4 e20_10.f0 e20_10.f1 e20_10.f2 e20_10.f3 w1000000_2).bind fun c23_11=>bif !c23_11.1 then some (.inr (.inl (false,c23_11.2)))else some (.inl ((IntKind.wrap .i64 (v7_1+(1:Int))),c23_11.2))else some (.inr (.inr (v7_1,false,w1000000_2)))
def lP(n:Nat)(r_spec_l7Match:eM)(r_spec_l7Each:gR)(t0_0:List aA)(t1_0:List aB)(o0_0:List aG):Option (Bool×(List aG)):=
  (loopN (fO n r_spec_l7Match t0_0 t1_0) n ((0:Int),o0_0)).bind fun q=>(match q with | .inl (v6_3,w1000000_4)=>some (v6_3,w1000000_4) | .inr (v7_5,v11_6,w1000000_7)=>some (true,w1000000_7))
theorem BC{n:Nat}{r_spec_l7Match:eM}(ih_spec_l7Match:kJ r_spec_l7Match){r_spec_l7Each:gR}(ih_spec_l7Each:mD r_spec_l7Each):mD (lP n r_spec_l7Match r_spec_l7Each):=by
 intro t0_0 t1_0 o0_0 r h
 unfold lP at h
 refine bF Try.func186 rfl rfl<|gcc 9 rfl<|cLp h [(6,24)] [(1000000,1000000)] (fun(v7_1,w1000000_2)=>([(7,I64 v7_1)],[(1000000,[.sl (w1000000_2.map aM)])])) (fun q=>match q with | .inl (v6_3,w1000000_4)=>(.r,[(6,Bo v6_3)],[(1000000,[.sl (w1000000_4.map aM)])]) | .inr (v7_5,v11_6,w1000000_7)=>(.e 0,[(7,I64 v7_5),(11,Bo v11_6)],[(1000000,[.sl (w1000000_7.map aM)])])) rfl (fun st _ h=> ?_) (fun q h=> ?_)
 obtain⟨v7_1,w1000000_2⟩:=st
 unfold fO at h
 refine gco 5 rfl<|xLn rfl<|goc 2 rfl<|cIf h rfl (fun q8 h=> ?_) (fun q8 h=> ?_)
 refine gco 7 rfl<|xIx h aL rfl (fun e16_9 h=> ?_)
 refine goo 3 rfl<|xIx h aO rfl (fun e20_10 h=> ?_)
 refine goo 2 rfl<|xC1 h (ih_spec_l7Match ·) rfl (fun c23_11 h=> ?_)
 refine goc 2 rfl<|cIf h rfl (fun q12 h=> ?_) (fun q12 h=> ?_)
 exact gec
 exact gec
 exact gec
 rcases q with⟨v6_3,w1000000_4⟩ | ⟨v7_5,v11_6,w1000000_7⟩
 exact en
 exact gec
def kA(n:Nat)(r_spec_l7Match:eM)(r_spec_l7Each:gR)(t0_0:Int)(t0_1:Int)(t0_2:List UInt8)(t0_3:List aA)(t0_4:List aC)(t1_0:Int)(t1_1:Int)(t1_2:List UInt8)(t1_3:List aB)(o0_0:List aG):Option (Bool×(List aG)):=
  bif decide (t0_0=(1:Int))then(bif decide (t1_0=(1:Int))then some (decide (t1_1=t0_1))else some false).bind fun v6_2=>some (v6_2,o0_0)else bif decide (t0_0=(2:Int))then(bif decide (t1_0=(2:Int))then some (decide (t1_2=t0_2))else some false).bind fun v6_5=>some (v6_5,o0_0)else bif decide (t0_0=(3:Int))then bif !decide (t0_2=([95]:List UInt8))then(eF n t1_0 t1_1 t1_2 t1_3).bind fun c46_9=>(gA 72 o0_0 ([aG.mk t0_2 c46_9.1 c46_9.2.1 c46_9.2.2.1 c46_9.2.2.2]:List aG)).bind fun v49_10=>some (true,v49_10)else some (true,o0_0)else bif decide (t0_0=(4:Int))then(bif decide (t1_0=(4:Int))then bif decide ((t1_3.length:Int)=(t0_3.length:Int))then(r_spec_l7Each t0_3 t1_3 o0_0).bind fun c71_16=>some (c71_16.1,c71_16.2)else some (false,o0_0)else some (false,o0_0)).bind fun(v6_12,w1000000_13)=>some (v6_12,w1000000_13)else bif decide (t0_0=(5:Int))then(bif decide (t1_0=(5:Int))then bif decide ((t1_3.length:Int)=(t0_3.length:Int))then(r_spec_l7Each t0_3 t1_3 o0_0).bind fun c93_22=>some (c93_22.1,c93_22.2)else some (false,o0_0)else some (false,o0_0)).bind fun(v6_18,w1000000_19)=>some (v6_18,w1000000_19)else(bif !decide (t1_0=(5:Int))then some (true,o0_0)else bif decide ((t1_3.length:Int)<(IntKind.wrap .i64 ((t0_3.length:Int) - (1:Int))))then some (true,o0_0)else(sub t0_3 none (some (IntKind.wrap .i64 ((t0_3.length:Int) - (1:Int))))).bind fun v113_27=>(r_spec_l7Each v113_27 t1_3 o0_0).bind fun c117_28=>some ((!c117_28.1),c117_28.2)).bind fun(v119_23,w1000000_24)=>bif v119_23 then some (false,w1000000_24)else(ix t0_3 (IntKind.wrap .i64 ((t0_3.length:Int) - (1:Int)))).bind fun e123_30=>(sub t1_3 (some (IntKind.wrap .i64 ((t0_3.length:Int) - (1:Int)))) none).bind fun v128_31=>(r_spec_l7Match e123_30.f0 e123_30.f1 e123_30.f2 e123_30.f3 e123_30.f4 (5:Int) (0:Int) ([]:List UInt8) v128_31 w1000000_24).bind fun c131_32=>some (c131_32.1,c131_32.2)
theorem AJ{n:Nat}{r_spec_l7Match:eM}(ih_spec_l7Match:kJ r_spec_l7Match){r_spec_l7Each:gR}(ih_spec_l7Each:mD r_spec_l7Each):kJ (kA n r_spec_l7Match r_spec_l7Each):=by
 intro t0_0 t0_1 t0_2 t0_3 t0_4 t1_0 t1_1 t1_2 t1_3 o0_0 r h
 unfold kA at h
 refine bF Try.func109 rfl rfl<|gcc 18 rfl<|cIf h rfl (fun q1 h=> ?_) (fun q1 h=> ?_)
 refine cRs<|oJn h [(6,6),(12,21)] [] (fun v6_2=>(.n,[(6,Bo v6_2)],[])) (fun _ h=> ?_) (fun v6_2 h=> ?_)
 refine goo 4 rfl<|oIf 15 h rfl (fun q3 h=> ?_) (fun q3 h=> ?_)
 exact geo
 exact geo
 exact gec
 refine gcc 5 rfl<|cIf h rfl (fun q4 h=> ?_) (fun q4 h=> ?_)
 refine cRs<|oJn h [(6,6),(24,33)] [] (fun v6_5=>(.n,[(6,Bo v6_5)],[])) (fun _ h=> ?_) (fun v6_5 h=> ?_)
 refine goo 4 rfl<|oIf 27 h rfl (fun q6 h=> ?_) (fun q6 h=> ?_)
 exact geo
 exact geo
 exact gec
 refine gcc 5 rfl<|cIf h rfl (fun q7 h=> ?_) (fun q7 h=> ?_)
 refine gcc 7 rfl<|cIf h rfl (fun q8 h=> ?_) (fun q8 h=> ?_)
 refine gco 8 rfl<|xC0 h (uK ·) rfl (fun c46_9 h=> ?_)
 refine wBd [.str t0_2, .int .i64 c46_9.1, .int .i64 c46_9.2.1, .str c46_9.2.2.1, .sl (c46_9.2.2.2.map aF)] rfl rfl rfl rfl rfl rfl<|cY (L:=([aG.mk t0_2 c46_9.1 c46_9.2.1 c46_9.2.2.1 c46_9.2.2.2]:List aG)) (f:=aM) rfl rfl rfl rfl rfl rfl rfl<|wAp (f:=aM) h rfl rfl rfl rfl rfl rfl rfl rfl rfl (fun _=>rfl) rfl (fun v49_10 h=> ?_)
 exact geo
 exact gec
 refine gcc 5 rfl<|cIf h rfl (fun q11 h=> ?_) (fun q11 h=> ?_)
 refine cRs<|oJn h [(6,6),(53,72)] [(1000000,1000000)] (fun(v6_12,w1000000_13)=>(.n,[(6,Bo v6_12)],[(1000000,[.sl (w1000000_13.map aM)])])) (fun _ h=> ?_) (fun q h=> ?_)
 refine goo 4 rfl<|oIf 56 h rfl (fun q14 h=> ?_) (fun q14 h=> ?_)
 refine goo 2 rfl<|xLn rfl<|goo 2 rfl<|xLn rfl<|goo 3 rfl<|oIf 65 h rfl (fun q15 h=> ?_) (fun q15 h=> ?_)
 refine goo 5 rfl<|xC1 h (ih_spec_l7Each ·) rfl (fun c71_16 h=> ?_)
 exact geo
 exact geo
 exact geo
 obtain⟨v6_12,w1000000_13⟩:=q
 exact gec
 refine gcc 5 rfl<|cIf h rfl (fun q17 h=> ?_) (fun q17 h=> ?_)
 refine cRs<|oJn h [(6,6),(75,94)] [(1000000,1000000)] (fun(v6_18,w1000000_19)=>(.n,[(6,Bo v6_18)],[(1000000,[.sl (w1000000_19.map aM)])])) (fun _ h=> ?_) (fun q h=> ?_)
 refine goo 4 rfl<|oIf 78 h rfl (fun q20 h=> ?_) (fun q20 h=> ?_)
 refine goo 2 rfl<|xLn rfl<|goo 2 rfl<|xLn rfl<|goo 3 rfl<|oIf 87 h rfl (fun q21 h=> ?_) (fun q21 h=> ?_)
 refine goo 5 rfl<|xC1 h (ih_spec_l7Each ·) rfl (fun c93_22 h=> ?_)
 exact geo
 exact geo
 exact geo
 obtain⟨v6_18,w1000000_19⟩:=q
 exact gec
 refine gco 5 rfl<|xLn rfl<|goo 6 rfl<|oJn h [(99,119)] [(1000000,1000000)] (fun(v119_23,w1000000_24)=>(.n,[(119,Bo v119_23)],[(1000000,[.sl (w1000000_24.map aM)])])) (fun _ h=> ?_) (fun q h=> ?_)
 refine goo 4 rfl<|oIf 102 h rfl (fun q25 h=> ?_) (fun q25 h=> ?_)
 exact geo
 refine goo 2 rfl<|xLn rfl<|goo 4 rfl<|oIf 109 h rfl (fun q26 h=> ?_) (fun q26 h=> ?_)
 exact geo
 refine goo 3 rfl<|wSl (rf:=aE) h rfl rfl rfl rfl .no (.so rfl) (fun a=>by rw[aL]; rfl) rfl (fun v113_27 h=> ?_)
 refine goo 3 rfl<|xC1 h (ih_spec_l7Each ·) rfl (fun c117_28 h=> ?_)
 exact geo
 obtain⟨v119_23,w1000000_24⟩:=q
 refine cIf h rfl (fun q29 h=> ?_) (fun q29 h=> ?_)
 exact gec
 refine gco 6 rfl<|xIx h aL rfl (fun e123_30 h=> ?_)
 refine goo 4 rfl<|wSl (rf:=aF) h rfl rfl rfl rfl (.so rfl) .no (fun a=>by rw[aO]; rfl) rfl (fun v128_31 h=> ?_)
 refine wBd [.int .i64 5, .int .i64 0, .str [], .sl (v128_31.map aF)] rfl rfl rfl rfl rfl rfl<|xMv rfl<|xC1 h (ih_spec_l7Match ·) rfl (fun c131_32 h=> ?_)
 exact geo
def iJ:Nat→(eM)×(gR)
  | 0=>((fun _ _ _ _ _ _ _ _ _ _=>none),(fun _ _ _=>none))
  | n+1=>(kA n ((iJ n).1) ((iJ n).2),lP n ((iJ n).1) ((iJ n).2))
def cZ(n:Nat):eM:=(iJ n).1
def fT(n:Nat):gR:=(iJ n).2
theorem sA(n:Nat):kJ (cZ n)∧mD (fT n):=by
  induction n with
  | zero=>exact⟨(fun h=>nomatch h),(fun h=>nomatch h)⟩
  | succ n ih=>exact⟨AJ (n:=n) (ih.1) (ih.2),BC (n:=n) (ih.1) (ih.2)⟩
theorem BU{n:Nat}:kJ (cZ n):=(sA n).1
theorem Oa{n:Nat}:mD (fT n):=(sA n).2
theorem wV(n:Nat):cZ (n+1)=kA n (cZ n) (fT n):=rfl
theorem yZ(n:Nat):fT (n+1)=lP n (cZ n) (fT n):=rfl
abbrev IW(p:Int→Int→(List UInt8)→(List aA)→(List aC)→Int→Int→(List UInt8)→(List aB)→Option ((List aG)×Bool)):Prop:= ∀ {t0_0 t0_1:Int} {t0_2:List UInt8} {t0_3:List aA} {t0_4:List aC} {t1_0 t1_1:Int} {t1_2:List UInt8} {t1_3:List aB} {r:(List aG)×Bool},p t0_0 t0_1 t0_2 t0_3 t0_4 t1_0 t1_1 t1_2 t1_3=some r→Big Try.prog τ An (.fn 51 [.one (.ag [.int .i64 t0_0, .int .i64 t0_1, .str t0_2, .sl (t0_3.map aE), .sl (t0_4.map aD)]), .one (.ag [.int .i64 t1_0, .int .i64 t1_1, .str t1_2, .sl (t1_3.map aF)])] [] (.tup [.c (.sl (r.1.map aM)), .c (.bool r.2)]) none [] none)
def lH(n:Nat)(t0_0:Int)(t0_1:Int)(t0_2:List UInt8)(t0_3:List aA)(t0_4:List aC)(t1_0:Int)(t1_1:Int)(t1_2:List UInt8)(t1_3:List aB):Option ((List aG)×Bool):=
  ((nP n t0_0 t0_1 t0_2 t0_3 t0_4).bind fun c9_3=>bif !c9_3 then some (true,([]:List aG))else(mB n t1_0 t1_1 t1_2 t1_3).bind fun c13_5=>bif !c13_5 then some (true,([]:List aG))else(cZ n t0_0 t0_1 t0_2 t0_3 t0_4 t1_0 t1_1 t1_2 t1_3 ([]:List aG)).bind fun c19_7=>some ((!c19_7.1),c19_7.2)).bind fun(v21_1,w6_2)=>bif v21_1 then some (([]:List aG),false)else some (w6_2,true)
theorem Dv{n:Nat}:IW (lH n):=by
 intro t0_0 t0_1 t0_2 t0_3 t0_4 t1_0 t1_1 t1_2 t1_3 r h
 unfold lH at h
 refine bF Try.func51 rfl rfl<|gco 4 rfl<|wAe (Li aM []) rfl rfl rfl rfl<|goo 4 rfl<|cY (L:=([]:List aG)) (f:=aM) rfl rfl rfl rfl rfl rfl rfl<|xAz [.sl ([].map aM)] rfl<|goo 5 rfl<|oJn h [(8,21)] [(6,6)] (fun(v21_1,w6_2)=>(.n,[(21,Bo v21_1)],[(6,[.sl (w6_2.map aM)])])) (fun _ h=> ?_) (fun q h=> ?_)
 refine xLd rfl<|xC0 h (Du ·) rfl (fun c9_3 h=> ?_)
 refine goo 2 rfl<|oIf 11 h rfl (fun q4 h=> ?_) (fun q4 h=> ?_)
 exact geo
 refine xLd rfl<|xC0 h (DF ·) rfl (fun c13_5 h=> ?_)
 refine goo 3 rfl<|oIf 16 h rfl (fun q6 h=> ?_) (fun q6 h=> ?_)
 exact geo
 refine goo 2 rfl<|xC1 h (BU ·) rfl (fun c19_7 h=> ?_)
 exact geo
 obtain⟨v21_1,w6_2⟩:=q
 refine cIf h rfl (fun q8 h=> ?_) (fun q8 h=> ?_)
 exact cRs<|cY (L:=([]:List aG)) (f:=aM) rfl rfl rfl rfl rfl rfl rfl<|geo
 exact gec
abbrev IT(p:(List Int)→Option ((List Int)×Int×Int)):Prop:= ∀ {t0_0:List Int} {r:(List Int)×Int×Int},p t0_0=some r→Big Try.prog τ An (.fn 118 [.one (.c (.sl (t0_0.map rI_u8)))] [] (.one (.ptr 0 0)) none [] (some [.sl (r.1.map rI_u8), .int .i64 r.2.1, .int .i64 r.2.2]))
def pL(n:Nat)(t0_0:List Int):(Int×Int)→Option ((Int×Int)⊕((Int×Int×Bool)))
  | (v3_1,v4_2)=>(bif decide (v4_2<(t0_0.length:Int))then some (decide (v4_2<(4000:Int)))else some false).bind fun v15_6=>bif v15_6 then(ix t0_0 v4_2).bind fun e22_9=>some (.inl ((bits .and .i64 (IntKind.wrap .i64 ((IntKind.wrap .i64 ((IntKind.wrap .i64 (v3_1*(137:Int)))+(IntKind.wrap .i64 e22_9)))+(11:Int))) (1073741823:Int)),(IntKind.wrap .i64 (v4_2+(1:Int)))))else some (.inr (v3_1,v4_2,false))
def nO(n:Nat)(t0_0:List Int):Option ((List Int)×Int×Int):=
  (loopN (pL n t0_0) n ((IntKind.wrap .i64 ((375375:Int)+(t0_0.length:Int))),(0:Int))).bind fun(v3_3,v4_4,v15_5)=>some (t0_0,(0:Int),v3_3)
theorem Dt{n:Nat}:IT (nO n):=by
 intro t0_0 r h
 unfold nO at h
 refine bF Try.func118 rfl rfl<|gco 7 rfl<|xLn rfl<|goc 8 rfl<|cLp h [(3,4),(8,27)] [] (fun(v3_1,v4_2)=>([(3,I64 v3_1),(4,I64 v4_2)],[])) (fun(v3_3,v4_4,v15_5)=>(.e 0,[(3,I64 v3_3),(4,I64 v4_4),(15,Bo v15_5)],[])) rfl (fun st _ h=> ?_) (fun q h=> ?_)
 obtain⟨v3_1,v4_2⟩:=st
 unfold pL at h
 refine gco 3 rfl<|oJn h [(8,15)] [] (fun v15_6=>(.n,[(15,Bo v15_6)],[])) (fun _ h=> ?_) (fun v15_6 h=> ?_)
 refine goo 2 rfl<|xLn rfl<|goo 2 rfl<|oIf 12 h rfl (fun q7 h=> ?_) (fun q7 h=> ?_)
 exact geo
 exact geo
 refine cIf h rfl (fun q8 h=> ?_) (fun q8 h=> ?_)
 refine gco 8 rfl<|xIx h Kd rfl (fun e22_9 h=> ?_)
 exact goo 4 rfl<|wBi (.int .i64 (bits .and .i64 (IntKind.wrap .i64 ((IntKind.wrap .i64 ((IntKind.wrap .i64 (v3_1*(137:Int)))+(IntKind.wrap .i64 e22_9)))+(11:Int))) (1073741823:Int))) rfl rfl rfl rfl rfl<|geo
 exact gec
 obtain⟨v3_3,v4_4,v15_5⟩:=q
 exact gco 4 rfl<|wBd [.sl (t0_0.map rI_u8), .int .i64 0, .int .i64 v3_3] rfl rfl rfl rfl rfl rfl<|geo
abbrev GS(p:(List Int)→Int→Int→Option (Int×(List Int)×Int×Int)):Prop:= ∀ {o0_0:List Int} {o0_1 o0_2:Int} {r:Int×(List Int)×Int×Int},p o0_0 o0_1 o0_2=some r→Big Try.prog τ An (.fn 189 [.one (.ptr 1000000 0)] [[.sl (o0_0.map rI_u8), .int .i64 o0_1, .int .i64 o0_2]] (.one (.c (.int .i64 r.1))) none [[.sl (r.2.1.map rI_u8), .int .i64 r.2.2.1, .int .i64 r.2.2.2]] none)
def fV(n:Nat)(o0_0:List Int)(o0_1:Int)(o0_2:Int):Option (Int×(List Int)×Int×Int):=
  bif decide (o0_1<(o0_0.length:Int))then(ix o0_0 o0_1).bind fun e44_2=>some ((bits .and .i64 (IntKind.wrap .i64 ((bits .and .i64 (bits .xor .i64 (Int.fdiv (IntKind.wrap .i64 ((IntKind.wrap .i64 (o0_2*(6364136223846793005:Int)))+(1442695040888963407:Int))) (2 ^ 33)) (Int.fdiv (IntKind.wrap .i64 ((IntKind.wrap .i64 (o0_2*(6364136223846793005:Int)))+(1442695040888963407:Int))) (2 ^ 47))) (255:Int))+(IntKind.wrap .i64 e44_2))) (255:Int)),o0_0,(IntKind.wrap .i64 (o0_1+(1:Int))),(IntKind.wrap .i64 ((IntKind.wrap .i64 (o0_2*(6364136223846793005:Int)))+(1442695040888963407:Int))))else some ((bits .and .i64 (bits .xor .i64 (Int.fdiv (IntKind.wrap .i64 ((IntKind.wrap .i64 (o0_2*(6364136223846793005:Int)))+(1442695040888963407:Int))) (2 ^ 33)) (Int.fdiv (IntKind.wrap .i64 ((IntKind.wrap .i64 (o0_2*(6364136223846793005:Int)))+(1442695040888963407:Int))) (2 ^ 47))) (255:Int)),o0_0,o0_1,(IntKind.wrap .i64 ((IntKind.wrap .i64 (o0_2*(6364136223846793005:Int)))+(1442695040888963407:Int))))
theorem mO{n:Nat}:GS (fV n):=by
 intro o0_0 o0_1 o0_2 r h
 unfold fV at h
 refine bF Try.func189 rfl rfl<|gco 23 rfl<|wBi (.int .i64 (Int.fdiv (IntKind.wrap .i64 ((IntKind.wrap .i64 (o0_2*(6364136223846793005:Int)))+(1442695040888963407:Int))) (2 ^ 33))) rfl rfl rfl rfl rfl<|goo 4 rfl<|wBi (.int .i64 (Int.fdiv (IntKind.wrap .i64 ((IntKind.wrap .i64 (o0_2*(6364136223846793005:Int)))+(1442695040888963407:Int))) (2 ^ 47))) rfl rfl rfl rfl rfl<|wBi (.int .i64 (bits .xor .i64 (Int.fdiv (IntKind.wrap .i64 ((IntKind.wrap .i64 (o0_2*(6364136223846793005:Int)))+(1442695040888963407:Int))) (2 ^ 33)) (Int.fdiv (IntKind.wrap .i64 ((IntKind.wrap .i64 (o0_2*(6364136223846793005:Int)))+(1442695040888963407:Int))) (2 ^ 47)))) rfl rfl rfl rfl rfl<|wBi (.int .i64 (bits .and .i64 (bits .xor .i64 (Int.fdiv (IntKind.wrap .i64 ((IntKind.wrap .i64 (o0_2*(6364136223846793005:Int)))+(1442695040888963407:Int))) (2 ^ 33)) (Int.fdiv (IntKind.wrap .i64 ((IntKind.wrap .i64 (o0_2*(6364136223846793005:Int)))+(1442695040888963407:Int))) (2 ^ 47))) (255:Int))) rfl rfl rfl rfl rfl<|goo 13 rfl<|xLn rfl<|goc 2 rfl<|cIf h rfl (fun q1 h=> ?_) (fun q1 h=> ?_)
 refine gco 11 rfl<|xIx h Kd rfl (fun e44_2 h=> ?_)
 exact goo 3 rfl<|wBi (.int .i64 (bits .and .i64 (IntKind.wrap .i64 ((bits .and .i64 (bits .xor .i64 (Int.fdiv (IntKind.wrap .i64 ((IntKind.wrap .i64 (o0_2*(6364136223846793005:Int)))+(1442695040888963407:Int))) (2 ^ 33)) (Int.fdiv (IntKind.wrap .i64 ((IntKind.wrap .i64 (o0_2*(6364136223846793005:Int)))+(1442695040888963407:Int))) (2 ^ 47))) (255:Int))+(IntKind.wrap .i64 e44_2))) (255:Int))) rfl rfl rfl rfl rfl<|geo
 exact gec
abbrev EG(p:Int→(List Int)→Int→Int→Option (Int×(List Int)×Int×Int)):Prop:= ∀ {t1_0:Int} {o0_0:List Int} {o0_1 o0_2:Int} {r:Int×(List Int)×Int×Int},p t1_0 o0_0 o0_1 o0_2=some r→Big Try.prog τ An (.fn 119 [.one (.ptr 1000000 0), .one (.c (.int .i64 t1_0))] [[.sl (o0_0.map rI_u8), .int .i64 o0_1, .int .i64 o0_2]] (.one (.c (.int .i64 r.1))) none [[.sl (r.2.1.map rI_u8), .int .i64 r.2.2.1, .int .i64 r.2.2.2]] none)
def aJ(n:Nat)(t1_0:Int)(o0_0:List Int)(o0_1:Int)(o0_2:Int):Option (Int×(List Int)×Int×Int):=
  bif decide (t1_0≤(0:Int))then some ((0:Int),o0_0,o0_1,o0_2)else bif decide (t1_0≤(256:Int))then(fV n o0_0 o0_1 o0_2).bind fun c13_3=>(ck (!decide (t1_0=0))).bind fun _=>some ((Int.tmod c13_3.1 t1_0),c13_3.2.1,c13_3.2.2.1,c13_3.2.2.2)else(fV n o0_0 o0_1 o0_2).bind fun c17_5=>(fV n c17_5.2.1 c17_5.2.2.1 c17_5.2.2.2).bind fun c19_6=>(fV n c19_6.2.1 c19_6.2.2.1 c19_6.2.2.2).bind fun c21_7=>(ck (!decide (t1_0=0))).bind fun _=>some ((Int.tmod (IntKind.wrap .i64 ((IntKind.wrap .i64 ((IntKind.wrap .i64 (c17_5.1*(65536:Int)))+(IntKind.wrap .i64 (c19_6.1*(256:Int)))))+c21_7.1)) t1_0),c21_7.2.1,c21_7.2.2.1,c21_7.2.2.2)
theorem aK{n:Nat}:EG (aJ n):=by
 intro t1_0 o0_0 o0_1 o0_2 r h
 unfold aJ at h
 refine bF Try.func119 rfl rfl<|gcc 10 rfl<|cIf h rfl (fun q1 h=> ?_) (fun q1 h=> ?_)
 exact gec
 refine gcc 7 rfl<|cIf h rfl (fun q2 h=> ?_) (fun q2 h=> ?_)
 refine gco 3 rfl<|xC1 h (mO ·) rfl (fun c13_3 h=> ?_)
 refine xMv rfl<|oCk h (fun k15_3 h=> ?_)
 exact wRem k15_3 rfl rfl rfl rfl<|geo
 refine gco 4 rfl<|xC1 h (mO ·) rfl (fun c17_5 h=> ?_)
 refine goo 5 rfl<|xC1 h (mO ·) rfl (fun c19_6 h=> ?_)
 refine goo 5 rfl<|xC1 h (mO ·) rfl (fun c21_7 h=> ?_)
 refine goo 12 rfl<|oCk h (fun k30_7 h=> ?_)
 exact wRem k30_7 rfl rfl rfl rfl<|geo
abbrev IU(p:(List Int)→(List Int)→Int→Int→Option (Int×(List Int)×Int×Int)):Prop:= ∀ {t1_0 o0_0:List Int} {o0_1 o0_2:Int} {r:Int×(List Int)×Int×Int},p t1_0 o0_0 o0_1 o0_2=some r→Big Try.prog τ An (.fn 190 [.one (.ptr 1000000 0), .one (.c (.sl (t1_0.map qN)))] [[.sl (o0_0.map rI_u8), .int .i64 o0_1, .int .i64 o0_2]] (.one (.c (.int .i64 r.1))) none [[.sl (r.2.1.map rI_u8), .int .i64 r.2.2.1, .int .i64 r.2.2.2]] none)
def bO(n:Nat)(t1_0:List Int)(o0_0:List Int)(o0_1:Int)(o0_2:Int):Option (Int×(List Int)×Int×Int):=
  (aJ n (t1_0.length:Int) o0_0 o0_1 o0_2).bind fun c9_1=>(ix t1_0 c9_1.1).bind fun e10_2=>some (e10_2,c9_1.2.1,c9_1.2.2.1,c9_1.2.2.2)
theorem cK{n:Nat}:IU (bO n):=by
 intro t1_0 o0_0 o0_1 o0_2 r h
 unfold bO at h
 refine bF Try.func190 rfl rfl<|gco 9 rfl<|xLn rfl<|xC1 h (aK ·) rfl (fun c9_1 h=> ?_)
 refine xIx h No rfl (fun e10_2 h=> ?_)
 exact geo
abbrev IS(p:(List (List UInt8))→(List Int)→Int→Int→Option ((List UInt8)×(List Int)×Int×Int)):Prop:= ∀ {t1_0:List (List UInt8)} {o0_0:List Int} {o0_1 o0_2:Int} {r:(List UInt8)×(List Int)×Int×Int},p t1_0 o0_0 o0_1 o0_2=some r→Big Try.prog τ An (.fn 191 [.one (.ptr 1000000 0), .one (.c (.sl (t1_0.map dN)))] [[.sl (o0_0.map rI_u8), .int .i64 o0_1, .int .i64 o0_2]] (.one (.c (.str r.1))) none [[.sl (r.2.1.map rI_u8), .int .i64 r.2.2.1, .int .i64 r.2.2.2]] none)
def aV(n:Nat)(t1_0:List (List UInt8))(o0_0:List Int)(o0_1:Int)(o0_2:Int):Option ((List UInt8)×(List Int)×Int×Int):=
  (aJ n (t1_0.length:Int) o0_0 o0_1 o0_2).bind fun c9_1=>(ix t1_0 c9_1.1).bind fun e10_2=>some (e10_2,c9_1.2.1,c9_1.2.2.1,c9_1.2.2.2)
theorem bD{n:Nat}:IS (aV n):=by
 intro t1_0 o0_0 o0_1 o0_2 r h
 unfold aV at h
 refine bF Try.func191 rfl rfl<|gco 9 rfl<|xLn rfl<|xC1 h (aK ·) rfl (fun c9_1 h=> ?_)
 refine xIx h oF rfl (fun e10_2 h=> ?_)
 exact geo
abbrev IN(p:Int→Option (Int×Int×(List UInt8)×(List aA)×(List aC))):Prop:= ∀ {t0_0:Int} {r:Int×Int×(List UInt8)×(List aA)×(List aC)},p t0_0=some r→Big Try.prog τ An (.fn 197 [.one (.c (.int .i64 t0_0))] [] (.one (.ag [.int .i64 r.1, .int .i64 r.2.1, .str r.2.2.1, .sl (r.2.2.2.1.map aE), .sl (r.2.2.2.2.map aD)])) none [] none)
def bN(n:Nat)(t0_0:Int):Option (Int×Int×(List UInt8)×(List aA)×(List aC)):=
  some ((1:Int),t0_0,([]:List UInt8),([]:List aA),([]:List aC))
theorem cA{n:Nat}:IN (bN n):=by
 intro t0_0 r h
 unfold bN at h
 exact bF Try.func197 rfl rfl<|cRs<|xAz [.int .i64 0, .int .i64 0, .str [], .sl ([].map aE), .sl ([].map aD)] rfl<|goo 4 rfl<|wBd [.int .i64 1, .int .i64 t0_0, .str [], .sl ([].map aE), .sl ([].map aD)] rfl rfl rfl rfl rfl rfl<|geo
abbrev KK(p:(List UInt8)→Option (Int×Int×(List UInt8)×(List aA)×(List aC))):Prop:= ∀ {t0_0:List UInt8} {r:Int×Int×(List UInt8)×(List aA)×(List aC)},p t0_0=some r→Big Try.prog τ An (.fn 198 [.one (.c (.str t0_0))] [] (.one (.ag [.int .i64 r.1, .int .i64 r.2.1, .str r.2.2.1, .sl (r.2.2.2.1.map aE), .sl (r.2.2.2.2.map aD)])) none [] none)
def kP(n:Nat)(t0_0:List UInt8):Option (Int×Int×(List UInt8)×(List aA)×(List aC)):=
  some ((2:Int),(0:Int),t0_0,([]:List aA),([]:List aC))
theorem sO{n:Nat}:KK (kP n):=by
 intro t0_0 r h
 unfold kP at h
 exact bF Try.func198 rfl rfl<|cRs<|xAz [.int .i64 0, .int .i64 0, .str [], .sl ([].map aE), .sl ([].map aD)] rfl<|goo 4 rfl<|wBd [.int .i64 2, .int .i64 0, .str t0_0, .sl ([].map aE), .sl ([].map aD)] rfl rfl rfl rfl rfl rfl<|geo
abbrev iV:Type:=Int→(List Int)→Int→Int→(List (List UInt8))→Option (Int×Int×(List UInt8)×(List aA)×(List aC)×(List Int)×Int×Int×(List (List UInt8)))
abbrev qR(p:iV):Prop:= ∀ {t1_0:Int} {o0_0:List Int} {o0_1 o0_2:Int} {o1_0:List (List UInt8)} {r:Int×Int×(List UInt8)×(List aA)×(List aC)×(List Int)×Int×Int×(List (List UInt8))},p t1_0 o0_0 o0_1 o0_2 o1_0=some r→Big Try.prog τ An (.fn 128 [.one (.ptr 1000000 0), .one (.c (.int .i64 t1_0)), .one (.ptr 1000001 0)] [[.sl (o0_0.map rI_u8), .int .i64 o0_1, .int .i64 o0_2],[.sl (o1_0.map dN)]] (.one (.ag [.int .i64 r.1, .int .i64 r.2.1, .str r.2.2.1, .sl (r.2.2.2.1.map aE), .sl (r.2.2.2.2.1.map aD)])) none [[.sl (r.2.2.2.2.2.1.map rI_u8), .int .i64 r.2.2.2.2.2.2.1, .int .i64 r.2.2.2.2.2.2.2.1],[.sl (r.2.2.2.2.2.2.2.2.map dN)]] none)
def mL(n:Nat)(r_spec_l4Pat:iV)(t1_0:Int):(Int×Int×Int×(List UInt8)×(List aA)×(List aC)×(List Int)×Int×Int×(List (List UInt8)))→Option ((Int×Int×Int×(List UInt8)×(List aA)×(List aC)×(List Int)×Int×Int×(List (List UInt8)))⊕((Int×Bool×Int×Int×(List UInt8)×(List aA)×(List aC)×(List Int)×Int×Int×(List (List UInt8)))))
  | (v10_27,w8_28,w8_29,w8_30,w8_31,w8_32,w1000000_33,w1000000_34,w1000000_35,w1000001_36)=>bif decide (v10_27<(2:Int))then((bif decide ((0:Int)<t1_0)then(r_spec_l4Pat (IntKind.wrap .i64 (t1_0 - (1:Int))) w1000000_33 w1000000_34 w1000000_35 w1000001_36).bind fun c72_59=>(gA 80 w8_31 ([aA.mk c72_59.1 c72_59.2.1 c72_59.2.2.1 c72_59.2.2.2.1 c72_59.2.2.2.2.1]:List aA)).bind fun v74_60=>some (w8_28,w8_29,w8_30,v74_60,w8_32,c72_59.2.2.2.2.2.1,c72_59.2.2.2.2.2.2.1,c72_59.2.2.2.2.2.2.2.1,c72_59.2.2.2.2.2.2.2.2)else(gA 80 w8_31 ([aA.mk (3:Int) (0:Int) ([95]:List UInt8) ([]:List aA) ([]:List aC)]:List aA)).bind fun v80_61=>some (w8_28,w8_29,w8_30,v80_61,w8_32,w1000000_33,w1000000_34,w1000000_35,w1000001_36):Option ((Int×Int×(List UInt8)×(List aA)×(List aC)×(List Int)×Int×Int×(List (List UInt8)))))).bind fun(w8_49,w8_50,w8_51,w8_52,w8_53,w1000000_54,w1000000_55,w1000000_56,w1000001_57)=>some (.inl ((IntKind.wrap .i64 (v10_27+(1:Int))),w8_49,w8_50,w8_51,w8_52,w8_53,w1000000_54,w1000000_55,w1000000_56,w1000001_57))else some (.inr (v10_27,false,w8_28,w8_29,w8_30,w8_31,w8_32,w1000000_33,w1000000_34,w1000000_35,w1000001_36))
def mK(n:Nat)(r_spec_l4Pat:iV)(t1_0:Int)(c55_25:Int×(List Int)×Int×Int):(Int×Int×Int×(List UInt8)×(List aA)×(List aC)×(List Int)×Int×Int×(List (List UInt8)))→Option ((Int×Int×Int×(List UInt8)×(List aA)×(List aC)×(List Int)×Int×Int×(List (List UInt8)))⊕((Int×Bool×Int×Int×(List UInt8)×(List aA)×(List aC)×(List Int)×Int×Int×(List (List UInt8)))))
  | (v10_62,w8_63,w8_64,w8_65,w8_66,w8_67,w1000000_68,w1000000_69,w1000000_70,w1000001_71)=>bif decide (v10_62<c55_25.1)then((bif decide ((0:Int)<t1_0)then(r_spec_l4Pat (IntKind.wrap .i64 (t1_0 - (1:Int))) w1000000_68 w1000000_69 w1000000_70 w1000001_71).bind fun c72_94=>(gA 80 w8_66 ([aA.mk c72_94.1 c72_94.2.1 c72_94.2.2.1 c72_94.2.2.2.1 c72_94.2.2.2.2.1]:List aA)).bind fun v74_95=>some (w8_63,w8_64,w8_65,v74_95,w8_67,c72_94.2.2.2.2.2.1,c72_94.2.2.2.2.2.2.1,c72_94.2.2.2.2.2.2.2.1,c72_94.2.2.2.2.2.2.2.2)else(gA 80 w8_66 ([aA.mk (3:Int) (0:Int) ([95]:List UInt8) ([]:List aA) ([]:List aC)]:List aA)).bind fun v80_96=>some (w8_63,w8_64,w8_65,v80_96,w8_67,w1000000_68,w1000000_69,w1000000_70,w1000001_71):Option ((Int×Int×(List UInt8)×(List aA)×(List aC)×(List Int)×Int×Int×(List (List UInt8)))))).bind fun(w8_84,w8_85,w8_86,w8_87,w8_88,w1000000_89,w1000000_90,w1000000_91,w1000001_92)=>some (.inl ((IntKind.wrap .i64 (v10_62+(1:Int))),w8_84,w8_85,w8_86,w8_87,w8_88,w1000000_89,w1000000_90,w1000000_91,w1000001_92))else some (.inr (v10_62,false,w8_63,w8_64,w8_65,w8_66,w8_67,w1000000_68,w1000000_69,w1000000_70,w1000001_71))
def nJ(n:Nat)(r_spec_l4Pat:iV)(t1_0:Int)(o0_0:List Int)(o0_1:Int)(o0_2:Int)(o1_0:List (List UInt8)):Option (Int×Int×(List UInt8)×(List aA)×(List aC)×(List Int)×Int×Int×(List (List UInt8))):=
  (aJ n (8:Int) o0_0 o0_1 o0_2).bind fun c12_1=>bif decide (c12_1.1=(0:Int))then(aJ n (3:Int) c12_1.2.1 c12_1.2.2.1 c12_1.2.2.2).bind fun c16_3=>(bN n c16_3.1).bind fun c17_4=>some (c17_4.1,c17_4.2.1,c17_4.2.2.1,c17_4.2.2.2.1,c17_4.2.2.2.2,c16_3.2.1,c16_3.2.2.1,c16_3.2.2.2,o1_0)else bif decide (c12_1.1=(1:Int))then(aV n ([([111,107]:List UInt8),([97]:List UInt8),([115,116,111,112]:List UInt8)]:List (List UInt8)) c12_1.2.1 c12_1.2.2.1 c12_1.2.2.2).bind fun c22_6=>(kP n c22_6.1).bind fun c23_7=>some (c23_7.1,c23_7.2.1,c23_7.2.2.1,c23_7.2.2.2.1,c23_7.2.2.2.2,c22_6.2.1,c22_6.2.2.1,c22_6.2.2.2,o1_0)else bif decide (c12_1.1=(2:Int))then some ((3:Int),(0:Int),([95]:List UInt8),([]:List aA),([]:List aC),c12_1.2.1,c12_1.2.2.1,c12_1.2.2.2,o1_0)else bif decide (c12_1.1=(3:Int))then(aV n ([([65]:List UInt8),([66]:List UInt8),([67]:List UInt8),([68]:List UInt8),([72]:List UInt8),([84]:List UInt8)]:List (List UInt8)) c12_1.2.1 c12_1.2.2.1 c12_1.2.2.2).bind fun c33_10=>(fM n o1_0 c33_10.1).bind fun c38_11=>bif c38_11 then some ((3:Int),(0:Int),([95]:List UInt8),([]:List aA),([]:List aC),c33_10.2.1,c33_10.2.2.1,c33_10.2.2.2,o1_0)else(gA 16 o1_0 ([c33_10.1]:List (List UInt8))).bind fun v46_13=>some ((3:Int),(0:Int),c33_10.1,([]:List aA),([]:List aC),c33_10.2.1,c33_10.2.2.1,c33_10.2.2.2,v46_13)else bif decide (c12_1.1=(4:Int))then(aV n ([([65]:List UInt8),([66]:List UInt8),([67]:List UInt8),([68]:List UInt8),([72]:List UInt8),([84]:List UInt8)]:List (List UInt8)) c12_1.2.1 c12_1.2.2.1 c12_1.2.2.2).bind fun c33_15=>(fM n o1_0 c33_15.1).bind fun c38_16=>bif c38_16 then some ((3:Int),(0:Int),([95]:List UInt8),([]:List aA),([]:List aC),c33_15.2.1,c33_15.2.2.1,c33_15.2.2.2,o1_0)else(gA 16 o1_0 ([c33_15.1]:List (List UInt8))).bind fun v46_18=>some ((3:Int),(0:Int),c33_15.1,([]:List aA),([]:List aC),c33_15.2.1,c33_15.2.2.1,c33_15.2.2.2,v46_18)else bif decide (c12_1.1=(5:Int))then(aV n ([([65]:List UInt8),([66]:List UInt8),([67]:List UInt8),([68]:List UInt8),([72]:List UInt8),([84]:List UInt8)]:List (List UInt8)) c12_1.2.1 c12_1.2.2.1 c12_1.2.2.2).bind fun c33_20=>(fM n o1_0 c33_20.1).bind fun c38_21=>bif c38_21 then some ((3:Int),(0:Int),([95]:List UInt8),([]:List aA),([]:List aC),c33_20.2.1,c33_20.2.2.1,c33_20.2.2.2,o1_0)else(gA 16 o1_0 ([c33_20.1]:List (List UInt8))).bind fun v46_23=>some ((3:Int),(0:Int),c33_20.1,([]:List aA),([]:List aC),c33_20.2.1,c33_20.2.2.1,c33_20.2.2.2,v46_23)else(bO n ([(4:Int),(5:Int),(6:Int)]:List Int) c12_1.2.1 c12_1.2.2.1 c12_1.2.2.2).bind fun c52_24=>(aJ n (3:Int) c52_24.2.1 c52_24.2.2.1 c52_24.2.2.2).bind fun c55_25=>bif decide (c52_24.1=(6:Int))then(loopN (mL n r_spec_l4Pat t1_0) n ((0:Int),c52_24.1,(0:Int),([]:List UInt8),([]:List aA),([]:List aC),c55_25.2.1,c55_25.2.2.1,c55_25.2.2.2,o1_0)).bind fun(v10_37,v61_38,w8_39,w8_40,w8_41,w8_42,w8_43,w1000000_44,w1000000_45,w1000000_46,w1000001_47)=>some (w8_39,w8_40,w8_41,w8_42,w8_43,w1000000_44,w1000000_45,w1000000_46,w1000001_47)else(loopN (mK n r_spec_l4Pat t1_0 c55_25) n ((0:Int),c52_24.1,(0:Int),([]:List UInt8),([]:List aA),([]:List aC),c55_25.2.1,c55_25.2.2.1,c55_25.2.2.2,o1_0)).bind fun(v10_72,v61_73,w8_74,w8_75,w8_76,w8_77,w8_78,w1000000_79,w1000000_80,w1000000_81,w1000001_82)=>some (w8_74,w8_75,w8_76,w8_77,w8_78,w1000000_79,w1000000_80,w1000000_81,w1000001_82)
theorem Cu{n:Nat}{r_spec_l4Pat:iV}(ih_spec_l4Pat:qR r_spec_l4Pat):qR (nJ n r_spec_l4Pat):=by
 intro t1_0 o0_0 o0_1 o0_2 o1_0 r h
 unfold nJ at h
 refine bF Try.func128 rfl rfl<|cRs<|xAz [.int .i64 0, .int .i64 0, .str [], .sl ([].map aE), .sl ([].map aD)] rfl<|goo 5 rfl<|xC1 h (aK ·) rfl (fun c12_1 h=> ?_)
 refine goc 7 rfl<|cIf h rfl (fun q2 h=> ?_) (fun q2 h=> ?_)
 refine gco 3 rfl<|xC1 h (aK ·) rfl (fun c16_3 h=> ?_)
 refine xC0 h (cA ·) rfl (fun c17_4 h=> ?_)
 exact geo
 refine gcc 5 rfl<|cIf h rfl (fun q5 h=> ?_) (fun q5 h=> ?_)
 refine gco 3 rfl<|cY (L:=([([111,107]:List UInt8),([97]:List UInt8),([115,116,111,112]:List UInt8)]:List (List UInt8))) (f:=dN) rfl rfl rfl rfl rfl rfl rfl<|xC1 h (bD ·) rfl (fun c22_6 h=> ?_)
 refine xC0 h (sO ·) rfl (fun c23_7 h=> ?_)
 exact geo
 refine gcc 5 rfl<|cIf h rfl (fun q8 h=> ?_) (fun q8 h=> ?_)
 exact cRs<|wBd [.int .i64 3, .int .i64 0, .str [95], .sl ([].map aE), .sl ([].map aD)] rfl rfl rfl rfl rfl rfl<|geo
 refine gcc 6 rfl<|cIf h rfl (fun q9 h=> ?_) (fun q9 h=> ?_)
 refine gco 5 rfl<|cY (L:=([([65]:List UInt8),([66]:List UInt8),([67]:List UInt8),([68]:List UInt8),([72]:List UInt8),([84]:List UInt8)]:List (List UInt8))) (f:=dN) rfl rfl rfl rfl rfl rfl rfl<|xC1 h (bD ·) rfl (fun c33_10 h=> ?_)
 refine goo 9 rfl<|xC0 h (nH ·) rfl (fun c38_11 h=> ?_)
 refine oNl<|cIf h rfl (fun q12 h=> ?_) (fun q12 h=> ?_)
 exact cRs<|wBd [.int .i64 3, .int .i64 0, .str [95], .sl ([].map aE), .sl ([].map aD)] rfl rfl rfl rfl rfl rfl<|geo
 refine gco 8 rfl<|cY (L:=([c33_10.1]:List (List UInt8))) (f:=dN) rfl rfl rfl rfl rfl rfl rfl<|wAp (f:=dN) h rfl rfl rfl rfl rfl rfl rfl rfl rfl (fun _=>rfl) rfl (fun v46_13 h=> ?_)
 exact goo 6 rfl<|wBd [.int .i64 3, .int .i64 0, .str c33_10.1, .sl ([].map aE), .sl ([].map aD)] rfl rfl rfl rfl rfl rfl<|geo
 refine gcc 5 rfl<|cIf h rfl (fun q14 h=> ?_) (fun q14 h=> ?_)
 refine gco 5 rfl<|cY (L:=([([65]:List UInt8),([66]:List UInt8),([67]:List UInt8),([68]:List UInt8),([72]:List UInt8),([84]:List UInt8)]:List (List UInt8))) (f:=dN) rfl rfl rfl rfl rfl rfl rfl<|xC1 h (bD ·) rfl (fun c33_15 h=> ?_)
 refine goo 9 rfl<|xC0 h (nH ·) rfl (fun c38_16 h=> ?_)
 refine oNl<|cIf h rfl (fun q17 h=> ?_) (fun q17 h=> ?_)
 exact cRs<|wBd [.int .i64 3, .int .i64 0, .str [95], .sl ([].map aE), .sl ([].map aD)] rfl rfl rfl rfl rfl rfl<|geo
 refine gco 8 rfl<|cY (L:=([c33_15.1]:List (List UInt8))) (f:=dN) rfl rfl rfl rfl rfl rfl rfl<|wAp (f:=dN) h rfl rfl rfl rfl rfl rfl rfl rfl rfl (fun _=>rfl) rfl (fun v46_18 h=> ?_)
 exact goo 6 rfl<|wBd [.int .i64 3, .int .i64 0, .str c33_15.1, .sl ([].map aE), .sl ([].map aD)] rfl rfl rfl rfl rfl rfl<|geo
 refine gcc 4 rfl<|cIf h rfl (fun q19 h=> ?_) (fun q19 h=> ?_)
 refine gco 3 rfl<|cY (L:=([([65]:List UInt8),([66]:List UInt8),([67]:List UInt8),([68]:List UInt8),([72]:List UInt8),([84]:List UInt8)]:List (List UInt8))) (f:=dN) rfl rfl rfl rfl rfl rfl rfl<|xC1 h (bD ·) rfl (fun c33_20 h=> ?_)
 refine goo 9 rfl<|xC0 h (nH ·) rfl (fun c38_21 h=> ?_)
 refine oNl<|cIf h rfl (fun q22 h=> ?_) (fun q22 h=> ?_)
 exact cRs<|wBd [.int .i64 3, .int .i64 0, .str [95], .sl ([].map aE), .sl ([].map aD)] rfl rfl rfl rfl rfl rfl<|geo
 refine gco 8 rfl<|cY (L:=([c33_20.1]:List (List UInt8))) (f:=dN) rfl rfl rfl rfl rfl rfl rfl<|wAp (f:=dN) h rfl rfl rfl rfl rfl rfl rfl rfl rfl (fun _=>rfl) rfl (fun v46_23 h=> ?_)
 exact goo 6 rfl<|wBd [.int .i64 3, .int .i64 0, .str c33_20.1, .sl ([].map aE), .sl ([].map aD)] rfl rfl rfl rfl rfl rfl<|geo
 refine gco 4 rfl<|cY (L:=([(4:Int),(5:Int),(6:Int)]:List Int)) (f:=qN) rfl rfl rfl rfl rfl rfl rfl<|xC1 h (cK ·) rfl (fun c52_24 h=> ?_)
 refine wBd [.int .i64 c52_24.1, .int .i64 0, .str [], .sl ([].map aE), .sl ([].map aD)] rfl rfl rfl rfl rfl rfl<|xAz [.int .i64 0, .int .i64 0, .str [], .sl ([].map aE), .sl ([].map aD)] rfl<|goo 5 rfl<|xC1 h (aK ·) rfl (fun c55_25 h=> ?_)
 refine goc 9 rfl<|cIf h rfl (fun q26 h=> ?_) (fun q26 h=> ?_)
 refine gcc 8 rfl<|cLp h [(10,10),(59,81)] [(8,8),(1000000,1000001)] (fun(v10_27,w8_28,w8_29,w8_30,w8_31,w8_32,w1000000_33,w1000000_34,w1000000_35,w1000001_36)=>([(10,I64 v10_27)],[(8,[.int .i64 w8_28, .int .i64 w8_29, .str w8_30, .sl (w8_31.map aE), .sl (w8_32.map aD)]),(1000000,[.sl (w1000000_33.map rI_u8), .int .i64 w1000000_34, .int .i64 w1000000_35]),(1000001,[.sl (w1000001_36.map dN)])])) (fun(v10_37,v61_38,w8_39,w8_40,w8_41,w8_42,w8_43,w1000000_44,w1000000_45,w1000000_46,w1000001_47)=>(.e 1,[(10,I64 v10_37),(61,Bo v61_38)],[(8,[.int .i64 w8_39, .int .i64 w8_40, .str w8_41, .sl (w8_42.map aE), .sl (w8_43.map aD)]),(1000000,[.sl (w1000000_44.map rI_u8), .int .i64 w1000000_45, .int .i64 w1000000_46]),(1000001,[.sl (w1000001_47.map dN)])])) rfl (fun st _ h=> ?_) (fun q h=> ?_)
 obtain⟨v10_27,w8_28,w8_29,w8_30,w8_31,w8_32,w1000000_33,w1000000_34,w1000000_35,w1000001_36⟩:=st
 unfold mL at h
 refine gcc 7 rfl<|cIf h rfl (fun q48 h=> ?_) (fun q48 h=> ?_)
 refine gcc 2 rfl<|cJn h [(64,81)] [(8,8),(1000000,1000001)] (fun(w8_49,w8_50,w8_51,w8_52,w8_53,w1000000_54,w1000000_55,w1000000_56,w1000001_57)=>(.n,[],[(8,[.int .i64 w8_49, .int .i64 w8_50, .str w8_51, .sl (w8_52.map aE), .sl (w8_53.map aD)]),(1000000,[.sl (w1000000_54.map rI_u8), .int .i64 w1000000_55, .int .i64 w1000000_56]),(1000001,[.sl (w1000001_57.map dN)])])) (fun _ h=> ?_) (fun q h=> ?_)
 refine gcc 6 rfl<|cIf h rfl (fun q58 h=> ?_) (fun q58 h=> ?_)
 refine gco 7 rfl<|xCk h (ih_spec_l4Pat ·) rfl (fun c72_59 h=> ?_)
 refine cY (L:=([aA.mk c72_59.1 c72_59.2.1 c72_59.2.2.1 c72_59.2.2.2.1 c72_59.2.2.2.2.1]:List aA)) (f:=aE) rfl rfl rfl rfl (by simp only[List.map,aP]<;>rfl) rfl rfl<|wAp (f:=aE) h rfl rfl rfl rfl rfl rfl rfl rfl rfl (fun a=>by rw[aL]; rfl) rfl (fun v74_60 h=> ?_)
 exact geo
 refine gco 3 rfl<|wBd [.int .i64 3, .int .i64 0, .str [95], .sl ([].map aE), .sl ([].map aD)] rfl rfl rfl rfl rfl rfl<|cY (L:=([aA.mk (3:Int) (0:Int) ([95]:List UInt8) ([]:List aA) ([]:List aC)]:List aA)) (f:=aE) rfl rfl rfl rfl (by simp only[List.map,aP]<;>rfl) rfl rfl<|wAp (f:=aE) h rfl rfl rfl rfl rfl rfl rfl rfl rfl (fun a=>by rw[aL]; rfl) rfl (fun v80_61 h=> ?_)
 exact geo
 obtain⟨w8_49,w8_50,w8_51,w8_52,w8_53,w1000000_54,w1000000_55,w1000000_56,w1000001_57⟩:=q
 exact gec
 exact gec
 obtain⟨v10_37,v61_38,w8_39,w8_40,w8_41,w8_42,w8_43,w1000000_44,w1000000_45,w1000000_46,w1000001_47⟩:=q
 exact gec
 refine gcc 6 rfl<|cLp h [(10,10),(59,81)] [(8,8),(1000000,1000001)] (fun(v10_62,w8_63,w8_64,w8_65,w8_66,w8_67,w1000000_68,w1000000_69,w1000000_70,w1000001_71)=>([(10,I64 v10_62)],[(8,[.int .i64 w8_63, .int .i64 w8_64, .str w8_65, .sl (w8_66.map aE), .sl (w8_67.map aD)]),(1000000,[.sl (w1000000_68.map rI_u8), .int .i64 w1000000_69, .int .i64 w1000000_70]),(1000001,[.sl (w1000001_71.map dN)])])) (fun(v10_72,v61_73,w8_74,w8_75,w8_76,w8_77,w8_78,w1000000_79,w1000000_80,w1000000_81,w1000001_82)=>(.e 1,[(10,I64 v10_72),(61,Bo v61_73)],[(8,[.int .i64 w8_74, .int .i64 w8_75, .str w8_76, .sl (w8_77.map aE), .sl (w8_78.map aD)]),(1000000,[.sl (w1000000_79.map rI_u8), .int .i64 w1000000_80, .int .i64 w1000000_81]),(1000001,[.sl (w1000001_82.map dN)])])) rfl (fun st _ h=> ?_) (fun q h=> ?_)
 obtain⟨v10_62,w8_63,w8_64,w8_65,w8_66,w8_67,w1000000_68,w1000000_69,w1000000_70,w1000001_71⟩:=st
 unfold mK at h
 refine gcc 7 rfl<|cIf h rfl (fun q83 h=> ?_) (fun q83 h=> ?_)
 refine gcc 2 rfl<|cJn h [(64,81)] [(8,8),(1000000,1000001)] (fun(w8_84,w8_85,w8_86,w8_87,w8_88,w1000000_89,w1000000_90,w1000000_91,w1000001_92)=>(.n,[],[(8,[.int .i64 w8_84, .int .i64 w8_85, .str w8_86, .sl (w8_87.map aE), .sl (w8_88.map aD)]),(1000000,[.sl (w1000000_89.map rI_u8), .int .i64 w1000000_90, .int .i64 w1000000_91]),(1000001,[.sl (w1000001_92.map dN)])])) (fun _ h=> ?_) (fun q h=> ?_)
 refine gcc 6 rfl<|cIf h rfl (fun q93 h=> ?_) (fun q93 h=> ?_)
 refine gco 7 rfl<|xCk h (ih_spec_l4Pat ·) rfl (fun c72_94 h=> ?_)
 refine cY (L:=([aA.mk c72_94.1 c72_94.2.1 c72_94.2.2.1 c72_94.2.2.2.1 c72_94.2.2.2.2.1]:List aA)) (f:=aE) rfl rfl rfl rfl (by simp only[List.map,aP]<;>rfl) rfl rfl<|wAp (f:=aE) h rfl rfl rfl rfl rfl rfl rfl rfl rfl (fun a=>by rw[aL]; rfl) rfl (fun v74_95 h=> ?_)
 exact geo
 refine gco 3 rfl<|wBd [.int .i64 3, .int .i64 0, .str [95], .sl ([].map aE), .sl ([].map aD)] rfl rfl rfl rfl rfl rfl<|cY (L:=([aA.mk (3:Int) (0:Int) ([95]:List UInt8) ([]:List aA) ([]:List aC)]:List aA)) (f:=aE) rfl rfl rfl rfl (by simp only[List.map,aP]<;>rfl) rfl rfl<|wAp (f:=aE) h rfl rfl rfl rfl rfl rfl rfl rfl rfl (fun a=>by rw[aL]; rfl) rfl (fun v80_96 h=> ?_)
 exact geo
 obtain⟨w8_84,w8_85,w8_86,w8_87,w8_88,w1000000_89,w1000000_90,w1000000_91,w1000001_92⟩:=q
 exact gec
 exact gec
 obtain⟨v10_72,v61_73,w8_74,w8_75,w8_76,w8_77,w8_78,w1000000_79,w1000000_80,w1000000_81,w1000001_82⟩:=q
 exact gec
def Aa:Nat→(iV)
  | 0=>(fun _ _ _ _ _=>none)
  | n+1=>nJ n (Aa n)
def cJ(n:Nat):iV:=Aa n
theorem Cz(n:Nat):qR (cJ n):=by
  induction n with
  | zero=>exact(fun h=>nomatch h)
  | succ n ih=>exact Cu (n:=n) ih
theorem nG{n:Nat}:qR (cJ n):=(Cz n)
theorem AL(n:Nat):cJ (n+1)=nJ n (cJ n):=rfl
abbrev jQ:Type:=Int→(List Int)→Int→Int→Option (Int×Int×(List UInt8)×(List aB)×(List Int)×Int×Int)
abbrev oR(p:jQ):Prop:= ∀ {t1_0:Int} {o0_0:List Int} {o0_1 o0_2:Int} {r:Int×Int×(List UInt8)×(List aB)×(List Int)×Int×Int},p t1_0 o0_0 o0_1 o0_2=some r→Big Try.prog τ An (.fn 120 [.one (.ptr 1000000 0), .one (.c (.int .i64 t1_0))] [[.sl (o0_0.map rI_u8), .int .i64 o0_1, .int .i64 o0_2]] (.one (.ag [.int .i64 r.1, .int .i64 r.2.1, .str r.2.2.1, .sl (r.2.2.2.1.map aF)])) none [[.sl (r.2.2.2.2.1.map rI_u8), .int .i64 r.2.2.2.2.2.1, .int .i64 r.2.2.2.2.2.2]] none)
def oC(n:Nat)(r_spec_l2Draw:jQ)(t1_0:Int):(Int×Int×Int×(List UInt8)×(List aB)×(List Int)×Int×Int)→Option ((Int×Int×Int×(List UInt8)×(List aB)×(List Int)×Int×Int)⊕((Int×Bool×Int×Int×(List UInt8)×(List aB)×(List Int)×Int×Int)))
  | (v6_19,w5_20,w5_21,w5_22,w5_23,w1000000_24,w1000000_25,w1000000_26)=>(bif decide ((0:Int)<v6_19)then some (decide ((0:Int)<t1_0))else some false).bind fun v42_36=>bif v42_36 then(r_spec_l2Draw (IntKind.wrap .i64 (t1_0 - (1:Int))) w1000000_24 w1000000_25 w1000000_26).bind fun c50_39=>(gA 56 w5_23 ([aB.mk c50_39.1 c50_39.2.1 c50_39.2.2.1 c50_39.2.2.2.1]:List aB)).bind fun v52_40=>some (.inl ((IntKind.wrap .i64 (v6_19 - (1:Int))),w5_20,w5_21,w5_22,v52_40,c50_39.2.2.2.2.1,c50_39.2.2.2.2.2.1,c50_39.2.2.2.2.2.2))else some (.inr (v6_19,false,w5_20,w5_21,w5_22,w5_23,w1000000_24,w1000000_25,w1000000_26))
def lU(n:Nat)(r_spec_l2Draw:jQ)(t1_0:Int)(o0_0:List Int)(o0_1:Int)(o0_2:Int):Option (Int×Int×(List UInt8)×(List aB)×(List Int)×Int×Int):=
  (aJ n (8:Int) o0_0 o0_1 o0_2).bind fun c8_1=>bif decide (c8_1.1=(0:Int))then(aJ n (1000:Int) c8_1.2.1 c8_1.2.2.1 c8_1.2.2.2).bind fun c15_3=>(bO n ([(0:Int),(1:Int),(2:Int),((-1):Int),(7:Int),(1000000000000:Int),((-1000000000000):Int),c15_3.1]:List Int) c15_3.2.1 c15_3.2.2.1 c15_3.2.2.2).bind fun c17_4=>some ((1:Int),c17_4.1,([]:List UInt8),([]:List aB),c17_4.2.1,c17_4.2.2.1,c17_4.2.2.2)else bif decide (c8_1.1=(1:Int))then(aJ n (1000:Int) c8_1.2.1 c8_1.2.2.1 c8_1.2.2.2).bind fun c15_6=>(bO n ([(0:Int),(1:Int),(2:Int),((-1):Int),(7:Int),(1000000000000:Int),((-1000000000000):Int),c15_6.1]:List Int) c15_6.2.1 c15_6.2.2.1 c15_6.2.2.2).bind fun c17_7=>some ((1:Int),c17_7.1,([]:List UInt8),([]:List aB),c17_7.2.1,c17_7.2.2.1,c17_7.2.2.2)else bif decide (c8_1.1=(2:Int))then(aJ n (1000:Int) c8_1.2.1 c8_1.2.2.1 c8_1.2.2.2).bind fun c15_9=>(bO n ([(0:Int),(1:Int),(2:Int),((-1):Int),(7:Int),(1000000000000:Int),((-1000000000000):Int),c15_9.1]:List Int) c15_9.2.1 c15_9.2.2.1 c15_9.2.2.2).bind fun c17_10=>some ((1:Int),c17_10.1,([]:List UInt8),([]:List aB),c17_10.2.1,c17_10.2.2.1,c17_10.2.2.2)else bif decide (c8_1.1=(3:Int))then(aV n ([([111,107]:List UInt8),([115,116,111,112]:List UInt8),([97]:List UInt8),([116,114,117,101]:List UInt8),([97,100,100]:List UInt8)]:List (List UInt8)) c8_1.2.1 c8_1.2.2.1 c8_1.2.2.2).bind fun c24_12=>some ((2:Int),(0:Int),c24_12.1,([]:List aB),c24_12.2.1,c24_12.2.2.1,c24_12.2.2.2)else bif decide (c8_1.1=(4:Int))then(aV n ([([111,107]:List UInt8),([115,116,111,112]:List UInt8),([97]:List UInt8),([116,114,117,101]:List UInt8),([97,100,100]:List UInt8)]:List (List UInt8)) c8_1.2.1 c8_1.2.2.1 c8_1.2.2.2).bind fun c24_14=>some ((2:Int),(0:Int),c24_14.1,([]:List aB),c24_14.2.1,c24_14.2.2.1,c24_14.2.2.2)else bif decide (c8_1.1=(5:Int))then(aJ n (5:Int) c8_1.2.1 c8_1.2.2.1 c8_1.2.2.2).bind fun c29_16=>some ((3:Int),c29_16.1,([]:List UInt8),([]:List aB),c29_16.2.1,c29_16.2.2.1,c29_16.2.2.2)else(bO n ([(4:Int),(5:Int)]:List Int) c8_1.2.1 c8_1.2.2.1 c8_1.2.2.2).bind fun c33_17=>(aJ n (4:Int) c33_17.2.1 c33_17.2.2.1 c33_17.2.2.2).bind fun c36_18=>(loopN (oC n r_spec_l2Draw t1_0) n (c36_18.1,c33_17.1,(0:Int),([]:List UInt8),([]:List aB),c36_18.2.1,c36_18.2.2.1,c36_18.2.2.2)).bind fun(v6_27,v42_28,w5_29,w5_30,w5_31,w5_32,w1000000_33,w1000000_34,w1000000_35)=>some (w5_29,w5_30,w5_31,w5_32,w1000000_33,w1000000_34,w1000000_35)
theorem BH{n:Nat}{r_spec_l2Draw:jQ}(ih_spec_l2Draw:oR r_spec_l2Draw):oR (lU n r_spec_l2Draw):=by
 intro t1_0 o0_0 o0_1 o0_2 r h
 unfold lU at h
 refine bF Try.func120 rfl rfl<|cRs<|xAz [.int .i64 0, .int .i64 0, .str [], .sl ([].map aF)] rfl<|goo 5 rfl<|xC1 h (aK ·) rfl (fun c8_1 h=> ?_)
 refine goc 8 rfl<|cIf h rfl (fun q2 h=> ?_) (fun q2 h=> ?_)
 refine gco 6 rfl<|xC1 h (aK ·) rfl (fun c15_3 h=> ?_)
 refine cY (L:=([(0:Int),(1:Int),(2:Int),((-1):Int),(7:Int),(1000000000000:Int),((-1000000000000):Int),c15_3.1]:List Int)) (f:=qN) rfl rfl rfl rfl rfl rfl rfl<|xC1 h (cK ·) rfl (fun c17_4 h=> ?_)
 exact wBd [.int .i64 1, .int .i64 c17_4.1, .str [], .sl ([].map aF)] rfl rfl rfl rfl rfl rfl<|geo
 refine gcc 5 rfl<|cIf h rfl (fun q5 h=> ?_) (fun q5 h=> ?_)
 refine gco 6 rfl<|xC1 h (aK ·) rfl (fun c15_6 h=> ?_)
 refine cY (L:=([(0:Int),(1:Int),(2:Int),((-1):Int),(7:Int),(1000000000000:Int),((-1000000000000):Int),c15_6.1]:List Int)) (f:=qN) rfl rfl rfl rfl rfl rfl rfl<|xC1 h (cK ·) rfl (fun c17_7 h=> ?_)
 exact wBd [.int .i64 1, .int .i64 c17_7.1, .str [], .sl ([].map aF)] rfl rfl rfl rfl rfl rfl<|geo
 refine gcc 4 rfl<|cIf h rfl (fun q8 h=> ?_) (fun q8 h=> ?_)
 refine gco 4 rfl<|xC1 h (aK ·) rfl (fun c15_9 h=> ?_)
 refine cY (L:=([(0:Int),(1:Int),(2:Int),((-1):Int),(7:Int),(1000000000000:Int),((-1000000000000):Int),c15_9.1]:List Int)) (f:=qN) rfl rfl rfl rfl rfl rfl rfl<|xC1 h (cK ·) rfl (fun c17_10 h=> ?_)
 exact wBd [.int .i64 1, .int .i64 c17_10.1, .str [], .sl ([].map aF)] rfl rfl rfl rfl rfl rfl<|geo
 refine gcc 6 rfl<|cIf h rfl (fun q11 h=> ?_) (fun q11 h=> ?_)
 refine gco 5 rfl<|cY (L:=([([111,107]:List UInt8),([115,116,111,112]:List UInt8),([97]:List UInt8),([116,114,117,101]:List UInt8),([97,100,100]:List UInt8)]:List (List UInt8))) (f:=dN) rfl rfl rfl rfl rfl rfl rfl<|xC1 h (bD ·) rfl (fun c24_12 h=> ?_)
 exact wBd [.int .i64 2, .int .i64 0, .str c24_12.1, .sl ([].map aF)] rfl rfl rfl rfl rfl rfl<|geo
 refine gcc 4 rfl<|cIf h rfl (fun q13 h=> ?_) (fun q13 h=> ?_)
 refine gco 3 rfl<|cY (L:=([([111,107]:List UInt8),([115,116,111,112]:List UInt8),([97]:List UInt8),([116,114,117,101]:List UInt8),([97,100,100]:List UInt8)]:List (List UInt8))) (f:=dN) rfl rfl rfl rfl rfl rfl rfl<|xC1 h (bD ·) rfl (fun c24_14 h=> ?_)
 exact wBd [.int .i64 2, .int .i64 0, .str c24_14.1, .sl ([].map aF)] rfl rfl rfl rfl rfl rfl<|geo
 refine gcc 5 rfl<|cIf h rfl (fun q15 h=> ?_) (fun q15 h=> ?_)
 refine gco 3 rfl<|xC1 h (aK ·) rfl (fun c29_16 h=> ?_)
 exact wBd [.int .i64 3, .int .i64 c29_16.1, .str [], .sl ([].map aF)] rfl rfl rfl rfl rfl rfl<|geo
 refine gco 4 rfl<|cY (L:=([(4:Int),(5:Int)]:List Int)) (f:=qN) rfl rfl rfl rfl rfl rfl rfl<|xC1 h (cK ·) rfl (fun c33_17 h=> ?_)
 refine wBd [.int .i64 c33_17.1, .int .i64 0, .str [], .sl ([].map aF)] rfl rfl rfl rfl rfl rfl<|xAz [.int .i64 0, .int .i64 0, .str [], .sl ([].map aF)] rfl<|goo 6 rfl<|xC1 h (aK ·) rfl (fun c36_18 h=> ?_)
 refine goc 2 rfl<|cLp h [(6,6),(37,53)] [(5,5),(1000000,1000000)] (fun(v6_19,w5_20,w5_21,w5_22,w5_23,w1000000_24,w1000000_25,w1000000_26)=>([(6,I64 v6_19)],[(5,[.int .i64 w5_20, .int .i64 w5_21, .str w5_22, .sl (w5_23.map aF)]),(1000000,[.sl (w1000000_24.map rI_u8), .int .i64 w1000000_25, .int .i64 w1000000_26])])) (fun(v6_27,v42_28,w5_29,w5_30,w5_31,w5_32,w1000000_33,w1000000_34,w1000000_35)=>(.e 1,[(6,I64 v6_27),(42,Bo v42_28)],[(5,[.int .i64 w5_29, .int .i64 w5_30, .str w5_31, .sl (w5_32.map aF)]),(1000000,[.sl (w1000000_33.map rI_u8), .int .i64 w1000000_34, .int .i64 w1000000_35])])) rfl (fun st _ h=> ?_) (fun q h=> ?_)
 obtain⟨v6_19,w5_20,w5_21,w5_22,w5_23,w1000000_24,w1000000_25,w1000000_26⟩:=st
 unfold oC at h
 refine gco 3 rfl<|oJn h [(37,42)] [] (fun v42_36=>(.n,[(42,Bo v42_36)],[])) (fun _ h=> ?_) (fun v42_36 h=> ?_)
 refine goo 3 rfl<|oIf 39 h rfl (fun q37 h=> ?_) (fun q37 h=> ?_)
 exact geo
 exact geo
 refine cIf h rfl (fun q38 h=> ?_) (fun q38 h=> ?_)
 refine gco 9 rfl<|xC1 h (ih_spec_l2Draw ·) rfl (fun c50_39 h=> ?_)
 refine cY (L:=([aB.mk c50_39.1 c50_39.2.1 c50_39.2.2.1 c50_39.2.2.2.1]:List aB)) (f:=aF) rfl rfl rfl rfl (by simp only[List.map,dC]<;>rfl) rfl rfl<|wAp (f:=aF) h rfl rfl rfl rfl rfl rfl rfl rfl rfl (fun a=>by rw[aO]; rfl) rfl (fun v52_40 h=> ?_)
 exact geo
 exact gec
 obtain⟨v6_27,v42_28,w5_29,w5_30,w5_31,w5_32,w1000000_33,w1000000_34,w1000000_35⟩:=q
 exact gec
def yF:Nat→(jQ)
  | 0=>(fun _ _ _ _=>none)
  | n+1=>lU n (yF n)
def gP(n:Nat):jQ:=yF n
theorem BQ(n:Nat):oR (gP n):=by
  induction n with
  | zero=>exact(fun h=>nomatch h)
  | succ n ih=>exact BH (n:=n) ih
theorem uJ{n:Nat}:oR (gP n):=(BQ n)
theorem zE(n:Nat):gP (n+1)=lU n (gP n):=rfl
abbrev gK:Type:=Int→Int→(List UInt8)→(List aA)→(List aC)→(List Int)→Int→Int→Option (Int×Int×(List UInt8)×(List aB)×(List Int)×Int×Int)
abbrev qQ(p:gK):Prop:= ∀ {t1_0 t1_1:Int} {t1_2:List UInt8} {t1_3:List aA} {t1_4:List aC} {o0_0:List Int} {o0_1 o0_2:Int} {r:Int×Int×(List UInt8)×(List aB)×(List Int)×Int×Int},p t1_0 t1_1 t1_2 t1_3 t1_4 o0_0 o0_1 o0_2=some r→Big Try.prog τ An (.fn 129 [.one (.ptr 1000000 0), .one (.ag [.int .i64 t1_0, .int .i64 t1_1, .str t1_2, .sl (t1_3.map aE), .sl (t1_4.map aD)])] [[.sl (o0_0.map rI_u8), .int .i64 o0_1, .int .i64 o0_2]] (.one (.ag [.int .i64 r.1, .int .i64 r.2.1, .str r.2.2.1, .sl (r.2.2.2.1.map aF)])) none [[.sl (r.2.2.2.2.1.map rI_u8), .int .i64 r.2.2.2.2.2.1, .int .i64 r.2.2.2.2.2.2]] none)
def mJ(n:Nat)(r_spec_l7Fit:gK)(t1_0:Int)(t1_3:List aA):(Int×Int×Int×(List UInt8)×(List aB)×Int×Int×(List UInt8)×(List aB)×(List Int)×Int×Int)→Option ((Int×Int×Int×(List UInt8)×(List aB)×Int×Int×(List UInt8)×(List aB)×(List Int)×Int×Int)⊕((Int×Int×(List UInt8)×(List aB)×(List Int)×Int×Int)⊕(Int×Bool×Int×Int×(List UInt8)×(List aB)×Int×Int×(List UInt8)×(List aB)×(List Int)×Int×Int)))
  | (v6_4,w4_5,w4_6,w4_7,w4_8,w5_9,w5_10,w5_11,w5_12,w1000000_13,w1000000_14,w1000000_15)=>bif decide (v6_4<(t1_3.length:Int))then(ix t1_3 v6_4).bind fun e40_37=>(r_spec_l7Fit e40_37.f0 e40_37.f1 e40_37.f2 e40_37.f3 e40_37.f4 w1000000_13 w1000000_14 w1000000_15).bind fun c42_38=>(bif decide (t1_0=(6:Int))then some (decide (v6_4=(IntKind.wrap .i64 ((t1_3.length:Int) - (1:Int)))))else some false).bind fun v53_39=>bif v53_39 then bif !decide (c42_38.1=(5:Int))then(gA 56 w5_12 ([]:List aB)).bind fun v62_43=>some (.inr (.inl (w5_9,w5_10,w5_11,v62_43,c42_38.2.2.2.2.1,c42_38.2.2.2.2.2.1,c42_38.2.2.2.2.2.2)))else(gA 56 w5_12 c42_38.2.2.2.1).bind fun v62_44=>some (.inr (.inl (w5_9,w5_10,w5_11,v62_44,c42_38.2.2.2.2.1,c42_38.2.2.2.2.2.1,c42_38.2.2.2.2.2.2)))else(gA 56 w5_12 ([aB.mk c42_38.1 c42_38.2.1 c42_38.2.2.1 c42_38.2.2.2.1]:List aB)).bind fun v69_45=>some (.inl ((IntKind.wrap .i64 (v6_4+(1:Int))),w4_5,w4_6,w4_7,w4_8,w5_9,w5_10,w5_11,v69_45,c42_38.2.2.2.2.1,c42_38.2.2.2.2.2.1,c42_38.2.2.2.2.2.2))else some (.inr (.inr (v6_4,false,w4_5,w4_6,w4_7,w4_8,w5_9,w5_10,w5_11,w5_12,w1000000_13,w1000000_14,w1000000_15)))
def mI(n:Nat)(r_spec_l7Fit:gK)(t1_0:Int)(t1_3:List aA):(Int×Int×Int×(List UInt8)×(List aB)×Int×Int×(List UInt8)×(List aB)×(List Int)×Int×Int)→Option ((Int×Int×Int×(List UInt8)×(List aB)×Int×Int×(List UInt8)×(List aB)×(List Int)×Int×Int)⊕((Int×Int×(List UInt8)×(List aB)×(List Int)×Int×Int)⊕(Int×Bool×Int×Int×(List UInt8)×(List aB)×Int×Int×(List UInt8)×(List aB)×(List Int)×Int×Int)))
  | (v6_47,w4_48,w4_49,w4_50,w4_51,w5_52,w5_53,w5_54,w5_55,w1000000_56,w1000000_57,w1000000_58)=>bif decide (v6_47<(t1_3.length:Int))then(ix t1_3 v6_47).bind fun e40_80=>(r_spec_l7Fit e40_80.f0 e40_80.f1 e40_80.f2 e40_80.f3 e40_80.f4 w1000000_56 w1000000_57 w1000000_58).bind fun c42_81=>(bif decide (t1_0=(6:Int))then some (decide (v6_47=(IntKind.wrap .i64 ((t1_3.length:Int) - (1:Int)))))else some false).bind fun v53_82=>bif v53_82 then bif !decide (c42_81.1=(5:Int))then(gA 56 w5_55 ([]:List aB)).bind fun v62_86=>some (.inr (.inl (w5_52,w5_53,w5_54,v62_86,c42_81.2.2.2.2.1,c42_81.2.2.2.2.2.1,c42_81.2.2.2.2.2.2)))else(gA 56 w5_55 c42_81.2.2.2.1).bind fun v62_87=>some (.inr (.inl (w5_52,w5_53,w5_54,v62_87,c42_81.2.2.2.2.1,c42_81.2.2.2.2.2.1,c42_81.2.2.2.2.2.2)))else(gA 56 w5_55 ([aB.mk c42_81.1 c42_81.2.1 c42_81.2.2.1 c42_81.2.2.2.1]:List aB)).bind fun v69_88=>some (.inl ((IntKind.wrap .i64 (v6_47+(1:Int))),w4_48,w4_49,w4_50,w4_51,w5_52,w5_53,w5_54,v69_88,c42_81.2.2.2.2.1,c42_81.2.2.2.2.2.1,c42_81.2.2.2.2.2.2))else some (.inr (.inr (v6_47,false,w4_48,w4_49,w4_50,w4_51,w5_52,w5_53,w5_54,w5_55,w1000000_56,w1000000_57,w1000000_58)))
def mH(n:Nat)(r_spec_l7Fit:gK)(t1_3:List aA):(Int×Int×Int×(List UInt8)×(List aB)×Int×Int×(List UInt8)×(List aB)×(List Int)×Int×Int)→Option ((Int×Int×Int×(List UInt8)×(List aB)×Int×Int×(List UInt8)×(List aB)×(List Int)×Int×Int)⊕((Int×Int×(List UInt8)×(List aB)×(List Int)×Int×Int)⊕(Int×Bool×Int×Int×(List UInt8)×(List aB)×Int×Int×(List UInt8)×(List aB)×(List Int)×Int×Int)))
  | (v6_90,w4_91,w4_92,w4_93,w4_94,w5_95,w5_96,w5_97,w5_98,w1000000_99,w1000000_100,w1000000_101)=>bif decide (v6_90<(t1_3.length:Int))then(ix t1_3 v6_90).bind fun e40_123=>(r_spec_l7Fit e40_123.f0 e40_123.f1 e40_123.f2 e40_123.f3 e40_123.f4 w1000000_99 w1000000_100 w1000000_101).bind fun c42_124=>bif decide (v6_90=(IntKind.wrap .i64 ((t1_3.length:Int) - (1:Int))))then bif !decide (c42_124.1=(5:Int))then(gA 56 w5_98 ([]:List aB)).bind fun v62_127=>some (.inr (.inl (w5_95,w5_96,w5_97,v62_127,c42_124.2.2.2.2.1,c42_124.2.2.2.2.2.1,c42_124.2.2.2.2.2.2)))else(gA 56 w5_98 c42_124.2.2.2.1).bind fun v62_128=>some (.inr (.inl (w5_95,w5_96,w5_97,v62_128,c42_124.2.2.2.2.1,c42_124.2.2.2.2.2.1,c42_124.2.2.2.2.2.2)))else(gA 56 w5_98 ([aB.mk c42_124.1 c42_124.2.1 c42_124.2.2.1 c42_124.2.2.2.1]:List aB)).bind fun v69_129=>some (.inl ((IntKind.wrap .i64 (v6_90+(1:Int))),w4_91,w4_92,w4_93,w4_94,w5_95,w5_96,w5_97,v69_129,c42_124.2.2.2.2.1,c42_124.2.2.2.2.2.1,c42_124.2.2.2.2.2.2))else some (.inr (.inr (v6_90,false,w4_91,w4_92,w4_93,w4_94,w5_95,w5_96,w5_97,w5_98,w1000000_99,w1000000_100,w1000000_101)))
def nI(n:Nat)(r_spec_l7Fit:gK)(t1_0:Int)(t1_1:Int)(t1_2:List UInt8)(t1_3:List aA)(t1_4:List aC)(o0_0:List Int)(o0_1:Int)(o0_2:Int):Option (Int×Int×(List UInt8)×(List aB)×(List Int)×Int×Int):=
  bif decide (t1_0=(1:Int))then some ((1:Int),t1_1,([]:List UInt8),([]:List aB),o0_0,o0_1,o0_2)else bif decide (t1_0=(2:Int))then some ((2:Int),(0:Int),t1_2,([]:List aB),o0_0,o0_1,o0_2)else bif decide (t1_0=(4:Int))then(loopN (mJ n r_spec_l7Fit t1_0 t1_3) n ((0:Int),(0:Int),(0:Int),([]:List UInt8),([]:List aB),(4:Int),(0:Int),([]:List UInt8),([]:List aB),o0_0,o0_1,o0_2)).bind fun q=>(match q with | .inl (w4_16,w4_17,w4_18,w4_19,w1000000_20,w1000000_21,w1000000_22)=>some (w4_16,w4_17,w4_18,w4_19,w1000000_20,w1000000_21,w1000000_22) | .inr (v6_23,v33_24,w4_25,w4_26,w4_27,w4_28,w5_29,w5_30,w5_31,w5_32,w1000000_33,w1000000_34,w1000000_35)=>some (w5_29,w5_30,w5_31,w5_32,w1000000_33,w1000000_34,w1000000_35))else bif decide (t1_0=(5:Int))then(loopN (mI n r_spec_l7Fit t1_0 t1_3) n ((0:Int),(0:Int),(0:Int),([]:List UInt8),([]:List aB),(5:Int),(0:Int),([]:List UInt8),([]:List aB),o0_0,o0_1,o0_2)).bind fun q=>(match q with | .inl (w4_59,w4_60,w4_61,w4_62,w1000000_63,w1000000_64,w1000000_65)=>some (w4_59,w4_60,w4_61,w4_62,w1000000_63,w1000000_64,w1000000_65) | .inr (v6_66,v33_67,w4_68,w4_69,w4_70,w4_71,w5_72,w5_73,w5_74,w5_75,w1000000_76,w1000000_77,w1000000_78)=>some (w5_72,w5_73,w5_74,w5_75,w1000000_76,w1000000_77,w1000000_78))else bif decide (t1_0=(6:Int))then(loopN (mH n r_spec_l7Fit t1_3) n ((0:Int),(0:Int),(0:Int),([]:List UInt8),([]:List aB),(5:Int),(0:Int),([]:List UInt8),([]:List aB),o0_0,o0_1,o0_2)).bind fun q=>(match q with | .inl (w4_102,w4_103,w4_104,w4_105,w1000000_106,w1000000_107,w1000000_108)=>some (w4_102,w4_103,w4_104,w4_105,w1000000_106,w1000000_107,w1000000_108) | .inr (v6_109,v33_110,w4_111,w4_112,w4_113,w4_114,w5_115,w5_116,w5_117,w5_118,w1000000_119,w1000000_120,w1000000_121)=>some (w5_115,w5_116,w5_117,w5_118,w1000000_119,w1000000_120,w1000000_121))else(gP n (1:Int) o0_0 o0_1 o0_2).bind fun c73_130=>some (c73_130.1,c73_130.2.1,c73_130.2.2.1,c73_130.2.2.2.1,c73_130.2.2.2.2.1,c73_130.2.2.2.2.2.1,c73_130.2.2.2.2.2.2)
theorem Ct{n:Nat}{r_spec_l7Fit:gK}(ih_spec_l7Fit:qQ r_spec_l7Fit):qQ (nI n r_spec_l7Fit):=by
 intro t1_0 t1_1 t1_2 t1_3 t1_4 o0_0 o0_1 o0_2 r h
 unfold nI at h
 refine bF Try.func129 rfl rfl<|gco 3 rfl<|xAz [.int .i64 0, .int .i64 0, .str [], .sl ([].map aF)] rfl<|goc 13 rfl<|cIf h rfl (fun q1 h=> ?_) (fun q1 h=> ?_)
 exact gco 4 rfl<|wBd [.int .i64 1, .int .i64 t1_1, .str [], .sl ([].map aF)] rfl rfl rfl rfl rfl rfl<|geo
 refine gcc 5 rfl<|cIf h rfl (fun q2 h=> ?_) (fun q2 h=> ?_)
 exact gco 4 rfl<|wBd [.int .i64 2, .int .i64 0, .str t1_2, .sl ([].map aF)] rfl rfl rfl rfl rfl rfl<|geo
 refine gcc 6 rfl<|cIf h rfl (fun q3 h=> ?_) (fun q3 h=> ?_)
 refine gco 4 rfl<|wBd [.int .i64 5, .int .i64 0, .str [], .sl ([].map aF)] rfl rfl rfl rfl rfl rfl<|xAz [.int .i64 0, .int .i64 0, .str [], .sl ([].map aF)] rfl<|goc 9 rfl<|cSu 27 q3 rfl<|gcc 10 rfl<|cLp h [(4,4),(6,7),(29,70)] [(4,5),(7,7),(1000000,1000000)] (fun(v6_4,w4_5,w4_6,w4_7,w4_8,w5_9,w5_10,w5_11,w5_12,w1000000_13,w1000000_14,w1000000_15)=>([(4,Pt 4),(6,I64 v6_4)],[(4,[.int .i64 w4_5, .int .i64 w4_6, .str w4_7, .sl (w4_8.map aF)]),(5,[.int .i64 w5_9, .int .i64 w5_10, .str w5_11, .sl (w5_12.map aF)]),(1000000,[.sl (w1000000_13.map rI_u8), .int .i64 w1000000_14, .int .i64 w1000000_15])])) (fun q=>match q with | .inl (w4_16,w4_17,w4_18,w4_19,w1000000_20,w1000000_21,w1000000_22)=>(.r,[(4,Pt 4)],[(4,[.int .i64 w4_16, .int .i64 w4_17, .str w4_18, .sl (w4_19.map aF)]),(1000000,[.sl (w1000000_20.map rI_u8), .int .i64 w1000000_21, .int .i64 w1000000_22])]) | .inr (v6_23,v33_24,w4_25,w4_26,w4_27,w4_28,w5_29,w5_30,w5_31,w5_32,w1000000_33,w1000000_34,w1000000_35)=>(.e 1,[(4,Pt 4),(6,I64 v6_23),(33,Bo v33_24)],[(4,[.int .i64 w4_25, .int .i64 w4_26, .str w4_27, .sl (w4_28.map aF)]),(5,[.int .i64 w5_29, .int .i64 w5_30, .str w5_31, .sl (w5_32.map aF)]),(1000000,[.sl (w1000000_33.map rI_u8), .int .i64 w1000000_34, .int .i64 w1000000_35])])) rfl (fun st _ h=> ?_) (fun q h=> ?_)
 obtain⟨v6_4,w4_5,w4_6,w4_7,w4_8,w5_9,w5_10,w5_11,w5_12,w1000000_13,w1000000_14,w1000000_15⟩:=st
 unfold mJ at h
 refine gco 6 rfl<|xLn rfl<|goc 2 rfl<|cIf h rfl (fun q36 h=> ?_) (fun q36 h=> ?_)
 refine gco 9 rfl<|xIx h aL rfl (fun e40_37 h=> ?_)
 refine xLd rfl<|xC1 h (ih_spec_l7Fit ·) rfl (fun c42_38 h=> ?_)
 refine xAz [.int .i64 0, .int .i64 0, .str [], .sl ([].map aF)] rfl<|goo 5 rfl<|oJn h [(43,53)] [] (fun v53_39=>(.n,[(53,Bo v53_39)],[])) (fun _ h=> ?_) (fun v53_39 h=> ?_)
 refine goo 4 rfl<|oIf 46 h rfl (fun q40 h=> ?_) (fun q40 h=> ?_)
 exact goo 3 rfl<|xLn rfl<|geo
 exact geo
 refine cIf h rfl (fun q41 h=> ?_) (fun q41 h=> ?_)
 refine gcc 7 rfl<|cIf h rfl (fun q42 h=> ?_) (fun q42 h=> ?_)
 refine cRg<|wBd [.int .i64 5, .int .i64 0, .str [], .sl ([].map aF)] rfl rfl rfl rfl rfl rfl<|goo 8 rfl<|wAp (f:=aF) h rfl rfl rfl rfl rfl rfl rfl rfl rfl (fun a=>by rw[aO]; rfl) rfl (fun v62_43 h=> ?_)
 exact geo
 refine gco 7 rfl<|wAp (f:=aF) h rfl rfl rfl rfl rfl rfl rfl rfl rfl (fun a=>by rw[aO]; rfl) rfl (fun v62_44 h=> ?_)
 exact geo
 refine gco 5 rfl<|cY (L:=([aB.mk c42_38.1 c42_38.2.1 c42_38.2.2.1 c42_38.2.2.2.1]:List aB)) (f:=aF) rfl rfl rfl rfl (by simp only[List.map,dC]<;>rfl) rfl rfl<|wAp (f:=aF) h rfl rfl rfl rfl rfl rfl rfl rfl rfl (fun a=>by rw[aO]; rfl) rfl (fun v69_45 h=> ?_)
 exact geo
 exact gec
 rcases q with⟨w4_16,w4_17,w4_18,w4_19,w1000000_20,w1000000_21,w1000000_22⟩ | ⟨v6_23,v33_24,w4_25,w4_26,w4_27,w4_28,w5_29,w5_30,w5_31,w5_32,w1000000_33,w1000000_34,w1000000_35⟩
 exact en
 exact gec
 refine gcc 5 rfl<|cIf h rfl (fun q46 h=> ?_) (fun q46 h=> ?_)
 refine gco 4 rfl<|wBd [.int .i64 5, .int .i64 0, .str [], .sl ([].map aF)] rfl rfl rfl rfl rfl rfl<|xAz [.int .i64 0, .int .i64 0, .str [], .sl ([].map aF)] rfl<|goc 9 rfl<|cSu 27 q3 rfl<|gcc 7 rfl<|cLp h [(4,4),(6,7),(29,70)] [(4,5),(7,7),(1000000,1000000)] (fun(v6_47,w4_48,w4_49,w4_50,w4_51,w5_52,w5_53,w5_54,w5_55,w1000000_56,w1000000_57,w1000000_58)=>([(4,Pt 4),(6,I64 v6_47)],[(4,[.int .i64 w4_48, .int .i64 w4_49, .str w4_50, .sl (w4_51.map aF)]),(5,[.int .i64 w5_52, .int .i64 w5_53, .str w5_54, .sl (w5_55.map aF)]),(1000000,[.sl (w1000000_56.map rI_u8), .int .i64 w1000000_57, .int .i64 w1000000_58])])) (fun q=>match q with | .inl (w4_59,w4_60,w4_61,w4_62,w1000000_63,w1000000_64,w1000000_65)=>(.r,[(4,Pt 4)],[(4,[.int .i64 w4_59, .int .i64 w4_60, .str w4_61, .sl (w4_62.map aF)]),(1000000,[.sl (w1000000_63.map rI_u8), .int .i64 w1000000_64, .int .i64 w1000000_65])]) | .inr (v6_66,v33_67,w4_68,w4_69,w4_70,w4_71,w5_72,w5_73,w5_74,w5_75,w1000000_76,w1000000_77,w1000000_78)=>(.e 1,[(4,Pt 4),(6,I64 v6_66),(33,Bo v33_67)],[(4,[.int .i64 w4_68, .int .i64 w4_69, .str w4_70, .sl (w4_71.map aF)]),(5,[.int .i64 w5_72, .int .i64 w5_73, .str w5_74, .sl (w5_75.map aF)]),(1000000,[.sl (w1000000_76.map rI_u8), .int .i64 w1000000_77, .int .i64 w1000000_78])])) rfl (fun st _ h=> ?_) (fun q h=> ?_)
 obtain⟨v6_47,w4_48,w4_49,w4_50,w4_51,w5_52,w5_53,w5_54,w5_55,w1000000_56,w1000000_57,w1000000_58⟩:=st
 unfold mI at h
 refine gco 6 rfl<|xLn rfl<|goc 2 rfl<|cIf h rfl (fun q79 h=> ?_) (fun q79 h=> ?_)
 refine gco 9 rfl<|xIx h aL rfl (fun e40_80 h=> ?_)
 refine xLd rfl<|xC1 h (ih_spec_l7Fit ·) rfl (fun c42_81 h=> ?_)
 refine xAz [.int .i64 0, .int .i64 0, .str [], .sl ([].map aF)] rfl<|goo 5 rfl<|oJn h [(43,53)] [] (fun v53_82=>(.n,[(53,Bo v53_82)],[])) (fun _ h=> ?_) (fun v53_82 h=> ?_)
 refine goo 4 rfl<|oIf 46 h rfl (fun q83 h=> ?_) (fun q83 h=> ?_)
 exact goo 3 rfl<|xLn rfl<|geo
 exact geo
 refine cIf h rfl (fun q84 h=> ?_) (fun q84 h=> ?_)
 refine gcc 7 rfl<|cIf h rfl (fun q85 h=> ?_) (fun q85 h=> ?_)
 refine cRg<|wBd [.int .i64 5, .int .i64 0, .str [], .sl ([].map aF)] rfl rfl rfl rfl rfl rfl<|goo 8 rfl<|wAp (f:=aF) h rfl rfl rfl rfl rfl rfl rfl rfl rfl (fun a=>by rw[aO]; rfl) rfl (fun v62_86 h=> ?_)
 exact geo
 refine gco 7 rfl<|wAp (f:=aF) h rfl rfl rfl rfl rfl rfl rfl rfl rfl (fun a=>by rw[aO]; rfl) rfl (fun v62_87 h=> ?_)
 exact geo
 refine gco 5 rfl<|cY (L:=([aB.mk c42_81.1 c42_81.2.1 c42_81.2.2.1 c42_81.2.2.2.1]:List aB)) (f:=aF) rfl rfl rfl rfl (by simp only[List.map,dC]<;>rfl) rfl rfl<|wAp (f:=aF) h rfl rfl rfl rfl rfl rfl rfl rfl rfl (fun a=>by rw[aO]; rfl) rfl (fun v69_88 h=> ?_)
 exact geo
 exact gec
 rcases q with⟨w4_59,w4_60,w4_61,w4_62,w1000000_63,w1000000_64,w1000000_65⟩ | ⟨v6_66,v33_67,w4_68,w4_69,w4_70,w4_71,w5_72,w5_73,w5_74,w5_75,w1000000_76,w1000000_77,w1000000_78⟩
 exact en
 exact gec
 refine gcc 4 rfl<|cIf h rfl (fun q89 h=> ?_) (fun q89 h=> ?_)
 refine cRs<|wBd [.int .i64 5, .int .i64 0, .str [], .sl ([].map aF)] rfl rfl rfl rfl rfl rfl<|xAz [.int .i64 0, .int .i64 0, .str [], .sl ([].map aF)] rfl<|goc 9 rfl<|cSu 27 q3 rfl<|gcc 7 rfl<|cLp h [(4,4),(6,7),(29,70)] [(4,5),(7,7),(1000000,1000000)] (fun(v6_90,w4_91,w4_92,w4_93,w4_94,w5_95,w5_96,w5_97,w5_98,w1000000_99,w1000000_100,w1000000_101)=>([(4,Pt 4),(6,I64 v6_90)],[(4,[.int .i64 w4_91, .int .i64 w4_92, .str w4_93, .sl (w4_94.map aF)]),(5,[.int .i64 w5_95, .int .i64 w5_96, .str w5_97, .sl (w5_98.map aF)]),(1000000,[.sl (w1000000_99.map rI_u8), .int .i64 w1000000_100, .int .i64 w1000000_101])])) (fun q=>match q with | .inl (w4_102,w4_103,w4_104,w4_105,w1000000_106,w1000000_107,w1000000_108)=>(.r,[(4,Pt 4)],[(4,[.int .i64 w4_102, .int .i64 w4_103, .str w4_104, .sl (w4_105.map aF)]),(1000000,[.sl (w1000000_106.map rI_u8), .int .i64 w1000000_107, .int .i64 w1000000_108])]) | .inr (v6_109,v33_110,w4_111,w4_112,w4_113,w4_114,w5_115,w5_116,w5_117,w5_118,w1000000_119,w1000000_120,w1000000_121)=>(.e 1,[(4,Pt 4),(6,I64 v6_109),(33,Bo v33_110)],[(4,[.int .i64 w4_111, .int .i64 w4_112, .str w4_113, .sl (w4_114.map aF)]),(5,[.int .i64 w5_115, .int .i64 w5_116, .str w5_117, .sl (w5_118.map aF)]),(1000000,[.sl (w1000000_119.map rI_u8), .int .i64 w1000000_120, .int .i64 w1000000_121])])) rfl (fun st _ h=> ?_) (fun q h=> ?_)
 obtain⟨v6_90,w4_91,w4_92,w4_93,w4_94,w5_95,w5_96,w5_97,w5_98,w1000000_99,w1000000_100,w1000000_101⟩:=st
 unfold mH at h
 refine gco 6 rfl<|xLn rfl<|goc 2 rfl<|cIf h rfl (fun q122 h=> ?_) (fun q122 h=> ?_)
 refine gco 9 rfl<|xIx h aL rfl (fun e40_123 h=> ?_)
 refine xLd rfl<|xC1 h (ih_spec_l7Fit ·) rfl (fun c42_124 h=> ?_)
 refine xAz [.int .i64 0, .int .i64 0, .str [], .sl ([].map aF)] rfl<|goo 9 rfl<|oSu 46 q89 rfl<|goo 3 rfl<|xLn rfl<|goc 4 rfl<|cIf h rfl (fun q125 h=> ?_) (fun q125 h=> ?_)
 refine gcc 7 rfl<|cIf h rfl (fun q126 h=> ?_) (fun q126 h=> ?_)
 refine cRg<|wBd [.int .i64 5, .int .i64 0, .str [], .sl ([].map aF)] rfl rfl rfl rfl rfl rfl<|goo 8 rfl<|wAp (f:=aF) h rfl rfl rfl rfl rfl rfl rfl rfl rfl (fun a=>by rw[aO]; rfl) rfl (fun v62_127 h=> ?_)
 exact geo
 refine gco 7 rfl<|wAp (f:=aF) h rfl rfl rfl rfl rfl rfl rfl rfl rfl (fun a=>by rw[aO]; rfl) rfl (fun v62_128 h=> ?_)
 exact geo
 refine gco 5 rfl<|cY (L:=([aB.mk c42_124.1 c42_124.2.1 c42_124.2.2.1 c42_124.2.2.2.1]:List aB)) (f:=aF) rfl rfl rfl rfl (by simp only[List.map,dC]<;>rfl) rfl rfl<|wAp (f:=aF) h rfl rfl rfl rfl rfl rfl rfl rfl rfl (fun a=>by rw[aO]; rfl) rfl (fun v69_129 h=> ?_)
 exact geo
 exact gec
 rcases q with⟨w4_102,w4_103,w4_104,w4_105,w1000000_106,w1000000_107,w1000000_108⟩ | ⟨v6_109,v33_110,w4_111,w4_112,w4_113,w4_114,w5_115,w5_116,w5_117,w5_118,w1000000_119,w1000000_120,w1000000_121⟩
 exact en
 exact gec
 refine gco 4 rfl<|xC1 h (uJ ·) rfl (fun c73_130 h=> ?_)
 exact geo
def AZ:Nat→(gK)
  | 0=>(fun _ _ _ _ _ _ _ _=>none)
  | n+1=>nI n (AZ n)
def cR(n:Nat):gK:=AZ n
theorem Cy(n:Nat):qQ (cR n):=by
  induction n with
  | zero=>exact(fun h=>nomatch h)
  | succ n ih=>exact Ct (n:=n) ih
theorem Dq{n:Nat}:qQ (cR n):=(Cy n)
theorem AK(n:Nat):cR (n+1)=nI n (cR n):=rfl
abbrev GR(p:Int→(List Int)→Int→Int→Option (Bool×(List Int)×Int×Int)):Prop:= ∀ {t1_0:Int} {o0_0:List Int} {o0_1 o0_2:Int} {r:Bool×(List Int)×Int×Int},p t1_0 o0_0 o0_1 o0_2=some r→Big Try.prog τ An (.fn 121 [.one (.ptr 1000000 0), .one (.c (.int .i64 t1_0))] [[.sl (o0_0.map rI_u8), .int .i64 o0_1, .int .i64 o0_2]] (.one (.c (.bool r.1))) none [[.sl (r.2.1.map rI_u8), .int .i64 r.2.2.1, .int .i64 r.2.2.2]] none)
def fU(n:Nat)(t1_0:Int)(o0_0:List Int)(o0_1:Int)(o0_2:Int):Option (Bool×(List Int)×Int×Int):=
  (aJ n t1_0 o0_0 o0_1 o0_2).bind fun c7_1=>some ((decide (c7_1.1=(0:Int))),c7_1.2.1,c7_1.2.2.1,c7_1.2.2.2)
theorem mN{n:Nat}:GR (fU n):=by
 intro t1_0 o0_0 o0_1 o0_2 r h
 unfold fU at h
 refine bF Try.func121 rfl rfl<|gco 8 rfl<|xC1 h (aK ·) rfl (fun c7_1 h=> ?_)
 exact geo
abbrev GQ(p:Int→Int→(List UInt8)→(List aB)→(List Int)→Int→Int→Option (Int×Int×(List UInt8)×(List aB)×(List Int)×Int×Int)):Prop:= ∀ {t1_0 t1_1:Int} {t1_2:List UInt8} {t1_3:List aB} {o0_0:List Int} {o0_1 o0_2:Int} {r:Int×Int×(List UInt8)×(List aB)×(List Int)×Int×Int},p t1_0 t1_1 t1_2 t1_3 o0_0 o0_1 o0_2=some r→Big Try.prog τ An (.fn 199 [.one (.ptr 1000000 0), .one (.ag [.int .i64 t1_0, .int .i64 t1_1, .str t1_2, .sl (t1_3.map aF)])] [[.sl (o0_0.map rI_u8), .int .i64 o0_1, .int .i64 o0_2]] (.one (.ag [.int .i64 r.1, .int .i64 r.2.1, .str r.2.2.1, .sl (r.2.2.2.1.map aF)])) none [[.sl (r.2.2.2.2.1.map rI_u8), .int .i64 r.2.2.2.2.2.1, .int .i64 r.2.2.2.2.2.2]] none)
def oD(n:Nat):(Int×Int×Int×(List UInt8)×(List aB))→Option ((Int×Int×Int×(List UInt8)×(List aB))⊕((Int×Bool×Int×Int×(List UInt8)×(List aB))))
  | (v5_12,w3_13,w3_14,w3_15,w3_16)=>bif decide (v5_12<(8:Int))then some (.inl ((IntKind.wrap .i64 (v5_12+(1:Int))),(4:Int),(0:Int),([]:List UInt8),([aB.mk w3_13 w3_14 w3_15 w3_16]:List aB)))else some (.inr (v5_12,false,w3_13,w3_14,w3_15,w3_16))
def mA(n:Nat)(t1_0:Int)(t1_1:Int)(t1_2:List UInt8)(t1_3:List aB)(o0_0:List Int)(o0_1:Int)(o0_2:Int):Option (Int×Int×(List UInt8)×(List aB)×(List Int)×Int×Int):=
  (eF n t1_0 t1_1 t1_2 t1_3).bind fun c7_1=>(aJ n (6:Int) o0_0 o0_1 o0_2).bind fun c9_2=>bif decide (c9_2.1=(0:Int))then(aJ n (7:Int) c9_2.2.1 c9_2.2.2.1 c9_2.2.2.2).bind fun c13_4=>some (c13_4.1,c7_1.2.1,c7_1.2.2.1,c7_1.2.2.2,c13_4.2.1,c13_4.2.2.1,c13_4.2.2.2)else bif decide (c9_2.1=(1:Int))then(bO n ([((-1):Int),(1000000000001:Int),(1000001:Int),(3:Int)]:List Int) c9_2.2.1 c9_2.2.2.1 c9_2.2.2.2).bind fun c19_6=>some (c7_1.1,c19_6.1,c7_1.2.2.1,c7_1.2.2.2,c19_6.2.1,c19_6.2.2.1,c19_6.2.2.2)else bif decide (c9_2.1=(2:Int))then(aV n ([([]:List UInt8),([65]:List UInt8),([120]:List UInt8),([116,119,101,110,116,121,111,110,101,98,121,116,101,115,116,119,101,110,116,121,111]:List UInt8)]:List (List UInt8)) c9_2.2.1 c9_2.2.2.1 c9_2.2.2.2).bind fun c25_8=>some (c7_1.1,c7_1.2.1,c25_8.1,c7_1.2.2.2,c25_8.2.1,c25_8.2.2.1,c25_8.2.2.2)else bif decide (c9_2.1=(3:Int))then(gA 56 c7_1.2.2.2 ([aB.mk (1:Int) (4:Int) ([]:List UInt8) ([]:List aB)]:List aB)).bind fun v33_10=>some (c7_1.1,c7_1.2.1,c7_1.2.2.1,v33_10,c9_2.2.1,c9_2.2.2.1,c9_2.2.2.2)else bif decide (c9_2.1=(4:Int))then(loopN (oD n) n ((0:Int),c7_1.1,c7_1.2.1,c7_1.2.2.1,c7_1.2.2.2)).bind fun(v5_17,v38_18,w3_19,w3_20,w3_21,w3_22)=>some (w3_19,w3_20,w3_21,w3_22,c9_2.2.1,c9_2.2.2.1,c9_2.2.2.2)else some (c7_1.1,c7_1.2.1,c7_1.2.2.1,c7_1.2.2.2,c9_2.2.1,c9_2.2.2.1,c9_2.2.2.2)
theorem DD{n:Nat}:GQ (mA n):=by
 intro t1_0 t1_1 t1_2 t1_3 o0_0 o0_1 o0_2 r h
 unfold mA at h
 refine bF Try.func199 rfl rfl<|gco 3 rfl<|xAz [.int .i64 0, .int .i64 0, .str [], .sl ([].map aF)] rfl<|goo 4 rfl<|xC0 h (uK ·) rfl (fun c7_1 h=> ?_)
 refine goo 6 rfl<|xC1 h (aK ·) rfl (fun c9_2 h=> ?_)
 refine goc 7 rfl<|cIf h rfl (fun q3 h=> ?_) (fun q3 h=> ?_)
 refine gco 2 rfl<|xC1 h (aK ·) rfl (fun c13_4 h=> ?_)
 exact geo
 refine gcc 5 rfl<|cIf h rfl (fun q5 h=> ?_) (fun q5 h=> ?_)
 refine gco 2 rfl<|cY (L:=([((-1):Int),(1000000000001:Int),(1000001:Int),(3:Int)]:List Int)) (f:=qN) rfl rfl rfl rfl rfl rfl rfl<|xC1 h (cK ·) rfl (fun c19_6 h=> ?_)
 exact geo
 refine gcc 5 rfl<|cIf h rfl (fun q7 h=> ?_) (fun q7 h=> ?_)
 refine gco 2 rfl<|cY (L:=([([]:List UInt8),([65]:List UInt8),([120]:List UInt8),([116,119,101,110,116,121,111,110,101,98,121,116,101,115,116,119,101,110,116,121,111]:List UInt8)]:List (List UInt8))) (f:=dN) rfl rfl rfl rfl rfl rfl rfl<|xC1 h (bD ·) rfl (fun c25_8 h=> ?_)
 exact geo
 refine gcc 5 rfl<|cIf h rfl (fun q9 h=> ?_) (fun q9 h=> ?_)
 refine gco 3 rfl<|wBd [.int .i64 1, .int .i64 4, .str [], .sl ([].map aF)] rfl rfl rfl rfl rfl rfl<|cY (L:=([aB.mk (1:Int) (4:Int) ([]:List UInt8) ([]:List aB)]:List aB)) (f:=aF) rfl rfl rfl rfl (by simp only[List.map,dC]<;>rfl) rfl rfl<|wAp (f:=aF) h rfl rfl rfl rfl rfl rfl rfl rfl rfl (fun a=>by rw[aO]; rfl) rfl (fun v33_10 h=> ?_)
 exact geo
 refine gcc 5 rfl<|cIf h rfl (fun q11 h=> ?_) (fun q11 h=> ?_)
 refine gcc 4 rfl<|cLp h [(5,5),(37,43)] [(3,3)] (fun(v5_12,w3_13,w3_14,w3_15,w3_16)=>([(5,I64 v5_12)],[(3,[.int .i64 w3_13, .int .i64 w3_14, .str w3_15, .sl (w3_16.map aF)])])) (fun(v5_17,v38_18,w3_19,w3_20,w3_21,w3_22)=>(.e 1,[(5,I64 v5_17),(38,Bo v38_18)],[(3,[.int .i64 w3_19, .int .i64 w3_20, .str w3_21, .sl (w3_22.map aF)])])) rfl (fun st _ h=> ?_) (fun q h=> ?_)
 obtain⟨v5_12,w3_13,w3_14,w3_15,w3_16⟩:=st
 unfold oD at h
 refine gcc 6 rfl<|cIf h rfl (fun q23 h=> ?_) (fun q23 h=> ?_)
 exact gco 5 rfl<|cY (L:=([aB.mk w3_13 w3_14 w3_15 w3_16]:List aB)) (f:=aF) rfl rfl rfl rfl (by simp only[List.map,dC]<;>rfl) rfl rfl<|wBd [.int .i64 4, .int .i64 0, .str [], .sl ([aB.mk w3_13 w3_14 w3_15 w3_16].map aF)] rfl rfl rfl rfl rfl rfl<|geo
 exact gec
 obtain⟨v5_17,v38_18,w3_19,w3_20,w3_21,w3_22⟩:=q
 exact gec
 exact gec
abbrev IR(p:(List Int)→Int→Int→Option (Int×Int×(List UInt8)×(List aB)×(List Int)×Int×Int)):Prop:= ∀ {o0_0:List Int} {o0_1 o0_2:Int} {r:Int×Int×(List UInt8)×(List aB)×(List Int)×Int×Int},p o0_0 o0_1 o0_2=some r→Big Try.prog τ An (.fn 130 [.one (.ptr 1000000 0)] [[.sl (o0_0.map rI_u8), .int .i64 o0_1, .int .i64 o0_2]] (.one (.ag [.int .i64 r.1, .int .i64 r.2.1, .str r.2.2.1, .sl (r.2.2.2.1.map aF)])) none [[.sl (r.2.2.2.2.1.map rI_u8), .int .i64 r.2.2.2.2.2.1, .int .i64 r.2.2.2.2.2.2]] none)
def nN(n:Nat)(o0_0:List Int)(o0_1:Int)(o0_2:Int):Option (Int×Int×(List UInt8)×(List aB)×(List Int)×Int×Int):=
  (gP n (3:Int) o0_0 o0_1 o0_2).bind fun c5_1=>(fU n (5:Int) c5_1.2.2.2.2.1 c5_1.2.2.2.2.2.1 c5_1.2.2.2.2.2.2).bind fun c7_2=>bif c7_2.1 then(mA n c5_1.1 c5_1.2.1 c5_1.2.2.1 c5_1.2.2.2.1 c7_2.2.1 c7_2.2.2.1 c7_2.2.2.2).bind fun c10_4=>some (c10_4.1,c10_4.2.1,c10_4.2.2.1,c10_4.2.2.2.1,c10_4.2.2.2.2.1,c10_4.2.2.2.2.2.1,c10_4.2.2.2.2.2.2)else some (c5_1.1,c5_1.2.1,c5_1.2.2.1,c5_1.2.2.2.1,c7_2.2.1,c7_2.2.2.1,c7_2.2.2.2)
theorem Ds{n:Nat}:IR (nN n):=by
 intro o0_0 o0_1 o0_2 r h
 unfold nN at h
 refine bF Try.func130 rfl rfl<|cRs<|xAz [.int .i64 0, .int .i64 0, .str [], .sl ([].map aF)] rfl<|goo 4 rfl<|xC1 h (uJ ·) rfl (fun c5_1 h=> ?_)
 refine xAz [.int .i64 0, .int .i64 0, .str [], .sl ([].map aF)] rfl<|goo 6 rfl<|xC1 h (mN ·) rfl (fun c7_2 h=> ?_)
 refine oNl<|cIf h rfl (fun q3 h=> ?_) (fun q3 h=> ?_)
 refine gco 3 rfl<|xC1 h (DD ·) rfl (fun c10_4 h=> ?_)
 exact geo
 exact gec
abbrev gU:Type:=Int→Int→(List UInt8)→(List aA)→(List aC)→Option (Int×Int×(List UInt8)×(List aA)×(List aC))
abbrev oP(p:gU):Prop:= ∀ {t0_0 t0_1:Int} {t0_2:List UInt8} {t0_3:List aA} {t0_4:List aC} {r:Int×Int×(List UInt8)×(List aA)×(List aC)},p t0_0 t0_1 t0_2 t0_3 t0_4=some r→Big Try.prog τ An (.fn 201 [.one (.ag [.int .i64 t0_0, .int .i64 t0_1, .str t0_2, .sl (t0_3.map aE), .sl (t0_4.map aD)])] [] (.one (.ag [.int .i64 r.1, .int .i64 r.2.1, .str r.2.2.1, .sl (r.2.2.2.1.map aE), .sl (r.2.2.2.2.map aD)])) none [] none)
def iD(n:Nat)(r_spec_l4Copy:gU)(t0_3:List aA):(Int×Int×Int×(List UInt8)×(List aA)×(List aC))→Option ((Int×Int×Int×(List UInt8)×(List aA)×(List aC))⊕((Int×Bool×Int×Int×(List UInt8)×(List aA)×(List aC))))
  | (v4_1,w3_2,w3_3,w3_4,w3_5,w3_6)=>bif decide (v4_1<(t0_3.length:Int))then(ix t0_3 v4_1).bind fun e23_15=>(r_spec_l4Copy e23_15.f0 e23_15.f1 e23_15.f2 e23_15.f3 e23_15.f4).bind fun c25_16=>(gA 80 w3_5 ([aA.mk c25_16.1 c25_16.2.1 c25_16.2.2.1 c25_16.2.2.2.1 c25_16.2.2.2.2]:List aA)).bind fun v27_17=>some (.inl ((IntKind.wrap .i64 (v4_1+(1:Int))),w3_2,w3_3,w3_4,v27_17,w3_6))else some (.inr (v4_1,false,w3_2,w3_3,w3_4,w3_5,w3_6))
def iC(n:Nat)(r_spec_l4Copy:gU)(t0_4:List aC):(Int×Int×Int×(List UInt8)×(List aA)×(List aC))→Option ((Int×Int×Int×(List UInt8)×(List aA)×(List aC))⊕((Int×Bool×Int×Int×(List UInt8)×(List aA)×(List aC))))
  | (v5_18,w3_19,w3_20,w3_21,w3_22,w3_23)=>bif decide (v5_18<(t0_4.length:Int))then(ix t0_4 v5_18).bind fun e41_32=>(r_spec_l4Copy e41_32.f0 e41_32.f1 e41_32.f2 e41_32.f3 e41_32.f4).bind fun c44_33=>(ix t0_4 v5_18).bind fun e48_34=>(r_spec_l4Copy e48_34.f5 e48_34.f6 e48_34.f7 e48_34.f8 e48_34.f9).bind fun c51_35=>(gA 160 w3_23 ([aC.mk c44_33.1 c44_33.2.1 c44_33.2.2.1 c44_33.2.2.2.1 c44_33.2.2.2.2 c51_35.1 c51_35.2.1 c51_35.2.2.1 c51_35.2.2.2.1 c51_35.2.2.2.2]:List aC)).bind fun v54_36=>some (.inl ((IntKind.wrap .i64 (v5_18+(1:Int))),w3_19,w3_20,w3_21,w3_22,v54_36))else some (.inr (v5_18,false,w3_19,w3_20,w3_21,w3_22,w3_23))
def lS(n:Nat)(r_spec_l4Copy:gU)(t0_0:Int)(t0_1:Int)(t0_2:List UInt8)(t0_3:List aA)(t0_4:List aC):Option (Int×Int×(List UInt8)×(List aA)×(List aC)):=
  (loopN (iD n r_spec_l4Copy t0_3) n ((0:Int),t0_0,t0_1,t0_2,([]:List aA),([]:List aC))).bind fun(v4_7,v15_8,w3_9,w3_10,w3_11,w3_12,w3_13)=>(loopN (iC n r_spec_l4Copy t0_4) n ((0:Int),w3_9,w3_10,w3_11,w3_12,w3_13)).bind fun(v5_24,v33_25,w3_26,w3_27,w3_28,w3_29,w3_30)=>some (w3_26,w3_27,w3_28,w3_29,w3_30)
theorem BF{n:Nat}{r_spec_l4Copy:gU}(ih_spec_l4Copy:oP r_spec_l4Copy):oP (lS n r_spec_l4Copy):=by
 intro t0_0 t0_1 t0_2 t0_3 t0_4 r h
 unfold lS at h
 refine bF Try.func201 rfl rfl<|gco 3 rfl<|xAz [.int .i64 0, .int .i64 0, .str [], .sl ([].map aE), .sl ([].map aD)] rfl<|goo 4 rfl<|xAz [.int .i64 0, .int .i64 0, .str [], .sl ([].map aE), .sl ([].map aD)] rfl<|goo 4 rfl<|cY (L:=([]:List aA)) (f:=aE) rfl rfl rfl rfl rfl rfl rfl<|goo 5 rfl<|cY (L:=([]:List aC)) (f:=aD) rfl rfl rfl rfl rfl rfl rfl<|goc 8 rfl<|cLp h [(4,4),(11,28)] [(3,3)] (fun(v4_1,w3_2,w3_3,w3_4,w3_5,w3_6)=>([(4,I64 v4_1)],[(3,[.int .i64 w3_2, .int .i64 w3_3, .str w3_4, .sl (w3_5.map aE), .sl (w3_6.map aD)])])) (fun(v4_7,v15_8,w3_9,w3_10,w3_11,w3_12,w3_13)=>(.e 0,[(4,I64 v4_7),(15,Bo v15_8)],[(3,[.int .i64 w3_9, .int .i64 w3_10, .str w3_11, .sl (w3_12.map aE), .sl (w3_13.map aD)])])) rfl (fun st _ h=> ?_) (fun q h=> ?_)
 obtain⟨v4_1,w3_2,w3_3,w3_4,w3_5,w3_6⟩:=st
 unfold iD at h
 refine gco 6 rfl<|xLn rfl<|goc 2 rfl<|cIf h rfl (fun q14 h=> ?_) (fun q14 h=> ?_)
 refine gco 9 rfl<|xIx h aL rfl (fun e23_15 h=> ?_)
 refine xLd rfl<|xC0 h (ih_spec_l4Copy ·) rfl (fun c25_16 h=> ?_)
 refine cY (L:=([aA.mk c25_16.1 c25_16.2.1 c25_16.2.2.1 c25_16.2.2.2.1 c25_16.2.2.2.2]:List aA)) (f:=aE) rfl rfl rfl rfl (by simp only[List.map,aP]<;>rfl) rfl rfl<|wAp (f:=aE) h rfl rfl rfl rfl rfl rfl rfl rfl rfl (fun a=>by rw[aL]; rfl) rfl (fun v27_17 h=> ?_)
 exact geo
 exact gec
 obtain⟨v4_7,v15_8,w3_9,w3_10,w3_11,w3_12,w3_13⟩:=q
 refine gcc 5 rfl<|cLp h [(5,5),(29,55)] [(3,3)] (fun(v5_18,w3_19,w3_20,w3_21,w3_22,w3_23)=>([(5,I64 v5_18)],[(3,[.int .i64 w3_19, .int .i64 w3_20, .str w3_21, .sl (w3_22.map aE), .sl (w3_23.map aD)])])) (fun(v5_24,v33_25,w3_26,w3_27,w3_28,w3_29,w3_30)=>(.e 2,[(5,I64 v5_24),(33,Bo v33_25)],[(3,[.int .i64 w3_26, .int .i64 w3_27, .str w3_28, .sl (w3_29.map aE), .sl (w3_30.map aD)])])) rfl (fun st _ h=> ?_) (fun q h=> ?_)
 obtain⟨v5_18,w3_19,w3_20,w3_21,w3_22,w3_23⟩:=st
 unfold iC at h
 refine gco 6 rfl<|xLn rfl<|goc 2 rfl<|cIf h rfl (fun q31 h=> ?_) (fun q31 h=> ?_)
 refine gco 9 rfl<|xIx h aW rfl (fun e41_32 h=> ?_)
 refine goo 2 rfl<|xC0 h (ih_spec_l4Copy ·) rfl (fun c44_33 h=> ?_)
 refine goo 3 rfl<|xIx h aW rfl (fun e48_34 h=> ?_)
 refine goo 2 rfl<|xC0 h (ih_spec_l4Copy ·) rfl (fun c51_35 h=> ?_)
 refine wBd [.int .i64 c44_33.1, .int .i64 c44_33.2.1, .str c44_33.2.2.1, .sl (c44_33.2.2.2.1.map aE), .sl (c44_33.2.2.2.2.map aD), .int .i64 c51_35.1, .int .i64 c51_35.2.1, .str c51_35.2.2.1, .sl (c51_35.2.2.2.1.map aE), .sl (c51_35.2.2.2.2.map aD)] rfl rfl rfl rfl rfl rfl<|cY (L:=([aC.mk c44_33.1 c44_33.2.1 c44_33.2.2.1 c44_33.2.2.2.1 c44_33.2.2.2.2 c51_35.1 c51_35.2.1 c51_35.2.2.1 c51_35.2.2.2.1 c51_35.2.2.2.2]:List aC)) (f:=aD) rfl rfl rfl rfl (by simp only[List.map,dL]<;>rfl) rfl rfl<|wAp (f:=aD) h rfl rfl rfl rfl rfl rfl rfl rfl rfl (fun a=>by rw[aW]; rfl) rfl (fun v54_36 h=> ?_)
 exact geo
 exact gec
 obtain⟨v5_24,v33_25,w3_26,w3_27,w3_28,w3_29,w3_30⟩:=q
 exact gec
def yD:Nat→(gU)
  | 0=>(fun _ _ _ _ _=>none)
  | n+1=>lS n (yD n)
def cE(n:Nat):gU:=yD n
theorem BO(n:Nat):oP (cE n):=by
  induction n with
  | zero=>exact(fun h=>nomatch h)
  | succ n ih=>exact BF (n:=n) ih
theorem pM{n:Nat}:oP (cE n):=(BO n)
theorem zC(n:Nat):cE (n+1)=lS n (cE n):=rfl
abbrev GO(p:Int→Int→(List UInt8)→(List aA)→(List aC)→(List Int)→Int→Int→Option (Int×Int×(List UInt8)×(List aA)×(List aC)×(List Int)×Int×Int)):Prop:= ∀ {t1_0 t1_1:Int} {t1_2:List UInt8} {t1_3:List aA} {t1_4:List aC} {o0_0:List Int} {o0_1 o0_2:Int} {r:Int×Int×(List UInt8)×(List aA)×(List aC)×(List Int)×Int×Int},p t1_0 t1_1 t1_2 t1_3 t1_4 o0_0 o0_1 o0_2=some r→Big Try.prog τ An (.fn 200 [.one (.ptr 1000000 0), .one (.ag [.int .i64 t1_0, .int .i64 t1_1, .str t1_2, .sl (t1_3.map aE), .sl (t1_4.map aD)])] [[.sl (o0_0.map rI_u8), .int .i64 o0_1, .int .i64 o0_2]] (.one (.ag [.int .i64 r.1, .int .i64 r.2.1, .str r.2.2.1, .sl (r.2.2.2.1.map aE), .sl (r.2.2.2.2.1.map aD)])) none [[.sl (r.2.2.2.2.2.1.map rI_u8), .int .i64 r.2.2.2.2.2.2.1, .int .i64 r.2.2.2.2.2.2.2]] none)
def oB(n:Nat):(Int×Int×Int×(List UInt8)×(List aA)×(List aC))→Option ((Int×Int×Int×(List UInt8)×(List aA)×(List aC))⊕((Int×Bool×Int×Int×(List UInt8)×(List aA)×(List aC))))
  | (v6_17,w3_18,w3_19,w3_20,w3_21,w3_22)=>bif decide (v6_17<(9:Int))then some (.inl ((IntKind.wrap .i64 (v6_17+(1:Int))),(4:Int),(0:Int),([]:List UInt8),([aA.mk w3_18 w3_19 w3_20 w3_21 w3_22]:List aA),([]:List aC)))else some (.inr (v6_17,false,w3_18,w3_19,w3_20,w3_21,w3_22))
def jL(n:Nat)(t1_0:Int)(t1_1:Int)(t1_2:List UInt8)(t1_3:List aA)(t1_4:List aC)(o0_0:List Int)(o0_1:Int)(o0_2:Int):Option (Int×Int×(List UInt8)×(List aA)×(List aC)×(List Int)×Int×Int):=
  (cE n t1_0 t1_1 t1_2 t1_3 t1_4).bind fun c9_1=>(aJ n (8:Int) o0_0 o0_1 o0_2).bind fun c11_2=>bif decide (c11_2.1=(0:Int))then(aJ n (11:Int) c11_2.2.1 c11_2.2.2.1 c11_2.2.2.2).bind fun c15_4=>some (c15_4.1,c9_1.2.1,c9_1.2.2.1,c9_1.2.2.2.1,c9_1.2.2.2.2,c15_4.2.1,c15_4.2.2.1,c15_4.2.2.2)else bif decide (c11_2.1=(1:Int))then(bO n ([((-1):Int),(1000000000001:Int),(3:Int)]:List Int) c11_2.2.1 c11_2.2.2.1 c11_2.2.2.2).bind fun c21_6=>some (c9_1.1,c21_6.1,c9_1.2.2.1,c9_1.2.2.2.1,c9_1.2.2.2.2,c21_6.2.1,c21_6.2.2.1,c21_6.2.2.2)else bif decide (c11_2.1=(2:Int))then(aV n ([([]:List UInt8),([65]:List UInt8),([120]:List UInt8),([99,97,115,101]:List UInt8),([95]:List UInt8),([61,61]:List UInt8)]:List (List UInt8)) c11_2.2.1 c11_2.2.2.1 c11_2.2.2.2).bind fun c27_8=>some (c9_1.1,c9_1.2.1,c27_8.1,c9_1.2.2.2.1,c9_1.2.2.2.2,c27_8.2.1,c27_8.2.2.1,c27_8.2.2.2)else bif decide (c11_2.1=(3:Int))then(bN n (4:Int)).bind fun c33_10=>(gA 80 c9_1.2.2.2.1 ([aA.mk c33_10.1 c33_10.2.1 c33_10.2.2.1 c33_10.2.2.2.1 c33_10.2.2.2.2]:List aA)).bind fun v35_11=>some (c9_1.1,c9_1.2.1,c9_1.2.2.1,v35_11,c9_1.2.2.2.2,c11_2.2.1,c11_2.2.2.1,c11_2.2.2.2)else bif decide (c11_2.1=(4:Int))then(cE n c9_1.1 c9_1.2.1 c9_1.2.2.1 c9_1.2.2.2.1 c9_1.2.2.2.2).bind fun c40_13=>(bN n (1:Int)).bind fun c43_14=>(gA 160 c9_1.2.2.2.2 ([aC.mk c43_14.1 c43_14.2.1 c43_14.2.2.1 c43_14.2.2.2.1 c43_14.2.2.2.2 c40_13.1 c40_13.2.1 c40_13.2.2.1 c40_13.2.2.2.1 c40_13.2.2.2.2]:List aC)).bind fun v47_15=>some (c9_1.1,c9_1.2.1,c9_1.2.2.1,c9_1.2.2.2.1,v47_15,c11_2.2.1,c11_2.2.2.1,c11_2.2.2.2)else bif decide (c11_2.1=(5:Int))then(loopN (oB n) n ((0:Int),c9_1.1,c9_1.2.1,c9_1.2.2.1,c9_1.2.2.2.1,c9_1.2.2.2.2)).bind fun(v6_23,v52_24,w3_25,w3_26,w3_27,w3_28,w3_29)=>some (w3_25,w3_26,w3_27,w3_28,w3_29,c11_2.2.1,c11_2.2.2.1,c11_2.2.2.2)else bif decide (c11_2.1=(6:Int))then bif decide ((0:Int)<(c9_1.2.2.2.2.length:Int))then(ix c9_1.2.2.2.2 (0:Int)).bind fun e71_33=>(some (c9_1.2.2.2.2.set (Int.toNat (0:Int)) (aC.mk (4:Int) (0:Int) ([]:List UInt8) ([aA.mk (3:Int) (0:Int) ([65]:List UInt8) ([]:List aA) ([]:List aC),aA.mk (3:Int) (0:Int) ([65]:List UInt8) ([]:List aA) ([]:List aC)]:List aA) ([]:List aC) e71_33.f5 e71_33.f6 e71_33.f7 e71_33.f8 e71_33.f9))).bind fun u3_34=>some (c9_1.1,c9_1.2.1,c9_1.2.2.1,c9_1.2.2.2.1,u3_34,c11_2.2.1,c11_2.2.2.1,c11_2.2.2.2)else some (c9_1.1,c9_1.2.1,c9_1.2.2.1,c9_1.2.2.2.1,c9_1.2.2.2.2,c11_2.2.1,c11_2.2.2.1,c11_2.2.2.2)else some (c9_1.1,c9_1.2.1,c9_1.2.2.1,c9_1.2.2.2.1,c9_1.2.2.2.2,c11_2.2.1,c11_2.2.2.1,c11_2.2.2.2)
theorem uH{n:Nat}:GO (jL n):=by
 intro t1_0 t1_1 t1_2 t1_3 t1_4 o0_0 o0_1 o0_2 r h
 unfold jL at h
 refine bF Try.func200 rfl rfl<|gco 3 rfl<|xAz [.int .i64 0, .int .i64 0, .str [], .sl ([].map aE), .sl ([].map aD)] rfl<|goo 4 rfl<|xC0 h (pM ·) rfl (fun c9_1 h=> ?_)
 refine goo 6 rfl<|xC1 h (aK ·) rfl (fun c11_2 h=> ?_)
 refine goc 7 rfl<|cIf h rfl (fun q3 h=> ?_) (fun q3 h=> ?_)
 refine gco 2 rfl<|xC1 h (aK ·) rfl (fun c15_4 h=> ?_)
 exact geo
 refine gcc 5 rfl<|cIf h rfl (fun q5 h=> ?_) (fun q5 h=> ?_)
 refine gco 2 rfl<|cY (L:=([((-1):Int),(1000000000001:Int),(3:Int)]:List Int)) (f:=qN) rfl rfl rfl rfl rfl rfl rfl<|xC1 h (cK ·) rfl (fun c21_6 h=> ?_)
 exact geo
 refine gcc 5 rfl<|cIf h rfl (fun q7 h=> ?_) (fun q7 h=> ?_)
 refine gco 2 rfl<|cY (L:=([([]:List UInt8),([65]:List UInt8),([120]:List UInt8),([99,97,115,101]:List UInt8),([95]:List UInt8),([61,61]:List UInt8)]:List (List UInt8))) (f:=dN) rfl rfl rfl rfl rfl rfl rfl<|xC1 h (bD ·) rfl (fun c27_8 h=> ?_)
 exact geo
 refine gcc 5 rfl<|cIf h rfl (fun q9 h=> ?_) (fun q9 h=> ?_)
 refine gco 3 rfl<|xC0 h (cA ·) rfl (fun c33_10 h=> ?_)
 refine cY (L:=([aA.mk c33_10.1 c33_10.2.1 c33_10.2.2.1 c33_10.2.2.2.1 c33_10.2.2.2.2]:List aA)) (f:=aE) rfl rfl rfl rfl (by simp only[List.map,aP]<;>rfl) rfl rfl<|wAp (f:=aE) h rfl rfl rfl rfl rfl rfl rfl rfl rfl (fun a=>by rw[aL]; rfl) rfl (fun v35_11 h=> ?_)
 exact geo
 refine gcc 5 rfl<|cIf h rfl (fun q12 h=> ?_) (fun q12 h=> ?_)
 refine gco 3 rfl<|xC0 h (pM ·) rfl (fun c40_13 h=> ?_)
 refine xAz [.int .i64 0, .int .i64 0, .str [], .sl ([].map aE), .sl ([].map aD)] rfl<|goo 5 rfl<|xC0 h (cA ·) rfl (fun c43_14 h=> ?_)
 refine xLd rfl<|wBd [.int .i64 c43_14.1, .int .i64 c43_14.2.1, .str c43_14.2.2.1, .sl (c43_14.2.2.2.1.map aE), .sl (c43_14.2.2.2.2.map aD), .int .i64 c40_13.1, .int .i64 c40_13.2.1, .str c40_13.2.2.1, .sl (c40_13.2.2.2.1.map aE), .sl (c40_13.2.2.2.2.map aD)] rfl rfl rfl rfl rfl rfl<|cY (L:=([aC.mk c43_14.1 c43_14.2.1 c43_14.2.2.1 c43_14.2.2.2.1 c43_14.2.2.2.2 c40_13.1 c40_13.2.1 c40_13.2.2.1 c40_13.2.2.2.1 c40_13.2.2.2.2]:List aC)) (f:=aD) rfl rfl rfl rfl (by simp only[List.map,dL]<;>rfl) rfl rfl<|wAp (f:=aD) h rfl rfl rfl rfl rfl rfl rfl rfl rfl (fun a=>by rw[aW]; rfl) rfl (fun v47_15 h=> ?_)
 exact geo
 refine gcc 5 rfl<|cIf h rfl (fun q16 h=> ?_) (fun q16 h=> ?_)
 refine gcc 4 rfl<|cLp h [(6,7),(51,58)] [(3,3),(7,7)] (fun(v6_17,w3_18,w3_19,w3_20,w3_21,w3_22)=>([(6,I64 v6_17)],[(3,[.int .i64 w3_18, .int .i64 w3_19, .str w3_20, .sl (w3_21.map aE), .sl (w3_22.map aD)])])) (fun(v6_23,v52_24,w3_25,w3_26,w3_27,w3_28,w3_29)=>(.e 1,[(6,I64 v6_23),(52,Bo v52_24)],[(3,[.int .i64 w3_25, .int .i64 w3_26, .str w3_27, .sl (w3_28.map aE), .sl (w3_29.map aD)])])) rfl (fun st _ h=> ?_) (fun q h=> ?_)
 obtain⟨v6_17,w3_18,w3_19,w3_20,w3_21,w3_22⟩:=st
 unfold oB at h
 refine gcc 6 rfl<|cIf h rfl (fun q30 h=> ?_) (fun q30 h=> ?_)
 exact gco 6 rfl<|xAz [.int .i64 0, .int .i64 0, .str [], .sl ([].map aE), .sl ([].map aD)] rfl<|goo 4 rfl<|cY (L:=([aA.mk w3_18 w3_19 w3_20 w3_21 w3_22]:List aA)) (f:=aE) rfl rfl rfl rfl (by simp only[List.map,aP]<;>rfl) rfl rfl<|wBd [.int .i64 4, .int .i64 0, .str [], .sl ([aA.mk w3_18 w3_19 w3_20 w3_21 w3_22].map aE), .sl ([].map aD)] rfl rfl rfl rfl rfl rfl<|geo
 exact gec
 obtain⟨v6_23,v52_24,w3_25,w3_26,w3_27,w3_28,w3_29⟩:=q
 exact gec
 refine gcc 5 rfl<|cIf h rfl (fun q31 h=> ?_) (fun q31 h=> ?_)
 refine gco 4 rfl<|xLn rfl<|goc 2 rfl<|cIf h rfl (fun q32 h=> ?_) (fun q32 h=> ?_)
 refine gco 2 rfl<|wLa rfl rfl rfl rfl rfl rfl rfl<|wBd [.int .i64 3, .int .i64 0, .str [65], .sl ([].map aE), .sl ([].map aD)] rfl rfl rfl rfl rfl rfl<|wBd [.int .i64 3, .int .i64 0, .str [65], .sl ([].map aE), .sl ([].map aD)] rfl rfl rfl rfl rfl rfl<|cY (L:=([aA.mk (3:Int) (0:Int) ([65]:List UInt8) ([]:List aA) ([]:List aC),aA.mk (3:Int) (0:Int) ([65]:List UInt8) ([]:List aA) ([]:List aC)]:List aA)) (f:=aE) rfl rfl rfl rfl (by simp only[List.map,aP]<;>rfl) rfl rfl<|wBd [.int .i64 4, .int .i64 0, .str [], .sl ([aA.mk (3:Int) (0:Int) ([65]:List UInt8) ([]:List aA) ([]:List aC),aA.mk (3:Int) (0:Int) ([65]:List UInt8) ([]:List aA) ([]:List aC)].map aE), .sl ([].map aD)] rfl rfl rfl rfl rfl rfl<|wIp (f:=aD) h rfl rfl rfl rfl rfl rfl (fun a=>by rw[aW]; rfl) rfl (fun e71_33 ke71_33 h=> ?_)
 refine xFd rfl<|wSpN (f:=aD) (v':=aC.mk (4:Int) (0:Int) ([]:List UInt8) ([aA.mk (3:Int) (0:Int) ([65]:List UInt8) ([]:List aA) ([]:List aC),aA.mk (3:Int) (0:Int) ([65]:List UInt8) ([]:List aA) ([]:List aC)]:List aA) ([]:List aC) e71_33.f5 e71_33.f6 e71_33.f7 e71_33.f8 e71_33.f9) h ke71_33 rfl rfl rfl rfl rfl rfl rfl (by rw[aW]; rfl) (by rw[aW,dL]; rfl) (fun u3_34 h=> ?_)
 exact geo
 exact gec
 exact gec
abbrev GU(p:Int→Int→(List UInt8)→(List aA)→(List aC)→Option (Bool)):Prop:= ∀ {t0_0 t0_1:Int} {t0_2:List UInt8} {t0_3:List aA} {t0_4:List aC} {r:Bool},p t0_0 t0_1 t0_2 t0_3 t0_4=some r→Big Try.prog τ An (.fn 225 [.one (.ag [.int .i64 t0_0, .int .i64 t0_1, .str t0_2, .sl (t0_3.map aE), .sl (t0_4.map aD)])] [] (.one (.c (.bool r))) none [] none)
def oK(n:Nat)(t0_0:Int)(t0_1:Int)(t0_2:List UInt8)(t0_3:List aA)(t0_4:List aC):Option (Bool):=
  (bP n t0_0 t0_1 t0_2 t0_3 t0_4 false (10:Int) (300:Int)).bind fun c4_1=>some (decide ((0:Int)≤c4_1))
theorem DG{n:Nat}:GU (oK n):=by
 intro t0_0 t0_1 t0_2 t0_3 t0_4 r h
 unfold oK at h
 refine bF Try.func225 rfl rfl<|gco 8 rfl<|xC0 h (uG ·) rfl (fun c4_1 h=> ?_)
 exact geo
abbrev cG:Type:=Int→(List (List UInt8))→(List Int)→Int→Int→Option (Int×Int×(List UInt8)×(List aA)×(List aC)×(List Int)×Int×Int)
abbrev oO(p:cG):Prop:= ∀ {t1_0:Int} {t2_0:List (List UInt8)} {o0_0:List Int} {o0_1 o0_2:Int} {r:Int×Int×(List UInt8)×(List aA)×(List aC)×(List Int)×Int×Int},p t1_0 t2_0 o0_0 o0_1 o0_2=some r→Big Try.prog τ An (.fn 265 [.one (.ptr 1000000 0), .one (.c (.int .i64 t1_0)), .one (.c (.sl (t2_0.map dN)))] [[.sl (o0_0.map rI_u8), .int .i64 o0_1, .int .i64 o0_2]] (.one (.ag [.int .i64 r.1, .int .i64 r.2.1, .str r.2.2.1, .sl (r.2.2.2.1.map aE), .sl (r.2.2.2.2.1.map aD)])) none [[.sl (r.2.2.2.2.2.1.map rI_u8), .int .i64 r.2.2.2.2.2.2.1, .int .i64 r.2.2.2.2.2.2.2]] none)
end Go.Own
