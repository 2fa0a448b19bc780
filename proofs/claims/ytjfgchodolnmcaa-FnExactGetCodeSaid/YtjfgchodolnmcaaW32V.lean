/- A part of the proof. No conditions. -/
import Derived.Test.YtjfgchodolnmcaaW32A
set_option linter.unusedVariables false
set_option linter.unusedSimpArgs false
set_option linter.unnecessarySimpa false
namespace Go.Own
open Go Go.Proofs
def rI_u8(a:Int):List T:=[.int .u8 a]
theorem jY(a:Int):rI_u8 a=[.int .u8 a]:=rfl
def aV(a:Int):List T:=[.int .i64 a]
theorem jC(a:Int):aV a=[.int .i64 a]:=rfl
structure aC where
  f0:Int
  f1:Int
  f2:List UInt8
  f3:Int
  deriving DecidableEq
def aJ(a:aC):List T:=[.int .i64 a.f0, .int .i64 a.f1, .str a.f2, .int .i64 a.f3]
theorem bS(a:aC):aJ a=[.int .i64 a.f0, .int .i64 a.f1, .str a.f2, .int .i64 a.f3]:=rfl
structure aB where
  f0:List UInt8
  f1:Int
  f2:Int
  f3:List aC
  deriving DecidableEq
def aG(a:aB):List T:=[.str a.f0, .int .i64 a.f1, .int .i64 a.f2, .sl (a.f3.map aJ)]
theorem bN(a:aB):aG a=[.str a.f0, .int .i64 a.f1, .int .i64 a.f2, .sl (a.f3.map aJ)]:=rfl
inductive aA where
  | mk (f0:Int) (f1:Int) (f2:List UInt8) (f3:List aA)
def aA.f0:aA→Int
  | .mk a _ _ _=>a
def aA.f1:aA→Int
  | .mk _ a _ _=>a
def aA.f2:aA→List UInt8
  | .mk _ _ a _=>a
def aA.f3:aA→List aA
  | .mk _ _ _ a=>a
mutual
def aD:aA→List T
  | .mk a0 a1 a2 a3=> [.int .i64 a0, .int .i64 a1, .str a2, .sl (mK a3)]
def mK:List aA→List (List T)
  | []=> []
  | x::r=>aD x::mK r
end
theorem mV: ∀l:List aA,mK l=l.map aD
  | []=>by simp [mK]
  | x::r=>by simp [mK,mV r]
theorem aH(a:aA):aD a=[.int .i64 a.f0, .int .i64 a.f1, .str a.f2, .sl (a.f3.map aD)]:=by
  cases a
  simp [aD,mV,aA.f0,aA.f1,aA.f2,aA.f3]
theorem cW(a0:Int)(a1:Int)(a2:List UInt8)(a3:List aA):aD (.mk a0 a1 a2 a3)=[.int .i64 a0, .int .i64 a1, .str a2, .sl (a3.map aD)]:=by simp [aD,mV]
theorem Ng:tK Try.prog 37 true 2 [(0,115),(1,116)]:=by
  refine tK.of (S:=67) Try.func37 rfl rfl (by decide) (by decide) (fun cs k w Bx R a hl hsz hdf h0 h1 hbs hq=> ?_)
  refine Nd rfl hsz hdf h0 h1 hbs hq (fun a w b Bx hst hq=> ?_)
  refine LL KS [(1,116)] rfl rfl rfl (fun _=>rfl) (tK.slice _ 115) (by rw[hl]; decide) rfl rfl rfl hst hq (fun k a w hst hq=> ?_)
  refine LL KS [] rfl rfl rfl (fun _=>rfl) (tK.slice _ 116) (by rw[hl]; decide) rfl rfl rfl hst hq (fun k a w hst hq=> ?_)
  exact Px rfl rfl hst hq
abbrev DL(p:(List Int)→(List Int)→Option (Bool)):Prop:= ∀ {t0_0 t1_0:List Int} {r:Bool},p t0_0 t1_0=some r→Big Try.prog τ An (.fn 35 [.one (.c (.sl (t0_0.map rI_u8))), .one (.c (.sl (t1_0.map rI_u8)))] [] (.one (.c (.bool r))) none [] none)
def jS(n:Nat)(t0_0:List Int)(t1_0:List Int):(Int)→Option ((Int)⊕((Bool)⊕(Int×Bool)))
  | v5_2=>bif decide (v5_2<(t0_0.length:Int))then(ix t0_0 v5_2).bind fun e19_7=>(ix t1_0 v5_2).bind fun e23_8=>bif !decide (e19_7=e23_8)then some (.inr (.inl false))else some (.inl (IntKind.wrap .i64 (v5_2+(1:Int))))else some (.inr (.inr (v5_2,false)))
def kH(n:Nat)(t0_0:List Int)(t1_0:List Int):Option (Bool):=
  bif !decide ((t0_0.length:Int)=(t1_0.length:Int))then some false else(loopN (jS n t0_0 t1_0) n (0:Int)).bind fun q=>(match q with | .inl v4_3=>some v4_3 | .inr (v5_4,v14_5)=>some true)
theorem AL{n:Nat}:DL (kH n):=by
 intro t0_0 t1_0 r h
 unfold kH at h
 refine bF Try.func35 rfl rfl<|cRs<|xAs rfl<|oNl<|cSq<|cRs<|xMv rfl<|xLn rfl<|xMv rfl<|xLn rfl<|xNe rfl<|oNl<|cIf h rfl (fun q1 h=> ?_) (fun q1 h=> ?_)
 refine cRs<|xAs rfl<|oNl<|cRt ?_
 cases h
 exact eR rfl rfl rfl rfl
 refine cSk<|cSq<|cRs<|xAs rfl<|oNl<|cLp h [(4,5),(11,25)] [] (fun v5_2=>([(5,I64 v5_2)],[])) (fun q=>match q with | .inl v4_3=>(.r,[(4,Bo v4_3)],[]) | .inr (v5_4,v14_5)=>(.e 0,[(5,I64 v5_4),(14,Bo v14_5)],[])) rfl (fun v5_2 _ h=> ?_) (fun q h=> ?_)
 unfold jS at h
 refine cSq<|cRs<|xMv rfl<|xMv rfl<|xLn rfl<|xLt rfl<|oNl<|cIf h rfl (fun q6 h=> ?_) (fun q6 h=> ?_)
 refine cSk<|cSq<|cBk<|cRs<|xMv rfl<|xMv rfl<|xIx h jY rfl (fun e19_7 h=> ?_)
 refine xLd rfl<|xMv rfl<|xMv rfl<|xIx h jY rfl (fun e23_8 h=> ?_)
 refine xLd rfl<|xNe rfl<|oNl<|cIf h rfl (fun q9 h=> ?_) (fun q9 h=> ?_)
 exact cRs<|xAs rfl<|oNl<|cRt<|eXr h rfl
 exact cSk<|cRg<|xMv rfl<|cD rfl<|xAs rfl<|oNl<|eL h rfl
 exact cEx<|eX h rfl
 rcases q with v4_3 | ⟨v5_4,v14_5⟩
 cases h
 exact eR rfl rfl rfl rfl
 refine cRs<|xAs rfl<|oNl<|cRt ?_
 cases h
 exact eR rfl rfl rfl rfl
abbrev Gx(p:Int→Int→(List UInt8)→Int→Int→Int→(List UInt8)→Int→Option (Bool)):Prop:= ∀ {t0_0 t0_1:Int} {t0_2:List UInt8} {t0_3 t1_0 t1_1:Int} {t1_2:List UInt8} {t1_3:Int} {r:Bool},p t0_0 t0_1 t0_2 t0_3 t1_0 t1_1 t1_2 t1_3=some r→Big Try.prog τ An (.fn 293 [.one (.ag [.int .i64 t0_0, .int .i64 t0_1, .str t0_2, .int .i64 t0_3]), .one (.ag [.int .i64 t1_0, .int .i64 t1_1, .str t1_2, .int .i64 t1_3])] [] (.one (.c (.bool r))) none [] none)
def mN(n:Nat)(t0_0:Int)(t0_1:Int)(t0_2:List UInt8)(t0_3:Int)(t1_0:Int)(t1_1:Int)(t1_2:List UInt8)(t1_3:Int):Option (Bool):=
  bif !decide (t0_0=t1_0)then some false else bif !decide (t0_1=t1_1)then some false else bif !decide (t0_2=t1_2)then some false else bif !decide (t0_3=t1_3)then some false else some true
theorem Ct{n:Nat}:Gx (mN n):=by
 intro t0_0 t0_1 t0_2 t0_3 t1_0 t1_1 t1_2 t1_3 r h
 unfold mN at h
 refine bF Try.func293 rfl rfl<|cRs<|xBx rfl<|xBx rfl<|xAs rfl<|oNl<|cSq<|cRs<|xFd rfl<|xLd rfl<|xFd rfl<|xLd rfl<|xNe rfl<|oNl<|cIf h rfl (fun q1 h=> ?_) (fun q1 h=> ?_)
 refine cRs<|xAs rfl<|oNl<|cRt ?_
 cases h
 exact eR rfl rfl rfl rfl
 refine cSk<|cSq<|cRs<|xFd rfl<|xLd rfl<|xFd rfl<|xLd rfl<|xNe rfl<|oNl<|cIf h rfl (fun q2 h=> ?_) (fun q2 h=> ?_)
 refine cRs<|xAs rfl<|oNl<|cRt ?_
 cases h
 exact eR rfl rfl rfl rfl
 refine cSk<|cSq<|cRs<|xFd rfl<|xLd rfl<|xFd rfl<|xLd rfl<|xNs rfl<|oNl<|cIf h rfl (fun q3 h=> ?_) (fun q3 h=> ?_)
 refine cRs<|xAs rfl<|oNl<|cRt ?_
 cases h
 exact eR rfl rfl rfl rfl
 refine cSk<|cSq<|cRs<|xFd rfl<|xLd rfl<|xFd rfl<|xLd rfl<|xNe rfl<|oNl<|cIf h rfl (fun q4 h=> ?_) (fun q4 h=> ?_)
 refine cRs<|xAs rfl<|oNl<|cRt ?_
 cases h
 exact eR rfl rfl rfl rfl
 refine cSk<|cRs<|xAs rfl<|oNl<|cRt ?_
 cases h
 exact eR rfl rfl rfl rfl
abbrev FK(p:(List aC)→(List aC)→Option (Bool)):Prop:= ∀ {t0_0 t1_0:List aC} {r:Bool},p t0_0 t1_0=some r→Big Try.prog τ An (.fn 263 [.one (.c (.sl (t0_0.map aJ))), .one (.c (.sl (t1_0.map aJ)))] [] (.one (.c (.bool r))) none [] none)
def kR(n:Nat)(t0_0:List aC)(t1_0:List aC):(Int)→Option ((Int)⊕((Bool)⊕(Int×Bool)))
  | v5_2=>bif decide (v5_2<(t0_0.length:Int))then(ix t0_0 v5_2).bind fun e19_7=>(ix t1_0 v5_2).bind fun e23_8=>(mN n e19_7.f0 e19_7.f1 e19_7.f2 e19_7.f3 e23_8.f0 e23_8.f1 e23_8.f2 e23_8.f3).bind fun c25_9=>bif !c25_9 then some (.inr (.inl false))else some (.inl (IntKind.wrap .i64 (v5_2+(1:Int))))else some (.inr (.inr (v5_2,false)))
def lI(n:Nat)(t0_0:List aC)(t1_0:List aC):Option (Bool):=
  bif !decide ((t0_0.length:Int)=(t1_0.length:Int))then some false else(loopN (kR n t0_0 t1_0) n (0:Int)).bind fun q=>(match q with | .inl v4_3=>some v4_3 | .inr (v5_4,v14_5)=>some true)
theorem Bz{n:Nat}:FK (lI n):=by
 intro t0_0 t1_0 r h
 unfold lI at h
 refine bF Try.func263 rfl rfl<|cRs<|xAs rfl<|oNl<|cSq<|cRs<|xMv rfl<|xLn rfl<|xMv rfl<|xLn rfl<|xNe rfl<|oNl<|cIf h rfl (fun q1 h=> ?_) (fun q1 h=> ?_)
 refine cRs<|xAs rfl<|oNl<|cRt ?_
 cases h
 exact eR rfl rfl rfl rfl
 refine cSk<|cSq<|cRs<|xAs rfl<|oNl<|cLp h [(4,5),(11,26)] [] (fun v5_2=>([(5,I64 v5_2)],[])) (fun q=>match q with | .inl v4_3=>(.r,[(4,Bo v4_3)],[]) | .inr (v5_4,v14_5)=>(.e 0,[(5,I64 v5_4),(14,Bo v14_5)],[])) rfl (fun v5_2 _ h=> ?_) (fun q h=> ?_)
 unfold kR at h
 refine cSq<|cRs<|xMv rfl<|xMv rfl<|xLn rfl<|xLt rfl<|oNl<|cIf h rfl (fun q6 h=> ?_) (fun q6 h=> ?_)
 refine cSk<|cSq<|cBk<|cRs<|xMv rfl<|xMv rfl<|xIx h bS rfl (fun e19_7 h=> ?_)
 refine xLd rfl<|xMv rfl<|xMv rfl<|xIx h bS rfl (fun e23_8 h=> ?_)
 refine xLd rfl<|xC0 h (Ct ·) rfl (fun c25_9 h=> ?_)
 refine fC rfl<|oNl<|cIf h rfl (fun q10 h=> ?_) (fun q10 h=> ?_)
 exact cRs<|xAs rfl<|oNl<|cRt<|eXr h rfl
 exact cSk<|cRg<|xMv rfl<|cD rfl<|xAs rfl<|oNl<|eL h rfl
 exact cEx<|eX h rfl
 rcases q with v4_3 | ⟨v5_4,v14_5⟩
 cases h
 exact eR rfl rfl rfl rfl
 refine cRs<|xAs rfl<|oNl<|cRt ?_
 cases h
 exact eR rfl rfl rfl rfl
abbrev II(p:(List UInt8)→Int→Int→(List aC)→(List UInt8)→Int→Int→(List aC)→Option (Bool)):Prop:= ∀ {t0_0:List UInt8} {t0_1 t0_2:Int} {t0_3:List aC} {t1_0:List UInt8} {t1_1 t1_2:Int} {t1_3:List aC} {r:Bool},p t0_0 t0_1 t0_2 t0_3 t1_0 t1_1 t1_2 t1_3=some r→Big Try.prog τ An (.fn 197 [.one (.ag [.str t0_0, .int .i64 t0_1, .int .i64 t0_2, .sl (t0_3.map aJ)]), .one (.ag [.str t1_0, .int .i64 t1_1, .int .i64 t1_2, .sl (t1_3.map aJ)])] [] (.one (.c (.bool r))) none [] none)
def oB(n:Nat)(t0_0:List UInt8)(t0_1:Int)(t0_2:Int)(t0_3:List aC)(t1_0:List UInt8)(t1_1:Int)(t1_2:Int)(t1_3:List aC):Option (Bool):=
  bif !decide (t0_0=t1_0)then some false else bif !decide (t0_1=t1_1)then some false else bif !decide (t0_2=t1_2)then some false else(lI n t0_3 t1_3).bind fun c24_4=>bif !c24_4 then some false else some true
theorem Ew{n:Nat}:II (oB n):=by
 intro t0_0 t0_1 t0_2 t0_3 t1_0 t1_1 t1_2 t1_3 r h
 unfold oB at h
 refine bF Try.func197 rfl rfl<|cRs<|xBx rfl<|xBx rfl<|xAs rfl<|oNl<|cSq<|cRs<|xFd rfl<|xLd rfl<|xFd rfl<|xLd rfl<|xNs rfl<|oNl<|cIf h rfl (fun q1 h=> ?_) (fun q1 h=> ?_)
 refine cRs<|xAs rfl<|oNl<|cRt ?_
 cases h
 exact eR rfl rfl rfl rfl
 refine cSk<|cSq<|cRs<|xFd rfl<|xLd rfl<|xFd rfl<|xLd rfl<|xNe rfl<|oNl<|cIf h rfl (fun q2 h=> ?_) (fun q2 h=> ?_)
 refine cRs<|xAs rfl<|oNl<|cRt ?_
 cases h
 exact eR rfl rfl rfl rfl
 refine cSk<|cSq<|cRs<|xFd rfl<|xLd rfl<|xFd rfl<|xLd rfl<|xNe rfl<|oNl<|cIf h rfl (fun q3 h=> ?_) (fun q3 h=> ?_)
 refine cRs<|xAs rfl<|oNl<|cRt ?_
 cases h
 exact eR rfl rfl rfl rfl
 refine cSk<|cSq<|cRs<|xFd rfl<|xLd rfl<|xFd rfl<|xLd rfl<|xC0 h (Bz ·) rfl (fun c24_4 h=> ?_)
 refine fC rfl<|oNl<|cIf h rfl (fun q5 h=> ?_) (fun q5 h=> ?_)
 refine cRs<|xAs rfl<|oNl<|cRt ?_
 cases h
 exact eR rfl rfl rfl rfl
 refine cSk<|cRs<|xAs rfl<|oNl<|cRt ?_
 cases h
 exact eR rfl rfl rfl rfl
abbrev Gy(p:(List aB)→(List aB)→Option (Bool)):Prop:= ∀ {t0_0 t1_0:List aB} {r:Bool},p t0_0 t1_0=some r→Big Try.prog τ An (.fn 113 [.one (.c (.sl (t0_0.map aG))), .one (.c (.sl (t1_0.map aG)))] [] (.one (.c (.bool r))) none [] none)
def lN(n:Nat)(t0_0:List aB)(t1_0:List aB):(Int)→Option ((Int)⊕((Bool)⊕(Int×Bool)))
  | v5_2=>bif decide (v5_2<(t0_0.length:Int))then(ix t0_0 v5_2).bind fun e19_7=>(ix t1_0 v5_2).bind fun e23_8=>(oB n e19_7.f0 e19_7.f1 e19_7.f2 e19_7.f3 e23_8.f0 e23_8.f1 e23_8.f2 e23_8.f3).bind fun c25_9=>bif !c25_9 then some (.inr (.inl false))else some (.inl (IntKind.wrap .i64 (v5_2+(1:Int))))else some (.inr (.inr (v5_2,false)))
def mO(n:Nat)(t0_0:List aB)(t1_0:List aB):Option (Bool):=
  bif !decide ((t0_0.length:Int)=(t1_0.length:Int))then some false else(loopN (lN n t0_0 t1_0) n (0:Int)).bind fun q=>(match q with | .inl v4_3=>some v4_3 | .inr (v5_4,v14_5)=>some true)
theorem Cu{n:Nat}:Gy (mO n):=by
 intro t0_0 t1_0 r h
 unfold mO at h
 refine bF Try.func113 rfl rfl<|cRs<|xAs rfl<|oNl<|cSq<|cRs<|xMv rfl<|xLn rfl<|xMv rfl<|xLn rfl<|xNe rfl<|oNl<|cIf h rfl (fun q1 h=> ?_) (fun q1 h=> ?_)
 refine cRs<|xAs rfl<|oNl<|cRt ?_
 cases h
 exact eR rfl rfl rfl rfl
 refine cSk<|cSq<|cRs<|xAs rfl<|oNl<|cLp h [(4,5),(11,26)] [] (fun v5_2=>([(5,I64 v5_2)],[])) (fun q=>match q with | .inl v4_3=>(.r,[(4,Bo v4_3)],[]) | .inr (v5_4,v14_5)=>(.e 0,[(5,I64 v5_4),(14,Bo v14_5)],[])) rfl (fun v5_2 _ h=> ?_) (fun q h=> ?_)
 unfold lN at h
 refine cSq<|cRs<|xMv rfl<|xMv rfl<|xLn rfl<|xLt rfl<|oNl<|cIf h rfl (fun q6 h=> ?_) (fun q6 h=> ?_)
 refine cSk<|cSq<|cBk<|cRs<|xMv rfl<|xMv rfl<|xIx h bN rfl (fun e19_7 h=> ?_)
 refine xLd rfl<|xMv rfl<|xMv rfl<|xIx h bN rfl (fun e23_8 h=> ?_)
 refine xLd rfl<|xC0 h (Ew ·) rfl (fun c25_9 h=> ?_)
 refine fC rfl<|oNl<|cIf h rfl (fun q10 h=> ?_) (fun q10 h=> ?_)
 exact cRs<|xAs rfl<|oNl<|cRt<|eXr h rfl
 exact cSk<|cRg<|xMv rfl<|cD rfl<|xAs rfl<|oNl<|eL h rfl
 exact cEx<|eX h rfl
 rcases q with v4_3 | ⟨v5_4,v14_5⟩
 cases h
 exact eR rfl rfl rfl rfl
 refine cRs<|xAs rfl<|oNl<|cRt ?_
 cases h
 exact eR rfl rfl rfl rfl
abbrev hU:Type:=Int→Int→(List UInt8)→(List aA)→Int→Int→(List UInt8)→(List aA)→Option (Bool)
abbrev mQ(p:hU):Prop:= ∀ {t0_0 t0_1:Int} {t0_2:List UInt8} {t0_3:List aA} {t1_0 t1_1:Int} {t1_2:List UInt8} {t1_3:List aA} {r:Bool},p t0_0 t0_1 t0_2 t0_3 t1_0 t1_1 t1_2 t1_3=some r→Big Try.prog τ An (.fn 198 [.one (.ag [.int .i64 t0_0, .int .i64 t0_1, .str t0_2, .sl (t0_3.map aD)]), .one (.ag [.int .i64 t1_0, .int .i64 t1_1, .str t1_2, .sl (t1_3.map aD)])] [] (.one (.c (.bool r))) none [] none)
abbrev iD:Type:=(List aA)→(List aA)→Option (Bool)
abbrev lL(p:iD):Prop:= ∀ {t0_0 t1_0:List aA} {r:Bool},p t0_0 t1_0=some r→Big Try.prog τ An (.fn 114 [.one (.c (.sl (t0_0.map aD))), .one (.c (.sl (t1_0.map aD)))] [] (.one (.c (.bool r))) none [] none)
def mJ(n:Nat)(r_laws_eqPatS:iD)(r_laws_eqPat:hU)(t0_0:Int)(t0_1:Int)(t0_2:List UInt8)(t0_3:List aA)(t1_0:Int)(t1_1:Int)(t1_2:List UInt8)(t1_3:List aA):Option (Bool):=
  bif !decide (t0_0=t1_0)then some false else bif !decide (t0_1=t1_1)then some false else bif !decide (t0_2=t1_2)then some false else(r_laws_eqPatS t0_3 t1_3).bind fun c24_4=>bif !c24_4 then some false else some true
theorem Bp{n:Nat}{r_laws_eqPatS:iD}(ih_laws_eqPatS:lL r_laws_eqPatS){r_laws_eqPat:hU}(ih_laws_eqPat:mQ r_laws_eqPat):mQ (mJ n r_laws_eqPatS r_laws_eqPat):=by
 intro t0_0 t0_1 t0_2 t0_3 t1_0 t1_1 t1_2 t1_3 r h
 unfold mJ at h
 refine bF Try.func198 rfl rfl<|cRs<|xBx rfl<|xBx rfl<|xAs rfl<|oNl<|cSq<|cRs<|xFd rfl<|xLd rfl<|xFd rfl<|xLd rfl<|xNe rfl<|oNl<|cIf h rfl (fun q1 h=> ?_) (fun q1 h=> ?_)
 refine cRs<|xAs rfl<|oNl<|cRt ?_
 cases h
 exact eR rfl rfl rfl rfl
 refine cSk<|cSq<|cRs<|xFd rfl<|xLd rfl<|xFd rfl<|xLd rfl<|xNe rfl<|oNl<|cIf h rfl (fun q2 h=> ?_) (fun q2 h=> ?_)
 refine cRs<|xAs rfl<|oNl<|cRt ?_
 cases h
 exact eR rfl rfl rfl rfl
 refine cSk<|cSq<|cRs<|xFd rfl<|xLd rfl<|xFd rfl<|xLd rfl<|xNs rfl<|oNl<|cIf h rfl (fun q3 h=> ?_) (fun q3 h=> ?_)
 refine cRs<|xAs rfl<|oNl<|cRt ?_
 cases h
 exact eR rfl rfl rfl rfl
 refine cSk<|cSq<|cRs<|xFd rfl<|xLd rfl<|xFd rfl<|xLd rfl<|xC0 h (ih_laws_eqPatS ·) rfl (fun c24_4 h=> ?_)
 refine fC rfl<|oNl<|cIf h rfl (fun q5 h=> ?_) (fun q5 h=> ?_)
 refine cRs<|xAs rfl<|oNl<|cRt ?_
 cases h
 exact eR rfl rfl rfl rfl
 refine cSk<|cRs<|xAs rfl<|oNl<|cRt ?_
 cases h
 exact eR rfl rfl rfl rfl
def kQ(n:Nat)(r_laws_eqPat:hU)(t0_0:List aA)(t1_0:List aA):(Int)→Option ((Int)⊕((Bool)⊕(Int×Bool)))
  | v5_2=>bif decide (v5_2<(t0_0.length:Int))then(ix t0_0 v5_2).bind fun e19_7=>(ix t1_0 v5_2).bind fun e23_8=>(r_laws_eqPat e19_7.f0 e19_7.f1 e19_7.f2 e19_7.f3 e23_8.f0 e23_8.f1 e23_8.f2 e23_8.f3).bind fun c25_9=>bif !c25_9 then some (.inr (.inl false))else some (.inl (IntKind.wrap .i64 (v5_2+(1:Int))))else some (.inr (.inr (v5_2,false)))
def lE(n:Nat)(r_laws_eqPatS:iD)(r_laws_eqPat:hU)(t0_0:List aA)(t1_0:List aA):Option (Bool):=
  bif !decide ((t0_0.length:Int)=(t1_0.length:Int))then some false else(loopN (kQ n r_laws_eqPat t0_0 t1_0) n (0:Int)).bind fun q=>(match q with | .inl v4_3=>some v4_3 | .inr (v5_4,v14_5)=>some true)
theorem zX{n:Nat}{r_laws_eqPatS:iD}(ih_laws_eqPatS:lL r_laws_eqPatS){r_laws_eqPat:hU}(ih_laws_eqPat:mQ r_laws_eqPat):lL (lE n r_laws_eqPatS r_laws_eqPat):=by
 intro t0_0 t1_0 r h
 unfold lE at h
 refine bF Try.func114 rfl rfl<|cRs<|xAs rfl<|oNl<|cSq<|cRs<|xMv rfl<|xLn rfl<|xMv rfl<|xLn rfl<|xNe rfl<|oNl<|cIf h rfl (fun q1 h=> ?_) (fun q1 h=> ?_)
 refine cRs<|xAs rfl<|oNl<|cRt ?_
 cases h
 exact eR rfl rfl rfl rfl
 refine cSk<|cSq<|cRs<|xAs rfl<|oNl<|cLp h [(4,5),(11,26)] [] (fun v5_2=>([(5,I64 v5_2)],[])) (fun q=>match q with | .inl v4_3=>(.r,[(4,Bo v4_3)],[]) | .inr (v5_4,v14_5)=>(.e 0,[(5,I64 v5_4),(14,Bo v14_5)],[])) rfl (fun v5_2 _ h=> ?_) (fun q h=> ?_)
 unfold kQ at h
 refine cSq<|cRs<|xMv rfl<|xMv rfl<|xLn rfl<|xLt rfl<|oNl<|cIf h rfl (fun q6 h=> ?_) (fun q6 h=> ?_)
 refine cSk<|cSq<|cBk<|cRs<|xMv rfl<|xMv rfl<|xIx h aH rfl (fun e19_7 h=> ?_)
 refine xLd rfl<|xMv rfl<|xMv rfl<|xIx h aH rfl (fun e23_8 h=> ?_)
 refine xLd rfl<|xC0 h (ih_laws_eqPat ·) rfl (fun c25_9 h=> ?_)
 refine fC rfl<|oNl<|cIf h rfl (fun q10 h=> ?_) (fun q10 h=> ?_)
 exact cRs<|xAs rfl<|oNl<|cRt<|eXr h rfl
 exact cSk<|cRg<|xMv rfl<|cD rfl<|xAs rfl<|oNl<|eL h rfl
 exact cEx<|eX h rfl
 rcases q with v4_3 | ⟨v5_4,v14_5⟩
 cases h
 exact eR rfl rfl rfl rfl
 refine cRs<|xAs rfl<|oNl<|cRt ?_
 cases h
 exact eR rfl rfl rfl rfl
def jK:Nat→(iD)×(hU)
  | 0=>((fun _ _=>none),(fun _ _ _ _ _ _ _ _=>none))
  | n+1=>(lE n ((jK n).1) ((jK n).2),mJ n ((jK n).1) ((jK n).2))
def fP(n:Nat):iD:=(jK n).1
def jF(n:Nat):hU:=(jK n).2
theorem rH(n:Nat):lL (fP n)∧mQ (jF n):=by
  induction n with
  | zero=>exact⟨(fun h=>nomatch h),(fun h=>nomatch h)⟩
  | succ n ih=>exact⟨zX (n:=n) (ih.1) (ih.2),Bp (n:=n) (ih.1) (ih.2)⟩
theorem By{n:Nat}:lL (fP n):=(rH n).1
theorem Mu{n:Nat}:mQ (jF n):=(rH n).2
theorem wU(n:Nat):fP (n+1)=lE n (fP n) (jF n):=rfl
theorem yD(n:Nat):jF (n+1)=mJ n (fP n) (jF n):=rfl
abbrev FL(p:(List aB)→(List aA)→(List aB)→(List aA)→Option (Bool)):Prop:= ∀ {t0_0:List aB} {t0_1:List aA} {t1_0:List aB} {t1_1:List aA} {r:Bool},p t0_0 t0_1 t1_0 t1_1=some r→Big Try.prog τ An (.fn 36 [.one (.ag [.sl (t0_0.map aG), .sl (t0_1.map aD)]), .one (.ag [.sl (t1_0.map aG), .sl (t1_1.map aD)])] [] (.one (.c (.bool r))) none [] none)
def iB(n:Nat)(t0_0:List aB)(t0_1:List aA)(t1_0:List aB)(t1_1:List aA):Option (Bool):=
  (mO n t0_0 t1_0).bind fun c9_1=>bif !c9_1 then some false else(fP n t0_1 t1_1).bind fun c15_3=>bif !c15_3 then some false else some true
theorem oG{n:Nat}:FL (iB n):=by
 intro t0_0 t0_1 t1_0 t1_1 r h
 unfold iB at h
 refine bF Try.func36 rfl rfl<|cRs<|xBx rfl<|xBx rfl<|xAs rfl<|oNl<|cSq<|cRs<|xFd rfl<|xLd rfl<|xFd rfl<|xLd rfl<|xC0 h (Cu ·) rfl (fun c9_1 h=> ?_)
 refine fC rfl<|oNl<|cIf h rfl (fun q2 h=> ?_) (fun q2 h=> ?_)
 refine cRs<|xAs rfl<|oNl<|cRt ?_
 cases h
 exact eR rfl rfl rfl rfl
 refine cSk<|cSq<|cRs<|xFd rfl<|xLd rfl<|xFd rfl<|xLd rfl<|xC0 h (By ·) rfl (fun c15_3 h=> ?_)
 refine fC rfl<|oNl<|cIf h rfl (fun q4 h=> ?_) (fun q4 h=> ?_)
 refine cRs<|xAs rfl<|oNl<|cRt ?_
 cases h
 exact eR rfl rfl rfl rfl
 refine cSk<|cRs<|xAs rfl<|oNl<|cRt ?_
 cases h
 exact eR rfl rfl rfl rfl
abbrev AR(p:(List Int)→Int→Option (Int×(List Int))):Prop:= ∀ {t0_0:List Int} {t1_0:Int} {r:Int×(List Int)},p t0_0 t1_0=some r→Big Try.prog τ An (.fn 38 [.one (.c (.sl (t0_0.map rI_u8))), .one (.c (.int .i64 t1_0))] [] (.one (.c (.int .i64 r.1))) (some (.sl (r.2.map rI_u8))) [] none)
def eZ(n:Nat):((List Int)×Int×Int)→Option (((List Int)×Int×Int)⊕(((List Int)×Int×Int×Bool)))
  | (v0_1,v1_2,v5_3)=>bif decide (v5_3<(v0_1.length:Int))then(ix v0_1 v5_3).bind fun e16_9=>(some (v0_1.set (Int.toNat v5_3) (IntKind.wrap .u8 v1_2))).bind fun u0_10=>some (.inl (u0_10,(IntKind.wrap .i64 (v1_2+(1:Int))),(IntKind.wrap .i64 (v5_3+(1:Int)))))else some (.inr (v0_1,v1_2,v5_3,false))
def iN(n:Nat)(t0_0:List Int)(t1_0:Int):Option (Int×(List Int)):=
  (loopN (eZ n) n (t0_0,t1_0,(0:Int))).bind fun(v0_4,v1_5,v5_6,v9_7)=>some (v1_5,v0_4)
theorem wZ{n:Nat}:AR (iN n):=by
 intro t0_0 t1_0 r h
 unfold iN at h
 refine bFi Try.func38 rfl rfl<|cRs<|xAs rfl<|oNl<|cSq<|cRs<|xAs rfl<|oNl<|cLp h [(0,1),(5,18)] [] (fun(v0_1,v1_2,v5_3)=>([(0,Li rI_u8 v0_1),(1,I64 v1_2),(5,I64 v5_3)],[])) (fun(v0_4,v1_5,v5_6,v9_7)=>(.e 0,[(0,Li rI_u8 v0_4),(1,I64 v1_5),(5,I64 v5_6),(9,Bo v9_7)],[])) rfl (fun st _ h=> ?_) (fun q h=> ?_)
 obtain⟨v0_1,v1_2,v5_3⟩:=st
 unfold eZ at h
 refine cSq<|cRs<|xMv rfl<|xMv rfl<|xLn rfl<|xLt rfl<|oNl<|cIf h rfl (fun q8 h=> ?_) (fun q8 h=> ?_)
 refine cSk<|cSq<|cBk<|cRs<|wAl rfl rfl rfl rfl<|xMv rfl<|xMv rfl<|wCv rfl rfl rfl rfl rfl<|wIp (f:=rI_u8) h rfl rfl rfl rfl rfl rfl (fun _=>rfl) rfl (fun e16_9 ke16_9 h=> ?_)
 refine Cl (f:=rI_u8) (v':=(IntKind.wrap .u8 v1_2)) h ke16_9 rfl rfl rfl rfl rfl rfl rfl rfl rfl (fun u0_10 h=> ?_)
 exact oNl<|cRg<|xMv rfl<|cD rfl<|xAs rfl<|oNl<|cRg<|xMv rfl<|cD rfl<|xAs rfl<|oNl<|eL h rfl
 exact cEx<|eX h rfl
 obtain⟨v0_4,v1_5,v5_6,v9_7⟩:=q
 refine cRs<|xMv rfl<|xAs rfl<|oNl<|cRt ?_
 cases h
 exact eRi rfl rfl rfl rfl rfl
abbrev IH(p:Int→Int→Int→Option (Bool)):Prop:= ∀ {t0_0 t1_0 t2_0:Int} {r:Bool},p t0_0 t1_0 t2_0=some r→Big Try.prog τ An (.fn 230 [.one (.c (.int .i64 t0_0)), .one (.c (.int .i64 t1_0)), .one (.c (.int .i64 t2_0))] [] (.one (.c (.bool r))) none [] none)
def aP(n:Nat)(t0_0:Int)(t1_0:Int)(t2_0:Int):Option (Bool):=
  (bif decide (t1_0≤t0_0)then some (decide (t0_0≤t2_0))else some false).bind fun v6_1=>some v6_1
theorem aQ{n:Nat}:IH (aP n):=by
 intro t0_0 t1_0 t2_0 r h
 unfold aP at h
 refine bF Try.func230 rfl rfl<|cRs<|xAs rfl<|oRs<|oJn h [(6,14)] [] (fun v6_1=>(.n,[(6,Bo v6_1)],[])) (fun _ h=> ?_) (fun v6_1 h=> ?_)
 refine xMv rfl<|xMv rfl<|xGe rfl<|xMv rfl<|oIf 10 h rfl (fun q2 h=> ?_) (fun q2 h=> ?_)
 exact xMv rfl<|xMv rfl<|xLe rfl<|xPk rfl<|xAs rfl<|oNl<|eJ h rfl
 exact wSk rfl<|wSk rfl<|wSk rfl<|xPk rfl<|xAs rfl<|oNl<|eJ h rfl
 refine cRt ?_
 cases h
 exact eR rfl rfl rfl rfl
abbrev FJ(p:(List UInt8)→Option (Bool)):Prop:= ∀ {t0_0:List UInt8} {r:Bool},p t0_0=some r→Big Try.prog τ An (.fn 155 [.one (.c (.str t0_0))] [] (.one (.c (.bool r))) none [] none)
def kP(n:Nat)(t0_0:List UInt8):(Int)→Option ((Int)⊕((Bool)⊕(Int×Bool)))
  | v3_1=>bif decide (v3_1<(t0_0.length:Int))then(ixs t0_0 v3_1).bind fun e14_6=>(aP n (IntKind.wrap .i64 e14_6) (97:Int) (122:Int)).bind fun c17_7=>(bif !c17_7 then bif decide (v3_1=(0:Int))then some true else(aP n (IntKind.wrap .i64 e14_6) (48:Int) (57:Int)).bind fun c25_11=>bif !c25_11 then some (!decide ((IntKind.wrap .i64 e14_6)=(95:Int)))else some false else some false).bind fun v32_8=>bif v32_8 then some (.inr (.inl false))else some (.inl (IntKind.wrap .i64 (v3_1+(1:Int))))else some (.inr (.inr (v3_1,false)))
def lH(n:Nat)(t0_0:List UInt8):Option (Bool):=
  (loopN (kP n t0_0) n (0:Int)).bind fun q=>(match q with | .inl v2_2=>some v2_2 | .inr (v3_3,v9_4)=>(aP n (t0_0.length:Int) (1:Int) (20:Int)).bind fun c35_14=>some c35_14)
theorem Bw{n:Nat}:FJ (lH n):=by
 intro t0_0 r h
 unfold lH at h
 refine bF Try.func155 rfl rfl<|cRs<|xAs rfl<|oNl<|cSq<|cRs<|xAs rfl<|oNl<|cLp h [(2,32)] [] (fun v3_1=>([(3,I64 v3_1)],[])) (fun q=>match q with | .inl v2_2=>(.r,[(2,Bo v2_2)],[]) | .inr (v3_3,v9_4)=>(.e 0,[(3,I64 v3_3),(9,Bo v9_4)],[])) rfl (fun v3_1 _ h=> ?_) (fun q h=> ?_)
 unfold kP at h
 refine cSq<|cRs<|xMv rfl<|xMv rfl<|xLs rfl<|xLt rfl<|oNl<|cIf h rfl (fun q5 h=> ?_) (fun q5 h=> ?_)
 refine cSk<|cSq<|cBk<|cRs<|xMv rfl<|xMv rfl<|Ou h rfl rfl rfl rfl rfl (fun e14_6 h=> ?_)
 refine wCv rfl rfl rfl rfl rfl<|xAs rfl<|oRs<|xMv rfl<|xC0 h (aQ ·) rfl (fun c17_7 h=> ?_)
 refine xAs rfl<|oRs<|oJn h [(18,32)] [] (fun v32_8=>(.n,[(32,Bo v32_8)],[])) (fun _ h=> ?_) (fun v32_8 h=> ?_)
 refine xMv rfl<|fC rfl<|xMv rfl<|oIf 20 h rfl (fun q9 h=> ?_) (fun q9 h=> ?_)
 refine xMv rfl<|xEq rfl<|xMv rfl<|oIf 23 h rfl (fun q10 h=> ?_) (fun q10 h=> ?_)
 exact wSk rfl<|wSk rfl<|wSk rfl<|wSk rfl<|wSk rfl<|wSk rfl<|wSk rfl<|xPk rfl<|xPk rfl<|oNl<|eJ h rfl
 refine xMv rfl<|xC0 h (aQ ·) rfl (fun c25_11 h=> ?_)
 refine fC rfl<|xMv rfl<|oIf 27 h rfl (fun q12 h=> ?_) (fun q12 h=> ?_)
 exact xMv rfl<|xNe rfl<|xPk rfl<|xPk rfl<|xPk rfl<|oNl<|eJ h rfl
 exact wSk rfl<|wSk rfl<|xPk rfl<|xPk rfl<|xPk rfl<|oNl<|eJ h rfl
 exact wSk rfl<|wSk rfl<|wSk rfl<|wSk rfl<|wSk rfl<|wSk rfl<|wSk rfl<|wSk rfl<|wSk rfl<|wSk rfl<|wSk rfl<|xPk rfl<|oNl<|eJ h rfl
 refine cIf h rfl (fun q13 h=> ?_) (fun q13 h=> ?_)
 exact cRs<|xAs rfl<|oNl<|cRt<|eXr h rfl
 exact cSk<|cRg<|xMv rfl<|cD rfl<|xAs rfl<|oNl<|eL h rfl
 exact cEx<|eX h rfl
 rcases q with v2_2 | ⟨v3_3,v9_4⟩
 cases h
 exact eR rfl rfl rfl rfl
 refine cRs<|xMv rfl<|xLs rfl<|xC0 h (aQ ·) rfl (fun c35_14 h=> ?_)
 refine xAs rfl<|oNl<|cRt ?_
 cases h
 exact eR rfl rfl rfl rfl
abbrev yK(p:(List UInt8)→Option (Bool)):Prop:= ∀ {t0_0:List UInt8} {r:Bool},p t0_0=some r→Big Try.prog τ An (.fn 220 [.one (.c (.str t0_0))] [] (.one (.c (.bool r))) none [] none)
def jP(n:Nat)(t0_0:List UInt8):Option (Bool):=
  (bif decide (t0_0=([99,97,115,101]:List UInt8))then some true else bif decide (t0_0=([111,102]:List UInt8))then some true else some (decide (t0_0=([101,110,100]:List UInt8)))).bind fun v2_1=>some v2_1
theorem vA{n:Nat}:yK (jP n):=by
 intro t0_0 r h
 unfold jP at h
 refine bF Try.func220 rfl rfl<|cRs<|xAs rfl<|oRs<|oJn h [(2,12)] [] (fun v2_1=>(.n,[(2,Bo v2_1)],[])) (fun _ h=> ?_) (fun v2_1 h=> ?_)
 refine xMv rfl<|xEs rfl<|xMv rfl<|oIf 5 h rfl (fun q2 h=> ?_) (fun q2 h=> ?_)
 exact wSk rfl<|wSk rfl<|xPk rfl<|xMv rfl<|wSk rfl<|wSk rfl<|xPk rfl<|xAs rfl<|oNl<|eJ h rfl
 refine xMv rfl<|xEs rfl<|xPk rfl<|xMv rfl<|oIf 9 h rfl (fun q3 h=> ?_) (fun q3 h=> ?_)
 exact wSk rfl<|wSk rfl<|xPk rfl<|xAs rfl<|oNl<|eJ h rfl
 exact xMv rfl<|xEs rfl<|xPk rfl<|xAs rfl<|oNl<|eJ h rfl
 refine cRt ?_
 cases h
 exact eR rfl rfl rfl rfl
abbrev FD(p:(List UInt8)→Option (Bool)):Prop:= ∀ {t0_0:List UInt8} {r:Bool},p t0_0=some r→Big Try.prog τ An (.fn 134 [.one (.c (.str t0_0))] [] (.one (.c (.bool r))) none [] none)
def fO(n:Nat)(t0_0:List UInt8):Option (Bool):=
  ((lH n t0_0).bind fun c4_2=>bif c4_2 then(jP n t0_0).bind fun c7_4=>some (!c7_4)else some false).bind fun v2_1=>some v2_1
theorem oE{n:Nat}:FD (fO n):=by
 intro t0_0 r h
 unfold fO at h
 refine bF Try.func134 rfl rfl<|cRs<|xAs rfl<|oRs<|oJn h [(2,9)] [] (fun v2_1=>(.n,[(2,Bo v2_1)],[])) (fun _ h=> ?_) (fun v2_1 h=> ?_)
 refine xMv rfl<|xC0 h (Bw ·) rfl (fun c4_2 h=> ?_)
 refine xMv rfl<|oIf 5 h rfl (fun q3 h=> ?_) (fun q3 h=> ?_)
 refine xMv rfl<|xC0 h (vA ·) rfl (fun c7_4 h=> ?_)
 exact fC rfl<|xPk rfl<|xAs rfl<|oNl<|eJ h rfl
 exact wSk rfl<|wSk rfl<|wSk rfl<|xPk rfl<|xAs rfl<|oNl<|eJ h rfl
 refine cRt ?_
 cases h
 exact eR rfl rfl rfl rfl
abbrev FB(p:(List aB)→(List aA)→(List UInt8)→Option (Int)):Prop:= ∀ {t0_0:List aB} {t0_1:List aA} {t1_0:List UInt8} {r:Int},p t0_0 t0_1 t1_0=some r→Big Try.prog τ An (.fn 257 [.one (.ag [.sl (t0_0.map aG), .sl (t0_1.map aD)]), .one (.c (.str t1_0))] [] (.one (.c (.int .i64 r))) none [] none)
def iM(n:Nat)(t0_0:List aB)(t1_0:List UInt8):(Int)→Option ((Int)⊕((Int)⊕(Int×Bool)))
  | v5_1=>bif decide (v5_1<(t0_0.length:Int))then(ix t0_0 v5_1).bind fun e16_6=>bif decide (e16_6.f0=t1_0)then some (.inr (.inl v5_1))else some (.inl (IntKind.wrap .i64 (v5_1+(1:Int))))else some (.inr (.inr (v5_1,false)))
def iA(n:Nat)(t0_0:List aB)(t0_1:List aA)(t1_0:List UInt8):Option (Int):=
  (loopN (iM n t0_0 t1_0) n (0:Int)).bind fun q=>(match q with | .inl v4_2=>some v4_2 | .inr (v5_3,v10_4)=>some ((-1):Int))
theorem sQ{n:Nat}:FB (iA n):=by
 intro t0_0 t0_1 t1_0 r h
 unfold iA at h
 refine bF Try.func257 rfl rfl<|cRs<|xBx rfl<|xAs rfl<|oNl<|cSq<|cRs<|xAs rfl<|oNl<|cLp h [(4,21)] [] (fun v5_1=>([(5,I64 v5_1)],[])) (fun q=>match q with | .inl v4_2=>(.r,[(4,I64 v4_2)],[]) | .inr (v5_3,v10_4)=>(.e 0,[(5,I64 v5_3),(10,Bo v10_4)],[])) rfl (fun v5_1 _ h=> ?_) (fun q h=> ?_)
 unfold iM at h
 refine cSq<|cRs<|xMv rfl<|xFd rfl<|xLd rfl<|xLn rfl<|xLt rfl<|oNl<|cIf h rfl (fun q5 h=> ?_) (fun q5 h=> ?_)
 refine cSk<|cSq<|cBk<|cRs<|xFd rfl<|xLd rfl<|xMv rfl<|xIx h bN rfl (fun e16_6 h=> ?_)
 refine xFd rfl<|xLd rfl<|xMv rfl<|xEs rfl<|oNl<|cIf h rfl (fun q7 h=> ?_) (fun q7 h=> ?_)
 exact cRs<|xMv rfl<|xAs rfl<|oNl<|cRt<|eXr h rfl
 exact cSk<|cRg<|xMv rfl<|cD rfl<|xAs rfl<|oNl<|eL h rfl
 exact cEx<|eX h rfl
 rcases q with v4_2 | ⟨v5_3,v10_4⟩
 cases h
 exact eR rfl rfl rfl rfl
 refine cRs<|xAs rfl<|oNl<|cRt ?_
 cases h
 exact eR rfl rfl rfl rfl
abbrev DB(p:Int→Int→(List UInt8)→(List aA)→Int→Option (Bool)):Prop:= ∀ {t0_0 t0_1:Int} {t0_2:List UInt8} {t0_3:List aA} {t1_0:Int} {r:Bool},p t0_0 t0_1 t0_2 t0_3 t1_0=some r→Big Try.prog τ An (.fn 291 [.one (.ag [.int .i64 t0_0, .int .i64 t0_1, .str t0_2, .sl (t0_3.map aD)]), .one (.c (.int .i64 t1_0))] [] (.one (.c (.bool r))) none [] none)
def kC(n:Nat)(t0_0:Int)(t0_1:Int)(t0_2:List UInt8)(t0_3:List aA)(t1_0:Int):Option (Bool):=
  bif decide (t0_0=(1:Int))then((aP n t0_1 (0:Int) (1000000000000:Int)).bind fun c15_3=>bif c15_3 then bif decide (t0_2=([]:List UInt8))then some (decide ((t0_3.length:Int)=(0:Int)))else some false else some false).bind fun v4_2=>some v4_2 else bif decide (t0_0=(2:Int))then((fO n t0_2).bind fun c29_8=>bif c29_8 then bif decide (t0_1=(0:Int))then some (decide ((t0_3.length:Int)=(0:Int)))else some false else some false).bind fun v4_7=>some v4_7 else bif decide (t0_0=(3:Int))then(bif decide (t0_2=([]:List UInt8))then bif decide ((t0_3.length:Int)=(0:Int))then(aP n t0_1 ((-1):Int) (IntKind.wrap .i64 (t1_0 - (1:Int)))).bind fun c53_15=>some c53_15 else some false else some false).bind fun v4_12=>some v4_12 else bif decide (t0_0=(4:Int))then(bif decide (t0_2=([]:List UInt8))then bif decide (t0_1=(0:Int))then some (decide ((t0_3.length:Int)≤(20:Int)))else some false else some false).bind fun v4_17=>some v4_17 else bif decide (t0_0=(5:Int))then(bif decide (t0_2=([]:List UInt8))then bif decide (t0_1=(0:Int))then some (decide ((t0_3.length:Int)≤(20:Int)))else some false else some false).bind fun v4_21=>some v4_21 else bif decide (t0_0=(6:Int))then(bif decide (t0_2=([]:List UInt8))then bif decide (t0_1=(0:Int))then(aP n (t0_3.length:Int) (2:Int) (6:Int)).bind fun c82_28=>some c82_28 else some false else some false).bind fun v4_25=>some v4_25 else some false
theorem AE{n:Nat}:DB (kC n):=by
 intro t0_0 t0_1 t0_2 t0_3 t1_0 r h
 unfold kC at h
 refine bF Try.func291 rfl rfl<|cRs<|xBx rfl<|xAs rfl<|oRs<|xFd rfl<|xLd rfl<|xLn rfl<|xAs rfl<|oNl<|cSq<|cRs<|xFd rfl<|xLd rfl ?_
 refine oNl<|cBk<|cRs<|xEq rfl<|xAs rfl<|oNl<|cIf h rfl (fun q1 h=> ?_) (fun q1 h=> ?_)
 refine cRs<|oJn h [(4,4),(13,24)] [] (fun v4_2=>(.n,[(4,Bo v4_2)],[])) (fun _ h=> ?_) (fun v4_2 h=> ?_)
 refine xFd rfl<|xLd rfl<|xC0 h (aQ ·) rfl (fun c15_3 h=> ?_)
 refine xMv rfl<|oIf 16 h rfl (fun q4 h=> ?_) (fun q4 h=> ?_)
 refine xFd rfl<|xLd rfl<|xEs rfl<|xPk rfl<|xMv rfl<|oIf 21 h rfl (fun q5 h=> ?_) (fun q5 h=> ?_)
 exact xMv rfl<|xEq rfl<|xPk rfl<|xAs rfl<|oNl<|eJ h rfl
 exact wSk rfl<|wSk rfl<|xPk rfl<|xAs rfl<|oNl<|eJ h rfl
 exact wSk rfl<|wSk rfl<|wSk rfl<|xPk rfl<|xMv rfl<|wSk rfl<|wSk rfl<|xPk rfl<|xAs rfl<|oNl<|eJ h rfl
 refine cRt ?_
 cases h
 exact eR rfl rfl rfl rfl
 refine cRs<|xEq rfl<|xAs rfl<|oNl<|cIf h rfl (fun q6 h=> ?_) (fun q6 h=> ?_)
 refine cRs<|oJn h [(4,4),(27,38)] [] (fun v4_7=>(.n,[(4,Bo v4_7)],[])) (fun _ h=> ?_) (fun v4_7 h=> ?_)
 refine xFd rfl<|xLd rfl<|xC0 h (oE ·) rfl (fun c29_8 h=> ?_)
 refine xMv rfl<|oIf 30 h rfl (fun q9 h=> ?_) (fun q9 h=> ?_)
 refine xFd rfl<|xLd rfl<|xEq rfl<|xPk rfl<|xMv rfl<|oIf 35 h rfl (fun q10 h=> ?_) (fun q10 h=> ?_)
 exact xMv rfl<|xEq rfl<|xPk rfl<|xAs rfl<|oNl<|eJ h rfl
 exact wSk rfl<|wSk rfl<|xPk rfl<|xAs rfl<|oNl<|eJ h rfl
 exact wSk rfl<|wSk rfl<|wSk rfl<|xPk rfl<|xMv rfl<|wSk rfl<|wSk rfl<|xPk rfl<|xAs rfl<|oNl<|eJ h rfl
 refine cRt ?_
 cases h
 exact eR rfl rfl rfl rfl
 refine cRs<|xEq rfl<|xAs rfl<|oNl<|cIf h rfl (fun q11 h=> ?_) (fun q11 h=> ?_)
 refine cRs<|oJn h [(4,4),(41,54)] [] (fun v4_12=>(.n,[(4,Bo v4_12)],[])) (fun _ h=> ?_) (fun v4_12 h=> ?_)
 refine xFd rfl<|xLd rfl<|xEs rfl<|xMv rfl<|oIf 44 h rfl (fun q13 h=> ?_) (fun q13 h=> ?_)
 refine xMv rfl<|xEq rfl<|xPk rfl<|xMv rfl<|oIf 48 h rfl (fun q14 h=> ?_) (fun q14 h=> ?_)
 refine xFd rfl<|xLd rfl<|xMv rfl<|sB rfl<|xC0 h (aQ ·) rfl (fun c53_15 h=> ?_)
 exact xPk rfl<|xAs rfl<|oNl<|eJ h rfl
 exact wSk rfl<|wSk rfl<|wSk rfl<|wSk rfl<|wSk rfl<|xPk rfl<|xAs rfl<|oNl<|eJ h rfl
 exact wSk rfl<|wSk rfl<|xPk rfl<|xMv rfl<|wSk rfl<|wSk rfl<|wSk rfl<|wSk rfl<|wSk rfl<|xPk rfl<|xAs rfl<|oNl<|eJ h rfl
 refine cRt ?_
 cases h
 exact eR rfl rfl rfl rfl
 refine cSq<|cRs<|xEq rfl<|xAs rfl<|oNl<|cIf h rfl (fun q16 h=> ?_) (fun q16 h=> ?_)
 refine cSk<|cT rfl<|cRs<|oJn h [(4,4),(58,69)] [] (fun v4_17=>(.n,[(4,Bo v4_17)],[])) (fun _ h=> ?_) (fun v4_17 h=> ?_)
 refine xFd rfl<|xLd rfl<|xEs rfl<|xMv rfl<|oIf 61 h rfl (fun q18 h=> ?_) (fun q18 h=> ?_)
 refine xFd rfl<|xLd rfl<|xEq rfl<|xPk rfl<|xMv rfl<|oIf 66 h rfl (fun q19 h=> ?_) (fun q19 h=> ?_)
 exact xMv rfl<|xLe rfl<|xPk rfl<|xAs rfl<|oNl<|eJ h rfl
 exact wSk rfl<|wSk rfl<|xPk rfl<|xAs rfl<|oNl<|eJ h rfl
 exact wSk rfl<|wSk rfl<|wSk rfl<|xPk rfl<|xMv rfl<|wSk rfl<|wSk rfl<|xPk rfl<|xAs rfl<|oNl<|eJ h rfl
 refine cRt ?_
 cases h
 exact eR rfl rfl rfl rfl
 refine cRg<|xEq rfl<|xAs rfl<|oNl<|cIf h rfl (fun q20 h=> ?_) (fun q20 h=> ?_)
 refine cRs<|oJn h [(4,4),(58,69)] [] (fun v4_21=>(.n,[(4,Bo v4_21)],[])) (fun _ h=> ?_) (fun v4_21 h=> ?_)
 refine xFd rfl<|xLd rfl<|xEs rfl<|xMv rfl<|oIf 61 h rfl (fun q22 h=> ?_) (fun q22 h=> ?_)
 refine xFd rfl<|xLd rfl<|xEq rfl<|xPk rfl<|xMv rfl<|oIf 66 h rfl (fun q23 h=> ?_) (fun q23 h=> ?_)
 exact xMv rfl<|xLe rfl<|xPk rfl<|xAs rfl<|oNl<|eJ h rfl
 exact wSk rfl<|wSk rfl<|xPk rfl<|xAs rfl<|oNl<|eJ h rfl
 exact wSk rfl<|wSk rfl<|wSk rfl<|xPk rfl<|xMv rfl<|wSk rfl<|wSk rfl<|xPk rfl<|xAs rfl<|oNl<|eJ h rfl
 refine cRt ?_
 cases h
 exact eR rfl rfl rfl rfl
 refine cRs<|xEq rfl<|xAs rfl<|oNl<|cIf h rfl (fun q24 h=> ?_) (fun q24 h=> ?_)
 refine cRs<|oJn h [(4,4),(72,83)] [] (fun v4_25=>(.n,[(4,Bo v4_25)],[])) (fun _ h=> ?_) (fun v4_25 h=> ?_)
 refine xFd rfl<|xLd rfl<|xEs rfl<|xMv rfl<|oIf 75 h rfl (fun q26 h=> ?_) (fun q26 h=> ?_)
 refine xFd rfl<|xLd rfl<|xEq rfl<|xPk rfl<|xMv rfl<|oIf 80 h rfl (fun q27 h=> ?_) (fun q27 h=> ?_)
 refine xMv rfl<|xC0 h (aQ ·) rfl (fun c82_28 h=> ?_)
 exact xPk rfl<|xAs rfl<|oNl<|eJ h rfl
 exact wSk rfl<|wSk rfl<|xPk rfl<|xAs rfl<|oNl<|eJ h rfl
 exact wSk rfl<|wSk rfl<|wSk rfl<|xPk rfl<|xMv rfl<|wSk rfl<|wSk rfl<|xPk rfl<|xAs rfl<|oNl<|eJ h rfl
 refine cRt ?_
 cases h
 exact eR rfl rfl rfl rfl
 refine cSk<|cRs<|xAs rfl<|oNl<|cRt ?_
 cases h
 exact eR rfl rfl rfl rfl
abbrev jN:Type:=Int→Int→(List UInt8)→(List aA)→Int→Int→Int→Option (Int)
abbrev nP(p:jN):Prop:= ∀ {t0_0 t0_1:Int} {t0_2:List UInt8} {t0_3:List aA} {t1_0 t2_0 t3_0:Int} {r:Int},p t0_0 t0_1 t0_2 t0_3 t1_0 t2_0 t3_0=some r→Big Try.prog τ An (.fn 260 [.one (.ag [.int .i64 t0_0, .int .i64 t0_1, .str t0_2, .sl (t0_3.map aD)]), .one (.c (.int .i64 t1_0)), .one (.c (.int .i64 t2_0)), .one (.c (.int .i64 t3_0))] [] (.one (.c (.int .i64 r))) none [] none)
def eA(n:Nat)(r_spec_l9Look:jN)(t1_0:Int)(t2_0:Int)(t0_3:List aA):(Int×Int)→Option ((Int×Int)⊕((Int×Int×Bool)))
  | (v3_6,v9_7)=>(bif decide (v9_7<(t0_3.length:Int))then some (decide ((0:Int)≤v3_6))else some false).bind fun v32_11=>bif v32_11 then(ix t0_3 v9_7).bind fun e38_14=>(r_spec_l9Look e38_14.f0 e38_14.f1 e38_14.f2 e38_14.f3 t1_0 (IntKind.wrap .i64 (t2_0 - (1:Int))) v3_6).bind fun c44_15=>some (.inl (c44_15,(IntKind.wrap .i64 (v9_7+(1:Int)))))else some (.inr (v3_6,v9_7,false))
def lD(n:Nat)(r_spec_l9Look:jN)(t0_0:Int)(t0_1:Int)(t0_2:List UInt8)(t0_3:List aA)(t1_0:Int)(t2_0:Int)(t3_0:Int):Option (Int):=
  (bif decide (t2_0<(1:Int))then some true else bif decide (t3_0<(1:Int))then some true else(kC n t0_0 t0_1 t0_2 t0_3 t1_0).bind fun c19_4=>some (!c19_4)).bind fun v21_1=>bif v21_1 then some ((-1):Int)else(loopN (eA n r_spec_l9Look t1_0 t2_0 t0_3) n ((IntKind.wrap .i64 (t3_0 - (1:Int))),(0:Int))).bind fun(v3_8,v9_9,v32_10)=>some v3_8
theorem zV{n:Nat}{r_spec_l9Look:jN}(ih_spec_l9Look:nP r_spec_l9Look):nP (lD n r_spec_l9Look):=by
 intro t0_0 t0_1 t0_2 t0_3 t1_0 t2_0 t3_0 r h
 unfold lD at h
 refine bF Try.func260 rfl rfl<|cRs<|xBx rfl<|xAs rfl<|oNl<|cSq<|cRs<|oJn h [(10,21)] [] (fun v21_1=>(.n,[(21,Bo v21_1)],[])) (fun _ h=> ?_) (fun v21_1 h=> ?_)
 refine xMv rfl<|xLt rfl<|xMv rfl<|oIf 12 h rfl (fun q2 h=> ?_) (fun q2 h=> ?_)
 exact wSk rfl<|wSk rfl<|xPk rfl<|xMv rfl<|wSk rfl<|wSk rfl<|wSk rfl<|wSk rfl<|xPk rfl<|oNl<|eJ h rfl
 refine xMv rfl<|xLt rfl<|xPk rfl<|xMv rfl<|oIf 16 h rfl (fun q3 h=> ?_) (fun q3 h=> ?_)
 exact wSk rfl<|wSk rfl<|wSk rfl<|wSk rfl<|xPk rfl<|oNl<|eJ h rfl
 refine xLd rfl<|xMv rfl<|xC0 h (AE ·) rfl (fun c19_4 h=> ?_)
 exact fC rfl<|xPk rfl<|oNl<|eJ h rfl
 refine cIf h rfl (fun q5 h=> ?_) (fun q5 h=> ?_)
 refine cRs<|xAs rfl<|oNl<|cRt ?_
 cases h
 exact eR rfl rfl rfl rfl
 refine cSk<|cRs<|xMv rfl<|sB rfl<|xAs rfl<|oNl<|cSq<|cRs<|xAs rfl<|oNl<|cLp h [(3,3),(9,9),(24,44)] [] (fun(v3_6,v9_7)=>([(3,I64 v3_6),(9,I64 v9_7)],[])) (fun(v3_8,v9_9,v32_10)=>(.e 0,[(3,I64 v3_8),(9,I64 v9_9),(32,Bo v32_10)],[])) rfl (fun st _ h=> ?_) (fun q h=> ?_)
 obtain⟨v3_6,v9_7⟩:=st
 unfold eA at h
 refine cSq<|cRs<|oJn h [(24,32)] [] (fun v32_11=>(.n,[(32,Bo v32_11)],[])) (fun _ h=> ?_) (fun v32_11 h=> ?_)
 refine xMv rfl<|xFd rfl<|xLd rfl<|xLn rfl<|xLt rfl<|xMv rfl<|oIf 29 h rfl (fun q12 h=> ?_) (fun q12 h=> ?_)
 exact xMv rfl<|xGe rfl<|xPk rfl<|oNl<|eJ h rfl
 exact wSk rfl<|wSk rfl<|xPk rfl<|oNl<|eJ h rfl
 refine cIf h rfl (fun q13 h=> ?_) (fun q13 h=> ?_)
 refine cSk<|cSq<|cBk<|cRg<|xFd rfl<|xLd rfl<|xMv rfl<|xIx h aH rfl (fun e38_14 h=> ?_)
 refine xLd rfl<|xMv rfl<|xMv rfl<|sB rfl<|xMv rfl<|xC0 h (ih_spec_l9Look ·) rfl (fun c44_15 h=> ?_)
 exact xAs rfl<|oNl<|cRg<|xMv rfl<|cD rfl<|xAs rfl<|oNl<|eL h rfl
 exact cEx<|eX h rfl
 obtain⟨v3_8,v9_9,v32_10⟩:=q
 refine cRs<|xMv rfl<|xAs rfl<|oNl<|cRt ?_
 cases h
 exact eR rfl rfl rfl rfl
def wA:Nat→(jN)
  | 0=>(fun _ _ _ _ _ _ _=>none)
  | n+1=>lD n (wA n)
def eH(n:Nat):jN:=wA n
theorem zZ(n:Nat):nP (eH n):=by
  induction n with
  | zero=>exact(fun h=>nomatch h)
  | succ n ih=>exact zV (n:=n) ih
theorem Bs{n:Nat}:nP (eH n):=(zZ n)
theorem wT(n:Nat):eH (n+1)=lD n (eH n):=rfl
abbrev gH:Type:=Int→Int→(List UInt8)→(List aA)→Option ((List Int))
abbrev mI(p:gH):Prop:= ∀ {t0_0 t0_1:Int} {t0_2:List UInt8} {t0_3:List aA} {r:(List Int)},p t0_0 t0_1 t0_2 t0_3=some r→Big Try.prog τ An (.fn 261 [.one (.ag [.int .i64 t0_0, .int .i64 t0_1, .str t0_2, .sl (t0_3.map aD)])] [] (.one (.c (.sl (r.map aV)))) none [] none)
def gT(n:Nat)(r_spec_l9Slots:gH)(t0_3:List aA):((List Int)×Int)→Option (((List Int)×Int)⊕(((List Int)×Int×Bool)))
  | (v3_5,v4_6)=>bif decide (v4_6<(t0_3.length:Int))then(ix t0_3 v4_6).bind fun e30_11=>(r_spec_l9Slots e30_11.f0 e30_11.f1 e30_11.f2 e30_11.f3).bind fun c32_12=>(iI 8 v3_5 c32_12).bind fun v33_13=>some (.inl (v33_13,(IntKind.wrap .i64 (v4_6+(1:Int)))))else some (.inr (v3_5,v4_6,false))
def gR(n:Nat)(r_spec_l9Slots:gH)(t0_3:List aA):((List Int)×Int)→Option (((List Int)×Int)⊕(((List Int)×Int×Bool)))
  | (v3_14,v4_15)=>bif decide (v4_15<(t0_3.length:Int))then(ix t0_3 v4_15).bind fun e30_20=>(r_spec_l9Slots e30_20.f0 e30_20.f1 e30_20.f2 e30_20.f3).bind fun c32_21=>(iI 8 v3_14 c32_21).bind fun v33_22=>some (.inl (v33_22,(IntKind.wrap .i64 (v4_15+(1:Int)))))else some (.inr (v3_14,v4_15,false))
def kA(n:Nat)(r_spec_l9Slots:gH)(t0_0:Int)(t0_1:Int)(t0_2:List UInt8)(t0_3:List aA):Option ((List Int)):=
  (bif decide (t0_0=(3:Int))then some (!decide (t0_1=((-1):Int)))else some false).bind fun v13_1=>bif v13_1 then(iI 8 ([]:List Int) ([t0_1]:List Int)).bind fun v18_4=>(loopN (gT n r_spec_l9Slots t0_3) n (v18_4,(0:Int))).bind fun(v3_7,v4_8,v23_9)=>some v3_7 else(loopN (gR n r_spec_l9Slots t0_3) n (([]:List Int),(0:Int))).bind fun(v3_16,v4_17,v23_18)=>some v3_16
theorem yC{n:Nat}{r_spec_l9Slots:gH}(ih_spec_l9Slots:mI r_spec_l9Slots):mI (kA n r_spec_l9Slots):=by
 intro t0_0 t0_1 t0_2 t0_3 r h
 unfold kA at h
 refine bF Try.func261 rfl rfl<|cRs<|xBx rfl<|wAe (Li aV []) rfl rfl rfl rfl<|oRs<|nG (L:=([]:List Int)) (f:=aV) rfl rfl rfl rfl rfl rfl rfl<|xAs rfl<|oNl<|cSq<|cRs<|oJn h [(6,13)] [] (fun v13_1=>(.n,[(13,Bo v13_1)],[])) (fun _ h=> ?_) (fun v13_1 h=> ?_)
 refine xFd rfl<|xLd rfl<|xEq rfl<|xMv rfl<|oIf 9 h rfl (fun q2 h=> ?_) (fun q2 h=> ?_)
 exact xFd rfl<|xLd rfl<|xNe rfl<|xPk rfl<|oNl<|eJ h rfl
 exact wSk rfl<|wSk rfl<|wSk rfl<|xPk rfl<|oNl<|eJ h rfl
 refine cIf h rfl (fun q3 h=> ?_) (fun q3 h=> ?_)
 refine cRg<|xMv rfl<|xFd rfl<|xLd rfl<|nG (L:=([t0_1]:List Int)) (f:=aV) rfl rfl rfl rfl rfl rfl rfl<|wAp (f:=aV) h rfl rfl rfl rfl rfl rfl rfl rfl rfl (fun _=>rfl) rfl (fun v18_4 h=> ?_)
 refine xAs rfl<|oNl<|cSq<|cRs<|xAs rfl<|oNl<|cLp h [(3,4),(19,33)] [] (fun(v3_5,v4_6)=>([(3,Li aV v3_5),(4,I64 v4_6)],[])) (fun(v3_7,v4_8,v23_9)=>(.e 0,[(3,Li aV v3_7),(4,I64 v4_8),(23,Bo v23_9)],[])) rfl (fun st _ h=> ?_) (fun q h=> ?_)
 obtain⟨v3_5,v4_6⟩:=st
 unfold gT at h
 refine cSq<|cRs<|xMv rfl<|xFd rfl<|xLd rfl<|xLn rfl<|xLt rfl<|oNl<|cIf h rfl (fun q10 h=> ?_) (fun q10 h=> ?_)
 refine cSk<|cSq<|cBk<|cRg<|xMv rfl<|xFd rfl<|xLd rfl<|xMv rfl<|xIx h aH rfl (fun e30_11 h=> ?_)
 refine xLd rfl<|xC0 h (ih_spec_l9Slots ·) rfl (fun c32_12 h=> ?_)
 refine wAp (f:=aV) h rfl rfl rfl rfl rfl rfl rfl rfl rfl (fun _=>rfl) rfl (fun v33_13 h=> ?_)
 exact xAs rfl<|oNl<|cRg<|xMv rfl<|cD rfl<|xAs rfl<|oNl<|eL h rfl
 exact cEx<|eX h rfl
 obtain⟨v3_7,v4_8,v23_9⟩:=q
 refine cRs<|xMv rfl<|xAs rfl<|oNl<|cRt ?_
 cases h
 exact eR rfl rfl rfl rfl
 refine cSk<|cSq<|cRs<|xAs rfl<|oNl<|cLp h [(3,4),(19,33)] [] (fun(v3_14,v4_15)=>([(3,Li aV v3_14),(4,I64 v4_15)],[])) (fun(v3_16,v4_17,v23_18)=>(.e 0,[(3,Li aV v3_16),(4,I64 v4_17),(23,Bo v23_18)],[])) rfl (fun st _ h=> ?_) (fun q h=> ?_)
 obtain⟨v3_14,v4_15⟩:=st
 unfold gR at h
 refine cSq<|cRs<|xMv rfl<|xFd rfl<|xLd rfl<|xLn rfl<|xLt rfl<|oNl<|cIf h rfl (fun q19 h=> ?_) (fun q19 h=> ?_)
 refine cSk<|cSq<|cBk<|cRg<|xMv rfl<|xFd rfl<|xLd rfl<|xMv rfl<|xIx h aH rfl (fun e30_20 h=> ?_)
 refine xLd rfl<|xC0 h (ih_spec_l9Slots ·) rfl (fun c32_21 h=> ?_)
 refine wAp (f:=aV) h rfl rfl rfl rfl rfl rfl rfl rfl rfl (fun _=>rfl) rfl (fun v33_22 h=> ?_)
 exact xAs rfl<|oNl<|cRg<|xMv rfl<|cD rfl<|xAs rfl<|oNl<|eL h rfl
 exact cEx<|eX h rfl
 obtain⟨v3_16,v4_17,v23_18⟩:=q
 refine cRs<|xMv rfl<|xAs rfl<|oNl<|cRt ?_
 cases h
 exact eR rfl rfl rfl rfl
def tY:Nat→(gH)
  | 0=>(fun _ _ _ _=>none)
  | n+1=>kA n (tY n)
def dR(n:Nat):gH:=tY n
theorem yF(n:Nat):mI (dR n):=by
  induction n with
  | zero=>exact(fun h=>nomatch h)
  | succ n ih=>exact yC (n:=n) ih
theorem AD{n:Nat}:mI (dR n):=(yF n)
theorem uY(n:Nat):dR (n+1)=kA n (dR n):=rfl
abbrev DF(p:Int→Int→(List UInt8)→(List aA)→Int→Option (Bool)):Prop:= ∀ {t0_0 t0_1:Int} {t0_2:List UInt8} {t0_3:List aA} {t1_0:Int} {r:Bool},p t0_0 t0_1 t0_2 t0_3 t1_0=some r→Big Try.prog τ An (.fn 194 [.one (.ag [.int .i64 t0_0, .int .i64 t0_1, .str t0_2, .sl (t0_3.map aD)]), .one (.c (.int .i64 t1_0))] [] (.one (.c (.bool r))) none [] none)
def gW(n:Nat)(c18_6:(List Int))(v6_7:Int):(Int)→Option ((Int)⊕((Bool)⊕(Int×Bool)))
  | v7_12=>bif decide (v7_12<v6_7)then(ix c18_6 v7_12).bind fun e32_17=>(ix c18_6 v6_7).bind fun e36_18=>bif decide (e32_17=e36_18)then some (.inr (.inl false))else some (.inl (IntKind.wrap .i64 (v7_12+(1:Int))))else some (.inr (.inr (v7_12,false)))
def jR(n:Nat)(c18_6:(List Int)):(Int)→Option ((Int)⊕((Bool)⊕(Int×Bool)))
  | v6_7=>bif decide (v6_7<(c18_6.length:Int))then(loopN (gW n c18_6 v6_7) n (0:Int)).bind fun q=>(match q with | .inl v4_13=>some (.inr (.inl v4_13)) | .inr (v7_14,v27_15)=>some (.inl (IntKind.wrap .i64 (v6_7+(1:Int)))))else some (.inr (.inr (v6_7,false)))
def gE(n:Nat)(t0_0:Int)(t0_1:Int)(t0_2:List UInt8)(t0_3:List aA)(t1_0:Int):Option (Bool):=
  ((aP n t1_0 (0:Int) (400:Int)).bind fun c9_2=>bif !c9_2 then some true else(eH n t0_0 t0_1 t0_2 t0_3 t1_0 (10:Int) (300:Int)).bind fun c14_4=>some (decide (c14_4<(0:Int)))).bind fun v16_1=>bif v16_1 then some false else(dR n t0_0 t0_1 t0_2 t0_3).bind fun c18_6=>(loopN (jR n c18_6) n (0:Int)).bind fun q=>(match q with | .inl v4_8=>some v4_8 | .inr (v6_9,v22_10)=>some true)
theorem rI{n:Nat}:DF (gE n):=by
 intro t0_0 t0_1 t0_2 t0_3 t1_0 r h
 unfold gE at h
 refine bF Try.func194 rfl rfl<|cRs<|xBx rfl<|xAs rfl<|oNl<|cSq<|cRs<|oJn h [(8,16)] [] (fun v16_1=>(.n,[(16,Bo v16_1)],[])) (fun _ h=> ?_) (fun v16_1 h=> ?_)
 refine xMv rfl<|xC0 h (aQ ·) rfl (fun c9_2 h=> ?_)
 refine fC rfl<|xMv rfl<|oIf 11 h rfl (fun q3 h=> ?_) (fun q3 h=> ?_)
 exact wSk rfl<|wSk rfl<|wSk rfl<|wSk rfl<|xPk rfl<|oNl<|eJ h rfl
 refine xLd rfl<|xMv rfl<|xC0 h (Bs ·) rfl (fun c14_4 h=> ?_)
 exact xLt rfl<|xPk rfl<|oNl<|eJ h rfl
 refine cIf h rfl (fun q5 h=> ?_) (fun q5 h=> ?_)
 refine cRs<|xAs rfl<|oNl<|cRt ?_
 cases h
 exact eR rfl rfl rfl rfl
 refine cSk<|cRs<|xLd rfl<|xC0 h (AD ·) rfl (fun c18_6 h=> ?_)
 refine xAs rfl<|oNl<|cSq<|cRs<|xAs rfl<|oNl<|cLp h [(4,4),(6,7),(19,38)] [] (fun v6_7=>([(6,I64 v6_7)],[])) (fun q=>match q with | .inl v4_8=>(.r,[(4,Bo v4_8)],[]) | .inr (v6_9,v22_10)=>(.e 0,[(6,I64 v6_9),(22,Bo v22_10)],[])) rfl (fun v6_7 _ h=> ?_) (fun q h=> ?_)
 unfold jR at h
 refine cSq<|cRs<|xMv rfl<|xMv rfl<|xLn rfl<|xLt rfl<|oNl<|cIf h rfl (fun q11 h=> ?_) (fun q11 h=> ?_)
 refine cSk<|cSq<|cBk<|cRs<|xAs rfl<|oNl<|cLp h [(4,4),(7,7),(25,38)] [] (fun v7_12=>([(7,I64 v7_12)],[])) (fun q=>match q with | .inl v4_13=>(.r,[(4,Bo v4_13)],[]) | .inr (v7_14,v27_15)=>(.e 2,[(7,I64 v7_14),(27,Bo v27_15)],[])) rfl (fun v7_12 _ h=> ?_) (fun q h=> ?_)
 unfold gW at h
 refine cSq<|cRs<|xMv rfl<|xMv rfl<|xLt rfl<|oNl<|cIf h rfl (fun q16 h=> ?_) (fun q16 h=> ?_)
 refine cSk<|cSq<|cBk<|cRs<|xMv rfl<|xMv rfl<|xIx h jC rfl (fun e32_17 h=> ?_)
 refine xLd rfl<|xMv rfl<|xMv rfl<|xIx h jC rfl (fun e36_18 h=> ?_)
 refine xLd rfl<|xEq rfl<|oNl<|cIf h rfl (fun q19 h=> ?_) (fun q19 h=> ?_)
 exact cRs<|xAs rfl<|oNl<|cRt<|eXr h rfl
 exact cSk<|cRg<|xMv rfl<|cD rfl<|xAs rfl<|oNl<|eL h rfl
 exact cEx<|eX h rfl
 rcases q with v4_13 | ⟨v7_14,v27_15⟩
 exact eXr h rfl
 exact cRg<|xMv rfl<|cD rfl<|xAs rfl<|oNl<|eL h rfl
 exact cEx<|eX h rfl
 rcases q with v4_8 | ⟨v6_9,v22_10⟩
 cases h
 exact eR rfl rfl rfl rfl
 refine cRs<|xAs rfl<|oNl<|cRt ?_
 cases h
 exact eR rfl rfl rfl rfl
abbrev IG(p:(List UInt8)→Option (Bool)):Prop:= ∀ {t0_0:List UInt8} {r:Bool},p t0_0=some r→Big Try.prog τ An (.fn 286 [.one (.c (.str t0_0))] [] (.one (.c (.bool r))) none [] none)
def oA(n:Nat)(t0_0:List UInt8):Option (Bool):=
  (bif decide (t0_0=([43]:List UInt8))then some true else bif decide (t0_0=([45]:List UInt8))then some true else bif decide (t0_0=([42]:List UInt8))then some true else bif decide (t0_0=([61,61]:List UInt8))then some true else some (decide (t0_0=([60]:List UInt8)))).bind fun v2_1=>some v2_1
theorem Ev{n:Nat}:IG (oA n):=by
 intro t0_0 r h
 unfold oA at h
 refine bF Try.func286 rfl rfl<|cRs<|xAs rfl<|oRs<|oJn h [(2,20)] [] (fun v2_1=>(.n,[(2,Bo v2_1)],[])) (fun _ h=> ?_) (fun v2_1 h=> ?_)
 refine xMv rfl<|xEs rfl<|xMv rfl<|oIf 5 h rfl (fun q2 h=> ?_) (fun q2 h=> ?_)
 refine wSk rfl<|wSk rfl<|xPk rfl<|xMv rfl<|wSk rfl<|wSk rfl<|xPk rfl<|xMv rfl<|wSk rfl<|wSk rfl<|xPk rfl<|xMv rfl<|wSk rfl<|wSk rfl ?_
 exact xPk rfl<|xAs rfl<|oNl<|eJ h rfl
 refine xMv rfl<|xEs rfl<|xPk rfl<|xMv rfl<|oIf 9 h rfl (fun q3 h=> ?_) (fun q3 h=> ?_)
 exact wSk rfl<|wSk rfl<|xPk rfl<|xMv rfl<|wSk rfl<|wSk rfl<|xPk rfl<|xMv rfl<|wSk rfl<|wSk rfl<|xPk rfl<|xAs rfl<|oNl<|eJ h rfl
 refine xMv rfl<|xEs rfl<|xPk rfl<|xMv rfl<|oIf 13 h rfl (fun q4 h=> ?_) (fun q4 h=> ?_)
 exact wSk rfl<|wSk rfl<|xPk rfl<|xMv rfl<|wSk rfl<|wSk rfl<|xPk rfl<|xAs rfl<|oNl<|eJ h rfl
 refine xMv rfl<|xEs rfl<|xPk rfl<|xMv rfl<|oIf 17 h rfl (fun q5 h=> ?_) (fun q5 h=> ?_)
 exact wSk rfl<|wSk rfl<|xPk rfl<|xAs rfl<|oNl<|eJ h rfl
 exact xMv rfl<|xEs rfl<|xPk rfl<|xAs rfl<|oNl<|eJ h rfl
 refine cRt ?_
 cases h
 exact eR rfl rfl rfl rfl
abbrev Gv(p:(List aB)→(List aA)→(List UInt8)→Int→Int→(List aC)→Int→Option (Bool)):Prop:= ∀ {t0_0:List aB} {t0_1:List aA} {t1_0:List UInt8} {t1_1 t1_2:Int} {t1_3:List aC} {t2_0:Int} {r:Bool},p t0_0 t0_1 t1_0 t1_1 t1_2 t1_3 t2_0=some r→Big Try.prog τ An (.fn 258 [.one (.ag [.sl (t0_0.map aG), .sl (t0_1.map aD)]), .one (.ag [.str t1_0, .int .i64 t1_1, .int .i64 t1_2, .sl (t1_3.map aJ)]), .one (.c (.int .i64 t2_0))] [] (.one (.c (.bool r))) none [] none)
def kY(n:Nat)(t0_0:List aB)(t0_1:List aA)(t1_0:List UInt8)(t1_1:Int)(t1_2:Int)(t1_3:List aC)(t2_0:Int):Option (Bool):=
  (ix t1_3 t2_0).bind fun e14_1=>(bif decide (e14_1.f2=([]:List UInt8))then some (decide (e14_1.f3=(0:Int)))else some false).bind fun v8_2=>(bif decide (e14_1.f2=([]:List UInt8))then(aP n e14_1.f3 (IntKind.wrap .i64 (t2_0+(1:Int))) (IntKind.wrap .i64 ((t1_3.length:Int) - (1:Int)))).bind fun c36_6=>some c36_6 else some false).bind fun v9_4=>bif decide (e14_1.f0=(1:Int))then(bif v8_2 then(aP n e14_1.f1 (0:Int) (1000000000000:Int)).bind fun c46_10=>some c46_10 else some false).bind fun v6_8=>some v6_8 else bif decide (e14_1.f0=(2:Int))then((fO n e14_1.f2).bind fun c52_13=>bif c52_13 then bif decide (e14_1.f1=(0:Int))then some (decide (e14_1.f3=(0:Int)))else some false else some false).bind fun v6_12=>some v6_12 else bif decide (e14_1.f0=(3:Int))then(bif v8_2 then(aP n e14_1.f1 (0:Int) (IntKind.wrap .i64 (t1_2 - (1:Int)))).bind fun c72_19=>some c72_19 else some false).bind fun v6_17=>some v6_17 else bif decide (e14_1.f0=(4:Int))then(bif v8_2 then(aP n e14_1.f1 (0:Int) (20:Int)).bind fun c81_23=>some c81_23 else some false).bind fun v6_21=>some v6_21 else bif decide (e14_1.f0=(5:Int))then(bif v8_2 then(aP n e14_1.f1 (0:Int) (20:Int)).bind fun c81_27=>some c81_27 else some false).bind fun v6_25=>some v6_25 else bif decide (e14_1.f0=(6:Int))then(bif v8_2 then(aP n e14_1.f1 (2:Int) (6:Int)).bind fun c89_31=>some c89_31 else some false).bind fun v6_29=>some v6_29 else bif decide (e14_1.f0=(7:Int))then((oA n e14_1.f2).bind fun c95_34=>bif c95_34 then bif decide (e14_1.f1=(0:Int))then some (decide (e14_1.f3=(0:Int)))else some false else some false).bind fun v6_33=>some v6_33 else bif decide (e14_1.f0=(8:Int))then(iA n t0_0 t0_1 e14_1.f2).bind fun c111_38=>(bif decide ((0:Int)≤c111_38)then(ix t0_0 c111_38).bind fun e118_41=>bif decide (e118_41.f1=e14_1.f1)then some (decide (e14_1.f3=(0:Int)))else some false else some false).bind fun v6_39=>some v6_39 else bif decide (e14_1.f0=(9:Int))then(bif v9_4 then(aP n e14_1.f1 (0:Int) (IntKind.wrap .i64 ((t0_1.length:Int) - (1:Int)))).bind fun c140_46=>bif c140_46 then(ix t0_1 e14_1.f1).bind fun e147_48=>(gE n e147_48.f0 e147_48.f1 e147_48.f2 e147_48.f3 t1_2).bind fun c151_49=>some c151_49 else some false else some false).bind fun v6_44=>some v6_44 else bif decide (e14_1.f0=(10:Int))then(bif v9_4 then some (decide (e14_1.f1=(0:Int)))else some false).bind fun v6_51=>some v6_51 else(bif v8_2 then bif decide (e14_1.f1=(0:Int))then(aP n e14_1.f0 (11:Int) (12:Int)).bind fun c170_56=>some c170_56 else some false else some false).bind fun v6_53=>some v6_53
theorem Cr{n:Nat}:Gv (kY n):=by
 intro t0_0 t0_1 t1_0 t1_1 t1_2 t1_3 t2_0 r h
 unfold kY at h
 refine bF Try.func258 rfl rfl<|cRs<|xBx rfl<|xBx rfl<|xAs rfl<|oRs<|xFd rfl<|xLd rfl<|xMv rfl<|xIx h bS rfl (fun e14_1 h=> ?_)
 refine xLd rfl<|xAc rfl<|xSt rfl<|oRs<|oJn h [(8,8),(16,23)] [] (fun v8_2=>(.n,[(8,Bo v8_2)],[])) (fun _ h=> ?_) (fun v8_2 h=> ?_)
 refine xFd rfl<|xLd rfl<|xEs rfl<|xMv rfl<|oIf 19 h rfl (fun q3 h=> ?_) (fun q3 h=> ?_)
 exact xFd rfl<|xLd rfl<|xEq rfl<|xPk rfl<|xAs rfl<|oNl<|eJ h rfl
 exact wSk rfl<|wSk rfl<|wSk rfl<|xPk rfl<|xAs rfl<|oNl<|eJ h rfl
 refine cRs<|oJn h [(9,9),(24,37)] [] (fun v9_4=>(.n,[(9,Bo v9_4)],[])) (fun _ h=> ?_) (fun v9_4 h=> ?_)
 refine xFd rfl<|xLd rfl<|xEs rfl<|xMv rfl<|oIf 27 h rfl (fun q5 h=> ?_) (fun q5 h=> ?_)
 refine xFd rfl<|xLd rfl<|xMv rfl<|cD rfl<|xFd rfl<|xLd rfl<|xLn rfl<|sB rfl<|xC0 h (aQ ·) rfl (fun c36_6 h=> ?_)
 exact xPk rfl<|xAs rfl<|oNl<|eJ h rfl
 exact wSk rfl<|wSk rfl<|wSk rfl<|wSk rfl<|wSk rfl<|wSk rfl<|wSk rfl<|wSk rfl<|wSk rfl<|xPk rfl<|xAs rfl<|oNl<|eJ h rfl
 refine cSq<|cRs<|xFd rfl<|xLd rfl<|oNl<|cBk<|cRs<|xEq rfl<|xAs rfl<|oNl<|cIf h rfl (fun q7 h=> ?_) (fun q7 h=> ?_)
 refine cRs<|oJn h [(6,6),(42,47)] [] (fun v6_8=>(.n,[(6,Bo v6_8)],[])) (fun _ h=> ?_) (fun v6_8 h=> ?_)
 refine xMv rfl<|xMv rfl<|oIf 43 h rfl (fun q9 h=> ?_) (fun q9 h=> ?_)
 refine xFd rfl<|xLd rfl<|xC0 h (aQ ·) rfl (fun c46_10 h=> ?_)
 exact xPk rfl<|xAs rfl<|oNl<|eJ h rfl
 exact wSk rfl<|wSk rfl<|wSk rfl<|xPk rfl<|xAs rfl<|oNl<|eJ h rfl
 refine cRt ?_
 cases h
 exact eR rfl rfl rfl rfl
 refine cRs<|xEq rfl<|xAs rfl<|oNl<|cIf h rfl (fun q11 h=> ?_) (fun q11 h=> ?_)
 refine cRs<|oJn h [(6,6),(50,62)] [] (fun v6_12=>(.n,[(6,Bo v6_12)],[])) (fun _ h=> ?_) (fun v6_12 h=> ?_)
 refine xFd rfl<|xLd rfl<|xC0 h (oE ·) rfl (fun c52_13 h=> ?_)
 refine xMv rfl<|oIf 53 h rfl (fun q14 h=> ?_) (fun q14 h=> ?_)
 refine xFd rfl<|xLd rfl<|xEq rfl<|xPk rfl<|xMv rfl<|oIf 58 h rfl (fun q15 h=> ?_) (fun q15 h=> ?_)
 exact xFd rfl<|xLd rfl<|xEq rfl<|xPk rfl<|xAs rfl<|oNl<|eJ h rfl
 exact wSk rfl<|wSk rfl<|wSk rfl<|xPk rfl<|xAs rfl<|oNl<|eJ h rfl
 exact wSk rfl<|wSk rfl<|wSk rfl<|xPk rfl<|xMv rfl<|wSk rfl<|wSk rfl<|wSk rfl<|xPk rfl<|xAs rfl<|oNl<|eJ h rfl
 refine cRt ?_
 cases h
 exact eR rfl rfl rfl rfl
 refine cRs<|xEq rfl<|xAs rfl<|oNl<|cIf h rfl (fun q16 h=> ?_) (fun q16 h=> ?_)
 refine cRs<|oJn h [(6,6),(65,73)] [] (fun v6_17=>(.n,[(6,Bo v6_17)],[])) (fun _ h=> ?_) (fun v6_17 h=> ?_)
 refine xMv rfl<|xMv rfl<|oIf 66 h rfl (fun q18 h=> ?_) (fun q18 h=> ?_)
 refine xFd rfl<|xLd rfl<|xFd rfl<|xLd rfl<|sB rfl<|xC0 h (aQ ·) rfl (fun c72_19 h=> ?_)
 exact xPk rfl<|xAs rfl<|oNl<|eJ h rfl
 exact wSk rfl<|wSk rfl<|wSk rfl<|wSk rfl<|wSk rfl<|wSk rfl<|xPk rfl<|xAs rfl<|oNl<|eJ h rfl
 refine cRt ?_
 cases h
 exact eR rfl rfl rfl rfl
 refine cSq<|cRs<|xEq rfl<|xAs rfl<|oNl<|cIf h rfl (fun q20 h=> ?_) (fun q20 h=> ?_)
 refine cSk<|cT rfl<|cRs<|oJn h [(6,6),(77,82)] [] (fun v6_21=>(.n,[(6,Bo v6_21)],[])) (fun _ h=> ?_) (fun v6_21 h=> ?_)
 refine xMv rfl<|xMv rfl<|oIf 78 h rfl (fun q22 h=> ?_) (fun q22 h=> ?_)
 refine xFd rfl<|xLd rfl<|xC0 h (aQ ·) rfl (fun c81_23 h=> ?_)
 exact xPk rfl<|xAs rfl<|oNl<|eJ h rfl
 exact wSk rfl<|wSk rfl<|wSk rfl<|xPk rfl<|xAs rfl<|oNl<|eJ h rfl
 refine cRt ?_
 cases h
 exact eR rfl rfl rfl rfl
 refine cRg<|xEq rfl<|xAs rfl<|oNl<|cIf h rfl (fun q24 h=> ?_) (fun q24 h=> ?_)
 refine cRs<|oJn h [(6,6),(77,82)] [] (fun v6_25=>(.n,[(6,Bo v6_25)],[])) (fun _ h=> ?_) (fun v6_25 h=> ?_)
 refine xMv rfl<|xMv rfl<|oIf 78 h rfl (fun q26 h=> ?_) (fun q26 h=> ?_)
 refine xFd rfl<|xLd rfl<|xC0 h (aQ ·) rfl (fun c81_27 h=> ?_)
 exact xPk rfl<|xAs rfl<|oNl<|eJ h rfl
 exact wSk rfl<|wSk rfl<|wSk rfl<|xPk rfl<|xAs rfl<|oNl<|eJ h rfl
 refine cRt ?_
 cases h
 exact eR rfl rfl rfl rfl
 refine cRs<|xEq rfl<|xAs rfl<|oNl<|cIf h rfl (fun q28 h=> ?_) (fun q28 h=> ?_)
 refine cRs<|oJn h [(6,6),(85,90)] [] (fun v6_29=>(.n,[(6,Bo v6_29)],[])) (fun _ h=> ?_) (fun v6_29 h=> ?_)
 refine xMv rfl<|xMv rfl<|oIf 86 h rfl (fun q30 h=> ?_) (fun q30 h=> ?_)
 refine xFd rfl<|xLd rfl<|xC0 h (aQ ·) rfl (fun c89_31 h=> ?_)
 exact xPk rfl<|xAs rfl<|oNl<|eJ h rfl
 exact wSk rfl<|wSk rfl<|wSk rfl<|xPk rfl<|xAs rfl<|oNl<|eJ h rfl
 refine cRt ?_
 cases h
 exact eR rfl rfl rfl rfl
 refine cRs<|xEq rfl<|xAs rfl<|oNl<|cIf h rfl (fun q32 h=> ?_) (fun q32 h=> ?_)
 refine cRs<|oJn h [(6,6),(93,105)] [] (fun v6_33=>(.n,[(6,Bo v6_33)],[])) (fun _ h=> ?_) (fun v6_33 h=> ?_)
 refine xFd rfl<|xLd rfl<|xC0 h (Ev ·) rfl (fun c95_34 h=> ?_)
 refine xMv rfl<|oIf 96 h rfl (fun q35 h=> ?_) (fun q35 h=> ?_)
 refine xFd rfl<|xLd rfl<|xEq rfl<|xPk rfl<|xMv rfl<|oIf 101 h rfl (fun q36 h=> ?_) (fun q36 h=> ?_)
 exact xFd rfl<|xLd rfl<|xEq rfl<|xPk rfl<|xAs rfl<|oNl<|eJ h rfl
 exact wSk rfl<|wSk rfl<|wSk rfl<|xPk rfl<|xAs rfl<|oNl<|eJ h rfl
 exact wSk rfl<|wSk rfl<|wSk rfl<|xPk rfl<|xMv rfl<|wSk rfl<|wSk rfl<|wSk rfl<|xPk rfl<|xAs rfl<|oNl<|eJ h rfl
 refine cRt ?_
 cases h
 exact eR rfl rfl rfl rfl
 refine cRs<|xEq rfl<|xAs rfl<|oNl<|cIf h rfl (fun q37 h=> ?_) (fun q37 h=> ?_)
 refine cRs<|xLd rfl<|xFd rfl<|xLd rfl<|xC0 h (sQ ·) rfl (fun c111_38 h=> ?_)
 refine xAs rfl<|oRs<|oJn h [(6,6),(112,129)] [] (fun v6_39=>(.n,[(6,Bo v6_39)],[])) (fun _ h=> ?_) (fun v6_39 h=> ?_)
 refine xMv rfl<|xGe rfl<|xMv rfl<|oIf 114 h rfl (fun q40 h=> ?_) (fun q40 h=> ?_)
 refine xFd rfl<|xLd rfl<|xMv rfl<|xIx h bN rfl (fun e118_41 h=> ?_)
 refine xFd rfl<|xLd rfl<|xFd rfl<|xLd rfl<|xEq rfl<|xPk rfl<|xMv rfl<|oIf 125 h rfl (fun q42 h=> ?_) (fun q42 h=> ?_)
 exact xFd rfl<|xLd rfl<|xEq rfl<|xPk rfl<|xAs rfl<|oNl<|eJ h rfl
 exact wSk rfl<|wSk rfl<|wSk rfl<|xPk rfl<|xAs rfl<|oNl<|eJ h rfl
 refine wSk rfl<|wSk rfl<|wSk rfl<|wSk rfl<|wSk rfl<|wSk rfl<|wSk rfl<|wSk rfl<|wSk rfl<|xPk rfl<|xMv rfl<|wSk rfl<|wSk rfl<|wSk rfl ?_
 exact xPk rfl<|xAs rfl<|oNl<|eJ h rfl
 refine cRt ?_
 cases h
 exact eR rfl rfl rfl rfl
 refine cRs<|xEq rfl<|xAs rfl<|oNl<|cIf h rfl (fun q43 h=> ?_) (fun q43 h=> ?_)
 refine cRs<|oJn h [(6,6),(132,152)] [] (fun v6_44=>(.n,[(6,Bo v6_44)],[])) (fun _ h=> ?_) (fun v6_44 h=> ?_)
 refine xMv rfl<|xMv rfl<|oIf 133 h rfl (fun q45 h=> ?_) (fun q45 h=> ?_)
 refine xFd rfl<|xLd rfl<|xFd rfl<|xLd rfl<|xLn rfl<|sB rfl<|xC0 h (aQ ·) rfl (fun c140_46 h=> ?_)
 refine xPk rfl<|xMv rfl<|oIf 142 h rfl (fun q47 h=> ?_) (fun q47 h=> ?_)
 refine xFd rfl<|xLd rfl<|xFd rfl<|xLd rfl<|xIx h aH rfl (fun e147_48 h=> ?_)
 refine xLd rfl<|xFd rfl<|xLd rfl<|xC0 h (rI ·) rfl (fun c151_49 h=> ?_)
 exact xPk rfl<|xAs rfl<|oNl<|eJ h rfl
 exact wSk rfl<|wSk rfl<|wSk rfl<|wSk rfl<|wSk rfl<|wSk rfl<|wSk rfl<|wSk rfl<|wSk rfl<|xPk rfl<|xAs rfl<|oNl<|eJ h rfl
 refine wSk rfl<|wSk rfl<|wSk rfl<|wSk rfl<|wSk rfl<|wSk rfl<|wSk rfl<|xPk rfl<|xMv rfl<|wSk rfl<|wSk rfl<|wSk rfl<|wSk rfl<|wSk rfl ?_
 exact wSk rfl<|wSk rfl<|wSk rfl<|wSk rfl<|xPk rfl<|xAs rfl<|oNl<|eJ h rfl
 refine cRt ?_
 cases h
 exact eR rfl rfl rfl rfl
 refine cRs<|xEq rfl<|xAs rfl<|oNl<|cIf h rfl (fun q50 h=> ?_) (fun q50 h=> ?_)
 refine cRs<|oJn h [(6,6),(155,160)] [] (fun v6_51=>(.n,[(6,Bo v6_51)],[])) (fun _ h=> ?_) (fun v6_51 h=> ?_)
 refine xMv rfl<|xMv rfl<|oIf 156 h rfl (fun q52 h=> ?_) (fun q52 h=> ?_)
 exact xFd rfl<|xLd rfl<|xEq rfl<|xPk rfl<|xAs rfl<|oNl<|eJ h rfl
 exact wSk rfl<|wSk rfl<|wSk rfl<|xPk rfl<|xAs rfl<|oNl<|eJ h rfl
 refine cRt ?_
 cases h
 exact eR rfl rfl rfl rfl
 refine cSk<|cRs<|oJn h [(6,6),(161,171)] [] (fun v6_53=>(.n,[(6,Bo v6_53)],[])) (fun _ h=> ?_) (fun v6_53 h=> ?_)
 refine xMv rfl<|xMv rfl<|oIf 162 h rfl (fun q54 h=> ?_) (fun q54 h=> ?_)
 refine xFd rfl<|xLd rfl<|xEq rfl<|xPk rfl<|xMv rfl<|oIf 167 h rfl (fun q55 h=> ?_) (fun q55 h=> ?_)
 refine xFd rfl<|xLd rfl<|xC0 h (aQ ·) rfl (fun c170_56 h=> ?_)
 exact xPk rfl<|xAs rfl<|oNl<|eJ h rfl
 exact wSk rfl<|wSk rfl<|wSk rfl<|xPk rfl<|xAs rfl<|oNl<|eJ h rfl
 exact wSk rfl<|wSk rfl<|wSk rfl<|xPk rfl<|xMv rfl<|wSk rfl<|wSk rfl<|wSk rfl<|xPk rfl<|xAs rfl<|oNl<|eJ h rfl
 refine cRt ?_
 cases h
 exact eR rfl rfl rfl rfl
abbrev Cz(p:Int→Int→(List UInt8)→Int→Option (Int×Int)):Prop:= ∀ {t0_0 t0_1:Int} {t0_2:List UInt8} {t0_3:Int} {r:Int×Int},p t0_0 t0_1 t0_2 t0_3=some r→Big Try.prog τ An (.fn 289 [.one (.ag [.int .i64 t0_0, .int .i64 t0_1, .str t0_2, .int .i64 t0_3])] [] (.tup [.c (.int .i64 r.1), .c (.int .i64 r.2)]) none [] none)
def kB(n:Nat)(t0_0:Int)(t0_1:Int)(t0_2:List UInt8)(t0_3:Int):Option (Int×Int):=
  bif decide (t0_0=(1:Int))then some ((0:Int),(1:Int))else bif decide (t0_0=(2:Int))then some ((0:Int),(1:Int))else bif decide (t0_0=(3:Int))then some ((0:Int),(1:Int))else bif decide (t0_0=(4:Int))then some (t0_1,(1:Int))else bif decide (t0_0=(5:Int))then some (t0_1,(1:Int))else bif decide (t0_0=(6:Int))then some (t0_1,(1:Int))else bif decide (t0_0=(8:Int))then some (t0_1,(1:Int))else bif decide (t0_0=(7:Int))then some ((2:Int),(1:Int))else bif decide (t0_0=(9:Int))then some ((1:Int),(0:Int))else bif decide (t0_0=(12:Int))then some ((1:Int),(0:Int))else some ((0:Int),(0:Int))
theorem AC{n:Nat}:Cz (kB n):=by
 intro t0_0 t0_1 t0_2 t0_3 r h
 unfold kB at h
 refine bF Try.func289 rfl rfl<|cRs<|xBx rfl<|xAs rfl<|xAs rfl<|oNl<|cSq<|cRs<|xFd rfl<|xLd rfl<|oNl<|cBk<|cSq<|cRs ?_
 refine xEq rfl<|xAs rfl<|oNl<|cIf h rfl (fun q1 h=> ?_) (fun q1 h=> ?_)
 refine cSk<|cT rfl<|cRs<|xAs rfl<|xAs rfl<|oNl<|cRt ?_
 cases h
 exact eR rfl rfl rfl rfl
 refine cRs<|xEq rfl<|xAs rfl<|oNl<|cIf h rfl (fun q2 h=> ?_) (fun q2 h=> ?_)
 refine cSk<|cT rfl<|cRs<|xAs rfl<|xAs rfl<|oNl<|cRt ?_
 cases h
 exact eR rfl rfl rfl rfl
 refine cRg<|xEq rfl<|xAs rfl<|oNl<|cIf h rfl (fun q3 h=> ?_) (fun q3 h=> ?_)
 refine cRs<|xAs rfl<|xAs rfl<|oNl<|cRt ?_
 cases h
 exact eR rfl rfl rfl rfl
 refine cSq<|cRs<|xEq rfl<|xAs rfl<|oNl<|cIf h rfl (fun q4 h=> ?_) (fun q4 h=> ?_)
 refine cSk<|cT rfl<|cRs<|xFd rfl<|xLd rfl<|xAs rfl<|xAs rfl<|oNl<|cRt ?_
 cases h
 exact eR rfl rfl rfl rfl
 refine cRs<|xEq rfl<|xAs rfl<|oNl<|cIf h rfl (fun q5 h=> ?_) (fun q5 h=> ?_)
 refine cSk<|cT rfl<|cRs<|xFd rfl<|xLd rfl<|xAs rfl<|xAs rfl<|oNl<|cRt ?_
 cases h
 exact eR rfl rfl rfl rfl
 refine cRs<|xEq rfl<|xAs rfl<|oNl<|cIf h rfl (fun q6 h=> ?_) (fun q6 h=> ?_)
 refine cSk<|cT rfl<|cRs<|xFd rfl<|xLd rfl<|xAs rfl<|xAs rfl<|oNl<|cRt ?_
 cases h
 exact eR rfl rfl rfl rfl
 refine cRg<|xEq rfl<|xAs rfl<|oNl<|cIf h rfl (fun q7 h=> ?_) (fun q7 h=> ?_)
 refine cRs<|xFd rfl<|xLd rfl<|xAs rfl<|xAs rfl<|oNl<|cRt ?_
 cases h
 exact eR rfl rfl rfl rfl
 refine cRs<|xEq rfl<|xAs rfl<|oNl<|cIf h rfl (fun q8 h=> ?_) (fun q8 h=> ?_)
 refine cRs<|xAs rfl<|xAs rfl<|oNl<|cRt ?_
 cases h
 exact eR rfl rfl rfl rfl
 refine cSq<|cRs<|xEq rfl<|xAs rfl<|oNl<|cIf h rfl (fun q9 h=> ?_) (fun q9 h=> ?_)
 refine cSk<|cT rfl<|cRs<|xAs rfl<|xAs rfl<|oNl<|cRt ?_
 cases h
 exact eR rfl rfl rfl rfl
 refine cRg<|xEq rfl<|xAs rfl<|oNl<|cIf h rfl (fun q10 h=> ?_) (fun q10 h=> ?_)
 refine cRs<|xAs rfl<|xAs rfl<|oNl<|cRt ?_
 cases h
 exact eR rfl rfl rfl rfl
 refine cSk<|cRs<|xAs rfl<|xAs rfl<|oNl<|cRt ?_
 cases h
 exact eR rfl rfl rfl rfl
abbrev FC(p:(List Int)→Int→Int→Option (Bool×(List Int))):Prop:= ∀ {t0_0:List Int} {t1_0 t2_0:Int} {r:Bool×(List Int)},p t0_0 t1_0 t2_0=some r→Big Try.prog τ An (.fn 290 [.one (.c (.sl (t0_0.map aV))), .one (.c (.int .i64 t1_0)), .one (.c (.int .i64 t2_0))] [] (.one (.c (.bool r.1))) (some (.sl (r.2.map aV))) [] none)
def eI(n:Nat)(t0_0:List Int)(t1_0:Int)(t2_0:Int):Option (Bool×(List Int)):=
  (ix t0_0 t1_0).bind fun e9_1=>bif decide (e9_1=((-1):Int))then(ix t0_0 t1_0).bind fun e15_3=>(some (t0_0.set (Int.toNat t1_0) t2_0)).bind fun u0_4=>(ix u0_4 t1_0).bind fun e18_5=>some ((decide (e18_5=t2_0)),u0_4)else(ix t0_0 t1_0).bind fun e18_6=>some ((decide (e18_6=t2_0)),t0_0)
theorem lP{n:Nat}:FC (eI n):=by
 intro t0_0 t1_0 t2_0 r h
 unfold eI at h
 refine bFi Try.func290 rfl rfl<|cRs<|xAs rfl<|oNl<|cSq<|cRs<|xMv rfl<|xMv rfl<|xIx h jC rfl (fun e9_1 h=> ?_)
 refine xLd rfl<|xEq rfl<|oNl<|cIf h rfl (fun q2 h=> ?_) (fun q2 h=> ?_)
 refine cRg<|wAl rfl rfl rfl rfl<|xMv rfl<|xMv rfl<|wIp (f:=aV) h rfl rfl rfl rfl rfl rfl (fun _=>rfl) rfl (fun e15_3 ke15_3 h=> ?_)
 refine Cl (f:=aV) (v':=t2_0) h ke15_3 rfl rfl rfl rfl rfl rfl rfl rfl rfl (fun u0_4 h=> ?_)
 refine oNl<|cRs<|xMv rfl<|xMv rfl<|xIx h jC rfl (fun e18_5 h=> ?_)
 refine xLd rfl<|xMv rfl<|xEq rfl<|xAs rfl<|oNl<|cRt ?_
 cases h
 exact eRi rfl rfl rfl rfl rfl
 refine cSk<|cRs<|xMv rfl<|xMv rfl<|xIx h jC rfl (fun e18_6 h=> ?_)
 refine xLd rfl<|xMv rfl<|xEq rfl<|xAs rfl<|oNl<|cRt ?_
 cases h
 exact eRi rfl rfl rfl rfl rfl
abbrev AQ(p:(List UInt8)→Int→Int→(List aC)→Option ((List Int)×Bool)):Prop:= ∀ {t0_0:List UInt8} {t0_1 t0_2:Int} {t0_3:List aC} {r:(List Int)×Bool},p t0_0 t0_1 t0_2 t0_3=some r→Big Try.prog τ An (.fn 259 [.one (.ag [.str t0_0, .int .i64 t0_1, .int .i64 t0_2, .sl (t0_3.map aJ)])] [] (.tup [.c (.sl (r.1.map aV)), .c (.bool r.2)]) none [] none)
def dN(n:Nat):((List Int)×Int)→Option (((List Int)×Int)⊕(((List Int)×Int×Bool)))
  | (v4_2,v5_3)=>bif decide (v5_3<(v4_2.length:Int))then(ix v4_2 v5_3).bind fun e24_8=>(some (v4_2.set (Int.toNat v5_3) ((-1):Int))).bind fun u4_9=>some (.inl (u4_9,(IntKind.wrap .i64 (v5_3+(1:Int)))))else some (.inr (v4_2,v5_3,false))
def cM(n:Nat)(t0_3:List aC):((List Int)×Int)→Option (((List Int)×Int)⊕(((List Int)×Bool)⊕((List Int)×Int×Bool)))
  | (v4_10,v6_11)=>bif decide (v6_11<(v4_10.length:Int))then(((ix t0_3 v6_11).bind fun e34_26=>(kB n e34_26.f0 e34_26.f1 e34_26.f2 e34_26.f3).bind fun c38_27=>(ix v4_10 v6_11).bind fun e43_28=>(bif decide (e43_28<c38_27.1)then some true else bif decide ((300:Int)<e43_28)then some true else bif decide (e34_26.f0=(12:Int))then some (!decide (e43_28=(1:Int)))else some false).bind fun v60_29=>bif v60_29 then some (.inl (v4_10,false))else bif decide (e34_26.f0=(11:Int))then bif !true then some (.inl (v4_10,false))else some (.inr (v4_10,false,e34_26.f0,e34_26.f1,e34_26.f2,e34_26.f3))else bif decide (e34_26.f0=(12:Int))then bif !true then some (.inl (v4_10,false))else some (.inr (v4_10,false,e34_26.f0,e34_26.f1,e34_26.f2,e34_26.f3))else bif decide (e34_26.f0=(10:Int))then(eI n v4_10 e34_26.f3 e43_28).bind fun c89_39=>bif !c89_39.1 then some (.inl (c89_39.2,false))else some (.inr (c89_39.2,false,e34_26.f0,e34_26.f1,e34_26.f2,e34_26.f3))else bif decide (e34_26.f0=(9:Int))then((eI n v4_10 e34_26.f3 e43_28).bind fun c96_44=>bif c96_44.1 then bif decide ((IntKind.wrap .i64 (v6_11+(1:Int)))<(c96_44.2.length:Int))then(eI n c96_44.2 (IntKind.wrap .i64 (v6_11+(1:Int))) (IntKind.wrap .i64 (e43_28 - (1:Int)))).bind fun c110_47=>some (c110_47.2,c110_47.1)else some (c96_44.2,false)else some (c96_44.2,false)).bind fun(v4_42,v11_43)=>bif !v11_43 then some (.inl (v4_42,false))else some (.inr (v4_42,false,e34_26.f0,e34_26.f1,e34_26.f2,e34_26.f3))else(bif decide ((IntKind.wrap .i64 (v6_11+(1:Int)))<(v4_10.length:Int))then(eI n v4_10 (IntKind.wrap .i64 (v6_11+(1:Int))) (IntKind.wrap .i64 ((IntKind.wrap .i64 (e43_28 - c38_27.1))+c38_27.2))).bind fun c78_52=>some (c78_52.2,c78_52.1)else some (v4_10,false)).bind fun(v4_49,v11_50)=>bif !v11_50 then some (.inl (v4_49,false))else some (.inr (v4_49,false,e34_26.f0,e34_26.f1,e34_26.f2,e34_26.f3)):Option (((List Int)×Bool)⊕((List Int)×Bool×Int×Int×(List UInt8)×Int)))).bind fun q=>(match q with | .inl (v2_18,v3_19)=>some (.inr (.inl (v2_18,v3_19))) | .inr (v4_20,v113_21,w7_22,w7_23,w7_24,w7_25)=>some (.inl (v4_20,(IntKind.wrap .i64 (v6_11+(1:Int))))))else some (.inr (.inr (v4_10,v6_11,false)))
def iL(n:Nat)(t0_0:List UInt8)(t0_1:Int)(t0_2:Int)(t0_3:List aC):Option ((List Int)×Bool):=
  (ck (decide (0≤(t0_3.length:Int)∧(t0_3.length:Int)≤maxLen∧8*(t0_3.length:Int)≤281474976710656))).bind fun _=>(loopN (dN n) n ((List.replicate (Int.toNat (t0_3.length:Int)) (0:Int)),(1:Int))).bind fun(v4_4,v5_5,v19_6)=>(loopN (cM n t0_3) n (v4_4,(0:Int))).bind fun q=>(match q with | .inl (v2_12,v3_13)=>some (v2_12,v3_13) | .inr (v4_14,v6_15,v28_16)=>some (v4_14,true))
theorem wX{n:Nat}:AQ (iL n):=by
 intro t0_0 t0_1 t0_2 t0_3 r h
 unfold iL at h
 refine bF Try.func259 rfl rfl<|cRs<|xBx rfl<|wAe (Li aV []) rfl rfl rfl rfl<|xAs rfl<|oRs<|xFd rfl<|xLd rfl<|xLn rfl<|oCk h (fun k15_0 h=> ?_)
 refine wMk (z:=(0:Int)) (f:=aV) k15_0 rfl rfl rfl rfl rfl rfl rfl<|xAs rfl<|oNl<|cSq<|cRs<|xAs rfl<|oNl<|cLp h [(4,5),(16,24)] [] (fun(v4_2,v5_3)=>([(4,Li aV v4_2),(5,I64 v5_3)],[])) (fun(v4_4,v5_5,v19_6)=>(.e 0,[(4,Li aV v4_4),(5,I64 v5_5),(19,Bo v19_6)],[])) rfl (fun st _ h=> ?_) (fun q h=> ?_)
 obtain⟨v4_2,v5_3⟩:=st
 unfold dN at h
 refine cSq<|cRs<|xMv rfl<|xMv rfl<|xLn rfl<|xLt rfl<|oNl<|cIf h rfl (fun q7 h=> ?_) (fun q7 h=> ?_)
 refine cSk<|cSq<|cBk<|cRg<|wAl rfl rfl rfl rfl<|xMv rfl<|wIp (f:=aV) h rfl rfl rfl rfl rfl rfl (fun _=>rfl) rfl (fun e24_8 ke24_8 h=> ?_)
 refine Cl (f:=aV) (v':=((-1):Int)) h ke24_8 rfl rfl rfl rfl rfl rfl rfl rfl rfl (fun u4_9 h=> ?_)
 exact oNl<|cRg<|xMv rfl<|cD rfl<|xAs rfl<|oNl<|eL h rfl
 exact cEx<|eX h rfl
 obtain⟨v4_4,v5_5,v19_6⟩:=q
 refine cSq<|cRs<|xAs rfl<|oNl<|cLp h [(2,4),(6,11),(25,114)] [(7,7)] (fun(v4_10,v6_11)=>([(4,Li aV v4_10),(6,I64 v6_11)],[])) (fun q=>match q with | .inl (v2_12,v3_13)=>(.r,[(2,Li aV v2_12),(3,Bo v3_13)],[]) | .inr (v4_14,v6_15,v28_16)=>(.e 2,[(4,Li aV v4_14),(6,I64 v6_15),(28,Bo v28_16)],[])) rfl (fun st _ h=> ?_) (fun q h=> ?_)
 obtain⟨v4_10,v6_11⟩:=st
 unfold cM at h
 refine cSq<|cRs<|xMv rfl<|xMv rfl<|xLn rfl<|xLt rfl<|oNl<|cIf h rfl (fun q17 h=> ?_) (fun q17 h=> ?_)
 refine cSk<|cSq<|cJn h [(2,4),(7,11),(31,114)] [(7,7)] (fun q=>match q with | .inl (v2_18,v3_19)=>(.r,[(2,Li aV v2_18),(3,Bo v3_19)],[]) | .inr (v4_20,v113_21,w7_22,w7_23,w7_24,w7_25)=>(.n,[(4,Li aV v4_20),(113,Bo v113_21)],[(7,[.int .i64 w7_22, .int .i64 w7_23, .str w7_24, .int .i64 w7_25])])) (fun _ h=> ?_) (fun q h=> ?_)
 refine cBk<|cRs<|xFd rfl<|xLd rfl<|xMv rfl<|xIx h bS rfl (fun e34_26 h=> ?_)
 refine xLd rfl<|xAc rfl<|xSt rfl<|oRs<|xLd rfl<|xC0 h (AC ·) rfl (fun c38_27 h=> ?_)
 refine xMv rfl<|xEt rfl<|xEt rfl<|xAs rfl<|xAs rfl<|oRs<|xMv rfl<|xMv rfl<|xIx h jC rfl (fun e43_28 h=> ?_)
 refine xLd rfl<|xAs rfl<|oNl<|cSq<|cRs<|oJn h [(45,60)] [] (fun v60_29=>(.n,[(60,Bo v60_29)],[])) (fun _ h=> ?_) (fun v60_29 h=> ?_)
 refine xMv rfl<|xMv rfl<|xLt rfl<|xMv rfl<|oIf 48 h rfl (fun q30 h=> ?_) (fun q30 h=> ?_)
 exact wSk rfl<|wSk rfl<|xPk rfl<|xMv rfl<|wSk rfl<|wSk rfl<|wSk rfl<|wSk rfl<|wSk rfl<|wSk rfl<|wSk rfl<|xPk rfl<|oNl<|eJ h rfl
 refine xMv rfl<|xGt rfl<|xPk rfl<|xMv rfl<|oIf 52 h rfl (fun q31 h=> ?_) (fun q31 h=> ?_)
 exact wSk rfl<|wSk rfl<|wSk rfl<|wSk rfl<|wSk rfl<|wSk rfl<|wSk rfl<|xPk rfl<|oNl<|eJ h rfl
 refine xFd rfl<|xLd rfl<|xEq rfl<|xMv rfl<|oIf 56 h rfl (fun q32 h=> ?_) (fun q32 h=> ?_)
 exact xMv rfl<|xNe rfl<|xPk rfl<|xPk rfl<|oNl<|eJ h rfl
 exact wSk rfl<|wSk rfl<|xPk rfl<|xPk rfl<|oNl<|eJ h rfl
 refine cIf h rfl (fun q33 h=> ?_) (fun q33 h=> ?_)
 exact cRs<|xMv rfl<|xAs rfl<|xAs rfl<|oNl<|cRt<|eJ h rfl
 refine cSk<|cRs<|xAs rfl<|oNl<|cSq<|cRs<|xFd rfl<|xLd rfl<|oNl<|cBk<|cSq<|cRs<|xEq rfl<|xAs rfl ?_
 refine oNl<|cIf h rfl (fun q34 h=> ?_) (fun q34 h=> ?_)
 refine cSk<|cT rfl<|cSk<|cRs<|xMv rfl<|fC rfl<|oNl<|cIf h rfl (fun q35 h=> ?_) (fun q35 h=> ?_)
 exact cRs<|xMv rfl<|xAs rfl<|xAs rfl<|oNl<|cRt<|eJ h rfl
 exact cSk<|eJ h rfl
 refine cRg<|xEq rfl<|xAs rfl<|oNl<|cIf h rfl (fun q36 h=> ?_) (fun q36 h=> ?_)
 refine cSk<|cRs<|xMv rfl<|fC rfl<|oNl<|cIf h rfl (fun q37 h=> ?_) (fun q37 h=> ?_)
 exact cRs<|xMv rfl<|xAs rfl<|xAs rfl<|oNl<|cRt<|eJ h rfl
 exact cSk<|eJ h rfl
 refine cRs<|xEq rfl<|xAs rfl<|oNl<|cIf h rfl (fun q38 h=> ?_) (fun q38 h=> ?_)
 refine cRg<|wAl rfl rfl rfl rfl<|xFd rfl<|xLd rfl<|xMv rfl<|xIo (fun c89_39=> .sl (c89_39.2.map aV)) h (lP ·) rfl (Qr _) (fun _=>FU _ _) (fun c89_39 h=> ?_)
 refine xAs rfl<|oNl<|cRs<|xMv rfl<|fC rfl<|oNl<|cIf h rfl (fun q40 h=> ?_) (fun q40 h=> ?_)
 exact cRs<|xMv rfl<|xAs rfl<|xAs rfl<|oNl<|cRt<|eJ h rfl
 exact cSk<|eJ h rfl
 refine cRs<|xEq rfl<|xAs rfl<|oNl<|cIf h rfl (fun q41 h=> ?_) (fun q41 h=> ?_)
 refine cRg<|oJn h [(4,4),(11,11),(92,111)] [] (fun(v4_42,v11_43)=>(.n,[(4,Li aV v4_42),(11,Bo v11_43)],[])) (fun _ h=> ?_) (fun q h=> ?_)
 refine wAl rfl rfl rfl rfl<|xFd rfl<|xLd rfl<|xMv rfl<|xIo (fun c96_44=> .sl (c96_44.2.map aV)) h (lP ·) rfl (Qr _) (fun _=>FU _ _) (fun c96_44 h=> ?_)
 refine xMv rfl<|oIf 97 h rfl (fun q45 h=> ?_) (fun q45 h=> ?_)
 refine xMv rfl<|cD rfl<|xMv rfl<|xLn rfl<|xLt rfl<|xPk rfl<|xMv rfl<|oIf 104 h rfl (fun q46 h=> ?_) (fun q46 h=> ?_)
 refine wAl rfl rfl rfl rfl<|xMv rfl<|cD rfl<|xMv rfl<|sB rfl<|xIo (fun c110_47=> .sl (c110_47.2.map aV)) h (lP ·) rfl (Qr _) (fun _=>FU _ _) (fun c110_47 h=> ?_)
 exact xPk rfl<|xAs rfl<|oNl<|eJ h rfl
 exact wSk rfl<|wSk rfl<|wSk rfl<|wSk rfl<|wSk rfl<|wSk rfl<|xPk rfl<|xAs rfl<|oNl<|eJ h rfl
 refine wSk rfl<|wSk rfl<|wSk rfl<|wSk rfl<|wSk rfl<|xPk rfl<|xMv rfl<|wSk rfl<|wSk rfl<|wSk rfl<|wSk rfl<|wSk rfl<|wSk rfl<|xPk rfl ?_
 exact xAs rfl<|oNl<|eJ h rfl
 obtain⟨v4_42,v11_43⟩:=q
 refine cRs<|xMv rfl<|fC rfl<|oNl<|cIf h rfl (fun q48 h=> ?_) (fun q48 h=> ?_)
 exact cRs<|xMv rfl<|xAs rfl<|xAs rfl<|oNl<|cRt<|eJ h rfl
 exact cSk<|eJ h rfl
 refine cRg<|oJn h [(4,4),(11,11),(64,79)] [] (fun(v4_49,v11_50)=>(.n,[(4,Li aV v4_49),(11,Bo v11_50)],[])) (fun _ h=> ?_) (fun q h=> ?_)
 refine xMv rfl<|cD rfl<|xMv rfl<|xLn rfl<|xLt rfl<|xMv rfl<|oIf 69 h rfl (fun q51 h=> ?_) (fun q51 h=> ?_)
 refine wAl rfl rfl rfl rfl<|xMv rfl<|cD rfl<|xMv rfl<|xMv rfl<|sB rfl<|xMv rfl<|cD rfl<|xIo (fun c78_52=> .sl (c78_52.2.map aV)) h (lP ·) rfl (Qr _) (fun _=>FU _ _) (fun c78_52 h=> ?_)
 exact xPk rfl<|xAs rfl<|oNl<|eJ h rfl
 exact wSk rfl<|wSk rfl<|wSk rfl<|wSk rfl<|wSk rfl<|wSk rfl<|wSk rfl<|wSk rfl<|wSk rfl<|xPk rfl<|xAs rfl<|oNl<|eJ h rfl
 obtain⟨v4_49,v11_50⟩:=q
 refine cRs<|xMv rfl<|fC rfl<|oNl<|cIf h rfl (fun q53 h=> ?_) (fun q53 h=> ?_)
 exact cRs<|xMv rfl<|xAs rfl<|xAs rfl<|oNl<|cRt<|eJ h rfl
 exact cSk<|eJ h rfl
 rcases q with⟨v2_18,v3_19⟩ | ⟨v4_20,v113_21,w7_22,w7_23,w7_24,w7_25⟩
 exact eXr h rfl
 exact cRg<|xMv rfl<|cD rfl<|xAs rfl<|oNl<|eL h rfl
 exact cEx<|eX h rfl
 rcases q with⟨v2_12,v3_13⟩ | ⟨v4_14,v6_15,v28_16⟩
 cases h
 exact eR rfl rfl rfl rfl
 refine cRs<|xMv rfl<|xAs rfl<|xAs rfl<|oNl<|cRt ?_
 cases h
 exact eR rfl rfl rfl rfl
abbrev Ez(p:(List aB)→(List aA)→Int→Option (Bool)):Prop:= ∀ {t0_0:List aB} {t0_1:List aA} {t1_0:Int} {r:Bool},p t0_0 t0_1 t1_0=some r→Big Try.prog τ An (.fn 193 [.one (.ag [.sl (t0_0.map aG), .sl (t0_1.map aD)]), .one (.c (.int .i64 t1_0))] [] (.one (.c (.bool r))) none [] none)
def kN(n:Nat)(t0_0:List aB)(e13_1:aB)(t0_1:List aA):(Int)→Option ((Int)⊕((Bool)⊕(Int×Bool)))
  | v6_13=>bif decide (v6_13<(e13_1.f3.length:Int))then(kY n t0_0 t0_1 e13_1.f0 e13_1.f1 e13_1.f2 e13_1.f3 v6_13).bind fun c58_18=>bif !c58_18 then some (.inr (.inl false))else some (.inl (IntKind.wrap .i64 (v6_13+(1:Int))))else some (.inr (.inr (v6_13,false)))
def lF(n:Nat)(t0_0:List aB)(t0_1:List aA)(t1_0:Int):Option (Bool):=
  (ix t0_0 t1_0).bind fun e13_1=>((fO n e13_1.f0).bind fun c17_3=>bif !c17_3 then some true else(iA n t0_0 t0_1 e13_1.f0).bind fun c23_5=>bif !decide (c23_5=t1_0)then some true else(aP n e13_1.f1 (0:Int) (4:Int)).bind fun c30_7=>bif !c30_7 then some true else(aP n e13_1.f2 e13_1.f1 (400:Int)).bind fun c38_9=>bif !c38_9 then some true else(aP n (e13_1.f3.length:Int) (1:Int) (1500:Int)).bind fun c45_11=>some (!c45_11)).bind fun v47_2=>bif v47_2 then some false else(loopN (kN n t0_0 e13_1 t0_1) n (0:Int)).bind fun q=>(match q with | .inl v4_14=>some v4_14 | .inr (v6_15,v52_16)=>(iL n e13_1.f0 e13_1.f1 e13_1.f2 e13_1.f3).bind fun c62_20=>(ix e13_1.f3 (IntKind.wrap .i64 ((e13_1.f3.length:Int) - (1:Int)))).bind fun e71_21=>(bif c62_20.2 then bif decide (e71_21.f0=(12:Int))then some true else some (decide (e71_21.f0=(11:Int)))else some false).bind fun v4_22=>some v4_22)
theorem Bt{n:Nat}:Ez (lF n):=by
 intro t0_0 t0_1 t1_0 r h
 unfold lF at h
 refine bF Try.func193 rfl rfl<|cRs<|xBx rfl<|xAs rfl<|oRs<|xFd rfl<|xLd rfl<|xMv rfl<|xIx h bN rfl (fun e13_1 h=> ?_)
 refine xLd rfl<|xAz [.str [], .int .i64 0, .int .i64 0, .sl ([].map aJ)] rfl<|xSt rfl<|oNl<|cSq<|cRs<|oJn h [(15,47)] [] (fun v47_2=>(.n,[(47,Bo v47_2)],[])) (fun _ h=> ?_) (fun v47_2 h=> ?_)
 refine xFd rfl<|xLd rfl<|xC0 h (oE ·) rfl (fun c17_3 h=> ?_)
 refine fC rfl<|xMv rfl<|oIf 19 h rfl (fun q4 h=> ?_) (fun q4 h=> ?_)
 refine wSk rfl<|wSk rfl<|wSk rfl<|wSk rfl<|wSk rfl<|wSk rfl<|xPk rfl<|xMv rfl<|wSk rfl<|wSk rfl<|wSk rfl<|wSk rfl<|xPk rfl<|xMv rfl ?_
 refine wSk rfl<|wSk rfl<|wSk rfl<|wSk rfl<|wSk rfl<|wSk rfl<|xPk rfl<|xMv rfl<|wSk rfl<|wSk rfl<|wSk rfl<|wSk rfl<|wSk rfl<|xPk rfl ?_
 exact oNl<|eJ h rfl
 refine xLd rfl<|xFd rfl<|xLd rfl<|xC0 h (sQ ·) rfl (fun c23_5 h=> ?_)
 refine xMv rfl<|xNe rfl<|xPk rfl<|xMv rfl<|oIf 27 h rfl (fun q6 h=> ?_) (fun q6 h=> ?_)
 refine wSk rfl<|wSk rfl<|wSk rfl<|wSk rfl<|xPk rfl<|xMv rfl<|wSk rfl<|wSk rfl<|wSk rfl<|wSk rfl<|wSk rfl<|wSk rfl<|xPk rfl<|xMv rfl ?_
 exact wSk rfl<|wSk rfl<|wSk rfl<|wSk rfl<|wSk rfl<|xPk rfl<|oNl<|eJ h rfl
 refine xFd rfl<|xLd rfl<|xC0 h (aQ ·) rfl (fun c30_7 h=> ?_)
 refine fC rfl<|xPk rfl<|xMv rfl<|oIf 33 h rfl (fun q8 h=> ?_) (fun q8 h=> ?_)
 refine wSk rfl<|wSk rfl<|wSk rfl<|wSk rfl<|wSk rfl<|wSk rfl<|xPk rfl<|xMv rfl<|wSk rfl<|wSk rfl<|wSk rfl<|wSk rfl<|wSk rfl<|xPk rfl ?_
 exact oNl<|eJ h rfl
 refine xFd rfl<|xLd rfl<|xFd rfl<|xLd rfl<|xC0 h (aQ ·) rfl (fun c38_9 h=> ?_)
 refine fC rfl<|xPk rfl<|xMv rfl<|oIf 41 h rfl (fun q10 h=> ?_) (fun q10 h=> ?_)
 exact wSk rfl<|wSk rfl<|wSk rfl<|wSk rfl<|wSk rfl<|xPk rfl<|oNl<|eJ h rfl
 refine xFd rfl<|xLd rfl<|xLn rfl<|xC0 h (aQ ·) rfl (fun c45_11 h=> ?_)
 exact fC rfl<|xPk rfl<|oNl<|eJ h rfl
 refine cIf h rfl (fun q12 h=> ?_) (fun q12 h=> ?_)
 refine cRs<|xAs rfl<|oNl<|cRt ?_
 cases h
 exact eR rfl rfl rfl rfl
 refine cSk<|cSq<|cRs<|xAs rfl<|oNl<|cLp h [(4,4),(6,6),(48,59)] [] (fun v6_13=>([(6,I64 v6_13)],[])) (fun q=>match q with | .inl v4_14=>(.r,[(4,Bo v4_14)],[]) | .inr (v6_15,v52_16)=>(.e 0,[(6,I64 v6_15),(52,Bo v52_16)],[])) rfl (fun v6_13 _ h=> ?_) (fun q h=> ?_)
 unfold kN at h
 refine cSq<|cRs<|xMv rfl<|xFd rfl<|xLd rfl<|xLn rfl<|xLt rfl<|oNl<|cIf h rfl (fun q17 h=> ?_) (fun q17 h=> ?_)
 refine cSk<|cSq<|cBk<|cRs<|xLd rfl<|xLd rfl<|xMv rfl<|xC0 h (Cr ·) rfl (fun c58_18 h=> ?_)
 refine fC rfl<|oNl<|cIf h rfl (fun q19 h=> ?_) (fun q19 h=> ?_)
 exact cRs<|xAs rfl<|oNl<|cRt<|eXr h rfl
 exact cSk<|cRg<|xMv rfl<|cD rfl<|xAs rfl<|oNl<|eL h rfl
 exact cEx<|eX h rfl
 rcases q with v4_14 | ⟨v6_15,v52_16⟩
 cases h
 exact eR rfl rfl rfl rfl
 refine cRs<|xLd rfl<|xC0 h (wX ·) rfl (fun c62_20 h=> ?_)
 refine xMv rfl<|xEt rfl<|xEt rfl<|xAs rfl<|xAs rfl<|oRs<|xFd rfl<|xLd rfl<|xFd rfl<|xLd rfl<|xLn rfl<|sB rfl<|xIx h bS rfl (fun e71_21 h=> ?_)
 refine xFd rfl<|xLd rfl<|xAs rfl<|oRs<|oJn h [(4,4),(74,82)] [] (fun v4_22=>(.n,[(4,Bo v4_22)],[])) (fun _ h=> ?_) (fun v4_22 h=> ?_)
 refine xMv rfl<|xMv rfl<|oIf 75 h rfl (fun q23 h=> ?_) (fun q23 h=> ?_)
 refine xMv rfl<|xEq rfl<|xMv rfl<|oIf 78 h rfl (fun q24 h=> ?_) (fun q24 h=> ?_)
 exact wSk rfl<|wSk rfl<|xPk rfl<|xPk rfl<|xAs rfl<|oNl<|eJ h rfl
 exact xMv rfl<|xEq rfl<|xPk rfl<|xPk rfl<|xAs rfl<|oNl<|eJ h rfl
 exact wSk rfl<|wSk rfl<|wSk rfl<|wSk rfl<|wSk rfl<|wSk rfl<|xPk rfl<|xAs rfl<|oNl<|eJ h rfl
 refine cRt ?_
 cases h
 exact eR rfl rfl rfl rfl
abbrev FI(p:(List aB)→(List aA)→Option (Bool)):Prop:= ∀ {t0_0:List aB} {t0_1:List aA} {r:Bool},p t0_0 t0_1=some r→Big Try.prog τ An (.fn 102 [.one (.ag [.sl (t0_0.map aG), .sl (t0_1.map aD)])] [] (.one (.c (.bool r))) none [] none)
def kO(n:Nat)(t0_0:List aB)(t0_1:List aA):(Int)→Option ((Int)⊕((Bool)⊕(Int×Bool)))
  | v3_4=>bif decide (v3_4<(t0_0.length:Int))then(lF n t0_0 t0_1 v3_4).bind fun c23_9=>bif !c23_9 then some (.inr (.inl false))else some (.inl (IntKind.wrap .i64 (v3_4+(1:Int))))else some (.inr (.inr (v3_4,false)))
def lG(n:Nat)(t0_0:List aB)(t0_1:List aA):Option (Bool):=
  (bif decide ((12:Int)<(t0_0.length:Int))then some true else some (decide ((2000:Int)<(t0_1.length:Int)))).bind fun v13_1=>bif v13_1 then some false else(loopN (kO n t0_0 t0_1) n (0:Int)).bind fun q=>(match q with | .inl v2_5=>some v2_5 | .inr (v3_6,v18_7)=>some true)
theorem Bv{n:Nat}:FI (lG n):=by
 intro t0_0 t0_1 r h
 unfold lG at h
 refine bF Try.func102 rfl rfl<|cRs<|xBx rfl<|xAs rfl<|oNl<|cSq<|cRs<|oJn h [(4,13)] [] (fun v13_1=>(.n,[(13,Bo v13_1)],[])) (fun _ h=> ?_) (fun v13_1 h=> ?_)
 refine xFd rfl<|xLd rfl<|xLn rfl<|xGt rfl<|xMv rfl<|oIf 8 h rfl (fun q2 h=> ?_) (fun q2 h=> ?_)
 exact wSk rfl<|wSk rfl<|wSk rfl<|wSk rfl<|xPk rfl<|oNl<|eJ h rfl
 exact xFd rfl<|xLd rfl<|xLn rfl<|xGt rfl<|xPk rfl<|oNl<|eJ h rfl
 refine cIf h rfl (fun q3 h=> ?_) (fun q3 h=> ?_)
 refine cRs<|xAs rfl<|oNl<|cRt ?_
 cases h
 exact eR rfl rfl rfl rfl
 refine cSk<|cSq<|cRs<|xAs rfl<|oNl<|cLp h [(2,3),(14,24)] [] (fun v3_4=>([(3,I64 v3_4)],[])) (fun q=>match q with | .inl v2_5=>(.r,[(2,Bo v2_5)],[]) | .inr (v3_6,v18_7)=>(.e 0,[(3,I64 v3_6),(18,Bo v18_7)],[])) rfl (fun v3_4 _ h=> ?_) (fun q h=> ?_)
 unfold kO at h
 refine cSq<|cRs<|xMv rfl<|xFd rfl<|xLd rfl<|xLn rfl<|xLt rfl<|oNl<|cIf h rfl (fun q8 h=> ?_) (fun q8 h=> ?_)
 refine cSk<|cSq<|cBk<|cRs<|xLd rfl<|xMv rfl<|xC0 h (Bt ·) rfl (fun c23_9 h=> ?_)
 refine fC rfl<|oNl<|cIf h rfl (fun q10 h=> ?_) (fun q10 h=> ?_)
 exact cRs<|xAs rfl<|oNl<|cRt<|eXr h rfl
 exact cSk<|cRg<|xMv rfl<|cD rfl<|xAs rfl<|oNl<|eL h rfl
 exact cEx<|eX h rfl
 rcases q with v2_5 | ⟨v3_6,v18_7⟩
 cases h
 exact eR rfl rfl rfl rfl
 refine cRs<|xAs rfl<|oNl<|cRt ?_
 cases h
 exact eR rfl rfl rfl rfl
abbrev DC(p:(List aB)→(List aA)→Option (Bool)):Prop:= ∀ {t0_0:List aB} {t0_1:List aA} {r:Bool},p t0_0 t0_1=some r→Big Try.prog τ An (.fn 103 [.one (.ag [.sl (t0_0.map aG), .sl (t0_1.map aD)])] [] (.one (.c (.bool r))) none [] none)
def jQ(n:Nat)(t0_1:List aA):(Int)→Option ((Int)⊕((Bool)⊕(Int×Bool)))
  | v3_1=>bif decide (v3_1<(t0_1.length:Int))then(ix t0_1 v3_1).bind fun e14_6=>(gE n e14_6.f0 e14_6.f1 e14_6.f2 e14_6.f3 (400:Int)).bind fun c16_7=>bif !c16_7 then some (.inr (.inl false))else some (.inl (IntKind.wrap .i64 (v3_1+(1:Int))))else some (.inr (.inr (v3_1,false)))
def kD(n:Nat)(t0_0:List aB)(t0_1:List aA):Option (Bool):=
  (loopN (jQ n t0_1) n (0:Int)).bind fun q=>(match q with | .inl v2_2=>some v2_2 | .inr (v3_3,v8_4)=>some true)
theorem AF{n:Nat}:DC (kD n):=by
 intro t0_0 t0_1 r h
 unfold kD at h
 refine bF Try.func103 rfl rfl<|cRs<|xBx rfl<|xAs rfl<|oNl<|cSq<|cRs<|xAs rfl<|oNl<|cLp h [(2,17)] [] (fun v3_1=>([(3,I64 v3_1)],[])) (fun q=>match q with | .inl v2_2=>(.r,[(2,Bo v2_2)],[]) | .inr (v3_3,v8_4)=>(.e 0,[(3,I64 v3_3),(8,Bo v8_4)],[])) rfl (fun v3_1 _ h=> ?_) (fun q h=> ?_)
 unfold jQ at h
 refine cSq<|cRs<|xMv rfl<|xFd rfl<|xLd rfl<|xLn rfl<|xLt rfl<|oNl<|cIf h rfl (fun q5 h=> ?_) (fun q5 h=> ?_)
 refine cSk<|cSq<|cBk<|cRs<|xFd rfl<|xLd rfl<|xMv rfl<|xIx h aH rfl (fun e14_6 h=> ?_)
 refine xLd rfl<|xC0 h (rI ·) rfl (fun c16_7 h=> ?_)
 refine fC rfl<|oNl<|cIf h rfl (fun q8 h=> ?_) (fun q8 h=> ?_)
 exact cRs<|xAs rfl<|oNl<|cRt<|eXr h rfl
 exact cSk<|cRg<|xMv rfl<|cD rfl<|xAs rfl<|oNl<|eL h rfl
 exact cEx<|eX h rfl
 rcases q with v2_2 | ⟨v3_3,v8_4⟩
 cases h
 exact eR rfl rfl rfl rfl
 refine cRs<|xAs rfl<|oNl<|cRt ?_
 cases h
 exact eR rfl rfl rfl rfl
abbrev FG(p:(List Int)→Int→Option ((List Int))):Prop:= ∀ {t0_0:List Int} {t1_0:Int} {r:(List Int)},p t0_0 t1_0=some r→Big Try.prog τ An (.fn 104 [.one (.c (.sl (t0_0.map rI_u8))), .one (.c (.int .i64 t1_0))] [] (.one (.c (.sl (r.map rI_u8)))) none [] none)
def bR(n:Nat):((List Int)×Int)→Option (((List Int)×Int)⊕(((List Int)×Int×Bool)))
  | (v5_5,v6_6)=>bif decide ((127:Int)<v6_6)then(iI 1 v5_5 ([(IntKind.wrap .u8 (bits .or .i64 (bits .and .i64 v6_6 (127:Int)) (128:Int)))]:List Int)).bind fun v29_11=>some (.inl (v29_11,(Int.fdiv v6_6 (2 ^ 7))))else some (.inr (v5_5,v6_6,false))
def nC(n:Nat):((List Int)×Int)→Option (((List Int)×Int)⊕(((List Int)×Int×Bool)))
  | (v5_13,v6_14)=>bif decide ((127:Int)<v6_14)then(iI 1 v5_13 ([(IntKind.wrap .u8 (bits .or .i64 (bits .and .i64 v6_14 (127:Int)) (128:Int)))]:List Int)).bind fun v29_19=>some (.inl (v29_19,(Int.fdiv v6_14 (2 ^ 7))))else some (.inr (v5_13,v6_14,false))
def nB(n:Nat):((List Int)×Int)→Option (((List Int)×Int)⊕(((List Int)×Int×Bool)))
  | (v5_22,v6_23)=>bif decide ((127:Int)<v6_23)then(iI 1 v5_22 ([(IntKind.wrap .u8 (bits .or .i64 (bits .and .i64 v6_23 (127:Int)) (128:Int)))]:List Int)).bind fun v29_28=>some (.inl (v29_28,(Int.fdiv v6_23 (2 ^ 7))))else some (.inr (v5_22,v6_23,false))
def nA(n:Nat):((List Int)×Int)→Option (((List Int)×Int)⊕(((List Int)×Int×Bool)))
  | (v5_30,v6_31)=>bif decide ((127:Int)<v6_31)then(iI 1 v5_30 ([(IntKind.wrap .u8 (bits .or .i64 (bits .and .i64 v6_31 (127:Int)) (128:Int)))]:List Int)).bind fun v29_36=>some (.inl (v29_36,(Int.fdiv v6_31 (2 ^ 7))))else some (.inr (v5_30,v6_31,false))
def mZ(n:Nat):((List Int)×Int)→Option (((List Int)×Int)⊕(((List Int)×Int×Bool)))
  | (v5_40,v6_41)=>bif decide ((127:Int)<v6_41)then(iI 1 v5_40 ([(IntKind.wrap .u8 (bits .or .i64 (bits .and .i64 v6_41 (127:Int)) (128:Int)))]:List Int)).bind fun v29_46=>some (.inl (v29_46,(Int.fdiv v6_41 (2 ^ 7))))else some (.inr (v5_40,v6_41,false))
def mY(n:Nat):((List Int)×Int)→Option (((List Int)×Int)⊕(((List Int)×Int×Bool)))
  | (v5_48,v6_49)=>bif decide ((127:Int)<v6_49)then(iI 1 v5_48 ([(IntKind.wrap .u8 (bits .or .i64 (bits .and .i64 v6_49 (127:Int)) (128:Int)))]:List Int)).bind fun v29_54=>some (.inl (v29_54,(Int.fdiv v6_49 (2 ^ 7))))else some (.inr (v5_48,v6_49,false))
def mX(n:Nat):((List Int)×Int)→Option (((List Int)×Int)⊕(((List Int)×Int×Bool)))
  | (v5_57,v6_58)=>bif decide ((127:Int)<v6_58)then(iI 1 v5_57 ([(IntKind.wrap .u8 (bits .or .i64 (bits .and .i64 v6_58 (127:Int)) (128:Int)))]:List Int)).bind fun v29_63=>some (.inl (v29_63,(Int.fdiv v6_58 (2 ^ 7))))else some (.inr (v5_57,v6_58,false))
def mW(n:Nat):((List Int)×Int)→Option (((List Int)×Int)⊕(((List Int)×Int×Bool)))
  | (v5_65,v6_66)=>bif decide ((127:Int)<v6_66)then(iI 1 v5_65 ([(IntKind.wrap .u8 (bits .or .i64 (bits .and .i64 v6_66 (127:Int)) (128:Int)))]:List Int)).bind fun v29_71=>some (.inl (v29_71,(Int.fdiv v6_66 (2 ^ 7))))else some (.inr (v5_65,v6_66,false))
def aZ(n:Nat)(t0_0:List Int)(t1_0:Int):Option ((List Int)):=
  (iI 1 ([]:List Int) t0_0).bind fun v9_1=>bif decide ((1000000000000:Int)<t1_0)then bif decide ((1000000000000:Int)<((-1000000000000):Int))then bif decide (((-1000000000000):Int)<(0:Int))then(loopN (bR n) n (v9_1,(IntKind.wrap .i64 ((IntKind.wrap .i64 (((-2):Int)*((-1000000000000):Int))) - (1:Int))))).bind fun(v5_7,v6_8,v22_9)=>(iI 1 v5_7 ([(IntKind.wrap .u8 v6_8)]:List Int)).bind fun v36_12=>some v36_12 else(loopN (nC n) n (v9_1,(IntKind.wrap .i64 ((2:Int)*((-1000000000000):Int))))).bind fun(v5_15,v6_16,v22_17)=>(iI 1 v5_15 ([(IntKind.wrap .u8 v6_16)]:List Int)).bind fun v36_20=>some v36_20 else bif decide ((1000000000000:Int)<(0:Int))then(loopN (nB n) n (v9_1,(IntKind.wrap .i64 ((IntKind.wrap .i64 (((-2):Int)*(1000000000000:Int))) - (1:Int))))).bind fun(v5_24,v6_25,v22_26)=>(iI 1 v5_24 ([(IntKind.wrap .u8 v6_25)]:List Int)).bind fun v36_29=>some v36_29 else(loopN (nA n) n (v9_1,(IntKind.wrap .i64 ((2:Int)*(1000000000000:Int))))).bind fun(v5_32,v6_33,v22_34)=>(iI 1 v5_32 ([(IntKind.wrap .u8 v6_33)]:List Int)).bind fun v36_37=>some v36_37 else bif decide (t1_0<((-1000000000000):Int))then bif decide (((-1000000000000):Int)<(0:Int))then(loopN (mZ n) n (v9_1,(IntKind.wrap .i64 ((IntKind.wrap .i64 (((-2):Int)*((-1000000000000):Int))) - (1:Int))))).bind fun(v5_42,v6_43,v22_44)=>(iI 1 v5_42 ([(IntKind.wrap .u8 v6_43)]:List Int)).bind fun v36_47=>some v36_47 else(loopN (mY n) n (v9_1,(IntKind.wrap .i64 ((2:Int)*((-1000000000000):Int))))).bind fun(v5_50,v6_51,v22_52)=>(iI 1 v5_50 ([(IntKind.wrap .u8 v6_51)]:List Int)).bind fun v36_55=>some v36_55 else bif decide (t1_0<(0:Int))then(loopN (mX n) n (v9_1,(IntKind.wrap .i64 ((IntKind.wrap .i64 (((-2):Int)*t1_0)) - (1:Int))))).bind fun(v5_59,v6_60,v22_61)=>(iI 1 v5_59 ([(IntKind.wrap .u8 v6_60)]:List Int)).bind fun v36_64=>some v36_64 else(loopN (mW n) n (v9_1,(IntKind.wrap .i64 ((2:Int)*t1_0)))).bind fun(v5_67,v6_68,v22_69)=>(iI 1 v5_67 ([(IntKind.wrap .u8 v6_68)]:List Int)).bind fun v36_72=>some v36_72
theorem bP{n:Nat}:FG (aZ n):=by
 intro t0_0 t1_0 r h
 unfold aZ at h
 refine bF Try.func104 rfl rfl<|cRs<|wAe (Li rI_u8 []) rfl rfl rfl rfl<|oRs<|nG (L:=([]:List Int)) (f:=rI_u8) rfl rfl rfl rfl rfl rfl rfl<|xMv rfl<|wAp (f:=rI_u8) h rfl rfl rfl rfl rfl rfl rfl rfl rfl (fun _=>rfl) rfl (fun v9_1 h=> ?_)
 refine xAs rfl<|oNl<|cSq<|cRs<|xMv rfl<|xGt rfl<|oNl<|cIf h rfl (fun q2 h=> ?_) (fun q2 h=> ?_)
 refine cRg<|xAs rfl<|oNl<|cSq<|cRs<|xMv rfl<|xLt rfl<|oNl<|cIf h rfl (fun q3 h=> ?_) (fun q3 h=> ?_)
 refine cRg<|xAs rfl<|oNl<|cRs<|xMv rfl<|HB rfl<|xAs rfl<|oNl<|cSq<|cRs<|xMv rfl<|xLt rfl<|oNl<|cIf h rfl (fun q4 h=> ?_) (fun q4 h=> ?_)
 refine cRg<|xMv rfl<|HB rfl<|sB rfl<|xAs rfl<|oNl<|cSq<|cLp h [(5,6),(21,31)] [] (fun(v5_5,v6_6)=>([(5,Li rI_u8 v5_5),(6,I64 v6_6)],[])) (fun(v5_7,v6_8,v22_9)=>(.e 0,[(5,Li rI_u8 v5_7),(6,I64 v6_8),(22,Bo v22_9)],[])) rfl (fun st _ h=> ?_) (fun q h=> ?_)
 obtain⟨v5_5,v6_6⟩:=st
 unfold bR at h
 refine cSq<|cRs<|xMv rfl<|xGt rfl<|oNl<|cIf h rfl (fun q10 h=> ?_) (fun q10 h=> ?_)
 refine cSk<|cBk<|cRs<|xMv rfl<|xMv rfl<|wBi (.int .i64 (bits .and .i64 v6_6 (127:Int))) rfl rfl rfl rfl rfl<|wBi (.int .i64 (bits .or .i64 (bits .and .i64 v6_6 (127:Int)) (128:Int))) rfl rfl rfl rfl rfl<|wCv rfl rfl rfl rfl rfl<|nG (L:=([(IntKind.wrap .u8 (bits .or .i64 (bits .and .i64 v6_6 (127:Int)) (128:Int)))]:List Int)) (f:=rI_u8) rfl rfl rfl rfl rfl rfl rfl<|wAp (f:=rI_u8) h rfl rfl rfl rfl rfl rfl rfl rfl rfl (fun _=>rfl) rfl (fun v29_11 h=> ?_)
 exact xAs rfl<|oNl<|cRg<|xMv rfl<|wBi (.int .i64 (Int.fdiv v6_6 (2 ^ 7))) rfl rfl rfl rfl rfl<|xAs rfl<|oNl<|eL h rfl
 exact cEx<|eX h rfl
 obtain⟨v5_7,v6_8,v22_9⟩:=q
 refine cRs<|xMv rfl<|xMv rfl<|wCv rfl rfl rfl rfl rfl<|nG (L:=([(IntKind.wrap .u8 v6_8)]:List Int)) (f:=rI_u8) rfl rfl rfl rfl rfl rfl rfl<|wAp (f:=rI_u8) h rfl rfl rfl rfl rfl rfl rfl rfl rfl (fun _=>rfl) rfl (fun v36_12 h=> ?_)
 refine xAs rfl<|oNl<|cRt ?_
 cases h
 exact eR rfl rfl rfl rfl
 refine cSk<|cSq<|cLp h [(5,6),(21,31)] [] (fun(v5_13,v6_14)=>([(5,Li rI_u8 v5_13),(6,I64 v6_14)],[])) (fun(v5_15,v6_16,v22_17)=>(.e 0,[(5,Li rI_u8 v5_15),(6,I64 v6_16),(22,Bo v22_17)],[])) rfl (fun st _ h=> ?_) (fun q h=> ?_)
 obtain⟨v5_13,v6_14⟩:=st
 unfold nC at h
 refine cSq<|cRs<|xMv rfl<|xGt rfl<|oNl<|cIf h rfl (fun q18 h=> ?_) (fun q18 h=> ?_)
 refine cSk<|cBk<|cRs<|xMv rfl<|xMv rfl<|wBi (.int .i64 (bits .and .i64 v6_14 (127:Int))) rfl rfl rfl rfl rfl<|wBi (.int .i64 (bits .or .i64 (bits .and .i64 v6_14 (127:Int)) (128:Int))) rfl rfl rfl rfl rfl<|wCv rfl rfl rfl rfl rfl<|nG (L:=([(IntKind.wrap .u8 (bits .or .i64 (bits .and .i64 v6_14 (127:Int)) (128:Int)))]:List Int)) (f:=rI_u8) rfl rfl rfl rfl rfl rfl rfl<|wAp (f:=rI_u8) h rfl rfl rfl rfl rfl rfl rfl rfl rfl (fun _=>rfl) rfl (fun v29_19 h=> ?_)
 exact xAs rfl<|oNl<|cRg<|xMv rfl<|wBi (.int .i64 (Int.fdiv v6_14 (2 ^ 7))) rfl rfl rfl rfl rfl<|xAs rfl<|oNl<|eL h rfl
 exact cEx<|eX h rfl
 obtain⟨v5_15,v6_16,v22_17⟩:=q
 refine cRs<|xMv rfl<|xMv rfl<|wCv rfl rfl rfl rfl rfl<|nG (L:=([(IntKind.wrap .u8 v6_16)]:List Int)) (f:=rI_u8) rfl rfl rfl rfl rfl rfl rfl<|wAp (f:=rI_u8) h rfl rfl rfl rfl rfl rfl rfl rfl rfl (fun _=>rfl) rfl (fun v36_20 h=> ?_)
 refine xAs rfl<|oNl<|cRt ?_
 cases h
 exact eR rfl rfl rfl rfl
 refine cSk<|cRs<|xMv rfl<|HB rfl<|xAs rfl<|oNl<|cSq<|cRs<|xMv rfl<|xLt rfl<|oNl<|cIf h rfl (fun q21 h=> ?_) (fun q21 h=> ?_)
 refine cRg<|xMv rfl<|HB rfl<|sB rfl<|xAs rfl<|oNl<|cSq<|cLp h [(5,6),(21,31)] [] (fun(v5_22,v6_23)=>([(5,Li rI_u8 v5_22),(6,I64 v6_23)],[])) (fun(v5_24,v6_25,v22_26)=>(.e 0,[(5,Li rI_u8 v5_24),(6,I64 v6_25),(22,Bo v22_26)],[])) rfl (fun st _ h=> ?_) (fun q h=> ?_)
 obtain⟨v5_22,v6_23⟩:=st
 unfold nB at h
 refine cSq<|cRs<|xMv rfl<|xGt rfl<|oNl<|cIf h rfl (fun q27 h=> ?_) (fun q27 h=> ?_)
 refine cSk<|cBk<|cRs<|xMv rfl<|xMv rfl<|wBi (.int .i64 (bits .and .i64 v6_23 (127:Int))) rfl rfl rfl rfl rfl<|wBi (.int .i64 (bits .or .i64 (bits .and .i64 v6_23 (127:Int)) (128:Int))) rfl rfl rfl rfl rfl<|wCv rfl rfl rfl rfl rfl<|nG (L:=([(IntKind.wrap .u8 (bits .or .i64 (bits .and .i64 v6_23 (127:Int)) (128:Int)))]:List Int)) (f:=rI_u8) rfl rfl rfl rfl rfl rfl rfl<|wAp (f:=rI_u8) h rfl rfl rfl rfl rfl rfl rfl rfl rfl (fun _=>rfl) rfl (fun v29_28 h=> ?_)
 exact xAs rfl<|oNl<|cRg<|xMv rfl<|wBi (.int .i64 (Int.fdiv v6_23 (2 ^ 7))) rfl rfl rfl rfl rfl<|xAs rfl<|oNl<|eL h rfl
 exact cEx<|eX h rfl
 obtain⟨v5_24,v6_25,v22_26⟩:=q
 refine cRs<|xMv rfl<|xMv rfl<|wCv rfl rfl rfl rfl rfl<|nG (L:=([(IntKind.wrap .u8 v6_25)]:List Int)) (f:=rI_u8) rfl rfl rfl rfl rfl rfl rfl<|wAp (f:=rI_u8) h rfl rfl rfl rfl rfl rfl rfl rfl rfl (fun _=>rfl) rfl (fun v36_29 h=> ?_)
 refine xAs rfl<|oNl<|cRt ?_
 cases h
 exact eR rfl rfl rfl rfl
 refine cSk<|cSq<|cLp h [(5,6),(21,31)] [] (fun(v5_30,v6_31)=>([(5,Li rI_u8 v5_30),(6,I64 v6_31)],[])) (fun(v5_32,v6_33,v22_34)=>(.e 0,[(5,Li rI_u8 v5_32),(6,I64 v6_33),(22,Bo v22_34)],[])) rfl (fun st _ h=> ?_) (fun q h=> ?_)
 obtain⟨v5_30,v6_31⟩:=st
 unfold nA at h
 refine cSq<|cRs<|xMv rfl<|xGt rfl<|oNl<|cIf h rfl (fun q35 h=> ?_) (fun q35 h=> ?_)
 refine cSk<|cBk<|cRs<|xMv rfl<|xMv rfl<|wBi (.int .i64 (bits .and .i64 v6_31 (127:Int))) rfl rfl rfl rfl rfl<|wBi (.int .i64 (bits .or .i64 (bits .and .i64 v6_31 (127:Int)) (128:Int))) rfl rfl rfl rfl rfl<|wCv rfl rfl rfl rfl rfl<|nG (L:=([(IntKind.wrap .u8 (bits .or .i64 (bits .and .i64 v6_31 (127:Int)) (128:Int)))]:List Int)) (f:=rI_u8) rfl rfl rfl rfl rfl rfl rfl<|wAp (f:=rI_u8) h rfl rfl rfl rfl rfl rfl rfl rfl rfl (fun _=>rfl) rfl (fun v29_36 h=> ?_)
 exact xAs rfl<|oNl<|cRg<|xMv rfl<|wBi (.int .i64 (Int.fdiv v6_31 (2 ^ 7))) rfl rfl rfl rfl rfl<|xAs rfl<|oNl<|eL h rfl
 exact cEx<|eX h rfl
 obtain⟨v5_32,v6_33,v22_34⟩:=q
 refine cRs<|xMv rfl<|xMv rfl<|wCv rfl rfl rfl rfl rfl<|nG (L:=([(IntKind.wrap .u8 v6_33)]:List Int)) (f:=rI_u8) rfl rfl rfl rfl rfl rfl rfl<|wAp (f:=rI_u8) h rfl rfl rfl rfl rfl rfl rfl rfl rfl (fun _=>rfl) rfl (fun v36_37 h=> ?_)
 refine xAs rfl<|oNl<|cRt ?_
 cases h
 exact eR rfl rfl rfl rfl
 refine cSk<|cSq<|cRs<|xMv rfl<|xLt rfl<|oNl<|cIf h rfl (fun q38 h=> ?_) (fun q38 h=> ?_)
 refine cRg<|xAs rfl<|oNl<|cRs<|xMv rfl<|HB rfl<|xAs rfl<|oNl<|cSq<|cRs<|xMv rfl<|xLt rfl<|oNl<|cIf h rfl (fun q39 h=> ?_) (fun q39 h=> ?_)
 refine cRg<|xMv rfl<|HB rfl<|sB rfl<|xAs rfl<|oNl<|cSq<|cLp h [(5,6),(21,31)] [] (fun(v5_40,v6_41)=>([(5,Li rI_u8 v5_40),(6,I64 v6_41)],[])) (fun(v5_42,v6_43,v22_44)=>(.e 0,[(5,Li rI_u8 v5_42),(6,I64 v6_43),(22,Bo v22_44)],[])) rfl (fun st _ h=> ?_) (fun q h=> ?_)
 obtain⟨v5_40,v6_41⟩:=st
 unfold mZ at h
 refine cSq<|cRs<|xMv rfl<|xGt rfl<|oNl<|cIf h rfl (fun q45 h=> ?_) (fun q45 h=> ?_)
 refine cSk<|cBk<|cRs<|xMv rfl<|xMv rfl<|wBi (.int .i64 (bits .and .i64 v6_41 (127:Int))) rfl rfl rfl rfl rfl<|wBi (.int .i64 (bits .or .i64 (bits .and .i64 v6_41 (127:Int)) (128:Int))) rfl rfl rfl rfl rfl<|wCv rfl rfl rfl rfl rfl<|nG (L:=([(IntKind.wrap .u8 (bits .or .i64 (bits .and .i64 v6_41 (127:Int)) (128:Int)))]:List Int)) (f:=rI_u8) rfl rfl rfl rfl rfl rfl rfl<|wAp (f:=rI_u8) h rfl rfl rfl rfl rfl rfl rfl rfl rfl (fun _=>rfl) rfl (fun v29_46 h=> ?_)
 exact xAs rfl<|oNl<|cRg<|xMv rfl<|wBi (.int .i64 (Int.fdiv v6_41 (2 ^ 7))) rfl rfl rfl rfl rfl<|xAs rfl<|oNl<|eL h rfl
 exact cEx<|eX h rfl
 obtain⟨v5_42,v6_43,v22_44⟩:=q
 refine cRs<|xMv rfl<|xMv rfl<|wCv rfl rfl rfl rfl rfl<|nG (L:=([(IntKind.wrap .u8 v6_43)]:List Int)) (f:=rI_u8) rfl rfl rfl rfl rfl rfl rfl<|wAp (f:=rI_u8) h rfl rfl rfl rfl rfl rfl rfl rfl rfl (fun _=>rfl) rfl (fun v36_47 h=> ?_)
 refine xAs rfl<|oNl<|cRt ?_
 cases h
 exact eR rfl rfl rfl rfl
 refine cSk<|cSq<|cLp h [(5,6),(21,31)] [] (fun(v5_48,v6_49)=>([(5,Li rI_u8 v5_48),(6,I64 v6_49)],[])) (fun(v5_50,v6_51,v22_52)=>(.e 0,[(5,Li rI_u8 v5_50),(6,I64 v6_51),(22,Bo v22_52)],[])) rfl (fun st _ h=> ?_) (fun q h=> ?_)
 obtain⟨v5_48,v6_49⟩:=st
 unfold mY at h
 refine cSq<|cRs<|xMv rfl<|xGt rfl<|oNl<|cIf h rfl (fun q53 h=> ?_) (fun q53 h=> ?_)
 refine cSk<|cBk<|cRs<|xMv rfl<|xMv rfl<|wBi (.int .i64 (bits .and .i64 v6_49 (127:Int))) rfl rfl rfl rfl rfl<|wBi (.int .i64 (bits .or .i64 (bits .and .i64 v6_49 (127:Int)) (128:Int))) rfl rfl rfl rfl rfl<|wCv rfl rfl rfl rfl rfl<|nG (L:=([(IntKind.wrap .u8 (bits .or .i64 (bits .and .i64 v6_49 (127:Int)) (128:Int)))]:List Int)) (f:=rI_u8) rfl rfl rfl rfl rfl rfl rfl<|wAp (f:=rI_u8) h rfl rfl rfl rfl rfl rfl rfl rfl rfl (fun _=>rfl) rfl (fun v29_54 h=> ?_)
 exact xAs rfl<|oNl<|cRg<|xMv rfl<|wBi (.int .i64 (Int.fdiv v6_49 (2 ^ 7))) rfl rfl rfl rfl rfl<|xAs rfl<|oNl<|eL h rfl
 exact cEx<|eX h rfl
 obtain⟨v5_50,v6_51,v22_52⟩:=q
 refine cRs<|xMv rfl<|xMv rfl<|wCv rfl rfl rfl rfl rfl<|nG (L:=([(IntKind.wrap .u8 v6_51)]:List Int)) (f:=rI_u8) rfl rfl rfl rfl rfl rfl rfl<|wAp (f:=rI_u8) h rfl rfl rfl rfl rfl rfl rfl rfl rfl (fun _=>rfl) rfl (fun v36_55 h=> ?_)
 refine xAs rfl<|oNl<|cRt ?_
 cases h
 exact eR rfl rfl rfl rfl
 refine cSk<|cRs<|xMv rfl<|HB rfl<|xAs rfl<|oNl<|cSq<|cRs<|xMv rfl<|xLt rfl<|oNl<|cIf h rfl (fun q56 h=> ?_) (fun q56 h=> ?_)
 refine cRg<|xMv rfl<|HB rfl<|sB rfl<|xAs rfl<|oNl<|cSq<|cLp h [(5,6),(21,31)] [] (fun(v5_57,v6_58)=>([(5,Li rI_u8 v5_57),(6,I64 v6_58)],[])) (fun(v5_59,v6_60,v22_61)=>(.e 0,[(5,Li rI_u8 v5_59),(6,I64 v6_60),(22,Bo v22_61)],[])) rfl (fun st _ h=> ?_) (fun q h=> ?_)
 obtain⟨v5_57,v6_58⟩:=st
 unfold mX at h
 refine cSq<|cRs<|xMv rfl<|xGt rfl<|oNl<|cIf h rfl (fun q62 h=> ?_) (fun q62 h=> ?_)
 refine cSk<|cBk<|cRs<|xMv rfl<|xMv rfl<|wBi (.int .i64 (bits .and .i64 v6_58 (127:Int))) rfl rfl rfl rfl rfl<|wBi (.int .i64 (bits .or .i64 (bits .and .i64 v6_58 (127:Int)) (128:Int))) rfl rfl rfl rfl rfl<|wCv rfl rfl rfl rfl rfl<|nG (L:=([(IntKind.wrap .u8 (bits .or .i64 (bits .and .i64 v6_58 (127:Int)) (128:Int)))]:List Int)) (f:=rI_u8) rfl rfl rfl rfl rfl rfl rfl<|wAp (f:=rI_u8) h rfl rfl rfl rfl rfl rfl rfl rfl rfl (fun _=>rfl) rfl (fun v29_63 h=> ?_)
 exact xAs rfl<|oNl<|cRg<|xMv rfl<|wBi (.int .i64 (Int.fdiv v6_58 (2 ^ 7))) rfl rfl rfl rfl rfl<|xAs rfl<|oNl<|eL h rfl
 exact cEx<|eX h rfl
 obtain⟨v5_59,v6_60,v22_61⟩:=q
 refine cRs<|xMv rfl<|xMv rfl<|wCv rfl rfl rfl rfl rfl<|nG (L:=([(IntKind.wrap .u8 v6_60)]:List Int)) (f:=rI_u8) rfl rfl rfl rfl rfl rfl rfl<|wAp (f:=rI_u8) h rfl rfl rfl rfl rfl rfl rfl rfl rfl (fun _=>rfl) rfl (fun v36_64 h=> ?_)
 refine xAs rfl<|oNl<|cRt ?_
 cases h
 exact eR rfl rfl rfl rfl
 refine cSk<|cSq<|cLp h [(5,6),(21,31)] [] (fun(v5_65,v6_66)=>([(5,Li rI_u8 v5_65),(6,I64 v6_66)],[])) (fun(v5_67,v6_68,v22_69)=>(.e 0,[(5,Li rI_u8 v5_67),(6,I64 v6_68),(22,Bo v22_69)],[])) rfl (fun st _ h=> ?_) (fun q h=> ?_)
 obtain⟨v5_65,v6_66⟩:=st
 unfold mW at h
 refine cSq<|cRs<|xMv rfl<|xGt rfl<|oNl<|cIf h rfl (fun q70 h=> ?_) (fun q70 h=> ?_)
 refine cSk<|cBk<|cRs<|xMv rfl<|xMv rfl<|wBi (.int .i64 (bits .and .i64 v6_66 (127:Int))) rfl rfl rfl rfl rfl<|wBi (.int .i64 (bits .or .i64 (bits .and .i64 v6_66 (127:Int)) (128:Int))) rfl rfl rfl rfl rfl<|wCv rfl rfl rfl rfl rfl<|nG (L:=([(IntKind.wrap .u8 (bits .or .i64 (bits .and .i64 v6_66 (127:Int)) (128:Int)))]:List Int)) (f:=rI_u8) rfl rfl rfl rfl rfl rfl rfl<|wAp (f:=rI_u8) h rfl rfl rfl rfl rfl rfl rfl rfl rfl (fun _=>rfl) rfl (fun v29_71 h=> ?_)
 exact xAs rfl<|oNl<|cRg<|xMv rfl<|wBi (.int .i64 (Int.fdiv v6_66 (2 ^ 7))) rfl rfl rfl rfl rfl<|xAs rfl<|oNl<|eL h rfl
 exact cEx<|eX h rfl
 obtain⟨v5_67,v6_68,v22_69⟩:=q
 refine cRs<|xMv rfl<|xMv rfl<|wCv rfl rfl rfl rfl rfl<|nG (L:=([(IntKind.wrap .u8 v6_68)]:List Int)) (f:=rI_u8) rfl rfl rfl rfl rfl rfl rfl<|wAp (f:=rI_u8) h rfl rfl rfl rfl rfl rfl rfl rfl rfl (fun _=>rfl) rfl (fun v36_72 h=> ?_)
 refine xAs rfl<|oNl<|cRt ?_
 cases h
 exact eR rfl rfl rfl rfl
abbrev DD(p:(List Int)→(List UInt8)→Option ((List Int))):Prop:= ∀ {t0_0:List Int} {t1_0:List UInt8} {r:(List Int)},p t0_0 t1_0=some r→Big Try.prog τ An (.fn 105 [.one (.c (.sl (t0_0.map rI_u8))), .one (.c (.str t1_0))] [] (.one (.c (.sl (r.map rI_u8)))) none [] none)
def gD(n:Nat)(t0_0:List Int)(t1_0:List UInt8):Option ((List Int)):=
  (aZ n t0_0 (t1_0.length:Int)).bind fun c8_1=>(iI 1 c8_1 (t1_0.map fun c=>((c.toNat:Nat):Int))).bind fun v10_2=>some v10_2
theorem nE{n:Nat}:DD (gD n):=by
 intro t0_0 t1_0 r h
 unfold gD at h
 refine bF Try.func105 rfl rfl<|cRs<|wAe (Li rI_u8 []) rfl rfl rfl rfl<|oRs<|xMv rfl<|xMv rfl<|xLs rfl<|xC0 h (bP ·) rfl (fun c8_1 h=> ?_)
 refine xMv rfl<|wAps (f:=rI_u8) h rfl rfl rfl rfl rfl (fun _=>rfl) rfl (fun _=>rfl) rfl (fun v10_2 h=> ?_)
 refine xAs rfl<|oNl<|cRt ?_
 cases h
 exact eR rfl rfl rfl rfl
abbrev fN:Type:=(List Int)→Int→Int→(List UInt8)→(List aA)→Option ((List Int))
abbrev kW(p:fN):Prop:= ∀ {t0_0:List Int} {t1_0 t1_1:Int} {t1_2:List UInt8} {t1_3:List aA} {r:(List Int)},p t0_0 t1_0 t1_1 t1_2 t1_3=some r→Big Try.prog τ An (.fn 106 [.one (.c (.sl (t0_0.map rI_u8))), .one (.ag [.int .i64 t1_0, .int .i64 t1_1, .str t1_2, .sl (t1_3.map aD)])] [] (.one (.c (.sl (r.map rI_u8)))) none [] none)
def eW(n:Nat)(r_spec_l11PutPat:fN)(t1_3:List aA):((List Int)×Int)→Option (((List Int)×Int)⊕(((List Int)×Int×Bool)))
  | (v0_5,v5_6)=>bif decide (v5_6<(t1_3.length:Int))then(ix t1_3 v5_6).bind fun e31_11=>(r_spec_l11PutPat v0_5 e31_11.f0 e31_11.f1 e31_11.f2 e31_11.f3).bind fun c33_12=>some (.inl (c33_12,(IntKind.wrap .i64 (v5_6+(1:Int)))))else some (.inr (v0_5,v5_6,false))
def iK(n:Nat)(r_spec_l11PutPat:fN)(t0_0:List Int)(t1_0:Int)(t1_1:Int)(t1_2:List UInt8)(t1_3:List aA):Option ((List Int)):=
  (aZ n t0_0 t1_0).bind fun c9_1=>(aZ n c9_1 t1_1).bind fun c12_2=>(gD n c12_2 t1_2).bind fun c15_3=>(aZ n c15_3 (t1_3.length:Int)).bind fun c19_4=>(loopN (eW n r_spec_l11PutPat t1_3) n (c19_4,(0:Int))).bind fun(v0_7,v5_8,v24_9)=>some v0_7
theorem uX{n:Nat}{r_spec_l11PutPat:fN}(ih_spec_l11PutPat:kW r_spec_l11PutPat):kW (iK n r_spec_l11PutPat):=by
 intro t0_0 t1_0 t1_1 t1_2 t1_3 r h
 unfold iK at h
 refine bF Try.func106 rfl rfl<|cRs<|xBx rfl<|wAe (Li rI_u8 []) rfl rfl rfl rfl<|oRs<|xMv rfl<|xFd rfl<|xLd rfl<|xC0 h (bP ·) rfl (fun c9_1 h=> ?_)
 refine xFd rfl<|xLd rfl<|xC0 h (bP ·) rfl (fun c12_2 h=> ?_)
 refine xFd rfl<|xLd rfl<|xC0 h (nE ·) rfl (fun c15_3 h=> ?_)
 refine xFd rfl<|xLd rfl<|xLn rfl<|xC0 h (bP ·) rfl (fun c19_4 h=> ?_)
 refine xAs rfl<|oNl<|cSq<|cRs<|xAs rfl<|oNl<|cLp h [(0,0),(5,5),(20,33)] [] (fun(v0_5,v5_6)=>([(0,Li rI_u8 v0_5),(5,I64 v5_6)],[])) (fun(v0_7,v5_8,v24_9)=>(.e 0,[(0,Li rI_u8 v0_7),(5,I64 v5_8),(24,Bo v24_9)],[])) rfl (fun st _ h=> ?_) (fun q h=> ?_)
 obtain⟨v0_5,v5_6⟩:=st
 unfold eW at h
 refine cSq<|cRs<|xMv rfl<|xFd rfl<|xLd rfl<|xLn rfl<|xLt rfl<|oNl<|cIf h rfl (fun q10 h=> ?_) (fun q10 h=> ?_)
 refine cSk<|cSq<|cBk<|cRg<|xMv rfl<|xFd rfl<|xLd rfl<|xMv rfl<|xIx h aH rfl (fun e31_11 h=> ?_)
 refine xLd rfl<|xC0 h (ih_spec_l11PutPat ·) rfl (fun c33_12 h=> ?_)
 exact xAs rfl<|oNl<|cRg<|xMv rfl<|cD rfl<|xAs rfl<|oNl<|eL h rfl
 exact cEx<|eX h rfl
 obtain⟨v0_7,v5_8,v24_9⟩:=q
 refine cRs<|xMv rfl<|xAs rfl<|oNl<|cRt ?_
 cases h
 exact eR rfl rfl rfl rfl
def rF:Nat→(fN)
  | 0=>(fun _ _ _ _ _=>none)
  | n+1=>iK n (rF n)
def eB(n:Nat):fN:=rF n
theorem uZ(n:Nat):kW (eB n):=by
  induction n with
  | zero=>exact(fun h=>nomatch h)
  | succ n ih=>exact uX (n:=n) ih
theorem wY{n:Nat}:kW (eB n):=(uZ n)
theorem tC(n:Nat):eB (n+1)=iK n (eB n):=rfl
abbrev DE(p:(List aB)→(List aA)→Option ((List Int))):Prop:= ∀ {t0_0:List aB} {t0_1:List aA} {r:(List Int)},p t0_0 t0_1=some r→Big Try.prog τ An (.fn 32 [.one (.ag [.sl (t0_0.map aG), .sl (t0_1.map aD)])] [] (.one (.c (.sl (r.map rI_u8)))) none [] none)
def gU(n:Nat)(e33_13:aB):((List Int)×Int)→Option (((List Int)×Int)⊕(((List Int)×Int×Bool)))
  | (v3_18,v6_19)=>bif decide (v6_19<(e33_13.f3.length:Int))then(ix e33_13.f3 v6_19).bind fun e59_24=>(aZ n v3_18 e59_24.f0).bind fun c64_25=>(aZ n c64_25 e59_24.f1).bind fun c67_26=>(gD n c67_26 e59_24.f2).bind fun c70_27=>(aZ n c70_27 e59_24.f3).bind fun c73_28=>some (.inl (c73_28,(IntKind.wrap .i64 (v6_19+(1:Int)))))else some (.inr (v3_18,v6_19,false))
def gV(n:Nat)(t0_0:List aB):((List Int)×Int)→Option (((List Int)×Int)⊕(((List Int)×Int×Bool)))
  | (v3_7,v4_8)=>bif decide (v4_8<(t0_0.length:Int))then(ix t0_0 v4_8).bind fun e33_13=>(gD n v3_7 e33_13.f0).bind fun c38_14=>(aZ n c38_14 e33_13.f1).bind fun c41_15=>(aZ n c41_15 e33_13.f2).bind fun c44_16=>(aZ n c44_16 (e33_13.f3.length:Int)).bind fun c48_17=>(loopN (gU n e33_13) n (c48_17,(0:Int))).bind fun(v3_20,v6_21,v53_22)=>some (.inl (v3_20,(IntKind.wrap .i64 (v4_8+(1:Int)))))else some (.inr (v3_7,v4_8,false))
def eQ(n:Nat)(t0_1:List aA):((List Int)×Int)→Option (((List Int)×Int)⊕(((List Int)×Int×Bool)))
  | (v3_30,v8_31)=>bif decide (v8_31<(t0_1.length:Int))then(ix t0_1 v8_31).bind fun e90_36=>(eB n v3_30 e90_36.f0 e90_36.f1 e90_36.f2 e90_36.f3).bind fun c92_37=>some (.inl (c92_37,(IntKind.wrap .i64 (v8_31+(1:Int)))))else some (.inr (v3_30,v8_31,false))
def iQ(n:Nat)(t0_0:List aB)(t0_1:List aA):Option ((List Int)):=
  ((lG n t0_0 t0_1).bind fun c10_2=>bif !c10_2 then some true else(kD n t0_0 t0_1).bind fun c14_4=>some (!c14_4)).bind fun v16_1=>bif v16_1 then some ([]:List Int)else(aZ n ([]:List Int) (t0_0.length:Int)).bind fun c22_6=>(loopN (gV n t0_0) n (c22_6,(0:Int))).bind fun(v3_9,v4_10,v27_11)=>(aZ n v3_9 (t0_1.length:Int)).bind fun c78_29=>(loopN (eQ n t0_1) n (c78_29,(0:Int))).bind fun(v3_32,v8_33,v83_34)=>some v3_32
theorem AG{n:Nat}:DE (iQ n):=by
 intro t0_0 t0_1 r h
 unfold iQ at h
 refine bF Try.func32 rfl rfl<|cRs<|xBx rfl<|wAe (Li rI_u8 []) rfl rfl rfl rfl<|oNl<|cSq<|cRs<|oJn h [(9,16)] [] (fun v16_1=>(.n,[(16,Bo v16_1)],[])) (fun _ h=> ?_) (fun v16_1 h=> ?_)
 refine xLd rfl<|xC0 h (Bv ·) rfl (fun c10_2 h=> ?_)
 refine fC rfl<|xMv rfl<|oIf 12 h rfl (fun q3 h=> ?_) (fun q3 h=> ?_)
 exact wSk rfl<|wSk rfl<|wSk rfl<|xPk rfl<|oNl<|eJ h rfl
 refine xLd rfl<|xC0 h (AF ·) rfl (fun c14_4 h=> ?_)
 exact fC rfl<|xPk rfl<|oNl<|eJ h rfl
 refine cIf h rfl (fun q5 h=> ?_) (fun q5 h=> ?_)
 refine cRs<|nG (L:=([]:List Int)) (f:=rI_u8) rfl rfl rfl rfl rfl rfl rfl<|xAs rfl<|oNl<|cRt ?_
 cases h
 exact eR rfl rfl rfl rfl
 refine cSk<|cRs<|nG (L:=([]:List Int)) (f:=rI_u8) rfl rfl rfl rfl rfl rfl rfl<|xFd rfl<|xLd rfl<|xLn rfl<|xC0 h (bP ·) rfl (fun c22_6 h=> ?_)
 refine xAs rfl<|oNl<|cSq<|cRs<|xAs rfl<|oNl<|cLp h [(3,7),(23,73)] [(5,5),(7,7)] (fun(v3_7,v4_8)=>([(3,Li rI_u8 v3_7),(4,I64 v4_8)],[])) (fun(v3_9,v4_10,v27_11)=>(.e 0,[(3,Li rI_u8 v3_9),(4,I64 v4_10),(27,Bo v27_11)],[])) rfl (fun st _ h=> ?_) (fun q h=> ?_)
 obtain⟨v3_7,v4_8⟩:=st
 unfold gV at h
 refine cSq<|cRs<|xMv rfl<|xFd rfl<|xLd rfl<|xLn rfl<|xLt rfl<|oNl<|cIf h rfl (fun q12 h=> ?_) (fun q12 h=> ?_)
 refine cSk<|cSq<|cBk<|cRs<|xFd rfl<|xLd rfl<|xMv rfl<|xIx h bN rfl (fun e33_13 h=> ?_)
 refine xLd rfl<|xAz [.str [], .int .i64 0, .int .i64 0, .sl ([].map aJ)] rfl<|xSt rfl<|oRs<|xMv rfl<|xFd rfl<|xLd rfl<|xC0 h (nE ·) rfl (fun c38_14 h=> ?_)
 refine xFd rfl<|xLd rfl<|xC0 h (bP ·) rfl (fun c41_15 h=> ?_)
 refine xFd rfl<|xLd rfl<|xC0 h (bP ·) rfl (fun c44_16 h=> ?_)
 refine xFd rfl<|xLd rfl<|xLn rfl<|xC0 h (bP ·) rfl (fun c48_17 h=> ?_)
 refine xAs rfl<|oRs<|xAs rfl<|oNl<|cLp h [(3,3),(6,7),(49,73)] [(7,7)] (fun(v3_18,v6_19)=>([(3,Li rI_u8 v3_18),(6,I64 v6_19)],[])) (fun(v3_20,v6_21,v53_22)=>(.e 2,[(3,Li rI_u8 v3_20),(6,I64 v6_21),(53,Bo v53_22)],[])) rfl (fun st _ h=> ?_) (fun q h=> ?_)
 obtain⟨v3_18,v6_19⟩:=st
 unfold gU at h
 refine cSq<|cRs<|xMv rfl<|xFd rfl<|xLd rfl<|xLn rfl<|xLt rfl<|oNl<|cIf h rfl (fun q23 h=> ?_) (fun q23 h=> ?_)
 refine cSk<|cSq<|cBk<|cRs<|xFd rfl<|xLd rfl<|xMv rfl<|xIx h bS rfl (fun e59_24 h=> ?_)
 refine xLd rfl<|xAc rfl<|xSt rfl<|oNl<|cRg<|xMv rfl<|xFd rfl<|xLd rfl<|xC0 h (bP ·) rfl (fun c64_25 h=> ?_)
 refine xFd rfl<|xLd rfl<|xC0 h (bP ·) rfl (fun c67_26 h=> ?_)
 refine xFd rfl<|xLd rfl<|xC0 h (nE ·) rfl (fun c70_27 h=> ?_)
 refine xFd rfl<|xLd rfl<|xC0 h (bP ·) rfl (fun c73_28 h=> ?_)
 exact xAs rfl<|oNl<|cRg<|xMv rfl<|cD rfl<|xAs rfl<|oNl<|eL h rfl
 exact cEx<|eX h rfl
 obtain⟨v3_20,v6_21,v53_22⟩:=q
 exact cRg<|xMv rfl<|cD rfl<|xAs rfl<|oNl<|eL h rfl
 exact cEx<|eX h rfl
 obtain⟨v3_9,v4_10,v27_11⟩:=q
 refine cRs<|xMv rfl<|xFd rfl<|xLd rfl<|xLn rfl<|xC0 h (bP ·) rfl (fun c78_29 h=> ?_)
 refine xAs rfl<|oNl<|cSq<|cRs<|xAs rfl<|oNl<|cLp h [(3,3),(8,8),(79,92)] [] (fun(v3_30,v8_31)=>([(3,Li rI_u8 v3_30),(8,I64 v8_31)],[])) (fun(v3_32,v8_33,v83_34)=>(.e 4,[(3,Li rI_u8 v3_32),(8,I64 v8_33),(83,Bo v83_34)],[])) rfl (fun st _ h=> ?_) (fun q h=> ?_)
 obtain⟨v3_30,v8_31⟩:=st
 unfold eQ at h
 refine cSq<|cRs<|xMv rfl<|xFd rfl<|xLd rfl<|xLn rfl<|xLt rfl<|oNl<|cIf h rfl (fun q35 h=> ?_) (fun q35 h=> ?_)
 refine cSk<|cSq<|cBk<|cRg<|xMv rfl<|xFd rfl<|xLd rfl<|xMv rfl<|xIx h aH rfl (fun e90_36 h=> ?_)
 refine xLd rfl<|xC0 h (wY ·) rfl (fun c92_37 h=> ?_)
 exact xAs rfl<|oNl<|cRg<|xMv rfl<|cD rfl<|xAs rfl<|oNl<|eL h rfl
 exact cEx<|eX h rfl
 obtain⟨v3_32,v8_33,v83_34⟩:=q
 refine cRs<|xMv rfl<|xAs rfl<|oNl<|cRt ?_
 cases h
 exact eR rfl rfl rfl rfl
abbrev FH(p:(List Int)→Int→Option (Int×Int×Bool)):Prop:= ∀ {t0_0:List Int} {t1_0:Int} {r:Int×Int×Bool},p t0_0 t1_0=some r→Big Try.prog τ An (.fn 228 [.one (.c (.sl (t0_0.map rI_u8))), .one (.c (.int .i64 t1_0))] [] (.tup [.c (.int .i64 r.1), .c (.int .i64 r.2.1), .c (.bool r.2.2)]) none [] none)
def eC(n:Nat)(t0_0:List Int)(t1_0:Int):(Int×Int)→Option ((Int×Int)⊕((Int×Int×Bool)⊕(Int×Int×Bool)))
  | (v7_1,v8_2)=>(bif decide (v8_2<(6:Int))then bif decide ((0:Int)≤t1_0)then bif decide (t1_0<(t0_0.length:Int))then some (decide ((IntKind.wrap .i64 (t1_0+v8_2))<(t0_0.length:Int)))else some false else some false else some false).bind fun v30_9=>bif v30_9 then(ix t0_0 (IntKind.wrap .i64 (t1_0+v8_2))).bind fun e37_14=>(ck (decide (0≤(IntKind.wrap .u64 (IntKind.wrap .i64 ((7:Int)*v8_2)))))).bind fun _=>bif decide ((127:Int)<(IntKind.wrap .i64 e37_14))then some (.inl ((bits .or .i64 v7_1 (IntKind.wrap .i64 ((bits .and .i64 (IntKind.wrap .i64 e37_14) (127:Int))*2 ^ min (Int.toNat (IntKind.wrap .u64 (IntKind.wrap .i64 ((7:Int)*v8_2)))) 64))),(IntKind.wrap .i64 (v8_2+(1:Int)))))else bif decide ((bits .and .i64 (bits .or .i64 v7_1 (IntKind.wrap .i64 ((bits .and .i64 (IntKind.wrap .i64 e37_14) (127:Int))*2 ^ min (Int.toNat (IntKind.wrap .u64 (IntKind.wrap .i64 ((7:Int)*v8_2)))) 64))) (1:Int))=(1:Int))then(bif decide ((0:Int)<v8_2)then bif decide ((IntKind.wrap .i64 e37_14)=(0:Int))then some true else(aP n (IntKind.wrap .i64 ((IntKind.wrap .i64 (0 - (Int.fdiv (bits .or .i64 v7_1 (IntKind.wrap .i64 ((bits .and .i64 (IntKind.wrap .i64 e37_14) (127:Int))*2 ^ min (Int.toNat (IntKind.wrap .u64 (IntKind.wrap .i64 ((7:Int)*v8_2)))) 64))) (2 ^ 1)))) - (1:Int))) ((-1000000000000):Int) (1000000000000:Int)).bind fun c66_21=>some (!c66_21)else(aP n (IntKind.wrap .i64 ((IntKind.wrap .i64 (0 - (Int.fdiv (bits .or .i64 v7_1 (IntKind.wrap .i64 ((bits .and .i64 (IntKind.wrap .i64 e37_14) (127:Int))*2 ^ min (Int.toNat (IntKind.wrap .u64 (IntKind.wrap .i64 ((7:Int)*v8_2)))) 64))) (2 ^ 1)))) - (1:Int))) ((-1000000000000):Int) (1000000000000:Int)).bind fun c66_22=>some (!c66_22)).bind fun v68_18=>bif v68_18 then some (.inr (.inl ((0:Int),(0:Int),false)))else some (.inr (.inl ((IntKind.wrap .i64 ((IntKind.wrap .i64 (0 - (Int.fdiv (bits .or .i64 v7_1 (IntKind.wrap .i64 ((bits .and .i64 (IntKind.wrap .i64 e37_14) (127:Int))*2 ^ min (Int.toNat (IntKind.wrap .u64 (IntKind.wrap .i64 ((7:Int)*v8_2)))) 64))) (2 ^ 1)))) - (1:Int))),(IntKind.wrap .i64 ((IntKind.wrap .i64 (t1_0+v8_2))+(1:Int))),true)))else(bif decide ((0:Int)<v8_2)then bif decide ((IntKind.wrap .i64 e37_14)=(0:Int))then some true else(aP n (Int.fdiv (bits .or .i64 v7_1 (IntKind.wrap .i64 ((bits .and .i64 (IntKind.wrap .i64 e37_14) (127:Int))*2 ^ min (Int.toNat (IntKind.wrap .u64 (IntKind.wrap .i64 ((7:Int)*v8_2)))) 64))) (2 ^ 1)) ((-1000000000000):Int) (1000000000000:Int)).bind fun c66_27=>some (!c66_27)else(aP n (Int.fdiv (bits .or .i64 v7_1 (IntKind.wrap .i64 ((bits .and .i64 (IntKind.wrap .i64 e37_14) (127:Int))*2 ^ min (Int.toNat (IntKind.wrap .u64 (IntKind.wrap .i64 ((7:Int)*v8_2)))) 64))) (2 ^ 1)) ((-1000000000000):Int) (1000000000000:Int)).bind fun c66_28=>some (!c66_28)).bind fun v68_24=>bif v68_24 then some (.inr (.inl ((0:Int),(0:Int),false)))else some (.inr (.inl ((Int.fdiv (bits .or .i64 v7_1 (IntKind.wrap .i64 ((bits .and .i64 (IntKind.wrap .i64 e37_14) (127:Int))*2 ^ min (Int.toNat (IntKind.wrap .u64 (IntKind.wrap .i64 ((7:Int)*v8_2)))) 64))) (2 ^ 1)),(IntKind.wrap .i64 ((IntKind.wrap .i64 (t1_0+v8_2))+(1:Int))),true)))else some (.inr (.inr (v7_1,v8_2,false)))
def jL(n:Nat)(t0_0:List Int)(t1_0:Int):Option (Int×Int×Bool):=
  (loopN (eC n t0_0 t1_0) n ((0:Int),(0:Int))).bind fun q=>(match q with | .inl (v4_3,v5_4,v6_5)=>some (v4_3,v5_4,v6_5) | .inr (v7_6,v8_7,v30_8)=>some ((0:Int),(0:Int),false))
theorem sR{n:Nat}:FH (jL n):=by
 intro t0_0 t1_0 r h
 unfold jL at h
 refine bF Try.func228 rfl rfl<|cRs<|xAs rfl<|xAs rfl<|xAs rfl<|oRs<|xAs rfl<|oNl<|cSq<|cRs<|xAs rfl<|oNl<|cLp h [(4,73)] [] (fun(v7_1,v8_2)=>([(7,I64 v7_1),(8,I64 v8_2)],[])) (fun q=>match q with | .inl (v4_3,v5_4,v6_5)=>(.r,[(4,I64 v4_3),(5,I64 v5_4),(6,Bo v6_5)],[]) | .inr (v7_6,v8_7,v30_8)=>(.e 0,[(7,I64 v7_6),(8,I64 v8_7),(30,Bo v30_8)],[])) rfl (fun st _ h=> ?_) (fun q h=> ?_)
 obtain⟨v7_1,v8_2⟩:=st
 unfold eC at h
 refine cSq<|cRs<|oJn h [(11,30)] [] (fun v30_9=>(.n,[(30,Bo v30_9)],[])) (fun _ h=> ?_) (fun v30_9 h=> ?_)
 refine xMv rfl<|xLt rfl<|xMv rfl<|oIf 13 h rfl (fun q10 h=> ?_) (fun q10 h=> ?_)
 refine xMv rfl<|xGe rfl<|xPk rfl<|xMv rfl<|oIf 17 h rfl (fun q11 h=> ?_) (fun q11 h=> ?_)
 refine xMv rfl<|xMv rfl<|xLn rfl<|xLt rfl<|xPk rfl<|xMv rfl<|oIf 23 h rfl (fun q12 h=> ?_) (fun q12 h=> ?_)
 exact xMv rfl<|xMv rfl<|cD rfl<|xMv rfl<|xLn rfl<|xLt rfl<|xPk rfl<|oNl<|eJ h rfl
 exact wSk rfl<|wSk rfl<|wSk rfl<|wSk rfl<|wSk rfl<|wSk rfl<|xPk rfl<|oNl<|eJ h rfl
 exact wSk rfl<|wSk rfl<|wSk rfl<|wSk rfl<|xPk rfl<|xMv rfl<|wSk rfl<|wSk rfl<|wSk rfl<|wSk rfl<|wSk rfl<|wSk rfl<|xPk rfl<|oNl<|eJ h rfl
 refine wSk rfl<|wSk rfl<|xPk rfl<|xMv rfl<|wSk rfl<|wSk rfl<|wSk rfl<|wSk rfl<|xPk rfl<|xMv rfl<|wSk rfl<|wSk rfl<|wSk rfl<|wSk rfl ?_
 exact wSk rfl<|wSk rfl<|xPk rfl<|oNl<|eJ h rfl
 refine cIf h rfl (fun q13 h=> ?_) (fun q13 h=> ?_)
 refine cSk<|cSq<|cBk<|cRs<|xMv rfl<|xMv rfl<|xMv rfl<|cD rfl<|xIx h jY rfl (fun e37_14 h=> ?_)
 refine xLd rfl<|wCv rfl rfl rfl rfl rfl<|xAs rfl<|oRs<|xMv rfl<|xMv rfl<|wBi (.int .i64 (bits .and .i64 (IntKind.wrap .i64 e37_14) (127:Int))) rfl rfl rfl rfl rfl<|xMv rfl<|HB rfl<|wCv rfl rfl rfl rfl rfl<|oCk h (fun k46_14 h=> ?_)
 refine wShl k46_14 rfl rfl rfl rfl<|wBi (.int .i64 (bits .or .i64 v7_1 (IntKind.wrap .i64 ((bits .and .i64 (IntKind.wrap .i64 e37_14) (127:Int))*2 ^ min (Int.toNat (IntKind.wrap .u64 (IntKind.wrap .i64 ((7:Int)*v8_2)))) 64)))) rfl rfl rfl rfl rfl<|xAs rfl<|oNl<|cSq<|cRs<|xMv rfl<|xGt rfl<|oNl<|cIf h rfl (fun q16 h=> ?_) (fun q16 h=> ?_)
 exact cEx<|cRg<|xMv rfl<|cD rfl<|xAs rfl<|oNl<|eL h rfl
 refine cSk<|cRs<|xMv rfl<|wBi (.int .i64 (Int.fdiv (bits .or .i64 v7_1 (IntKind.wrap .i64 ((bits .and .i64 (IntKind.wrap .i64 e37_14) (127:Int))*2 ^ min (Int.toNat (IntKind.wrap .u64 (IntKind.wrap .i64 ((7:Int)*v8_2)))) 64))) (2 ^ 1))) rfl rfl rfl rfl rfl<|xAs rfl<|oNl<|cSq<|cRs<|xMv rfl<|wBi (.int .i64 (bits .and .i64 (bits .or .i64 v7_1 (IntKind.wrap .i64 ((bits .and .i64 (IntKind.wrap .i64 e37_14) (127:Int))*2 ^ min (Int.toNat (IntKind.wrap .u64 (IntKind.wrap .i64 ((7:Int)*v8_2)))) 64))) (1:Int))) rfl rfl rfl rfl rfl<|xEq rfl<|oNl<|cIf h rfl (fun q17 h=> ?_) (fun q17 h=> ?_)
 refine cRg<|xMv rfl<|wNeg rfl rfl rfl<|sB rfl<|xAs rfl<|oNl<|cSq<|cRs<|oJn h [(58,68)] [] (fun v68_18=>(.n,[(68,Bo v68_18)],[])) (fun _ h=> ?_) (fun v68_18 h=> ?_)
 refine xMv rfl<|xGt rfl<|xMv rfl<|oIf 60 h rfl (fun q19 h=> ?_) (fun q19 h=> ?_)
 refine xMv rfl<|xEq rfl<|xPk rfl<|xMv rfl<|oIf 64 h rfl (fun q20 h=> ?_) (fun q20 h=> ?_)
 exact wSk rfl<|wSk rfl<|wSk rfl<|xPk rfl<|oNl<|eJ h rfl
 refine xMv rfl<|xC0 h (aQ ·) rfl (fun c66_21 h=> ?_)
 exact fC rfl<|xPk rfl<|oNl<|eJ h rfl
 refine wSk rfl<|wSk rfl<|xPk rfl<|xMv rfl<|xMv rfl<|xC0 h (aQ ·) rfl (fun c66_22 h=> ?_)
 exact fC rfl<|xPk rfl<|oNl<|eJ h rfl
 refine cIf h rfl (fun q23 h=> ?_) (fun q23 h=> ?_)
 exact cRs<|xAs rfl<|xAs rfl<|xAs rfl<|oNl<|cRt<|eXr h rfl
 exact cSk<|cRs<|xMv rfl<|xMv rfl<|xMv rfl<|cD rfl<|cD rfl<|xAs rfl<|xAs rfl<|xAs rfl<|oNl<|cRt<|eXr h rfl
 refine cSk<|cSq<|cRs<|oJn h [(58,68)] [] (fun v68_24=>(.n,[(68,Bo v68_24)],[])) (fun _ h=> ?_) (fun v68_24 h=> ?_)
 refine xMv rfl<|xGt rfl<|xMv rfl<|oIf 60 h rfl (fun q25 h=> ?_) (fun q25 h=> ?_)
 refine xMv rfl<|xEq rfl<|xPk rfl<|xMv rfl<|oIf 64 h rfl (fun q26 h=> ?_) (fun q26 h=> ?_)
 exact wSk rfl<|wSk rfl<|wSk rfl<|xPk rfl<|oNl<|eJ h rfl
 refine xMv rfl<|xC0 h (aQ ·) rfl (fun c66_27 h=> ?_)
 exact fC rfl<|xPk rfl<|oNl<|eJ h rfl
 refine wSk rfl<|wSk rfl<|xPk rfl<|xMv rfl<|xMv rfl<|xC0 h (aQ ·) rfl (fun c66_28 h=> ?_)
 exact fC rfl<|xPk rfl<|oNl<|eJ h rfl
 refine cIf h rfl (fun q29 h=> ?_) (fun q29 h=> ?_)
 exact cRs<|xAs rfl<|xAs rfl<|xAs rfl<|oNl<|cRt<|eXr h rfl
 exact cSk<|cRs<|xMv rfl<|xMv rfl<|xMv rfl<|cD rfl<|cD rfl<|xAs rfl<|xAs rfl<|xAs rfl<|oNl<|cRt<|eXr h rfl
 exact cEx<|eX h rfl
 rcases q with⟨v4_3,v5_4,v6_5⟩ | ⟨v7_6,v8_7,v30_8⟩
 cases h
 exact eR rfl rfl rfl rfl
 refine cRs<|xAs rfl<|xAs rfl<|xAs rfl<|oNl<|cRt ?_
 cases h
 exact eR rfl rfl rfl rfl
abbrev FF(p:(List Int)→Int→Bool→Option (Int×(List Int)×Int×Bool)):Prop:= ∀ {o0_0:List Int} {o0_1:Int} {o0_2:Bool} {r:Int×(List Int)×Int×Bool},p o0_0 o0_1 o0_2=some r→Big Try.prog τ An (.fn 143 [.one (.ptr 1000000 0)] [[.sl (o0_0.map rI_u8), .int .i64 o0_1, .bool o0_2]] (.one (.c (.int .i64 r.1))) none [[.sl (r.2.1.map rI_u8), .int .i64 r.2.2.1, .bool r.2.2.2]] none)
def aX(n:Nat)(o0_0:List Int)(o0_1:Int)(o0_2:Bool):Option (Int×(List Int)×Int×Bool):=
  (jL n o0_0 o0_1).bind fun c15_1=>(bif o0_2 then some true else some (!c15_1.2.2)).bind fun v26_2=>bif v26_2 then some ((0:Int),o0_0,o0_1,true)else some (c15_1.1,o0_0,c15_1.2.1,o0_2)
theorem bZ{n:Nat}:FF (aX n):=by
 intro o0_0 o0_1 o0_2 r h
 unfold aX at h
 refine bF Try.func143 rfl rfl<|cRs<|xAs rfl<|oRs<|xMv rfl<|xNc rfl<|xFd rfl<|xLd rfl<|xMv rfl<|xNc rfl<|xFd rfl<|xLd rfl<|xC0 h (sR ·) rfl (fun c15_1 h=> ?_)
 refine xMv rfl<|xEt rfl<|xEt rfl<|xEt rfl<|xAs rfl<|xAs rfl<|xAs rfl<|oNl<|cSq<|cRs<|oJn h [(19,26)] [] (fun v26_2=>(.n,[(26,Bo v26_2)],[])) (fun _ h=> ?_) (fun v26_2 h=> ?_)
 refine xMv rfl<|xNc rfl<|xFd rfl<|xLd rfl<|xMv rfl<|oIf 23 h rfl (fun q3 h=> ?_) (fun q3 h=> ?_)
 exact wSk rfl<|wSk rfl<|xPk rfl<|oNl<|eJ h rfl
 exact xMv rfl<|fC rfl<|xPk rfl<|oNl<|eJ h rfl
 refine cIf h rfl (fun q4 h=> ?_) (fun q4 h=> ?_)
 refine cRs<|xMv rfl<|xNc rfl<|xFd rfl<|xSt rfl<|oRs<|xAs rfl<|oNl<|cRt ?_
 cases h
 exact eR rfl rfl rfl rfl
 refine cSk<|cRs<|xMv rfl<|xMv rfl<|xNc rfl<|xFd rfl<|xSt rfl<|oRs<|xMv rfl<|xAs rfl<|oNl<|cRt ?_
 cases h
 exact eR rfl rfl rfl rfl
abbrev DG(p:(List Int)→Int→Option ((List UInt8)×Int×Bool)):Prop:= ∀ {t0_0:List Int} {t1_0:Int} {r:(List UInt8)×Int×Bool},p t0_0 t1_0=some r→Big Try.prog τ An (.fn 278 [.one (.c (.sl (t0_0.map rI_u8))), .one (.c (.int .i64 t1_0))] [] (.tup [.c (.str r.1), .c (.int .i64 r.2.1), .c (.bool r.2.2)]) none [] none)
def mH(n:Nat)(t0_0:List Int)(t1_0:Int):Option ((List UInt8)×Int×Bool):=
  (jL n t0_0 t1_0).bind fun c13_1=>(bif !c13_1.2.2 then some true else bif decide (c13_1.1<(0:Int))then some true else some (decide ((IntKind.wrap .i64 ((t0_0.length:Int) - c13_1.2.1))<c13_1.1))).bind fun v30_2=>bif v30_2 then some (([]:List UInt8),(0:Int),false)else(sub t0_0 (some c13_1.2.1) (some (IntKind.wrap .i64 (c13_1.2.1+c13_1.1)))).bind fun v36_6=>(lU v36_6).bind fun v37_7=>some (v37_7,(IntKind.wrap .i64 (c13_1.2.1+c13_1.1)),true)
theorem AH{n:Nat}:DG (mH n):=by
 intro t0_0 t1_0 r h
 unfold mH at h
 refine bF Try.func278 rfl rfl<|cRs<|xAs rfl<|xAs rfl<|xAs rfl<|oRs<|xMv rfl<|xMv rfl<|xC0 h (sR ·) rfl (fun c13_1 h=> ?_)
 refine xMv rfl<|xEt rfl<|xEt rfl<|xEt rfl<|xAs rfl<|xAs rfl<|xAs rfl<|oNl<|cSq<|cRs<|oJn h [(17,30)] [] (fun v30_2=>(.n,[(30,Bo v30_2)],[])) (fun _ h=> ?_) (fun v30_2 h=> ?_)
 refine xMv rfl<|fC rfl<|xMv rfl<|oIf 19 h rfl (fun q3 h=> ?_) (fun q3 h=> ?_)
 exact wSk rfl<|wSk rfl<|xPk rfl<|xMv rfl<|wSk rfl<|wSk rfl<|wSk rfl<|wSk rfl<|wSk rfl<|wSk rfl<|xPk rfl<|oNl<|eJ h rfl
 refine xMv rfl<|xLt rfl<|xPk rfl<|xMv rfl<|oIf 23 h rfl (fun q4 h=> ?_) (fun q4 h=> ?_)
 exact wSk rfl<|wSk rfl<|wSk rfl<|wSk rfl<|wSk rfl<|wSk rfl<|xPk rfl<|oNl<|eJ h rfl
 exact xMv rfl<|xMv rfl<|xLn rfl<|xMv rfl<|sB rfl<|xGt rfl<|xPk rfl<|oNl<|eJ h rfl
 refine cIf h rfl (fun q5 h=> ?_) (fun q5 h=> ?_)
 refine cRs<|xAs rfl<|xAs rfl<|xAs rfl<|oNl<|cRt ?_
 cases h
 exact eR rfl rfl rfl rfl
 refine cSk<|cRs<|xMv rfl<|xMv rfl<|xMv rfl<|xMv rfl<|cD rfl<|wSl (rf:=rI_u8) h rfl rfl rfl rfl (.so rfl) (.so rfl) (fun _=>rfl) rfl (fun v36_6 h=> ?_)
 refine wTs h rfl rfl ⟨rfl,rfl⟩ rfl jY rfl (fun v37_7 h=> ?_)
 refine xMv rfl<|xMv rfl<|cD rfl<|xAs rfl<|xAs rfl<|xAs rfl<|oNl<|cRt ?_
 cases h
 exact eR rfl rfl rfl rfl
abbrev FE(p:(List Int)→Int→Bool→Option ((List UInt8)×(List Int)×Int×Bool)):Prop:= ∀ {o0_0:List Int} {o0_1:Int} {o0_2:Bool} {r:(List UInt8)×(List Int)×Int×Bool},p o0_0 o0_1 o0_2=some r→Big Try.prog τ An (.fn 229 [.one (.ptr 1000000 0)] [[.sl (o0_0.map rI_u8), .int .i64 o0_1, .bool o0_2]] (.one (.c (.str r.1))) none [[.sl (r.2.1.map rI_u8), .int .i64 r.2.2.1, .bool r.2.2.2]] none)
def eK(n:Nat)(o0_0:List Int)(o0_1:Int)(o0_2:Bool):Option ((List UInt8)×(List Int)×Int×Bool):=
  (mH n o0_0 o0_1).bind fun c15_1=>(bif o0_2 then some true else some (!c15_1.2.2)).bind fun v26_2=>bif v26_2 then some (([]:List UInt8),o0_0,o0_1,true)else some (c15_1.1,o0_0,c15_1.2.1,o0_2)
theorem oF{n:Nat}:FE (eK n):=by
 intro o0_0 o0_1 o0_2 r h
 unfold eK at h
 refine bF Try.func229 rfl rfl<|cRs<|xAs rfl<|oRs<|xMv rfl<|xNc rfl<|xFd rfl<|xLd rfl<|xMv rfl<|xNc rfl<|xFd rfl<|xLd rfl<|xC0 h (AH ·) rfl (fun c15_1 h=> ?_)
 refine xMv rfl<|xEt rfl<|xEt rfl<|xEt rfl<|xAs rfl<|xAs rfl<|xAs rfl<|oNl<|cSq<|cRs<|oJn h [(19,26)] [] (fun v26_2=>(.n,[(26,Bo v26_2)],[])) (fun _ h=> ?_) (fun v26_2 h=> ?_)
 refine xMv rfl<|xNc rfl<|xFd rfl<|xLd rfl<|xMv rfl<|oIf 23 h rfl (fun q3 h=> ?_) (fun q3 h=> ?_)
 exact wSk rfl<|wSk rfl<|xPk rfl<|oNl<|eJ h rfl
 exact xMv rfl<|fC rfl<|xPk rfl<|oNl<|eJ h rfl
 refine cIf h rfl (fun q4 h=> ?_) (fun q4 h=> ?_)
 refine cRs<|xMv rfl<|xNc rfl<|xFd rfl<|xSt rfl<|oRs<|xAs rfl<|oNl<|cRt ?_
 cases h
 exact eR rfl rfl rfl rfl
 refine cSk<|cRs<|xMv rfl<|xMv rfl<|xNc rfl<|xFd rfl<|xSt rfl<|oRs<|xMv rfl<|xAs rfl<|oNl<|cRt ?_
 cases h
 exact eR rfl rfl rfl rfl
abbrev Gw(p:(List Int)→Int→Bool→Option ((List UInt8)×Int×Int×(List aC)×(List Int)×Int×Bool)):Prop:= ∀ {o0_0:List Int} {o0_1:Int} {o0_2:Bool} {r:(List UInt8)×Int×Int×(List aC)×(List Int)×Int×Bool},p o0_0 o0_1 o0_2=some r→Big Try.prog τ An (.fn 144 [.one (.ptr 1000000 0)] [[.sl (o0_0.map rI_u8), .int .i64 o0_1, .bool o0_2]] (.one (.ag [.str r.1, .int .i64 r.2.1, .int .i64 r.2.2.1, .sl (r.2.2.2.1.map aJ)])) none [[.sl (r.2.2.2.2.1.map rI_u8), .int .i64 r.2.2.2.2.2.1, .bool r.2.2.2.2.2.2]] none)
def eT(n:Nat)(c17_4:Int×(List Int)×Int×Bool):(Int×(List UInt8)×Int×Int×(List aC)×(List Int)×Int×Bool)→Option ((Int×(List UInt8)×Int×Int×(List aC)×(List Int)×Int×Bool)⊕((Int×Bool×(List UInt8)×Int×Int×(List aC)×(List Int)×Int×Bool)))
  | (v5_5,w3_6,w3_7,w3_8,w3_9,w1000000_10,w1000000_11,w1000000_12)=>(bif decide (v5_5<c17_4.1)then bif decide (v5_5<(1501:Int))then some (!w1000000_12)else some false else some false).bind fun v31_22=>bif v31_22 then(aX n w1000000_10 w1000000_11 w1000000_12).bind fun c35_26=>(aX n c35_26.2.1 c35_26.2.2.1 c35_26.2.2.2).bind fun c38_27=>(eK n c38_27.2.1 c38_27.2.2.1 c38_27.2.2.2).bind fun c41_28=>(aX n c41_28.2.1 c41_28.2.2.1 c41_28.2.2.2).bind fun c44_29=>(iI 40 w3_9 ([aC.mk c35_26.1 c38_27.1 c41_28.1 c44_29.1]:List aC)).bind fun v50_30=>some (.inl ((IntKind.wrap .i64 (v5_5+(1:Int))),w3_6,w3_7,w3_8,v50_30,c44_29.2.1,c44_29.2.2.1,c44_29.2.2.2))else some (.inr (v5_5,false,w3_6,w3_7,w3_8,w3_9,w1000000_10,w1000000_11,w1000000_12))
def mM(n:Nat)(o0_0:List Int)(o0_1:Int)(o0_2:Bool):Option ((List UInt8)×Int×Int×(List aC)×(List Int)×Int×Bool):=
  (eK n o0_0 o0_1 o0_2).bind fun c8_1=>(aX n c8_1.2.1 c8_1.2.2.1 c8_1.2.2.2).bind fun c11_2=>(aX n c11_2.2.1 c11_2.2.2.1 c11_2.2.2.2).bind fun c14_3=>(aX n c14_3.2.1 c14_3.2.2.1 c14_3.2.2.2).bind fun c17_4=>(loopN (eT n c17_4) n ((0:Int),c8_1.1,c11_2.1,c14_3.1,([]:List aC),c17_4.2.1,c17_4.2.2.1,c17_4.2.2.2)).bind fun(v5_13,v31_14,w3_15,w3_16,w3_17,w3_18,w1000000_19,w1000000_20,w1000000_21)=>some (w3_15,w3_16,w3_17,w3_18,w1000000_19,w1000000_20,w1000000_21)
theorem Cs{n:Nat}:Gw (mM n):=by
 intro o0_0 o0_1 o0_2 r h
 unfold mM at h
 refine bF Try.func144 rfl rfl<|cRs<|xAz [.str [], .int .i64 0, .int .i64 0, .sl ([].map aJ)] rfl<|oRs<|xMv rfl<|xC1 h (oF ·) rfl (fun c8_1 h=> ?_)
 refine wBd [.str c8_1.1, .int .i64 0, .int .i64 0, .sl ([].map aJ)] rfl rfl rfl rfl rfl rfl<|xAz [.str [], .int .i64 0, .int .i64 0, .sl ([].map aJ)] rfl<|xSt rfl<|oRs<|xMv rfl<|xC1 h (bZ ·) rfl (fun c11_2 h=> ?_)
 refine xFd rfl<|xSt rfl<|oRs<|xMv rfl<|xC1 h (bZ ·) rfl (fun c14_3 h=> ?_)
 refine xFd rfl<|xSt rfl<|oRs<|xMv rfl<|xC1 h (bZ ·) rfl (fun c17_4 h=> ?_)
 refine xAs rfl<|oNl<|cSq<|cRs<|xAs rfl<|oNl<|cLp h [(5,6),(18,51)] [(3,3),(6,6),(1000000,1000000)] (fun(v5_5,w3_6,w3_7,w3_8,w3_9,w1000000_10,w1000000_11,w1000000_12)=>([(5,I64 v5_5)],[(3,[.str w3_6, .int .i64 w3_7, .int .i64 w3_8, .sl (w3_9.map aJ)]),(1000000,[.sl (w1000000_10.map rI_u8), .int .i64 w1000000_11, .bool w1000000_12])])) (fun(v5_13,v31_14,w3_15,w3_16,w3_17,w3_18,w1000000_19,w1000000_20,w1000000_21)=>(.e 0,[(5,I64 v5_13),(31,Bo v31_14)],[(3,[.str w3_15, .int .i64 w3_16, .int .i64 w3_17, .sl (w3_18.map aJ)]),(1000000,[.sl (w1000000_19.map rI_u8), .int .i64 w1000000_20, .bool w1000000_21])])) rfl (fun st _ h=> ?_) (fun q h=> ?_)
 obtain⟨v5_5,w3_6,w3_7,w3_8,w3_9,w1000000_10,w1000000_11,w1000000_12⟩:=st
 unfold eT at h
 refine cSq<|cRs<|oJn h [(18,31)] [] (fun v31_22=>(.n,[(31,Bo v31_22)],[])) (fun _ h=> ?_) (fun v31_22 h=> ?_)
 refine xMv rfl<|xMv rfl<|xLt rfl<|xMv rfl<|oIf 21 h rfl (fun q23 h=> ?_) (fun q23 h=> ?_)
 refine xMv rfl<|xLt rfl<|xPk rfl<|xMv rfl<|oIf 25 h rfl (fun q24 h=> ?_) (fun q24 h=> ?_)
 exact xMv rfl<|xNc rfl<|xFd rfl<|xLd rfl<|fC rfl<|xPk rfl<|oNl<|eJ h rfl
 exact wSk rfl<|wSk rfl<|wSk rfl<|wSk rfl<|wSk rfl<|xPk rfl<|oNl<|eJ h rfl
 exact wSk rfl<|wSk rfl<|xPk rfl<|xMv rfl<|wSk rfl<|wSk rfl<|wSk rfl<|wSk rfl<|wSk rfl<|xPk rfl<|oNl<|eJ h rfl
 refine cIf h rfl (fun q25 h=> ?_) (fun q25 h=> ?_)
 refine cSk<|cSq<|cBk<|cRs<|xMv rfl<|xC1 h (bZ ·) rfl (fun c35_26 h=> ?_)
 refine wBd [.int .i64 c35_26.1, .int .i64 0, .str [], .int .i64 0] rfl rfl rfl rfl rfl rfl<|xAc rfl<|xSt rfl<|oRs<|xMv rfl<|xC1 h (bZ ·) rfl (fun c38_27 h=> ?_)
 refine xFd rfl<|xSt rfl<|oRs<|xMv rfl<|xC1 h (oF ·) rfl (fun c41_28 h=> ?_)
 refine xFd rfl<|xSt rfl<|oRs<|xMv rfl<|xC1 h (bZ ·) rfl (fun c44_29 h=> ?_)
 refine xFd rfl<|xSt rfl<|oNl<|cRg<|xFd rfl<|xLd rfl<|xLd rfl<|nG (L:=([aC.mk c35_26.1 c38_27.1 c41_28.1 c44_29.1]:List aC)) (f:=aJ) rfl rfl rfl rfl rfl rfl rfl<|wAp (f:=aJ) h rfl rfl rfl rfl rfl rfl rfl rfl rfl (fun _=>rfl) rfl (fun v50_30 h=> ?_)
 exact xFd rfl<|xSt rfl<|oNl<|cRg<|xMv rfl<|cD rfl<|xAs rfl<|oNl<|eL h rfl
 exact cEx<|eX h rfl
 obtain⟨v5_13,v31_14,w3_15,w3_16,w3_17,w3_18,w1000000_19,w1000000_20,w1000000_21⟩:=q
 refine cRs<|xLd rfl<|xSt rfl<|oNl<|cRt ?_
 cases h
 exact eR rfl rfl rfl rfl
abbrev fR:Type:=Int→(List Int)→Int→Bool→Option (Int×Int×(List UInt8)×(List aA)×(List Int)×Int×Bool)
abbrev nQ(p:fR):Prop:= ∀ {t1_0:Int} {o0_0:List Int} {o0_1:Int} {o0_2:Bool} {r:Int×Int×(List UInt8)×(List aA)×(List Int)×Int×Bool},p t1_0 o0_0 o0_1 o0_2=some r→Big Try.prog τ An (.fn 145 [.one (.ptr 1000000 0), .one (.c (.int .i64 t1_0))] [[.sl (o0_0.map rI_u8), .int .i64 o0_1, .bool o0_2]] (.one (.ag [.int .i64 r.1, .int .i64 r.2.1, .str r.2.2.1, .sl (r.2.2.2.1.map aD)])) none [[.sl (r.2.2.2.2.1.map rI_u8), .int .i64 r.2.2.2.2.2.1, .bool r.2.2.2.2.2.2]] none)
def cJ(n:Nat)(r_spec_l11Pat:fR)(t1_0:Int)(c18_4:Int×(List Int)×Int×Bool):(Int×Int×Int×(List UInt8)×(List aA)×(List Int)×Int×Bool)→Option ((Int×Int×Int×(List UInt8)×(List aA)×(List Int)×Int×Bool)⊕((Int×Bool×Int×Int×(List UInt8)×(List aA)×(List Int)×Int×Bool)))
  | (v7_9,w5_10,w5_11,w5_12,w5_13,w1000000_14,w1000000_15,w1000000_16)=>(bif decide (v7_9<c18_4.1)then some (!w1000000_16)else some false).bind fun v38_26=>bif v38_26 then(r_spec_l11Pat (IntKind.wrap .i64 (t1_0 - (1:Int))) w1000000_14 w1000000_15 w1000000_16).bind fun c46_29=>(iI 56 w5_13 ([aA.mk c46_29.1 c46_29.2.1 c46_29.2.2.1 c46_29.2.2.2.1]:List aA)).bind fun v48_30=>some (.inl ((IntKind.wrap .i64 (v7_9+(1:Int))),w5_10,w5_11,w5_12,v48_30,c46_29.2.2.2.2.1,c46_29.2.2.2.2.2.1,c46_29.2.2.2.2.2.2))else some (.inr (v7_9,false,w5_10,w5_11,w5_12,w5_13,w1000000_14,w1000000_15,w1000000_16))
def rG(n:Nat)(r_spec_l11Pat:fR)(t1_0:Int)(c18_4:Int×(List Int)×Int×Bool):(Int×Int×Int×(List UInt8)×(List aA)×(List Int)×Int×Bool)→Option ((Int×Int×Int×(List UInt8)×(List aA)×(List Int)×Int×Bool)⊕((Int×Bool×Int×Int×(List UInt8)×(List aA)×(List Int)×Int×Bool)))
  | (v7_31,w5_32,w5_33,w5_34,w5_35,w1000000_36,w1000000_37,w1000000_38)=>(bif decide (v7_31<c18_4.1)then some (!w1000000_38)else some false).bind fun v38_48=>bif v38_48 then(r_spec_l11Pat (IntKind.wrap .i64 (t1_0 - (1:Int))) w1000000_36 w1000000_37 w1000000_38).bind fun c46_51=>(iI 56 w5_35 ([aA.mk c46_51.1 c46_51.2.1 c46_51.2.2.1 c46_51.2.2.2.1]:List aA)).bind fun v48_52=>some (.inl ((IntKind.wrap .i64 (v7_31+(1:Int))),w5_32,w5_33,w5_34,v48_52,c46_51.2.2.2.2.1,c46_51.2.2.2.2.2.1,c46_51.2.2.2.2.2.2))else some (.inr (v7_31,false,w5_32,w5_33,w5_34,w5_35,w1000000_36,w1000000_37,w1000000_38))
def eG(n:Nat)(r_spec_l11Pat:fR)(t1_0:Int)(o0_0:List Int)(o0_1:Int)(o0_2:Bool):Option (Int×Int×(List UInt8)×(List aA)×(List Int)×Int×Bool):=
  (aX n o0_0 o0_1 o0_2).bind fun c9_1=>(aX n c9_1.2.1 c9_1.2.2.1 c9_1.2.2.2).bind fun c12_2=>(eK n c12_2.2.1 c12_2.2.2.1 c12_2.2.2.2).bind fun c15_3=>(aX n c15_3.2.1 c15_3.2.2.1 c15_3.2.2.2).bind fun c18_4=>(bif decide (t1_0<(1:Int))then some true else(aP n c18_4.1 (0:Int) (20:Int)).bind fun c23_7=>some (!c23_7)).bind fun v25_5=>bif v25_5 then(loopN (cJ n r_spec_l11Pat t1_0 c18_4) n ((0:Int),c9_1.1,c12_2.1,c15_3.1,([]:List aA),c18_4.2.1,c18_4.2.2.1,true)).bind fun(v7_17,v38_18,w5_19,w5_20,w5_21,w5_22,w1000000_23,w1000000_24,w1000000_25)=>some (w5_19,w5_20,w5_21,w5_22,w1000000_23,w1000000_24,w1000000_25)else(loopN (rG n r_spec_l11Pat t1_0 c18_4) n ((0:Int),c9_1.1,c12_2.1,c15_3.1,([]:List aA),c18_4.2.1,c18_4.2.2.1,c18_4.2.2.2)).bind fun(v7_39,v38_40,w5_41,w5_42,w5_43,w5_44,w1000000_45,w1000000_46,w1000000_47)=>some (w5_41,w5_42,w5_43,w5_44,w1000000_45,w1000000_46,w1000000_47)
theorem zW{n:Nat}{r_spec_l11Pat:fR}(ih_spec_l11Pat:nQ r_spec_l11Pat):nQ (eG n r_spec_l11Pat):=by
 intro t1_0 o0_0 o0_1 o0_2 r h
 unfold eG at h
 refine bF Try.func145 rfl rfl<|cRs<|xAz [.int .i64 0, .int .i64 0, .str [], .sl ([].map aD)] rfl<|oRs<|xMv rfl<|xC1 h (bZ ·) rfl (fun c9_1 h=> ?_)
 refine wBd [.int .i64 c9_1.1, .int .i64 0, .str [], .sl ([].map aD)] rfl rfl rfl rfl rfl rfl<|xAz [.int .i64 0, .int .i64 0, .str [], .sl ([].map aD)] rfl<|xSt rfl<|oRs<|xMv rfl<|xC1 h (bZ ·) rfl (fun c12_2 h=> ?_)
 refine xFd rfl<|xSt rfl<|oRs<|xMv rfl<|xC1 h (oF ·) rfl (fun c15_3 h=> ?_)
 refine xFd rfl<|xSt rfl<|oRs<|xMv rfl<|xC1 h (bZ ·) rfl (fun c18_4 h=> ?_)
 refine xAs rfl<|oNl<|cSq<|cRs<|oJn h [(19,25)] [] (fun v25_5=>(.n,[(25,Bo v25_5)],[])) (fun _ h=> ?_) (fun v25_5 h=> ?_)
 refine xMv rfl<|xLt rfl<|xMv rfl<|oIf 21 h rfl (fun q6 h=> ?_) (fun q6 h=> ?_)
 exact wSk rfl<|wSk rfl<|wSk rfl<|xPk rfl<|oNl<|eJ h rfl
 refine xMv rfl<|xC0 h (aQ ·) rfl (fun c23_7 h=> ?_)
 exact fC rfl<|xPk rfl<|oNl<|eJ h rfl
 refine cIf h rfl (fun q8 h=> ?_) (fun q8 h=> ?_)
 refine cRg<|xMv rfl<|xNc rfl<|xFd rfl<|xSt rfl<|oNl<|cSq<|cRs<|xAs rfl<|oNl<|cLp h [(7,7),(29,49)] [(5,5),(1000000,1000000)] (fun(v7_9,w5_10,w5_11,w5_12,w5_13,w1000000_14,w1000000_15,w1000000_16)=>([(7,I64 v7_9)],[(5,[.int .i64 w5_10, .int .i64 w5_11, .str w5_12, .sl (w5_13.map aD)]),(1000000,[.sl (w1000000_14.map rI_u8), .int .i64 w1000000_15, .bool w1000000_16])])) (fun(v7_17,v38_18,w5_19,w5_20,w5_21,w5_22,w1000000_23,w1000000_24,w1000000_25)=>(.e 0,[(7,I64 v7_17),(38,Bo v38_18)],[(5,[.int .i64 w5_19, .int .i64 w5_20, .str w5_21, .sl (w5_22.map aD)]),(1000000,[.sl (w1000000_23.map rI_u8), .int .i64 w1000000_24, .bool w1000000_25])])) rfl (fun st _ h=> ?_) (fun q h=> ?_)
 obtain⟨v7_9,w5_10,w5_11,w5_12,w5_13,w1000000_14,w1000000_15,w1000000_16⟩:=st
 unfold cJ at h
 refine cSq<|cRs<|oJn h [(29,38)] [] (fun v38_26=>(.n,[(38,Bo v38_26)],[])) (fun _ h=> ?_) (fun v38_26 h=> ?_)
 refine xMv rfl<|xMv rfl<|xLt rfl<|xMv rfl<|oIf 32 h rfl (fun q27 h=> ?_) (fun q27 h=> ?_)
 exact xMv rfl<|xNc rfl<|xFd rfl<|xLd rfl<|fC rfl<|xPk rfl<|oNl<|eJ h rfl
 exact wSk rfl<|wSk rfl<|wSk rfl<|wSk rfl<|wSk rfl<|xPk rfl<|oNl<|eJ h rfl
 refine cIf h rfl (fun q28 h=> ?_) (fun q28 h=> ?_)
 refine cSk<|cSq<|cBk<|cRg<|xFd rfl<|xLd rfl<|xMv rfl<|xMv rfl<|sB rfl<|xC1 h (ih_spec_l11Pat ·) rfl (fun c46_29 h=> ?_)
 refine nG (L:=([aA.mk c46_29.1 c46_29.2.1 c46_29.2.2.1 c46_29.2.2.2.1]:List aA)) (f:=aD) rfl rfl rfl rfl (by simp only[List.map,cW]<;>rfl) rfl rfl<|wAp (f:=aD) h rfl rfl rfl rfl rfl rfl rfl rfl rfl (fun a=>by rw[aH]; rfl) rfl (fun v48_30 h=> ?_)
 exact xFd rfl<|xSt rfl<|oNl<|cRg<|xMv rfl<|cD rfl<|xAs rfl<|oNl<|eL h rfl
 exact cEx<|eX h rfl
 obtain⟨v7_17,v38_18,w5_19,w5_20,w5_21,w5_22,w1000000_23,w1000000_24,w1000000_25⟩:=q
 refine cRs<|xLd rfl<|xSt rfl<|oNl<|cRt ?_
 cases h
 exact eR rfl rfl rfl rfl
 refine cSk<|cSq<|cRs<|xAs rfl<|oNl<|cLp h [(7,7),(29,49)] [(5,5),(1000000,1000000)] (fun(v7_31,w5_32,w5_33,w5_34,w5_35,w1000000_36,w1000000_37,w1000000_38)=>([(7,I64 v7_31)],[(5,[.int .i64 w5_32, .int .i64 w5_33, .str w5_34, .sl (w5_35.map aD)]),(1000000,[.sl (w1000000_36.map rI_u8), .int .i64 w1000000_37, .bool w1000000_38])])) (fun(v7_39,v38_40,w5_41,w5_42,w5_43,w5_44,w1000000_45,w1000000_46,w1000000_47)=>(.e 0,[(7,I64 v7_39),(38,Bo v38_40)],[(5,[.int .i64 w5_41, .int .i64 w5_42, .str w5_43, .sl (w5_44.map aD)]),(1000000,[.sl (w1000000_45.map rI_u8), .int .i64 w1000000_46, .bool w1000000_47])])) rfl (fun st _ h=> ?_) (fun q h=> ?_)
 obtain⟨v7_31,w5_32,w5_33,w5_34,w5_35,w1000000_36,w1000000_37,w1000000_38⟩:=st
 unfold rG at h
 refine cSq<|cRs<|oJn h [(29,38)] [] (fun v38_48=>(.n,[(38,Bo v38_48)],[])) (fun _ h=> ?_) (fun v38_48 h=> ?_)
 refine xMv rfl<|xMv rfl<|xLt rfl<|xMv rfl<|oIf 32 h rfl (fun q49 h=> ?_) (fun q49 h=> ?_)
 exact xMv rfl<|xNc rfl<|xFd rfl<|xLd rfl<|fC rfl<|xPk rfl<|oNl<|eJ h rfl
 exact wSk rfl<|wSk rfl<|wSk rfl<|wSk rfl<|wSk rfl<|xPk rfl<|oNl<|eJ h rfl
 refine cIf h rfl (fun q50 h=> ?_) (fun q50 h=> ?_)
 refine cSk<|cSq<|cBk<|cRg<|xFd rfl<|xLd rfl<|xMv rfl<|xMv rfl<|sB rfl<|xC1 h (ih_spec_l11Pat ·) rfl (fun c46_51 h=> ?_)
 refine nG (L:=([aA.mk c46_51.1 c46_51.2.1 c46_51.2.2.1 c46_51.2.2.2.1]:List aA)) (f:=aD) rfl rfl rfl rfl (by simp only[List.map,cW]<;>rfl) rfl rfl<|wAp (f:=aD) h rfl rfl rfl rfl rfl rfl rfl rfl rfl (fun a=>by rw[aH]; rfl) rfl (fun v48_52 h=> ?_)
 exact xFd rfl<|xSt rfl<|oNl<|cRg<|xMv rfl<|cD rfl<|xAs rfl<|oNl<|eL h rfl
 exact cEx<|eX h rfl
 obtain⟨v7_39,v38_40,w5_41,w5_42,w5_43,w5_44,w1000000_45,w1000000_46,w1000000_47⟩:=q
 refine cRs<|xLd rfl<|xSt rfl<|oNl<|cRt ?_
 cases h
 exact eR rfl rfl rfl rfl
def wB:Nat→(fR)
  | 0=>(fun _ _ _ _=>none)
  | n+1=>eG n (wB n)
def bU(n:Nat):fR:=wB n
theorem AA(n:Nat):nQ (bU n):=by
  induction n with
  | zero=>exact(fun h=>nomatch h)
  | succ n ih=>exact zW (n:=n) ih
theorem Bu{n:Nat}:nQ (bU n):=(AA n)
theorem JH(n:Nat):bU (n+1)=eG n (bU n):=rfl
abbrev DH(p:(List Int)→Option ((List aB)×(List aA)×Bool)):Prop:= ∀ {t0_0:List Int} {r:(List aB)×(List aA)×Bool},p t0_0=some r→Big Try.prog τ An (.fn 53 [.one (.c (.sl (t0_0.map rI_u8)))] [] (.tup [.ag [.sl (r.1.map aG), .sl (r.2.1.map aD)], .c (.bool r.2.2)]) none [] none)
def dJ(n:Nat)(c15_1:Int×(List Int)×Int×Bool):(Int×(List aB)×(List aA)×(List Int)×Int×Bool)→Option ((Int×(List aB)×(List aA)×(List Int)×Int×Bool)⊕((Int×Bool×(List aB)×(List aA)×(List Int)×Int×Bool)))
  | (v7_2,w5_3,w5_4,w12_5,w12_6,w12_7)=>(bif decide (v7_2<c15_1.1)then bif decide (v7_2<(13:Int))then some (!w12_7)else some false else some false).bind fun v29_15=>bif v29_15 then(mM n w12_5 w12_6 w12_7).bind fun c35_19=>(iI 56 w5_3 ([aB.mk c35_19.1 c35_19.2.1 c35_19.2.2.1 c35_19.2.2.2.1]:List aB)).bind fun v37_20=>some (.inl ((IntKind.wrap .i64 (v7_2+(1:Int))),v37_20,w5_4,c35_19.2.2.2.2.1,c35_19.2.2.2.2.2.1,c35_19.2.2.2.2.2.2))else some (.inr (v7_2,false,w5_3,w5_4,w12_5,w12_6,w12_7))
def dI(n:Nat)(c40_21:Int×(List Int)×Int×Bool):(Int×(List aB)×(List aA)×(List Int)×Int×Bool)→Option ((Int×(List aB)×(List aA)×(List Int)×Int×Bool)⊕((Int×Bool×(List aB)×(List aA)×(List Int)×Int×Bool)))
  | (v9_22,w5_23,w5_24,w12_25,w12_26,w12_27)=>(bif decide (v9_22<c40_21.1)then bif decide (v9_22<(2001:Int))then some (!w12_27)else some false else some false).bind fun v54_35=>bif v54_35 then(bU n (10:Int) w12_25 w12_26 w12_27).bind fun c60_39=>(iI 56 w5_24 ([aA.mk c60_39.1 c60_39.2.1 c60_39.2.2.1 c60_39.2.2.2.1]:List aA)).bind fun v62_40=>some (.inl ((IntKind.wrap .i64 (v9_22+(1:Int))),w5_23,v62_40,c60_39.2.2.2.2.1,c60_39.2.2.2.2.2.1,c60_39.2.2.2.2.2.2))else some (.inr (v9_22,false,w5_23,w5_24,w12_25,w12_26,w12_27))
def kE(n:Nat)(t0_0:List Int):Option ((List aB)×(List aA)×Bool):=
  (aX n t0_0 (0:Int) false).bind fun c15_1=>(loopN (dJ n c15_1) n ((0:Int),([]:List aB),([]:List aA),c15_1.2.1,c15_1.2.2.1,c15_1.2.2.2)).bind fun(v7_8,v29_9,w5_10,w5_11,w12_12,w12_13,w12_14)=>(aX n w12_12 w12_13 w12_14).bind fun c40_21=>(loopN (dI n c40_21) n ((0:Int),w5_10,w5_11,c40_21.2.1,c40_21.2.2.1,c40_21.2.2.2)).bind fun(v9_28,v54_29,w5_30,w5_31,w12_32,w12_33,w12_34)=>(bif w12_34 then some true else bif !decide (w12_33=(t0_0.length:Int))then some true else bif !decide (c15_1.1=(w5_30.length:Int))then some true else bif !decide (c40_21.1=(w5_31.length:Int))then some true else(iQ n w5_30 w5_31).bind fun c93_46=>(lU c93_46).bind fun v94_47=>(lU t0_0).bind fun v96_48=>some (!decide (v94_47=v96_48))).bind fun v98_41=>bif v98_41 then some (([]:List aB),([]:List aA),false)else some (w5_30,w5_31,true)
theorem AI{n:Nat}:DH (kE n):=by
 intro t0_0 r h
 unfold kE at h
 refine bF Try.func53 rfl rfl<|cRs<|xAz [.sl ([].map aG), .sl ([].map aD)] rfl<|xAs rfl<|oRs<|xMv rfl<|wBd [.sl (t0_0.map rI_u8), .int .i64 0, .bool false] rfl rfl rfl rfl rfl rfl<|xBx rfl<|xAs rfl<|oRs<|wBd [.sl ([].map aG), .sl ([].map aD)] rfl rfl rfl rfl rfl rfl<|xAz [.sl ([].map aG), .sl ([].map aD)] rfl<|xSt rfl<|oRs ?_
 refine xMv rfl<|xC1 h (bZ ·) rfl (fun c15_1 h=> ?_)
 refine xAs rfl<|oNl<|cSq<|cRs<|xAs rfl<|oNl<|cLp h [(7,7),(16,38)] [(5,5),(12,12)] (fun(v7_2,w5_3,w5_4,w12_5,w12_6,w12_7)=>([(7,I64 v7_2)],[(5,[.sl (w5_3.map aG), .sl (w5_4.map aD)]),(12,[.sl (w12_5.map rI_u8), .int .i64 w12_6, .bool w12_7])])) (fun(v7_8,v29_9,w5_10,w5_11,w12_12,w12_13,w12_14)=>(.e 0,[(7,I64 v7_8),(29,Bo v29_9)],[(5,[.sl (w5_10.map aG), .sl (w5_11.map aD)]),(12,[.sl (w12_12.map rI_u8), .int .i64 w12_13, .bool w12_14])])) rfl (fun st _ h=> ?_) (fun q h=> ?_)
 obtain⟨v7_2,w5_3,w5_4,w12_5,w12_6,w12_7⟩:=st
 unfold dJ at h
 refine cSq<|cRs<|oJn h [(16,29)] [] (fun v29_15=>(.n,[(29,Bo v29_15)],[])) (fun _ h=> ?_) (fun v29_15 h=> ?_)
 refine xMv rfl<|xMv rfl<|xLt rfl<|xMv rfl<|oIf 19 h rfl (fun q16 h=> ?_) (fun q16 h=> ?_)
 refine xMv rfl<|xLt rfl<|xPk rfl<|xMv rfl<|oIf 23 h rfl (fun q17 h=> ?_) (fun q17 h=> ?_)
 exact xMv rfl<|xNc rfl<|xFd rfl<|xLd rfl<|fC rfl<|xPk rfl<|oNl<|eJ h rfl
 exact wSk rfl<|wSk rfl<|wSk rfl<|wSk rfl<|wSk rfl<|xPk rfl<|oNl<|eJ h rfl
 exact wSk rfl<|wSk rfl<|xPk rfl<|xMv rfl<|wSk rfl<|wSk rfl<|wSk rfl<|wSk rfl<|wSk rfl<|xPk rfl<|oNl<|eJ h rfl
 refine cIf h rfl (fun q18 h=> ?_) (fun q18 h=> ?_)
 refine cSk<|cSq<|cBk<|cRg<|xFd rfl<|xLd rfl<|xMv rfl<|xC1 h (Cs ·) rfl (fun c35_19 h=> ?_)
 refine nG (L:=([aB.mk c35_19.1 c35_19.2.1 c35_19.2.2.1 c35_19.2.2.2.1]:List aB)) (f:=aG) rfl rfl rfl rfl rfl rfl rfl<|wAp (f:=aG) h rfl rfl rfl rfl rfl rfl rfl rfl rfl (fun _=>rfl) rfl (fun v37_20 h=> ?_)
 exact xFd rfl<|xSt rfl<|oNl<|cRg<|xMv rfl<|cD rfl<|xAs rfl<|oNl<|eL h rfl
 exact cEx<|eX h rfl
 obtain⟨v7_8,v29_9,w5_10,w5_11,w12_12,w12_13,w12_14⟩:=q
 refine cRs<|xMv rfl<|xC1 h (bZ ·) rfl (fun c40_21 h=> ?_)
 refine xAs rfl<|oNl<|cSq<|cRs<|xAs rfl<|oNl<|cLp h [(9,9),(41,63)] [(5,5),(12,12)] (fun(v9_22,w5_23,w5_24,w12_25,w12_26,w12_27)=>([(9,I64 v9_22)],[(5,[.sl (w5_23.map aG), .sl (w5_24.map aD)]),(12,[.sl (w12_25.map rI_u8), .int .i64 w12_26, .bool w12_27])])) (fun(v9_28,v54_29,w5_30,w5_31,w12_32,w12_33,w12_34)=>(.e 2,[(9,I64 v9_28),(54,Bo v54_29)],[(5,[.sl (w5_30.map aG), .sl (w5_31.map aD)]),(12,[.sl (w12_32.map rI_u8), .int .i64 w12_33, .bool w12_34])])) rfl (fun st _ h=> ?_) (fun q h=> ?_)
 obtain⟨v9_22,w5_23,w5_24,w12_25,w12_26,w12_27⟩:=st
 unfold dI at h
 refine cSq<|cRs<|oJn h [(41,54)] [] (fun v54_35=>(.n,[(54,Bo v54_35)],[])) (fun _ h=> ?_) (fun v54_35 h=> ?_)
 refine xMv rfl<|xMv rfl<|xLt rfl<|xMv rfl<|oIf 44 h rfl (fun q36 h=> ?_) (fun q36 h=> ?_)
 refine xMv rfl<|xLt rfl<|xPk rfl<|xMv rfl<|oIf 48 h rfl (fun q37 h=> ?_) (fun q37 h=> ?_)
 exact xMv rfl<|xNc rfl<|xFd rfl<|xLd rfl<|fC rfl<|xPk rfl<|oNl<|eJ h rfl
 exact wSk rfl<|wSk rfl<|wSk rfl<|wSk rfl<|wSk rfl<|xPk rfl<|oNl<|eJ h rfl
 exact wSk rfl<|wSk rfl<|xPk rfl<|xMv rfl<|wSk rfl<|wSk rfl<|wSk rfl<|wSk rfl<|wSk rfl<|xPk rfl<|oNl<|eJ h rfl
 refine cIf h rfl (fun q38 h=> ?_) (fun q38 h=> ?_)
 refine cSk<|cSq<|cBk<|cRg<|xFd rfl<|xLd rfl<|xMv rfl<|xC1 h (Bu ·) rfl (fun c60_39 h=> ?_)
 refine nG (L:=([aA.mk c60_39.1 c60_39.2.1 c60_39.2.2.1 c60_39.2.2.2.1]:List aA)) (f:=aD) rfl rfl rfl rfl (by simp only[List.map,cW]<;>rfl) rfl rfl<|wAp (f:=aD) h rfl rfl rfl rfl rfl rfl rfl rfl rfl (fun a=>by rw[aH]; rfl) rfl (fun v62_40 h=> ?_)
 exact xFd rfl<|xSt rfl<|oNl<|cRg<|xMv rfl<|cD rfl<|xAs rfl<|oNl<|eL h rfl
 exact cEx<|eX h rfl
 obtain⟨v9_28,v54_29,w5_30,w5_31,w12_32,w12_33,w12_34⟩:=q
 refine cSq<|cRs<|oJn h [(64,98)] [] (fun v98_41=>(.n,[(98,Bo v98_41)],[])) (fun _ h=> ?_) (fun v98_41 h=> ?_)
 refine xMv rfl<|xNc rfl<|xFd rfl<|xLd rfl<|xMv rfl<|oIf 68 h rfl (fun q42 h=> ?_) (fun q42 h=> ?_)
 refine wSk rfl<|wSk rfl<|wSk rfl<|wSk rfl<|wSk rfl<|wSk rfl<|wSk rfl<|xPk rfl<|xMv rfl<|wSk rfl<|wSk rfl<|wSk rfl<|wSk rfl<|wSk rfl ?_
 refine xPk rfl<|xMv rfl<|wSk rfl<|wSk rfl<|wSk rfl<|wSk rfl<|wSk rfl<|xPk rfl<|xMv rfl<|wSk rfl<|wSk rfl<|wSk rfl<|wSk rfl<|wSk rfl ?_
 exact wSk rfl<|xPk rfl<|oNl<|eJ h rfl
 refine xMv rfl<|xNc rfl<|xFd rfl<|xLd rfl<|xMv rfl<|xLn rfl<|xNe rfl<|xPk rfl<|xMv rfl<|oIf 77 h rfl (fun q43 h=> ?_) (fun q43 h=> ?_)
 refine wSk rfl<|wSk rfl<|wSk rfl<|wSk rfl<|wSk rfl<|xPk rfl<|xMv rfl<|wSk rfl<|wSk rfl<|wSk rfl<|wSk rfl<|wSk rfl<|xPk rfl<|xMv rfl ?_
 exact wSk rfl<|wSk rfl<|wSk rfl<|wSk rfl<|wSk rfl<|wSk rfl<|xPk rfl<|oNl<|eJ h rfl
 refine xMv rfl<|xFd rfl<|xLd rfl<|xLn rfl<|xNe rfl<|xPk rfl<|xMv rfl<|oIf 84 h rfl (fun q44 h=> ?_) (fun q44 h=> ?_)
 refine wSk rfl<|wSk rfl<|wSk rfl<|wSk rfl<|wSk rfl<|xPk rfl<|xMv rfl<|wSk rfl<|wSk rfl<|wSk rfl<|wSk rfl<|wSk rfl<|wSk rfl<|xPk rfl ?_
 exact oNl<|eJ h rfl
 refine xMv rfl<|xFd rfl<|xLd rfl<|xLn rfl<|xNe rfl<|xPk rfl<|xMv rfl<|oIf 91 h rfl (fun q45 h=> ?_) (fun q45 h=> ?_)
 exact wSk rfl<|wSk rfl<|wSk rfl<|wSk rfl<|wSk rfl<|wSk rfl<|xPk rfl<|oNl<|eJ h rfl
 refine xLd rfl<|xC0 h (AG ·) rfl (fun c93_46 h=> ?_)
 refine wTs h rfl rfl ⟨rfl,rfl⟩ rfl jY rfl (fun v94_47 h=> ?_)
 refine xMv rfl<|wTs h rfl rfl ⟨rfl,rfl⟩ rfl jY rfl (fun v96_48 h=> ?_)
 exact xNs rfl<|xPk rfl<|oNl<|eJ h rfl
 refine cIf h rfl (fun q49 h=> ?_) (fun q49 h=> ?_)
 refine cRs<|wBd [.sl ([].map aG), .sl ([].map aD)] rfl rfl rfl rfl rfl rfl<|xSt rfl<|xAs rfl<|oNl<|cRt ?_
 cases h
 exact eR rfl rfl rfl rfl
 refine cSk<|cRs<|xLd rfl<|xSt rfl<|xAs rfl<|oNl<|cRt ?_
 cases h
 exact eR rfl rfl rfl rfl
abbrev DI(p:(List Int)→Option ((List Int))):Prop:= ∀ {t0_0:List Int} {r:(List Int)},p t0_0=some r→Big Try.prog τ An (.fn 54 [.one (.c (.sl (t0_0.map rI_u8)))] [] (.one (.c (.sl (r.map rI_u8)))) none [] none)
def gX(n:Nat)(t0_0:List Int):((List Int)×Int)→Option (((List Int)×Int)⊕(((List Int)×Int×Bool)))
  | (v3_2,v4_3)=>bif decide (v4_3<(t0_0.length:Int))then(ix t0_0 v4_3).bind fun e18_8=>(ix v3_2 v4_3).bind fun e20_9=>(some (v3_2.set (Int.toNat v4_3) e18_8)).bind fun u3_10=>some (.inl (u3_10,(IntKind.wrap .i64 (v4_3+(1:Int)))))else some (.inr (v3_2,v4_3,false))
def eO(n:Nat)(t0_0:List Int):Option ((List Int)):=
  (ck (decide (0≤(t0_0.length:Int)∧(t0_0.length:Int)≤maxLen∧1*(t0_0.length:Int)≤281474976710656))).bind fun _=>(loopN (gX n t0_0) n ((List.replicate (Int.toNat (t0_0.length:Int)) (0:Int)),(0:Int))).bind fun(v3_4,v4_5,v11_6)=>some v3_4
theorem kU{n:Nat}:DI (eO n):=by
 intro t0_0 r h
 unfold eO at h
 refine bF Try.func54 rfl rfl<|cRs<|wAe (Li rI_u8 []) rfl rfl rfl rfl<|oRs<|xMv rfl<|xLn rfl<|oCk h (fun k7_0 h=> ?_)
 refine wMk (z:=(0:Int)) (f:=rI_u8) k7_0 rfl rfl rfl rfl rfl rfl rfl<|xAs rfl<|oNl<|cSq<|cRs<|xAs rfl<|oNl<|cLp h [(3,4),(8,20)] [] (fun(v3_2,v4_3)=>([(3,Li rI_u8 v3_2),(4,I64 v4_3)],[])) (fun(v3_4,v4_5,v11_6)=>(.e 0,[(3,Li rI_u8 v3_4),(4,I64 v4_5),(11,Bo v11_6)],[])) rfl (fun st _ h=> ?_) (fun q h=> ?_)
 obtain⟨v3_2,v4_3⟩:=st
 unfold gX at h
 refine cSq<|cRs<|xMv rfl<|xMv rfl<|xLn rfl<|xLt rfl<|oNl<|cIf h rfl (fun q7 h=> ?_) (fun q7 h=> ?_)
 refine cSk<|cSq<|cBk<|cRg<|wAl rfl rfl rfl rfl<|xMv rfl<|xMv rfl<|xMv rfl<|xIx h jY rfl (fun e18_8 h=> ?_)
 refine xLd rfl<|wIp (f:=rI_u8) h rfl rfl rfl rfl rfl rfl (fun _=>rfl) rfl (fun e20_9 ke20_9 h=> ?_)
 refine Cl (f:=rI_u8) (v':=e18_8) h ke20_9 rfl rfl rfl rfl rfl rfl rfl rfl rfl (fun u3_10 h=> ?_)
 exact oNl<|cRg<|xMv rfl<|cD rfl<|xAs rfl<|oNl<|eL h rfl
 exact cEx<|eX h rfl
 obtain⟨v3_4,v4_5,v11_6⟩:=q
 refine cRs<|xMv rfl<|xAs rfl<|oNl<|cRt ?_
 cases h
 exact eR rfl rfl rfl rfl
abbrev FN(p:(List UInt8)→Int→Int→(List aC)→(List UInt8)→Option (Bool×(List UInt8))):Prop:= ∀ {t0_0:List UInt8} {t0_1 t0_2:Int} {t0_3:List aC} {o0_0:List UInt8} {r:Bool×(List UInt8)},p t0_0 t0_1 t0_2 t0_3 o0_0=some r→Big Try.prog τ An (.fn 213 [.one (.ag [.str t0_0, .int .i64 t0_1, .int .i64 t0_2, .sl (t0_3.map aJ)]), .one (.ptr 1000000 0)] [[.str o0_0]] (.one (.c (.bool r.1))) none [[.str r.2]] none)
def nM(n:Nat)(t0_0:List UInt8)(t0_1:Int)(t0_2:Int)(t0_3:List aC)(o0_0:List UInt8):Option (Bool×(List UInt8)):=
  some ((decide (t0_0=o0_0)),o0_0)
theorem CB{n:Nat}:FN (nM n):=by
 intro t0_0 t0_1 t0_2 t0_3 o0_0 r h
 unfold nM at h
 refine bF Try.func213 rfl rfl<|cRs<|xBx rfl<|xAs rfl<|oRs<|xFd rfl<|xLd rfl<|xLd rfl<|xEs rfl<|xAs rfl<|oNl<|cRt ?_
 cases h
 exact eR rfl rfl rfl rfl
abbrev rC(p:(List aB)→(List UInt8)→Option (Int×(List UInt8))):Prop:= ∀ {t0_0:List aB} {o0_0:List UInt8} {r:Int×(List UInt8)},p t0_0 o0_0=some r→Big Try.prog τ An (.fn 212 [.one (.c (.sl (t0_0.map aG))), .one (.fn 213 [(1000000,0)])] [[.str o0_0]] (.one (.c (.int .i64 r.1))) none [[.str r.2]] none)
def bO(n:Nat)(t0_0:List aB):(Int×(List UInt8))→Option ((Int×(List UInt8))⊕((Int×(List UInt8))⊕(Int×Bool×(List UInt8))))
  | (v8_1,w1000000_2)=>bif decide (v8_1<(t0_0.length:Int))then(ix t0_0 v8_1).bind fun e14_9=>(nM n e14_9.f0 e14_9.f1 e14_9.f2 e14_9.f3 w1000000_2).bind fun c16_10=>bif c16_10.1 then some (.inr (.inl (v8_1,c16_10.2)))else some (.inl ((IntKind.wrap .i64 (v8_1+(1:Int))),c16_10.2))else some (.inr (.inr (v8_1,false,w1000000_2)))
def eP(n:Nat)(t0_0:List aB)(o0_0:List UInt8):Option (Int×(List UInt8)):=
  (loopN (bO n t0_0) n ((0:Int),o0_0)).bind fun q=>(match q with | .inl (v4_3,w1000000_4)=>some (v4_3,w1000000_4) | .inr (v8_5,v9_6,w1000000_7)=>some (((-1):Int),w1000000_7))
theorem pP{n:Nat}:rC (eP n):=by
 intro t0_0 o0_0 r h
 unfold eP at h
 refine bF Try.func212 rfl rfl<|cRs<|xAs rfl<|oNl<|cSq<|cRs<|xMv rfl<|xLn rfl<|xMv rfl<|oNl<|cLp h [(4,5),(8,18)] [(1000000,1000000)] (fun(v8_1,w1000000_2)=>([(8,I64 v8_1)],[(1000000,[.str w1000000_2])])) (fun q=>match q with | .inl (v4_3,w1000000_4)=>(.r,[(4,I64 v4_3)],[(1000000,[.str w1000000_4])]) | .inr (v8_5,v9_6,w1000000_7)=>(.e 0,[(8,I64 v8_5),(9,Bo v9_6)],[(1000000,[.str w1000000_7])])) rfl (fun st _ h=> ?_) (fun q h=> ?_)
 obtain⟨v8_1,w1000000_2⟩:=st
 unfold bO at h
 refine cRs<|xLt rfl<|oNl<|cSq<|cIf h rfl (fun q8 h=> ?_) (fun q8 h=> ?_)
 refine cSk<|cSq<|cBk<|cRs<|xMv rfl<|xAs rfl<|oRs<|xMv rfl<|xMv rfl<|xMv rfl<|xIx h bN rfl (fun e14_9 h=> ?_)
 refine xLd rfl<|xC1 h (CB ·) rfl (fun c16_10 h=> ?_)
 refine oNl<|cIf h rfl (fun q11 h=> ?_) (fun q11 h=> ?_)
 exact cRs<|xMv rfl<|xAs rfl<|oNl<|cRt<|eXr h rfl
 exact cSk<|cRg<|cD rfl<|xMv rfl<|oNl<|eL h rfl
 exact cEx<|eX h rfl
 rcases q with⟨v4_3,w1000000_4⟩ | ⟨v8_5,v9_6,w1000000_7⟩
 cases h
 exact eR rfl rfl rfl rfl
 refine cRs<|xAs rfl<|oNl<|cRt ?_
 cases h
 exact eR rfl rfl rfl rfl
abbrev IL(p:(List UInt8)→(List aB)→(List aA)→Option (Int×(List aB)×(List aA))):Prop:= ∀ {t1_0:List UInt8} {o0_0:List aB} {o0_1:List aA} {r:Int×(List aB)×(List aA)},p t1_0 o0_0 o0_1=some r→Big Try.prog τ An (.fn 128 [.one (.ptr 1000000 0), .one (.c (.str t1_0))] [[.sl (o0_0.map aG), .sl (o0_1.map aD)]] (.one (.c (.int .i64 r.1))) none [[.sl (r.2.1.map aG), .sl (r.2.2.map aD)]] none)
def lZ(n:Nat)(t1_0:List UInt8)(o0_0:List aB)(o0_1:List aA):Option (Int×(List aB)×(List aA)):=
  (eP n o0_0 t1_0).bind fun c10_1=>some (c10_1.1,o0_0,o0_1)
theorem wH{n:Nat}:IL (lZ n):=by
 intro t1_0 o0_0 o0_1 r h
 unfold lZ at h
 refine bF Try.func128 rfl rfl<|cRs<|xBx rfl<|xAs rfl<|oRs<|xMv rfl<|xNc rfl<|xFd rfl<|xLd rfl<|wFn rfl rfl rfl<|xC1 h (pP ·) rfl (fun c10_1 h=> ?_)
 refine xAs rfl<|oNl<|cRt ?_
 cases h
 exact eR rfl rfl rfl rfl
abbrev DV(p:Int→Int→Int→Option (Bool)):Prop:= ∀ {t0_0 t1_0 t2_0:Int} {r:Bool},p t0_0 t1_0 t2_0=some r→Big Try.prog τ An (.fn 130 [.one (.c (.int .i64 t0_0)), .one (.c (.int .i64 t1_0)), .one (.c (.int .i64 t2_0))] [] (.one (.c (.bool r))) none [] none)
def aL(n:Nat)(t0_0:Int)(t1_0:Int)(t2_0:Int):Option (Bool):=
  (bif decide (t1_0≤t0_0)then some (decide (t0_0≤t2_0))else some false).bind fun v6_1=>some v6_1
theorem aN{n:Nat}:DV (aL n):=by
 intro t0_0 t1_0 t2_0 r h
 unfold aL at h
 refine bF Try.func130 rfl rfl<|cRs<|xAs rfl<|oRs<|oJn h [(6,14)] [] (fun v6_1=>(.n,[(6,Bo v6_1)],[])) (fun _ h=> ?_) (fun v6_1 h=> ?_)
 refine xMv rfl<|xMv rfl<|xGe rfl<|xMv rfl<|oIf 10 h rfl (fun q2 h=> ?_) (fun q2 h=> ?_)
 exact xMv rfl<|xMv rfl<|xLe rfl<|xPk rfl<|xAs rfl<|oNl<|eJ h rfl
 exact wSk rfl<|wSk rfl<|wSk rfl<|xPk rfl<|xAs rfl<|oNl<|eJ h rfl
 refine cRt ?_
 cases h
 exact eR rfl rfl rfl rfl
abbrev DT(p:Int→Option (Bool)):Prop:= ∀ {t0_0:Int} {r:Bool},p t0_0=some r→Big Try.prog τ An (.fn 237 [.one (.c (.int .u8 t0_0))] [] (.one (.c (.bool r))) none [] none)
def gF(n:Nat)(t0_0:Int):Option (Bool):=
  (bif decide ((97:Int)≤t0_0)then some (decide (t0_0≤(122:Int)))else some false).bind fun v2_1=>some v2_1
theorem rK{n:Nat}:DT (gF n):=by
 intro t0_0 r h
 unfold gF at h
 refine bF Try.func237 rfl rfl<|cRs<|xAs rfl<|oRs<|oJn h [(2,8)] [] (fun v2_1=>(.n,[(2,Bo v2_1)],[])) (fun _ h=> ?_) (fun v2_1 h=> ?_)
 refine xMv rfl<|xGe rfl<|xMv rfl<|oIf 5 h rfl (fun q2 h=> ?_) (fun q2 h=> ?_)
 exact xMv rfl<|xLe rfl<|xPk rfl<|xAs rfl<|oNl<|eJ h rfl
 exact wSk rfl<|wSk rfl<|xPk rfl<|xAs rfl<|oNl<|eJ h rfl
 refine cRt ?_
 cases h
 exact eR rfl rfl rfl rfl
abbrev CN(p:Int→Option (Bool)):Prop:= ∀ {t0_0:Int} {r:Bool},p t0_0=some r→Big Try.prog τ An (.fn 238 [.one (.c (.int .u8 t0_0))] [] (.one (.c (.bool r))) none [] none)
def eU(n:Nat)(t0_0:Int):Option (Bool):=
  (bif decide ((48:Int)≤t0_0)then some (decide (t0_0≤(57:Int)))else some false).bind fun v2_1=>some v2_1
theorem qO{n:Nat}:CN (eU n):=by
 intro t0_0 r h
 unfold eU at h
 refine bF Try.func238 rfl rfl<|cRs<|xAs rfl<|oRs<|oJn h [(2,8)] [] (fun v2_1=>(.n,[(2,Bo v2_1)],[])) (fun _ h=> ?_) (fun v2_1 h=> ?_)
 refine xMv rfl<|xGe rfl<|xMv rfl<|oIf 5 h rfl (fun q2 h=> ?_) (fun q2 h=> ?_)
 exact xMv rfl<|xLe rfl<|xPk rfl<|xAs rfl<|oNl<|eJ h rfl
 exact wSk rfl<|wSk rfl<|xPk rfl<|xAs rfl<|oNl<|eJ h rfl
 refine cRt ?_
 cases h
 exact eR rfl rfl rfl rfl
abbrev FR(p:(List UInt8)→Option (Bool)):Prop:= ∀ {t0_0:List UInt8} {r:Bool},p t0_0=some r→Big Try.prog τ An (.fn 159 [.one (.c (.str t0_0))] [] (.one (.c (.bool r))) none [] none)
def kT(n:Nat)(t0_0:List UInt8):(Int)→Option ((Int)⊕((Bool)⊕(Int×Bool)))
  | v3_1=>bif decide (v3_1<(t0_0.length:Int))then((ixs t0_0 v3_1).bind fun e12_7=>(gF n e12_7).bind fun c13_8=>bif !c13_8 then bif decide (v3_1=(0:Int))then some true else(ixs t0_0 v3_1).bind fun e21_11=>(eU n e21_11).bind fun c22_12=>bif !c22_12 then(ixs t0_0 v3_1).bind fun e27_14=>some (!decide (e27_14=(95:Int)))else some false else some false).bind fun v31_6=>bif v31_6 then some (.inr (.inl false))else some (.inl (IntKind.wrap .i64 (v3_1+(1:Int))))else some (.inr (.inr (v3_1,false)))
def lK(n:Nat)(t0_0:List UInt8):Option (Bool):=
  (loopN (kT n t0_0) n (0:Int)).bind fun q=>(match q with | .inl v2_2=>some v2_2 | .inr (v3_3,v7_4)=>(aL n (t0_0.length:Int) (1:Int) (20:Int)).bind fun c34_16=>some c34_16)
theorem CD{n:Nat}:FR (lK n):=by
 intro t0_0 r h
 unfold lK at h
 refine bF Try.func159 rfl rfl<|cRs<|xAs rfl<|oNl<|cSq<|cRs<|xAs rfl<|oNl<|cLp h [(2,31)] [] (fun v3_1=>([(3,I64 v3_1)],[])) (fun q=>match q with | .inl v2_2=>(.r,[(2,Bo v2_2)],[]) | .inr (v3_3,v7_4)=>(.e 0,[(3,I64 v3_3),(7,Bo v7_4)],[])) rfl (fun v3_1 _ h=> ?_) (fun q h=> ?_)
 unfold kT at h
 refine cSq<|cRs<|xMv rfl<|xMv rfl<|xLs rfl<|xLt rfl<|oNl<|cIf h rfl (fun q5 h=> ?_) (fun q5 h=> ?_)
 refine cSk<|cSq<|cBk<|cRs<|oJn h [(10,31)] [] (fun v31_6=>(.n,[(31,Bo v31_6)],[])) (fun _ h=> ?_) (fun v31_6 h=> ?_)
 refine xMv rfl<|xMv rfl<|Ou h rfl rfl rfl rfl rfl (fun e12_7 h=> ?_)
 refine xC0 h (rK ·) rfl (fun c13_8 h=> ?_)
 refine fC rfl<|xMv rfl<|oIf 15 h rfl (fun q9 h=> ?_) (fun q9 h=> ?_)
 refine xMv rfl<|xEq rfl<|xMv rfl<|oIf 18 h rfl (fun q10 h=> ?_) (fun q10 h=> ?_)
 exact wSk rfl<|wSk rfl<|wSk rfl<|wSk rfl<|wSk rfl<|wSk rfl<|wSk rfl<|wSk rfl<|wSk rfl<|wSk rfl<|wSk rfl<|xPk rfl<|xPk rfl<|oNl<|eJ h rfl
 refine xMv rfl<|xMv rfl<|Ou h rfl rfl rfl rfl rfl (fun e21_11 h=> ?_)
 refine xC0 h (qO ·) rfl (fun c22_12 h=> ?_)
 refine fC rfl<|xMv rfl<|oIf 24 h rfl (fun q13 h=> ?_) (fun q13 h=> ?_)
 refine xMv rfl<|xMv rfl<|Ou h rfl rfl rfl rfl rfl (fun e27_14 h=> ?_)
 exact xNe rfl<|xPk rfl<|xPk rfl<|xPk rfl<|oNl<|eJ h rfl
 exact wSk rfl<|wSk rfl<|wSk rfl<|wSk rfl<|xPk rfl<|xPk rfl<|xPk rfl<|oNl<|eJ h rfl
 refine wSk rfl<|wSk rfl<|wSk rfl<|wSk rfl<|wSk rfl<|wSk rfl<|wSk rfl<|wSk rfl<|wSk rfl<|wSk rfl<|wSk rfl<|wSk rfl<|wSk rfl<|wSk rfl ?_
 exact wSk rfl<|xPk rfl<|oNl<|eJ h rfl
 refine cIf h rfl (fun q15 h=> ?_) (fun q15 h=> ?_)
 exact cRs<|xAs rfl<|oNl<|cRt<|eXr h rfl
 exact cSk<|cRg<|xMv rfl<|cD rfl<|xAs rfl<|oNl<|eL h rfl
 exact cEx<|eX h rfl
 rcases q with v2_2 | ⟨v3_3,v7_4⟩
 cases h
 exact eR rfl rfl rfl rfl
 refine cRs<|xMv rfl<|xLs rfl<|xC0 h (aN ·) rfl (fun c34_16 h=> ?_)
 refine xAs rfl<|oNl<|cRt ?_
 cases h
 exact eR rfl rfl rfl rfl
abbrev DM(p:(List UInt8)→Option (Bool)):Prop:= ∀ {t0_0:List UInt8} {r:Bool},p t0_0=some r→Big Try.prog τ An (.fn 138 [.one (.c (.str t0_0))] [] (.one (.c (.bool r))) none [] none)
def dS(n:Nat)(t0_0:List UInt8):Option (Bool):=
  ((lK n t0_0).bind fun c4_2=>bif c4_2 then bif !decide (t0_0=([99,97,115,101]:List UInt8))then bif !decide (t0_0=([111,102]:List UInt8))then some (!decide (t0_0=([101,110,100]:List UInt8)))else some false else some false else some false).bind fun v2_1=>some v2_1
theorem kV{n:Nat}:DM (dS n):=by
 intro t0_0 r h
 unfold dS at h
 refine bF Try.func138 rfl rfl<|cRs<|xAs rfl<|oRs<|oJn h [(2,16)] [] (fun v2_1=>(.n,[(2,Bo v2_1)],[])) (fun _ h=> ?_) (fun v2_1 h=> ?_)
 refine xMv rfl<|xC0 h (CD ·) rfl (fun c4_2 h=> ?_)
 refine xMv rfl<|oIf 5 h rfl (fun q3 h=> ?_) (fun q3 h=> ?_)
 refine xMv rfl<|xNs rfl<|xPk rfl<|xMv rfl<|oIf 9 h rfl (fun q4 h=> ?_) (fun q4 h=> ?_)
 refine xMv rfl<|xNs rfl<|xPk rfl<|xMv rfl<|oIf 13 h rfl (fun q5 h=> ?_) (fun q5 h=> ?_)
 exact xMv rfl<|xNs rfl<|xPk rfl<|xAs rfl<|oNl<|eJ h rfl
 exact wSk rfl<|wSk rfl<|xPk rfl<|xAs rfl<|oNl<|eJ h rfl
 exact wSk rfl<|wSk rfl<|xPk rfl<|xMv rfl<|wSk rfl<|wSk rfl<|xPk rfl<|xAs rfl<|oNl<|eJ h rfl
 exact wSk rfl<|wSk rfl<|xPk rfl<|xMv rfl<|wSk rfl<|wSk rfl<|xPk rfl<|xMv rfl<|wSk rfl<|wSk rfl<|xPk rfl<|xAs rfl<|oNl<|eJ h rfl
 refine cRt ?_
 cases h
 exact eR rfl rfl rfl rfl
abbrev vD(p:(List Int)→Int→Option (Int)):Prop:= ∀ {t0_0:List Int} {t1_0:Int} {r:Int},p t0_0 t1_0=some r→Big Try.prog τ An (.fn 274 [.one (.c (.sl (t0_0.map aV))), .one (.c (.int .i64 t1_0))] [] (.one (.c (.int .i64 r))) none [] none)
def dE(n:Nat)(t0_0:List Int)(t1_0:Int):(Int)→Option ((Int)⊕((Int)⊕(Int×Bool)))
  | v8_1=>bif decide (v8_1<(t0_0.length:Int))then(ix t0_0 v8_1).bind fun e14_6=>bif decide (t1_0=e14_6)then some (.inr (.inl v8_1))else some (.inl (IntKind.wrap .i64 (v8_1+(1:Int))))else some (.inr (.inr (v8_1,false)))
def eY(n:Nat)(t0_0:List Int)(t1_0:Int):Option (Int):=
  (loopN (dE n t0_0 t1_0) n (0:Int)).bind fun q=>(match q with | .inl v4_2=>some v4_2 | .inr (v8_3,v9_4)=>some ((-1):Int))
theorem tE{n:Nat}:vD (eY n):=by
 intro t0_0 t1_0 r h
 unfold eY at h
 refine bF Try.func274 rfl rfl<|cRs<|xAs rfl<|oNl<|cSq<|cRs<|xMv rfl<|xLn rfl<|xMv rfl<|oNl<|cLp h [(4,5),(8,18)] [] (fun v8_1=>([(8,I64 v8_1)],[])) (fun q=>match q with | .inl v4_2=>(.r,[(4,I64 v4_2)],[]) | .inr (v8_3,v9_4)=>(.e 0,[(8,I64 v8_3),(9,Bo v9_4)],[])) rfl (fun v8_1 _ h=> ?_) (fun q h=> ?_)
 unfold dE at h
 refine cRs<|xLt rfl<|oNl<|cSq<|cIf h rfl (fun q5 h=> ?_) (fun q5 h=> ?_)
 refine cSk<|cSq<|cBk<|cRs<|xMv rfl<|xAs rfl<|oRs<|xMv rfl<|xMv rfl<|xMv rfl<|xIx h jC rfl (fun e14_6 h=> ?_)
 refine xLd rfl<|xEq rfl<|oNl<|cIf h rfl (fun q7 h=> ?_) (fun q7 h=> ?_)
 exact cRs<|xMv rfl<|xAs rfl<|oNl<|cRt<|eXr h rfl
 exact cSk<|cRg<|cD rfl<|xMv rfl<|oNl<|eL h rfl
 exact cEx<|eX h rfl
 rcases q with v4_2 | ⟨v8_3,v9_4⟩
 cases h
 exact eR rfl rfl rfl rfl
 refine cRs<|xAs rfl<|oNl<|cRt ?_
 cases h
 exact eR rfl rfl rfl rfl
abbrev rR(p:(List Int)→Int→Option (Bool)):Prop:= ∀ {t0_0:List Int} {t1_0:Int} {r:Bool},p t0_0 t1_0=some r→Big Try.prog τ An (.fn 216 [.one (.c (.sl (t0_0.map aV))), .one (.c (.int .i64 t1_0))] [] (.one (.c (.bool r))) none [] none)
def dF(n:Nat)(t0_0:List Int)(t1_0:Int):Option (Bool):=
  (eY n t0_0 t1_0).bind fun c7_1=>some (decide ((0:Int)≤c7_1))
theorem qP{n:Nat}:rR (dF n):=by
 intro t0_0 t1_0 r h
 unfold dF at h
 refine bF Try.func216 rfl rfl<|cRs<|xAs rfl<|oRs<|xMv rfl<|xMv rfl<|xC0 h (tE ·) rfl (fun c7_1 h=> ?_)
 refine xGe rfl<|xAs rfl<|oNl<|cRt ?_
 cases h
 exact eR rfl rfl rfl rfl
abbrev DU(p:Int→Option (Bool)):Prop:= ∀ {t0_0:Int} {r:Bool},p t0_0=some r→Big Try.prog τ An (.fn 299 [.one (.c (.int .u8 t0_0))] [] (.one (.c (.bool r))) none [] none)
def iS(n:Nat)(t0_0:Int):Option (Bool):=
  (bif decide ((65:Int)≤t0_0)then bif decide (t0_0≤(90:Int))then some true else some (decide (t0_0=(95:Int)))else some (decide (t0_0=(95:Int)))).bind fun v2_1=>some v2_1
theorem rL{n:Nat}:DU (iS n):=by
 intro t0_0 r h
 unfold iS at h
 refine bF Try.func299 rfl rfl<|cRs<|xAs rfl<|oRs<|oJn h [(2,12)] [] (fun v2_1=>(.n,[(2,Bo v2_1)],[])) (fun _ h=> ?_) (fun v2_1 h=> ?_)
 refine xMv rfl<|xGe rfl<|xMv rfl<|oIf 5 h rfl (fun q2 h=> ?_) (fun q2 h=> ?_)
 refine xMv rfl<|xLe rfl<|xPk rfl<|xMv rfl<|oIf 9 h rfl (fun q3 h=> ?_) (fun q3 h=> ?_)
 exact wSk rfl<|wSk rfl<|xPk rfl<|xAs rfl<|oNl<|eJ h rfl
 exact xMv rfl<|xEq rfl<|xPk rfl<|xAs rfl<|oNl<|eJ h rfl
 exact wSk rfl<|wSk rfl<|xPk rfl<|xMv rfl<|xMv rfl<|xEq rfl<|xPk rfl<|xAs rfl<|oNl<|eJ h rfl
 refine cRt ?_
 cases h
 exact eR rfl rfl rfl rfl
abbrev yL(p:Int→Option (Bool)):Prop:= ∀ {t0_0:Int} {r:Bool},p t0_0=some r→Big Try.prog τ An (.fn 298 [.one (.c (.int .u8 t0_0))] [] (.one (.c (.bool r))) none [] none)
def hG(n:Nat)(t0_0:Int):Option (Bool):=
  ((gF n t0_0).bind fun c4_2=>bif c4_2 then some true else(iS n t0_0).bind fun c7_4=>bif c7_4 then some true else(eU n t0_0).bind fun c11_6=>some c11_6).bind fun v2_1=>some v2_1
theorem vB{n:Nat}:yL (hG n):=by
 intro t0_0 r h
 unfold hG at h
 refine bF Try.func298 rfl rfl<|cRs<|xAs rfl<|oRs<|oJn h [(2,12)] [] (fun v2_1=>(.n,[(2,Bo v2_1)],[])) (fun _ h=> ?_) (fun v2_1 h=> ?_)
 refine xMv rfl<|xC0 h (rK ·) rfl (fun c4_2 h=> ?_)
 refine xMv rfl<|oIf 5 h rfl (fun q3 h=> ?_) (fun q3 h=> ?_)
 exact wSk rfl<|wSk rfl<|xPk rfl<|xMv rfl<|wSk rfl<|wSk rfl<|xPk rfl<|xAs rfl<|oNl<|eJ h rfl
 refine xMv rfl<|xC0 h (rL ·) rfl (fun c7_4 h=> ?_)
 refine xPk rfl<|xMv rfl<|oIf 9 h rfl (fun q5 h=> ?_) (fun q5 h=> ?_)
 exact wSk rfl<|wSk rfl<|xPk rfl<|xAs rfl<|oNl<|eJ h rfl
 refine xMv rfl<|xC0 h (qO ·) rfl (fun c11_6 h=> ?_)
 exact xPk rfl<|xAs rfl<|oNl<|eJ h rfl
 refine cRt ?_
 cases h
 exact eR rfl rfl rfl rfl
abbrev Gz(p:(List UInt8)→Option (Bool)):Prop:= ∀ {t0_0:List UInt8} {r:Bool},p t0_0=some r→Big Try.prog τ An (.fn 268 [.one (.c (.str t0_0))] [] (.one (.c (.bool r))) none [] none)
def lO(n:Nat)(t0_0:List UInt8):(Int)→Option ((Int)⊕((Bool)⊕(Int×Bool)))
  | v3_1=>bif decide (v3_1<(t0_0.length:Int))then(ixs t0_0 v3_1).bind fun e12_6=>(hG n e12_6).bind fun c13_7=>bif !c13_7 then some (.inr (.inl false))else some (.inl (IntKind.wrap .i64 (v3_1+(1:Int))))else some (.inr (.inr (v3_1,false)))
def mP(n:Nat)(t0_0:List UInt8):Option (Bool):=
  (loopN (lO n t0_0) n (0:Int)).bind fun q=>(match q with | .inl v2_2=>some v2_2 | .inr (v3_3,v7_4)=>((aL n (t0_0.length:Int) (1:Int) (20:Int)).bind fun c17_10=>bif c17_10 then(ixs t0_0 (0:Int)).bind fun e20_12=>(iS n e20_12).bind fun c21_13=>some c21_13 else some false).bind fun v2_9=>some v2_9)
theorem Cw{n:Nat}:Gz (mP n):=by
 intro t0_0 r h
 unfold mP at h
 refine bF Try.func268 rfl rfl<|cRs<|xAs rfl<|oNl<|cSq<|cRs<|xAs rfl<|oNl<|cLp h [(2,14)] [] (fun v3_1=>([(3,I64 v3_1)],[])) (fun q=>match q with | .inl v2_2=>(.r,[(2,Bo v2_2)],[]) | .inr (v3_3,v7_4)=>(.e 0,[(3,I64 v3_3),(7,Bo v7_4)],[])) rfl (fun v3_1 _ h=> ?_) (fun q h=> ?_)
 unfold lO at h
 refine cSq<|cRs<|xMv rfl<|xMv rfl<|xLs rfl<|xLt rfl<|oNl<|cIf h rfl (fun q5 h=> ?_) (fun q5 h=> ?_)
 refine cSk<|cSq<|cBk<|cRs<|xMv rfl<|xMv rfl<|Ou h rfl rfl rfl rfl rfl (fun e12_6 h=> ?_)
 refine xC0 h (vB ·) rfl (fun c13_7 h=> ?_)
 refine fC rfl<|oNl<|cIf h rfl (fun q8 h=> ?_) (fun q8 h=> ?_)
 exact cRs<|xAs rfl<|oNl<|cRt<|eXr h rfl
 exact cSk<|cRg<|xMv rfl<|cD rfl<|xAs rfl<|oNl<|eL h rfl
 exact cEx<|eX h rfl
 rcases q with v2_2 | ⟨v3_3,v7_4⟩
 cases h
 exact eR rfl rfl rfl rfl
 refine cRs<|oJn h [(2,2),(15,22)] [] (fun v2_9=>(.n,[(2,Bo v2_9)],[])) (fun _ h=> ?_) (fun v2_9 h=> ?_)
 refine xMv rfl<|xLs rfl<|xC0 h (aN ·) rfl (fun c17_10 h=> ?_)
 refine xMv rfl<|oIf 18 h rfl (fun q11 h=> ?_) (fun q11 h=> ?_)
 refine xMv rfl<|Ou h rfl rfl rfl rfl rfl (fun e20_12 h=> ?_)
 refine xC0 h (rL ·) rfl (fun c21_13 h=> ?_)
 exact xPk rfl<|xAs rfl<|oNl<|eJ h rfl
 exact wSk rfl<|wSk rfl<|wSk rfl<|xPk rfl<|xAs rfl<|oNl<|eJ h rfl
 refine cRt ?_
 cases h
 exact eR rfl rfl rfl rfl
abbrev IJ(p:(List UInt8)→Option (Bool)):Prop:= ∀ {t0_0:List UInt8} {r:Bool},p t0_0=some r→Big Try.prog τ An (.fn 271 [.one (.c (.str t0_0))] [] (.one (.c (.bool r))) none [] none)
def lY(n:Nat)(t0_0:List UInt8):Option (Bool):=
  bif decide (t0_0=([43]:List UInt8))then some true else bif decide (t0_0=([45]:List UInt8))then some true else bif decide (t0_0=([42]:List UInt8))then some true else bif decide (t0_0=([61,61]:List UInt8))then some true else bif decide (t0_0=([60]:List UInt8))then some true else some false
theorem wG{n:Nat}:IJ (lY n):=by
 intro t0_0 r h
 unfold lY at h
 refine bF Try.func271 rfl rfl<|cRs<|xAs rfl<|oNl<|cSq<|cRs<|xMv rfl<|oNl<|cBk<|cSq<|cRs<|xEs rfl<|xAs rfl<|oNl<|cIf h rfl (fun q1 h=> ?_) (fun q1 h=> ?_)
 refine cSk<|cT rfl<|cRs<|xAs rfl<|oNl<|cRt ?_
 cases h
 exact eR rfl rfl rfl rfl
 refine cRs<|xEs rfl<|xAs rfl<|oNl<|cIf h rfl (fun q2 h=> ?_) (fun q2 h=> ?_)
 refine cSk<|cT rfl<|cRs<|xAs rfl<|oNl<|cRt ?_
 cases h
 exact eR rfl rfl rfl rfl
 refine cRs<|xEs rfl<|xAs rfl<|oNl<|cIf h rfl (fun q3 h=> ?_) (fun q3 h=> ?_)
 refine cSk<|cT rfl<|cRs<|xAs rfl<|oNl<|cRt ?_
 cases h
 exact eR rfl rfl rfl rfl
 refine cRs<|xEs rfl<|xAs rfl<|oNl<|cIf h rfl (fun q4 h=> ?_) (fun q4 h=> ?_)
 refine cSk<|cT rfl<|cRs<|xAs rfl<|oNl<|cRt ?_
 cases h
 exact eR rfl rfl rfl rfl
 refine cRg<|xEs rfl<|xAs rfl<|oNl<|cIf h rfl (fun q5 h=> ?_) (fun q5 h=> ?_)
 refine cRs<|xAs rfl<|oNl<|cRt ?_
 cases h
 exact eR rfl rfl rfl rfl
 refine cSk<|cRs<|xAs rfl<|oNl<|cRt ?_
 cases h
 exact eR rfl rfl rfl rfl
abbrev DP(p:Int→Int→(List UInt8)→Int→Option (Bool)):Prop:= ∀ {t0_0 t1_0:Int} {t2_0:List UInt8} {t3_0:Int} {r:Bool},p t0_0 t1_0 t2_0 t3_0=some r→Big Try.prog τ An (.fn 217 [.one (.c (.int .i64 t0_0)), .one (.c (.int .i64 t1_0)), .one (.c (.str t2_0)), .one (.c (.int .i64 t3_0))] [] (.one (.c (.bool r))) none [] none)
end Go.Own
