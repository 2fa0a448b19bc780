/- A part of the proof. No conditions. -/
import Derived.Test.YtjfgchodolnmcaaW33A
set_option linter.unusedVariables false
set_option linter.unusedSimpArgs false
set_option linter.unnecessarySimpa false
namespace Go.Own
open Go Go.Proofs
def aX(a:Int):List T:=[.int .i64 a]
theorem iN(a:Int):aX a=[.int .i64 a]:=rfl
def Sa(a:Int):List T:=[.int .u8 a]
theorem NP(a:Int):Sa a=[.int .u8 a]:=rfl
structure aD where
  f0:Int
  f1:Int
  f2:List UInt8
  f3:Int
  deriving DecidableEq
def aK(a:aD):List T:=[.int .i64 a.f0, .int .i64 a.f1, .str a.f2, .int .i64 a.f3]
theorem bP(a:aD):aK a=[.int .i64 a.f0, .int .i64 a.f1, .str a.f2, .int .i64 a.f3]:=rfl
structure aO where
  f0:List UInt8
  f1:Int
  f2:Int
  f3:List aD
  deriving DecidableEq
def cE(a:aO):List T:=[.str a.f0, .int .i64 a.f1, .int .i64 a.f2, .sl (a.f3.map aK)]
theorem wG(a:aO):cE a=[.str a.f0, .int .i64 a.f1, .int .i64 a.f2, .sl (a.f3.map aK)]:=rfl
inductive aI where
  | mk (f0:Int) (f1:Int) (f2:List UInt8) (f3:List aI)
def aI.f0:aI→Int
  | .mk a _ _ _=>a
def aI.f1:aI→Int
  | .mk _ a _ _=>a
def aI.f2:aI→List UInt8
  | .mk _ _ a _=>a
def aI.f3:aI→List aI
  | .mk _ _ _ a=>a
mutual
def aT:aI→List T
  | .mk a0 a1 a2 a3=> [.int .i64 a0, .int .i64 a1, .str a2, .sl (mT a3)]
def mT:List aI→List (List T)
  | []=> []
  | x::r=>aT x::mT r
end
theorem nN: ∀l:List aI,mT l=l.map aT
  | []=>by simp [mT]
  | x::r=>by simp [mT,nN r]
theorem mN(a:aI):aT a=[.int .i64 a.f0, .int .i64 a.f1, .str a.f2, .sl (a.f3.map aT)]:=by
  cases a
  simp [aT,nN,aI.f0,aI.f1,aI.f2,aI.f3]
theorem Mi(a0:Int)(a1:Int)(a2:List UInt8)(a3:List aI):aT (.mk a0 a1 a2 a3)=[.int .i64 a0, .int .i64 a1, .str a2, .sl (a3.map aT)]:=by simp [aT,nN]
structure S_laws_Entry where
  f0:List UInt8
  f1:Int
  f2:List aO
  f3:List aI
  f4:Bool
  f5:List aO
  f6:List aI
def rS_laws_Entry(a:S_laws_Entry):List T:=[.str a.f0, .int .i64 a.f1, .sl (a.f2.map cE), .sl (a.f3.map aT), .bool a.f4, .sl (a.f5.map cE), .sl (a.f6.map aT)]
theorem rI(a:S_laws_Entry):rS_laws_Entry a=[.str a.f0, .int .i64 a.f1, .sl (a.f2.map cE), .sl (a.f3.map aT), .bool a.f4, .sl (a.f5.map cE), .sl (a.f6.map aT)]:=rfl
inductive aA where
  | mk (f0:Int) (f1:Int) (f2:List UInt8) (f3:List aA)
def aA.f0:aA→Int
  | .mk a _ _ _=>a
def aA.f1:aA→Int
  | .mk _ a _ _=>a
def aA.f2:aA→List UInt8
  | .mk _ _ a _=>a
def aA.f3:aA→List aA
  | .mk _ _ _ a=>a
mutual
def aE:aA→List T
  | .mk a0 a1 a2 a3=> [.int .i64 a0, .int .i64 a1, .str a2, .sl (mU a3)]
def mU:List aA→List (List T)
  | []=> []
  | x::r=>aE x::mU r
end
theorem nO: ∀l:List aA,mU l=l.map aE
  | []=>by simp [mU]
  | x::r=>by simp [mU,nO r]
theorem aL(a:aA):aE a=[.int .i64 a.f0, .int .i64 a.f1, .str a.f2, .sl (a.f3.map aE)]:=by
  cases a
  simp [aE,nO,aA.f0,aA.f1,aA.f2,aA.f3]
theorem dA(a0:Int)(a1:Int)(a2:List UInt8)(a3:List aA):aE (.mk a0 a1 a2 a3)=[.int .i64 a0, .int .i64 a1, .str a2, .sl (a3.map aE)]:=by simp [aE,nO]
structure aB where
  f0:List UInt8
  f1:Int
  f2:Int
  f3:List aD
  deriving DecidableEq
def aH(a:aB):List T:=[.str a.f0, .int .i64 a.f1, .int .i64 a.f2, .sl (a.f3.map aK)]
theorem bL(a:aB):aH a=[.str a.f0, .int .i64 a.f1, .int .i64 a.f2, .sl (a.f3.map aK)]:=rfl
structure aC where
  f0:List UInt8
  f1:Int
  f2:List aB
  f3:List aA
  f4:Bool
  f5:List aB
  f6:List aA
def aF(a:aC):List T:=[.str a.f0, .int .i64 a.f1, .sl (a.f2.map aH), .sl (a.f3.map aE), .bool a.f4, .sl (a.f5.map aH), .sl (a.f6.map aE)]
theorem aR(a:aC):aF a=[.str a.f0, .int .i64 a.f1, .sl (a.f2.map aH), .sl (a.f3.map aE), .bool a.f4, .sl (a.f5.map aH), .sl (a.f6.map aE)]:=rfl

abbrev HF(p:Int→Int→(List UInt8)→Int→Int→Option (Int)):Prop:= ∀ {t0_0 t0_1:Int} {t0_2:List UInt8} {t0_3 t1_0:Int} {r:Int},p t0_0 t0_1 t0_2 t0_3 t1_0=some r→Big Try.prog τ An (.fn 288 [.one (.ag [.int .i64 t0_0, .int .i64 t0_1, .str t0_2, .int .i64 t0_3]), .one (.c (.int .i64 t1_0))] [] (.one (.c (.int .i64 r))) none [] none)
def mY(n:Nat)(t0_0:Int)(t0_1:Int)(t0_2:List UInt8)(t0_3:Int)(t1_0:Int):Option (Int):=
  bif decide ((IntKind.wrap .i64 (t1_0 - (t0_2.length:Int)))<(0:Int))then some ((-1):Int)else some (IntKind.wrap .i64 (t1_0 - (t0_2.length:Int)))
theorem DI{n:Nat}:HF (mY n):=by
 intro t0_0 t0_1 t0_2 t0_3 t1_0 r h
 unfold mY at h
 refine bF Try.func288 rfl rfl<|cRs<|xBx rfl<|xAs rfl<|oRs<|xMv rfl<|xFd rfl<|xLd rfl<|xLs rfl<|tM rfl<|xAs rfl<|oNl<|cSq<|cRs ?_
 refine xMv rfl<|xLt rfl<|oNl<|cIf h rfl (fun q1 h=> ?_) (fun q1 h=> ?_)
 refine cRs<|xAs rfl<|oNl<|cRt ?_
 cases h
 exact eR rfl rfl rfl rfl
 refine cSk<|cRs<|xMv rfl<|xAs rfl<|oNl<|cRt ?_
 cases h
 exact eR rfl rfl rfl rfl
abbrev FW(p:(List aD)→Int→Option (Int)):Prop:= ∀ {t0_0:List aD} {t1_0:Int} {r:Int},p t0_0 t1_0=some r→Big Try.prog τ An (.fn 256 [.one (.c (.sl (t0_0.map aK))), .one (.c (.int .i64 t1_0))] [] (.one (.c (.int .i64 r))) none [] none)
def kU(n:Nat)(t0_0:List aD):(Int×Int)→Option ((Int×Int)⊕((Int)⊕(Int×Int×Bool)))
  | (v1_2,v5_3)=>bif decide (v5_3<(t0_0.length:Int))then(ix t0_0 v5_3).bind fun e20_9=>(mY n e20_9.f0 e20_9.f1 e20_9.f2 e20_9.f3 v1_2).bind fun c23_10=>bif decide (c23_10<(0:Int))then some (.inr (.inl ((-1):Int)))else some (.inl (c23_10,(IntKind.wrap .i64 (v5_3+(1:Int)))))else some (.inr (.inr (v1_2,v5_3,false)))
def lN(n:Nat)(t0_0:List aD)(t1_0:Int):Option (Int):=
  bif decide ((IntKind.wrap .i64 (t1_0 - (t0_0.length:Int)))<(0:Int))then some ((-1):Int)else(loopN (kU n t0_0) n ((IntKind.wrap .i64 (t1_0 - (t0_0.length:Int))),(0:Int))).bind fun q=>(match q with | .inl v4_4=>some v4_4 | .inr (v1_5,v5_6,v15_7)=>some v1_5)
theorem CH{n:Nat}:FW (lN n):=by
 intro t0_0 t1_0 r h
 unfold lN at h
 refine bF Try.func256 rfl rfl<|cRs<|xAs rfl<|oRs<|xMv rfl<|xMv rfl<|xLn rfl<|tM rfl<|xAs rfl<|oNl<|cSq<|cRs<|xMv rfl<|xLt rfl ?_
 refine oNl<|cIf h rfl (fun q1 h=> ?_) (fun q1 h=> ?_)
 refine cRs<|xAs rfl<|oNl<|cRt ?_
 cases h
 exact eR rfl rfl rfl rfl
 refine cSk<|cSq<|cRs<|xAs rfl<|oNl<|cLp h [(1,1),(4,5),(12,25)] [] (fun(v1_2,v5_3)=>([(1,I64 v1_2),(5,I64 v5_3)],[])) (fun q=>match q with | .inl v4_4=>(.r,[(4,I64 v4_4)],[]) | .inr (v1_5,v5_6,v15_7)=>(.e 0,[(1,I64 v1_5),(5,I64 v5_6),(15,Bo v15_7)],[])) rfl (fun st _ h=> ?_) (fun q h=> ?_)
 obtain⟨v1_2,v5_3⟩:=st
 unfold kU at h
 refine cSq<|cRs<|xMv rfl<|xMv rfl<|xLn rfl<|xLt rfl<|oNl<|cIf h rfl (fun q8 h=> ?_) (fun q8 h=> ?_)
 refine cSk<|cSq<|cBk<|cRs<|xMv rfl<|xMv rfl<|xIx h bP rfl (fun e20_9 h=> ?_)
 refine xLd rfl<|xMv rfl<|xC0 h (DI ·) rfl (fun c23_10 h=> ?_)
 refine xAs rfl<|oRs<|xMv rfl<|xLt rfl<|oNl<|cIf h rfl (fun q11 h=> ?_) (fun q11 h=> ?_)
 exact cRs<|xAs rfl<|oNl<|cRt<|eXr h rfl
 exact cSk<|cRg<|xMv rfl<|cM rfl<|xAs rfl<|oNl<|eL h rfl
 exact cEx<|eX h rfl
 rcases q with v4_4 | ⟨v1_5,v5_6,v15_7⟩
 cases h
 exact eR rfl rfl rfl rfl
 refine cRs<|xMv rfl<|xAs rfl<|oNl<|cRt ?_
 cases h
 exact eR rfl rfl rfl rfl
abbrev IY(p:(List UInt8)→Int→Int→(List aD)→Int→Option (Int)):Prop:= ∀ {t0_0:List UInt8} {t0_1 t0_2:Int} {t0_3:List aD} {t1_0:Int} {r:Int},p t0_0 t0_1 t0_2 t0_3 t1_0=some r→Big Try.prog τ An (.fn 191 [.one (.ag [.str t0_0, .int .i64 t0_1, .int .i64 t0_2, .sl (t0_3.map aK)]), .one (.c (.int .i64 t1_0))] [] (.one (.c (.int .i64 r))) none [] none)
def oD(n:Nat)(t0_0:List UInt8)(t0_1:Int)(t0_2:Int)(t0_3:List aD)(t1_0:Int):Option (Int):=
  bif decide ((IntKind.wrap .i64 (t1_0 - (t0_0.length:Int)))<(0:Int))then some ((-1):Int)else(lN n t0_3 (IntKind.wrap .i64 (t1_0 - (t0_0.length:Int)))).bind fun c15_2=>bif decide (c15_2<(0:Int))then some ((-1):Int)else some c15_2
theorem FI{n:Nat}:IY (oD n):=by
 intro t0_0 t0_1 t0_2 t0_3 t1_0 r h
 unfold oD at h
 refine bF Try.func191 rfl rfl<|cRs<|xBx rfl<|xAs rfl<|oRs<|xMv rfl<|xFd rfl<|xLd rfl<|xLs rfl<|tM rfl<|xAs rfl<|oNl<|cSq<|cRs ?_
 refine xMv rfl<|xLt rfl<|oNl<|cIf h rfl (fun q1 h=> ?_) (fun q1 h=> ?_)
 refine cRs<|xAs rfl<|oNl<|cRt ?_
 cases h
 exact eR rfl rfl rfl rfl
 refine cSk<|cRs<|xFd rfl<|xLd rfl<|xMv rfl<|xC0 h (CH ·) rfl (fun c15_2 h=> ?_)
 refine xAs rfl<|oNl<|cSq<|cRs<|xMv rfl<|xLt rfl<|oNl<|cIf h rfl (fun q3 h=> ?_) (fun q3 h=> ?_)
 refine cRs<|xAs rfl<|oNl<|cRt ?_
 cases h
 exact eR rfl rfl rfl rfl
 refine cSk<|cRs<|xMv rfl<|xAs rfl<|oNl<|cRt ?_
 cases h
 exact eR rfl rfl rfl rfl
abbrev HG(p:(List aO)→Int→Option (Int)):Prop:= ∀ {t0_0:List aO} {t1_0:Int} {r:Int},p t0_0 t1_0=some r→Big Try.prog τ An (.fn 100 [.one (.c (.sl (t0_0.map cE))), .one (.c (.int .i64 t1_0))] [] (.one (.c (.int .i64 r))) none [] none)
def lT(n:Nat)(t0_0:List aO):(Int×Int)→Option ((Int×Int)⊕((Int)⊕(Int×Int×Bool)))
  | (v1_2,v5_3)=>bif decide (v5_3<(t0_0.length:Int))then(ix t0_0 v5_3).bind fun e20_9=>(oD n e20_9.f0 e20_9.f1 e20_9.f2 e20_9.f3 v1_2).bind fun c23_10=>bif decide (c23_10<(0:Int))then some (.inr (.inl ((-1):Int)))else some (.inl (c23_10,(IntKind.wrap .i64 (v5_3+(1:Int)))))else some (.inr (.inr (v1_2,v5_3,false)))
def mZ(n:Nat)(t0_0:List aO)(t1_0:Int):Option (Int):=
  bif decide ((IntKind.wrap .i64 (t1_0 - (t0_0.length:Int)))<(0:Int))then some ((-1):Int)else(loopN (lT n t0_0) n ((IntKind.wrap .i64 (t1_0 - (t0_0.length:Int))),(0:Int))).bind fun q=>(match q with | .inl v4_4=>some v4_4 | .inr (v1_5,v5_6,v15_7)=>some v1_5)
theorem DJ{n:Nat}:HG (mZ n):=by
 intro t0_0 t1_0 r h
 unfold mZ at h
 refine bF Try.func100 rfl rfl<|cRs<|xAs rfl<|oRs<|xMv rfl<|xMv rfl<|xLn rfl<|tM rfl<|xAs rfl<|oNl<|cSq<|cRs<|xMv rfl<|xLt rfl ?_
 refine oNl<|cIf h rfl (fun q1 h=> ?_) (fun q1 h=> ?_)
 refine cRs<|xAs rfl<|oNl<|cRt ?_
 cases h
 exact eR rfl rfl rfl rfl
 refine cSk<|cSq<|cRs<|xAs rfl<|oNl<|cLp h [(1,1),(4,5),(12,25)] [] (fun(v1_2,v5_3)=>([(1,I64 v1_2),(5,I64 v5_3)],[])) (fun q=>match q with | .inl v4_4=>(.r,[(4,I64 v4_4)],[]) | .inr (v1_5,v5_6,v15_7)=>(.e 0,[(1,I64 v1_5),(5,I64 v5_6),(15,Bo v15_7)],[])) rfl (fun st _ h=> ?_) (fun q h=> ?_)
 obtain⟨v1_2,v5_3⟩:=st
 unfold lT at h
 refine cSq<|cRs<|xMv rfl<|xMv rfl<|xLn rfl<|xLt rfl<|oNl<|cIf h rfl (fun q8 h=> ?_) (fun q8 h=> ?_)
 refine cSk<|cSq<|cBk<|cRs<|xMv rfl<|xMv rfl<|xIx h wG rfl (fun e20_9 h=> ?_)
 refine xLd rfl<|xMv rfl<|xC0 h (FI ·) rfl (fun c23_10 h=> ?_)
 refine xAs rfl<|oRs<|xMv rfl<|xLt rfl<|oNl<|cIf h rfl (fun q11 h=> ?_) (fun q11 h=> ?_)
 exact cRs<|xAs rfl<|oNl<|cRt<|eXr h rfl
 exact cSk<|cRg<|xMv rfl<|cM rfl<|xAs rfl<|oNl<|eL h rfl
 exact cEx<|eX h rfl
 rcases q with v4_4 | ⟨v1_5,v5_6,v15_7⟩
 cases h
 exact eR rfl rfl rfl rfl
 refine cRs<|xMv rfl<|xAs rfl<|oNl<|cRt ?_
 cases h
 exact eR rfl rfl rfl rfl
abbrev gH:Type:=Int→Int→(List UInt8)→(List aI)→Int→Option (Int)
abbrev nE(p:gH):Prop:= ∀ {t0_0 t0_1:Int} {t0_2:List UInt8} {t0_3:List aI} {t1_0:Int} {r:Int},p t0_0 t0_1 t0_2 t0_3 t1_0=some r→Big Try.prog τ An (.fn 192 [.one (.ag [.int .i64 t0_0, .int .i64 t0_1, .str t0_2, .sl (t0_3.map aT)]), .one (.c (.int .i64 t1_0))] [] (.one (.c (.int .i64 r))) none [] none)
abbrev gP:Type:=(List aI)→Int→Option (Int)
abbrev lQ(p:gP):Prop:= ∀ {t0_0:List aI} {t1_0:Int} {r:Int},p t0_0 t1_0=some r→Big Try.prog τ An (.fn 101 [.one (.c (.sl (t0_0.map aT))), .one (.c (.int .i64 t1_0))] [] (.one (.c (.int .i64 r))) none [] none)
def mR(n:Nat)(r_laws_szPatS:gP)(r_laws_szPat:gH)(t0_0:Int)(t0_1:Int)(t0_2:List UInt8)(t0_3:List aI)(t1_0:Int):Option (Int):=
  bif decide ((IntKind.wrap .i64 (t1_0 - (t0_2.length:Int)))<(0:Int))then some ((-1):Int)else(r_laws_szPatS t0_3 (IntKind.wrap .i64 (t1_0 - (t0_2.length:Int)))).bind fun c15_2=>bif decide (c15_2<(0:Int))then some ((-1):Int)else some c15_2
theorem Bu{n:Nat}{r_laws_szPatS:gP}(ih_laws_szPatS:lQ r_laws_szPatS){r_laws_szPat:gH}(ih_laws_szPat:nE r_laws_szPat):nE (mR n r_laws_szPatS r_laws_szPat):=by
 intro t0_0 t0_1 t0_2 t0_3 t1_0 r h
 unfold mR at h
 refine bF Try.func192 rfl rfl<|cRs<|xBx rfl<|xAs rfl<|oRs<|xMv rfl<|xFd rfl<|xLd rfl<|xLs rfl<|tM rfl<|xAs rfl<|oNl<|cSq<|cRs ?_
 refine xMv rfl<|xLt rfl<|oNl<|cIf h rfl (fun q1 h=> ?_) (fun q1 h=> ?_)
 refine cRs<|xAs rfl<|oNl<|cRt ?_
 cases h
 exact eR rfl rfl rfl rfl
 refine cSk<|cRs<|xFd rfl<|xLd rfl<|xMv rfl<|xC0 h (ih_laws_szPatS ·) rfl (fun c15_2 h=> ?_)
 refine xAs rfl<|oNl<|cSq<|cRs<|xMv rfl<|xLt rfl<|oNl<|cIf h rfl (fun q3 h=> ?_) (fun q3 h=> ?_)
 refine cRs<|xAs rfl<|oNl<|cRt ?_
 cases h
 exact eR rfl rfl rfl rfl
 refine cSk<|cRs<|xMv rfl<|xAs rfl<|oNl<|cRt ?_
 cases h
 exact eR rfl rfl rfl rfl
def kT(n:Nat)(r_laws_szPat:gH)(t0_0:List aI):(Int×Int)→Option ((Int×Int)⊕((Int)⊕(Int×Int×Bool)))
  | (v1_2,v5_3)=>bif decide (v5_3<(t0_0.length:Int))then(ix t0_0 v5_3).bind fun e20_9=>(r_laws_szPat e20_9.f0 e20_9.f1 e20_9.f2 e20_9.f3 v1_2).bind fun c23_10=>bif decide (c23_10<(0:Int))then some (.inr (.inl ((-1):Int)))else some (.inl (c23_10,(IntKind.wrap .i64 (v5_3+(1:Int)))))else some (.inr (.inr (v1_2,v5_3,false)))
def lJ(n:Nat)(r_laws_szPatS:gP)(r_laws_szPat:gH)(t0_0:List aI)(t1_0:Int):Option (Int):=
  bif decide ((IntKind.wrap .i64 (t1_0 - (t0_0.length:Int)))<(0:Int))then some ((-1):Int)else(loopN (kT n r_laws_szPat t0_0) n ((IntKind.wrap .i64 (t1_0 - (t0_0.length:Int))),(0:Int))).bind fun q=>(match q with | .inl v4_4=>some v4_4 | .inr (v1_5,v5_6,v15_7)=>some v1_5)
theorem AL{n:Nat}{r_laws_szPatS:gP}(ih_laws_szPatS:lQ r_laws_szPatS){r_laws_szPat:gH}(ih_laws_szPat:nE r_laws_szPat):lQ (lJ n r_laws_szPatS r_laws_szPat):=by
 intro t0_0 t1_0 r h
 unfold lJ at h
 refine bF Try.func101 rfl rfl<|cRs<|xAs rfl<|oRs<|xMv rfl<|xMv rfl<|xLn rfl<|tM rfl<|xAs rfl<|oNl<|cSq<|cRs<|xMv rfl<|xLt rfl ?_
 refine oNl<|cIf h rfl (fun q1 h=> ?_) (fun q1 h=> ?_)
 refine cRs<|xAs rfl<|oNl<|cRt ?_
 cases h
 exact eR rfl rfl rfl rfl
 refine cSk<|cSq<|cRs<|xAs rfl<|oNl<|cLp h [(1,1),(4,5),(12,25)] [] (fun(v1_2,v5_3)=>([(1,I64 v1_2),(5,I64 v5_3)],[])) (fun q=>match q with | .inl v4_4=>(.r,[(4,I64 v4_4)],[]) | .inr (v1_5,v5_6,v15_7)=>(.e 0,[(1,I64 v1_5),(5,I64 v5_6),(15,Bo v15_7)],[])) rfl (fun st _ h=> ?_) (fun q h=> ?_)
 obtain⟨v1_2,v5_3⟩:=st
 unfold kT at h
 refine cSq<|cRs<|xMv rfl<|xMv rfl<|xLn rfl<|xLt rfl<|oNl<|cIf h rfl (fun q8 h=> ?_) (fun q8 h=> ?_)
 refine cSk<|cSq<|cBk<|cRs<|xMv rfl<|xMv rfl<|xIx h mN rfl (fun e20_9 h=> ?_)
 refine xLd rfl<|xMv rfl<|xC0 h (ih_laws_szPat ·) rfl (fun c23_10 h=> ?_)
 refine xAs rfl<|oRs<|xMv rfl<|xLt rfl<|oNl<|cIf h rfl (fun q11 h=> ?_) (fun q11 h=> ?_)
 exact cRs<|xAs rfl<|oNl<|cRt<|eXr h rfl
 exact cSk<|cRg<|xMv rfl<|cM rfl<|xAs rfl<|oNl<|eL h rfl
 exact cEx<|eX h rfl
 rcases q with v4_4 | ⟨v1_5,v5_6,v15_7⟩
 cases h
 exact eR rfl rfl rfl rfl
 refine cRs<|xMv rfl<|xAs rfl<|oNl<|cRt ?_
 cases h
 exact eR rfl rfl rfl rfl
def jC:Nat→(gP)×(gH)
  | 0=>((fun _ _=>none),(fun _ _ _ _ _=>none))
  | n+1=>(lJ n ((jC n).1) ((jC n).2),mR n ((jC n).1) ((jC n).2))
def eQ(n:Nat):gP:=(jC n).1
def iT(n:Nat):gH:=(jC n).2
theorem rL(n:Nat):lQ (eQ n)∧nE (iT n):=by
  induction n with
  | zero=>exact⟨(fun h=>nomatch h),(fun h=>nomatch h)⟩
  | succ n ih=>exact⟨AL (n:=n) (ih.1) (ih.2),Bu (n:=n) (ih.1) (ih.2)⟩
theorem CG{n:Nat}:lQ (eQ n):=(rL n).1
theorem Mk{n:Nat}:nE (iT n):=(rL n).2
theorem xC(n:Nat):eQ (n+1)=lJ n (eQ n) (iT n):=rfl
theorem yR(n:Nat):iT (n+1)=mR n (eQ n) (iT n):=rfl
abbrev FX(p:(List aO)→(List aI)→Int→Option (Int)):Prop:= ∀ {t0_0:List aO} {t0_1:List aI} {t1_0:Int} {r:Int},p t0_0 t0_1 t1_0=some r→Big Try.prog τ An (.fn 31 [.one (.ag [.sl (t0_0.map cE), .sl (t0_1.map aT)]), .one (.c (.int .i64 t1_0))] [] (.one (.c (.int .i64 r))) none [] none)
def jH(n:Nat)(t0_0:List aO)(t0_1:List aI)(t1_0:Int):Option (Int):=
  (mZ n t0_0 t1_0).bind fun c8_1=>bif decide (c8_1<(0:Int))then some ((-1):Int)else(eQ n t0_1 c8_1).bind fun c14_3=>bif decide (c14_3<(0:Int))then some ((-1):Int)else some c14_3
theorem sW{n:Nat}:FX (jH n):=by
 intro t0_0 t0_1 t1_0 r h
 unfold jH at h
 refine bF Try.func31 rfl rfl<|cRs<|xBx rfl<|xAs rfl<|oRs<|xFd rfl<|xLd rfl<|xMv rfl<|xC0 h (DJ ·) rfl (fun c8_1 h=> ?_)
 refine xAs rfl<|oNl<|cSq<|cRs<|xMv rfl<|xLt rfl<|oNl<|cIf h rfl (fun q2 h=> ?_) (fun q2 h=> ?_)
 refine cRs<|xAs rfl<|oNl<|cRt ?_
 cases h
 exact eR rfl rfl rfl rfl
 refine cSk<|cRs<|xFd rfl<|xLd rfl<|xMv rfl<|xC0 h (CG ·) rfl (fun c14_3 h=> ?_)
 refine xAs rfl<|oNl<|cSq<|cRs<|xMv rfl<|xLt rfl<|oNl<|cIf h rfl (fun q4 h=> ?_) (fun q4 h=> ?_)
 refine cRs<|xAs rfl<|oNl<|cRt ?_
 cases h
 exact eR rfl rfl rfl rfl
 refine cSk<|cRs<|xMv rfl<|xAs rfl<|oNl<|cRt ?_
 cases h
 exact eR rfl rfl rfl rfl
abbrev DW(p:(List UInt8)→Int→(List aO)→(List aI)→Bool→(List aO)→(List aI)→Int→Option (Int)):Prop:= ∀ {t0_0:List UInt8} {t0_1:Int} {t0_2:List aO} {t0_3:List aI} {t0_4:Bool} {t0_5:List aO} {t0_6:List aI} {t1_0:Int} {r:Int},p t0_0 t0_1 t0_2 t0_3 t0_4 t0_5 t0_6 t1_0=some r→Big Try.prog τ An (.fn 152 [.one (.ag [.str t0_0, .int .i64 t0_1, .sl (t0_2.map cE), .sl (t0_3.map aT), .bool t0_4, .sl (t0_5.map cE), .sl (t0_6.map aT)]), .one (.c (.int .i64 t1_0))] [] (.one (.c (.int .i64 r))) none [] none)
def kE(n:Nat)(t0_0:List UInt8)(t0_1:Int)(t0_2:List aO)(t0_3:List aI)(t0_4:Bool)(t0_5:List aO)(t0_6:List aI)(t1_0:Int):Option (Int):=
  bif decide ((IntKind.wrap .i64 (t1_0 - (t0_0.length:Int)))<(0:Int))then some ((-1):Int)else(jH n t0_2 t0_3 (IntKind.wrap .i64 (t1_0 - (t0_0.length:Int)))).bind fun c15_2=>bif decide (c15_2<(0:Int))then some ((-1):Int)else(jH n t0_5 t0_6 c15_2).bind fun c21_4=>bif decide (c21_4<(0:Int))then some ((-1):Int)else some c21_4
theorem AV{n:Nat}:DW (kE n):=by
 intro t0_0 t0_1 t0_2 t0_3 t0_4 t0_5 t0_6 t1_0 r h
 unfold kE at h
 refine bF Try.func152 rfl rfl<|cRs<|xBx rfl<|xAs rfl<|oRs<|xMv rfl<|xFd rfl<|xLd rfl<|xLs rfl<|tM rfl<|xAs rfl<|oNl<|cSq<|cRs ?_
 refine xMv rfl<|xLt rfl<|oNl<|cIf h rfl (fun q1 h=> ?_) (fun q1 h=> ?_)
 refine cRs<|xAs rfl<|oNl<|cRt ?_
 cases h
 exact eR rfl rfl rfl rfl
 refine cSk<|cRs<|xFd rfl<|xLd rfl<|xMv rfl<|xC0 h (sW ·) rfl (fun c15_2 h=> ?_)
 refine xAs rfl<|oNl<|cSq<|cRs<|xMv rfl<|xLt rfl<|oNl<|cIf h rfl (fun q3 h=> ?_) (fun q3 h=> ?_)
 refine cRs<|xAs rfl<|oNl<|cRt ?_
 cases h
 exact eR rfl rfl rfl rfl
 refine cSk<|cRs<|xFd rfl<|xLd rfl<|xMv rfl<|xC0 h (sW ·) rfl (fun c21_4 h=> ?_)
 refine xAs rfl<|oNl<|cSq<|cRs<|xMv rfl<|xLt rfl<|oNl<|cIf h rfl (fun q5 h=> ?_) (fun q5 h=> ?_)
 refine cRs<|xAs rfl<|oNl<|cRt ?_
 cases h
 exact eR rfl rfl rfl rfl
 refine cSk<|cRs<|xMv rfl<|xAs rfl<|oNl<|cRt ?_
 cases h
 exact eR rfl rfl rfl rfl
abbrev CT(p:(List S_laws_Entry)→Int→Option (Int)):Prop:= ∀ {t0_0:List S_laws_Entry} {t1_0:Int} {r:Int},p t0_0 t1_0=some r→Big Try.prog τ An (.fn 57 [.one (.c (.sl (t0_0.map rS_laws_Entry))), .one (.c (.int .i64 t1_0))] [] (.one (.c (.int .i64 r))) none [] none)
def iJ(n:Nat)(t0_0:List S_laws_Entry):(Int×Int)→Option ((Int×Int)⊕((Int)⊕(Int×Int×Bool)))
  | (v1_2,v5_3)=>bif decide (v5_3<(t0_0.length:Int))then(ix t0_0 v5_3).bind fun e20_9=>(kE n e20_9.f0 e20_9.f1 e20_9.f2 e20_9.f3 e20_9.f4 e20_9.f5 e20_9.f6 v1_2).bind fun c23_10=>bif decide (c23_10<(0:Int))then some (.inr (.inl ((-1):Int)))else some (.inl (c23_10,(IntKind.wrap .i64 (v5_3+(1:Int)))))else some (.inr (.inr (v1_2,v5_3,false)))
def iW(n:Nat)(t0_0:List S_laws_Entry)(t1_0:Int):Option (Int):=
  bif decide ((IntKind.wrap .i64 (t1_0 - (t0_0.length:Int)))<(0:Int))then some ((-1):Int)else(loopN (iJ n t0_0) n ((IntKind.wrap .i64 (t1_0 - (t0_0.length:Int))),(0:Int))).bind fun q=>(match q with | .inl v4_4=>some v4_4 | .inr (v1_5,v5_6,v15_7)=>some v1_5)
theorem yX{n:Nat}:CT (iW n):=by
 intro t0_0 t1_0 r h
 unfold iW at h
 refine bF Try.func57 rfl rfl<|cRs<|xAs rfl<|oRs<|xMv rfl<|xMv rfl<|xLn rfl<|tM rfl<|xAs rfl<|oNl<|cSq<|cRs<|xMv rfl<|xLt rfl ?_
 refine oNl<|cIf h rfl (fun q1 h=> ?_) (fun q1 h=> ?_)
 refine cRs<|xAs rfl<|oNl<|cRt ?_
 cases h
 exact eR rfl rfl rfl rfl
 refine cSk<|cSq<|cRs<|xAs rfl<|oNl<|cLp h [(1,1),(4,5),(12,25)] [] (fun(v1_2,v5_3)=>([(1,I64 v1_2),(5,I64 v5_3)],[])) (fun q=>match q with | .inl v4_4=>(.r,[(4,I64 v4_4)],[]) | .inr (v1_5,v5_6,v15_7)=>(.e 0,[(1,I64 v1_5),(5,I64 v5_6),(15,Bo v15_7)],[])) rfl (fun st _ h=> ?_) (fun q h=> ?_)
 obtain⟨v1_2,v5_3⟩:=st
 unfold iJ at h
 refine cSq<|cRs<|xMv rfl<|xMv rfl<|xLn rfl<|xLt rfl<|oNl<|cIf h rfl (fun q8 h=> ?_) (fun q8 h=> ?_)
 refine cSk<|cSq<|cBk<|cRs<|xMv rfl<|xMv rfl<|xIx h rI rfl (fun e20_9 h=> ?_)
 refine xLd rfl<|xMv rfl<|xC0 h (AV ·) rfl (fun c23_10 h=> ?_)
 refine xAs rfl<|oRs<|xMv rfl<|xLt rfl<|oNl<|cIf h rfl (fun q11 h=> ?_) (fun q11 h=> ?_)
 exact cRs<|xAs rfl<|oNl<|cRt<|eXr h rfl
 exact cSk<|cRg<|xMv rfl<|cM rfl<|xAs rfl<|oNl<|eL h rfl
 exact cEx<|eX h rfl
 rcases q with v4_4 | ⟨v1_5,v5_6,v15_7⟩
 cases h
 exact eR rfl rfl rfl rfl
 refine cRs<|xMv rfl<|xAs rfl<|oNl<|cRt ?_
 cases h
 exact eR rfl rfl rfl rfl
abbrev eK:Type:=Int→Int→(List UInt8)→(List aA)→Option (Int×Int×(List UInt8)×(List aA))
abbrev lB(p:eK):Prop:= ∀ {t0_0 t0_1:Int} {t0_2:List UInt8} {t0_3:List aA} {r:Int×Int×(List UInt8)×(List aA)},p t0_0 t0_1 t0_2 t0_3=some r→Big Try.prog τ An (.fn 281 [.one (.ag [.int .i64 t0_0, .int .i64 t0_1, .str t0_2, .sl (t0_3.map aE)])] [] (.one (.ag [.int .i64 r.1, .int .i64 r.2.1, .str r.2.2.1, .sl (r.2.2.2.map aE)])) none [] none)
def eA(n:Nat)(r_spec_l9CopyPat:eK)(t0_3:List aA):(Int×Int×Int×(List UInt8)×(List aA))→Option ((Int×Int×Int×(List UInt8)×(List aA))⊕((Int×Bool×Int×Int×(List UInt8)×(List aA))))
  | (v4_1,w3_2,w3_3,w3_4,w3_5)=>bif decide (v4_1<(t0_3.length:Int))then(ix t0_3 v4_1).bind fun e20_13=>(r_spec_l9CopyPat e20_13.f0 e20_13.f1 e20_13.f2 e20_13.f3).bind fun c22_14=>(tP 56 w3_5 ([aA.mk c22_14.1 c22_14.2.1 c22_14.2.2.1 c22_14.2.2.2]:List aA)).bind fun v24_15=>some (.inl ((IntKind.wrap .i64 (v4_1+(1:Int))),w3_2,w3_3,w3_4,v24_15))else some (.inr (v4_1,false,w3_2,w3_3,w3_4,w3_5))
def gW(n:Nat)(r_spec_l9CopyPat:eK)(t0_0:Int)(t0_1:Int)(t0_2:List UInt8)(t0_3:List aA):Option (Int×Int×(List UInt8)×(List aA)):=
  (loopN (eA n r_spec_l9CopyPat t0_3) n ((0:Int),t0_0,t0_1,t0_2,([]:List aA))).bind fun(v4_6,v12_7,w3_8,w3_9,w3_10,w3_11)=>some (w3_8,w3_9,w3_10,w3_11)
theorem vB{n:Nat}{r_spec_l9CopyPat:eK}(ih_spec_l9CopyPat:lB r_spec_l9CopyPat):lB (gW n r_spec_l9CopyPat):=by
 intro t0_0 t0_1 t0_2 t0_3 r h
 unfold gW at h
 refine bF Try.func281 rfl rfl<|cRs<|xBx rfl<|xAz [.int .i64 0, .int .i64 0, .str [], .sl ([].map aE)] rfl<|oRs<|xLd rfl<|xAz [.int .i64 0, .int .i64 0, .str [], .sl ([].map aE)] rfl<|xSt rfl<|oRs<|Dk (L:=([]:List aA)) (f:=aE) rfl rfl rfl rfl rfl rfl rfl<|xFd rfl<|xSt rfl<|oNl<|cSq ?_
 refine cRs<|xAs rfl<|oNl<|cLp h [(4,4),(8,25)] [(3,3)] (fun(v4_1,w3_2,w3_3,w3_4,w3_5)=>([(4,I64 v4_1)],[(3,[.int .i64 w3_2, .int .i64 w3_3, .str w3_4, .sl (w3_5.map aE)])])) (fun(v4_6,v12_7,w3_8,w3_9,w3_10,w3_11)=>(.e 0,[(4,I64 v4_6),(12,Bo v12_7)],[(3,[.int .i64 w3_8, .int .i64 w3_9, .str w3_10, .sl (w3_11.map aE)])])) rfl (fun st _ h=> ?_) (fun q h=> ?_)
 obtain⟨v4_1,w3_2,w3_3,w3_4,w3_5⟩:=st
 unfold eA at h
 refine cSq<|cRs<|xMv rfl<|xFd rfl<|xLd rfl<|xLn rfl<|xLt rfl<|oNl<|cIf h rfl (fun q12 h=> ?_) (fun q12 h=> ?_)
 refine cSk<|cSq<|cBk<|cRg<|xFd rfl<|xLd rfl<|xFd rfl<|xLd rfl<|xMv rfl<|xIx h aL rfl (fun e20_13 h=> ?_)
 refine xLd rfl<|xC0 h (ih_spec_l9CopyPat ·) rfl (fun c22_14 h=> ?_)
 refine Dk (L:=([aA.mk c22_14.1 c22_14.2.1 c22_14.2.2.1 c22_14.2.2.2]:List aA)) (f:=aE) rfl rfl rfl rfl (by simp only[List.map,dA]<;>rfl) rfl rfl<|wAp (f:=aE) h rfl rfl rfl rfl rfl rfl rfl rfl rfl (fun a=>by rw[aL]; rfl) rfl (fun v24_15 h=> ?_)
 exact xFd rfl<|xSt rfl<|oNl<|cRg<|xMv rfl<|cM rfl<|xAs rfl<|oNl<|eL h rfl
 exact cEx<|eX h rfl
 obtain⟨v4_6,v12_7,w3_8,w3_9,w3_10,w3_11⟩:=q
 refine cRs<|xLd rfl<|xSt rfl<|oNl<|cRt ?_
 cases h
 exact eR rfl rfl rfl rfl
def rJ:Nat→(eK)
  | 0=>(fun _ _ _ _=>none)
  | n+1=>gW n (rJ n)
def dL(n:Nat):eK:=rJ n
theorem vE(n:Nat):lB (dL n):=by
  induction n with
  | zero=>exact(fun h=>nomatch h)
  | succ n ih=>exact vB (n:=n) ih
theorem xI{n:Nat}:lB (dL n):=(vE n)
theorem tH(n:Nat):dL (n+1)=gW n (dL n):=rfl
abbrev FO(p:(List aB)→(List aA)→Option ((List aB)×(List aA))):Prop:= ∀ {t0_0:List aB} {t0_1:List aA} {r:(List aB)×(List aA)},p t0_0 t0_1=some r→Big Try.prog τ An (.fn 234 [.one (.ag [.sl (t0_0.map aH), .sl (t0_1.map aE)])] [] (.one (.ag [.sl (r.1.map aH), .sl (r.2.map aE)])) none [] none)
def hG(n:Nat)(t0_0:List aB):(Int×(List aB)×(List aA))→Option ((Int×(List aB)×(List aA))⊕((Int×Bool×(List aB)×(List aA))))
  | (v4_1,w3_2,w3_3)=>bif decide (v4_1<(t0_0.length:Int))then(ix t0_0 v4_1).bind fun e18_9=>(tP 40 ([]:List aD) e18_9.f3).bind fun v23_10=>(tP 56 w3_2 ([aB.mk e18_9.f0 e18_9.f1 e18_9.f2 v23_10]:List aB)).bind fun v29_11=>some (.inl ((IntKind.wrap .i64 (v4_1+(1:Int))),v29_11,w3_3))else some (.inr (v4_1,false,w3_2,w3_3))
def gZ(n:Nat)(t0_1:List aA):(Int×(List aB)×(List aA))→Option ((Int×(List aB)×(List aA))⊕((Int×Bool×(List aB)×(List aA))))
  | (v6_12,w3_13,w3_14)=>bif decide (v6_12<(t0_1.length:Int))then(ix t0_1 v6_12).bind fun e43_20=>(dL n e43_20.f0 e43_20.f1 e43_20.f2 e43_20.f3).bind fun c45_21=>(tP 56 w3_14 ([aA.mk c45_21.1 c45_21.2.1 c45_21.2.2.1 c45_21.2.2.2]:List aA)).bind fun v47_22=>some (.inl ((IntKind.wrap .i64 (v6_12+(1:Int))),w3_13,v47_22))else some (.inr (v6_12,false,w3_13,w3_14))
def jE(n:Nat)(t0_0:List aB)(t0_1:List aA):Option ((List aB)×(List aA)):=
  (loopN (hG n t0_0) n ((0:Int),([]:List aB),([]:List aA))).bind fun(v4_4,v12_5,w3_6,w3_7)=>(loopN (gZ n t0_1) n ((0:Int),w3_6,w3_7)).bind fun(v6_15,v35_16,w3_17,w3_18)=>some (w3_17,w3_18)
theorem sT{n:Nat}:FO (jE n):=by
 intro t0_0 t0_1 r h
 unfold jE at h
 refine bF Try.func234 rfl rfl<|cRs<|xBx rfl<|xAz [.sl ([].map aH), .sl ([].map aE)] rfl<|oRs<|wBd [.sl ([].map aH), .sl ([].map aE)] rfl rfl rfl rfl rfl rfl<|xAz [.sl ([].map aH), .sl ([].map aE)] rfl<|xSt rfl<|oNl<|cSq<|cRs<|xAs rfl<|oNl<|cLp h [(4,5),(8,30)] [(3,3),(5,5)] (fun(v4_1,w3_2,w3_3)=>([(4,I64 v4_1)],[(3,[.sl (w3_2.map aH), .sl (w3_3.map aE)])])) (fun(v4_4,v12_5,w3_6,w3_7)=>(.e 0,[(4,I64 v4_4),(12,Bo v12_5)],[(3,[.sl (w3_6.map aH), .sl (w3_7.map aE)])])) rfl (fun st _ h=> ?_) (fun q h=> ?_)
 obtain⟨v4_1,w3_2,w3_3⟩:=st
 unfold hG at h
 refine cSq<|cRs<|xMv rfl<|xFd rfl<|xLd rfl<|xLn rfl<|xLt rfl<|oNl<|cIf h rfl (fun q8 h=> ?_) (fun q8 h=> ?_)
 refine cSk<|cSq<|cBk<|cRs<|xFd rfl<|xLd rfl<|xMv rfl<|xIx h bL rfl (fun e18_9 h=> ?_)
 refine xLd rfl<|xAz [.str [], .int .i64 0, .int .i64 0, .sl ([].map aK)] rfl<|xSt rfl<|oRs<|Dk (L:=([]:List aD)) (f:=aK) rfl rfl rfl rfl rfl rfl rfl<|xFd rfl<|xLd rfl<|wAp (f:=aK) h rfl rfl rfl rfl rfl rfl rfl rfl rfl (fun _=>rfl) rfl (fun v23_10 h=> ?_)
 refine xFd rfl<|xSt rfl<|oNl<|cRg<|xFd rfl<|xLd rfl<|xLd rfl<|Dk (L:=([aB.mk e18_9.f0 e18_9.f1 e18_9.f2 v23_10]:List aB)) (f:=aH) rfl rfl rfl rfl rfl rfl rfl<|wAp (f:=aH) h rfl rfl rfl rfl rfl rfl rfl rfl rfl (fun _=>rfl) rfl (fun v29_11 h=> ?_)
 exact xFd rfl<|xSt rfl<|oNl<|cRg<|xMv rfl<|cM rfl<|xAs rfl<|oNl<|eL h rfl
 exact cEx<|eX h rfl
 obtain⟨v4_4,v12_5,w3_6,w3_7⟩:=q
 refine cSq<|cRs<|xAs rfl<|oNl<|cLp h [(6,6),(31,48)] [(3,3)] (fun(v6_12,w3_13,w3_14)=>([(6,I64 v6_12)],[(3,[.sl (w3_13.map aH), .sl (w3_14.map aE)])])) (fun(v6_15,v35_16,w3_17,w3_18)=>(.e 2,[(6,I64 v6_15),(35,Bo v35_16)],[(3,[.sl (w3_17.map aH), .sl (w3_18.map aE)])])) rfl (fun st _ h=> ?_) (fun q h=> ?_)
 obtain⟨v6_12,w3_13,w3_14⟩:=st
 unfold gZ at h
 refine cSq<|cRs<|xMv rfl<|xFd rfl<|xLd rfl<|xLn rfl<|xLt rfl<|oNl<|cIf h rfl (fun q19 h=> ?_) (fun q19 h=> ?_)
 refine cSk<|cSq<|cBk<|cRg<|xFd rfl<|xLd rfl<|xFd rfl<|xLd rfl<|xMv rfl<|xIx h aL rfl (fun e43_20 h=> ?_)
 refine xLd rfl<|xC0 h (xI ·) rfl (fun c45_21 h=> ?_)
 refine Dk (L:=([aA.mk c45_21.1 c45_21.2.1 c45_21.2.2.1 c45_21.2.2.2]:List aA)) (f:=aE) rfl rfl rfl rfl (by simp only[List.map,dA]<;>rfl) rfl rfl<|wAp (f:=aE) h rfl rfl rfl rfl rfl rfl rfl rfl rfl (fun a=>by rw[aL]; rfl) rfl (fun v47_22 h=> ?_)
 exact xFd rfl<|xSt rfl<|oNl<|cRg<|xMv rfl<|cM rfl<|xAs rfl<|oNl<|eL h rfl
 exact cEx<|eX h rfl
 obtain⟨v6_15,v35_16,w3_17,w3_18⟩:=q
 refine cRs<|xLd rfl<|xSt rfl<|oNl<|cRt ?_
 cases h
 exact eR rfl rfl rfl rfl
abbrev DS(p:(List aC)→Option ((List aC))):Prop:= ∀ {t0_0:List aC} {r:(List aC)},p t0_0=some r→Big Try.prog τ An (.fn 153 [.one (.c (.sl (t0_0.map aF)))] [] (.one (.c (.sl (r.map aF)))) none [] none)
def fY(n:Nat)(t0_0:List aC):((List aC)×Int)→Option (((List aC)×Int)⊕(((List aC)×Int×Bool)))
  | (v3_1,v4_2)=>bif decide (v4_2<(t0_0.length:Int))then(ix t0_0 v4_2).bind fun e15_7=>(jE n e15_7.f2 e15_7.f3).bind fun c19_8=>(jE n e15_7.f5 e15_7.f6).bind fun c23_9=>(tP 128 v3_1 ([aC.mk e15_7.f0 e15_7.f1 c19_8.1 c19_8.2 e15_7.f4 c23_9.1 c23_9.2]:List aC)).bind fun v28_10=>some (.inl (v28_10,(IntKind.wrap .i64 (v4_2+(1:Int)))))else some (.inr (v3_1,v4_2,false))
def kB(n:Nat)(t0_0:List aC):Option ((List aC)):=
  (loopN (fY n t0_0) n (([]:List aC),(0:Int))).bind fun(v3_3,v4_4,v10_5)=>some v3_3
theorem AR{n:Nat}:DS (kB n):=by
 intro t0_0 r h
 unfold kB at h
 refine bF Try.func153 rfl rfl<|cRs<|wAe (Li aF []) rfl rfl rfl rfl<|oRs<|Dk (L:=([]:List aC)) (f:=aF) rfl rfl rfl rfl rfl rfl rfl<|xAs rfl<|oNl<|cSq<|cRs<|xAs rfl<|oNl<|cLp h [(3,5),(7,28)] [(5,5)] (fun(v3_1,v4_2)=>([(3,Li aF v3_1),(4,I64 v4_2)],[])) (fun(v3_3,v4_4,v10_5)=>(.e 0,[(3,Li aF v3_3),(4,I64 v4_4),(10,Bo v10_5)],[])) rfl (fun st _ h=> ?_) (fun q h=> ?_)
 obtain⟨v3_1,v4_2⟩:=st
 unfold fY at h
 refine cSq<|cRs<|xMv rfl<|xMv rfl<|xLn rfl<|xLt rfl<|oNl<|cIf h rfl (fun q6 h=> ?_) (fun q6 h=> ?_)
 refine cSk<|cSq<|cBk<|cRs<|xMv rfl<|xMv rfl<|xIx h aR rfl (fun e15_7 h=> ?_)
 refine xLd rfl<|xAz [.str [], .int .i64 0, .sl ([].map aH), .sl ([].map aE), .bool false, .sl ([].map aH), .sl ([].map aE)] rfl<|xSt rfl<|oRs<|xFd rfl<|xLd rfl<|xC0 h (sT ·) rfl (fun c19_8 h=> ?_)
 refine xFd rfl<|xSt rfl<|oRs<|xFd rfl<|xLd rfl<|xC0 h (sT ·) rfl (fun c23_9 h=> ?_)
 refine xFd rfl<|xSt rfl<|oNl<|cRg<|xMv rfl<|xLd rfl<|Dk (L:=([aC.mk e15_7.f0 e15_7.f1 c19_8.1 c19_8.2 e15_7.f4 c23_9.1 c23_9.2]:List aC)) (f:=aF) rfl rfl rfl rfl rfl rfl rfl<|wAp (f:=aF) h rfl rfl rfl rfl rfl rfl rfl rfl rfl (fun _=>rfl) rfl (fun v28_10 h=> ?_)
 exact xAs rfl<|oNl<|cRg<|xMv rfl<|cM rfl<|xAs rfl<|oNl<|eL h rfl
 exact cEx<|eX h rfl
 obtain⟨v3_3,v4_4,v10_5⟩:=q
 refine cRs<|xMv rfl<|xAs rfl<|oNl<|cRt ?_
 cases h
 exact eR rfl rfl rfl rfl
abbrev IW(p:Int→Int→Int→Option (Bool)):Prop:= ∀ {t0_0 t1_0 t2_0:Int} {r:Bool},p t0_0 t1_0 t2_0=some r→Big Try.prog τ An (.fn 230 [.one (.c (.int .i64 t0_0)), .one (.c (.int .i64 t1_0)), .one (.c (.int .i64 t2_0))] [] (.one (.c (.bool r))) none [] none)
def aW(n:Nat)(t0_0:Int)(t1_0:Int)(t2_0:Int):Option (Bool):=
  (bif decide (t1_0≤t0_0)then some (decide (t0_0≤t2_0))else some false).bind fun v6_1=>some v6_1
theorem bA{n:Nat}:IW (aW n):=by
 intro t0_0 t1_0 t2_0 r h
 unfold aW at h
 refine bF Try.func230 rfl rfl<|cRs<|xAs rfl<|oRs<|oJn h [(6,14)] [] (fun v6_1=>(.n,[(6,Bo v6_1)],[])) (fun _ h=> ?_) (fun v6_1 h=> ?_)
 refine xMv rfl<|xMv rfl<|xGe rfl<|xMv rfl<|oIf 10 h rfl (fun q2 h=> ?_) (fun q2 h=> ?_)
 exact xMv rfl<|xMv rfl<|xLe rfl<|xPk rfl<|xAs rfl<|oNl<|eJ h rfl
 exact wSk rfl<|wSk rfl<|wSk rfl<|xPk rfl<|xAs rfl<|oNl<|eJ h rfl
 refine cRt ?_
 cases h
 exact eR rfl rfl rfl rfl
abbrev FT(p:(List UInt8)→Option (Bool)):Prop:= ∀ {t0_0:List UInt8} {r:Bool},p t0_0=some r→Big Try.prog τ An (.fn 155 [.one (.c (.str t0_0))] [] (.one (.c (.bool r))) none [] none)
def kP(n:Nat)(t0_0:List UInt8):(Int)→Option ((Int)⊕((Bool)⊕(Int×Bool)))
  | v3_1=>bif decide (v3_1<(t0_0.length:Int))then(ixs t0_0 v3_1).bind fun e14_6=>(aW n (IntKind.wrap .i64 e14_6) (97:Int) (122:Int)).bind fun c17_7=>(bif !c17_7 then bif decide (v3_1=(0:Int))then some true else(aW n (IntKind.wrap .i64 e14_6) (48:Int) (57:Int)).bind fun c25_11=>bif !c25_11 then some (!decide ((IntKind.wrap .i64 e14_6)=(95:Int)))else some false else some false).bind fun v32_8=>bif v32_8 then some (.inr (.inl false))else some (.inl (IntKind.wrap .i64 (v3_1+(1:Int))))else some (.inr (.inr (v3_1,false)))
def gM(n:Nat)(t0_0:List UInt8):Option (Bool):=
  (loopN (kP n t0_0) n (0:Int)).bind fun q=>(match q with | .inl v2_2=>some v2_2 | .inr (v3_3,v9_4)=>(aW n (t0_0.length:Int) (1:Int) (20:Int)).bind fun c35_14=>some c35_14)
theorem oI{n:Nat}:FT (gM n):=by
 intro t0_0 r h
 unfold gM at h
 refine bF Try.func155 rfl rfl<|cRs<|xAs rfl<|oNl<|cSq<|cRs<|xAs rfl<|oNl<|cLp h [(2,32)] [] (fun v3_1=>([(3,I64 v3_1)],[])) (fun q=>match q with | .inl v2_2=>(.r,[(2,Bo v2_2)],[]) | .inr (v3_3,v9_4)=>(.e 0,[(3,I64 v3_3),(9,Bo v9_4)],[])) rfl (fun v3_1 _ h=> ?_) (fun q h=> ?_)
 unfold kP at h
 refine cSq<|cRs<|xMv rfl<|xMv rfl<|xLs rfl<|xLt rfl<|oNl<|cIf h rfl (fun q5 h=> ?_) (fun q5 h=> ?_)
 refine cSk<|cSq<|cBk<|cRs<|xMv rfl<|xMv rfl<|Oo h rfl rfl rfl rfl rfl (fun e14_6 h=> ?_)
 refine wCv rfl rfl rfl rfl rfl<|xAs rfl<|oRs<|xMv rfl<|xC0 h (bA ·) rfl (fun c17_7 h=> ?_)
 refine xAs rfl<|oRs<|oJn h [(18,32)] [] (fun v32_8=>(.n,[(32,Bo v32_8)],[])) (fun _ h=> ?_) (fun v32_8 h=> ?_)
 refine xMv rfl<|gJ rfl<|xMv rfl<|oIf 20 h rfl (fun q9 h=> ?_) (fun q9 h=> ?_)
 refine xMv rfl<|xEq rfl<|xMv rfl<|oIf 23 h rfl (fun q10 h=> ?_) (fun q10 h=> ?_)
 exact wSk rfl<|wSk rfl<|wSk rfl<|wSk rfl<|wSk rfl<|wSk rfl<|wSk rfl<|xPk rfl<|xPk rfl<|oNl<|eJ h rfl
 refine xMv rfl<|xC0 h (bA ·) rfl (fun c25_11 h=> ?_)
 refine gJ rfl<|xMv rfl<|oIf 27 h rfl (fun q12 h=> ?_) (fun q12 h=> ?_)
 exact xMv rfl<|xNe rfl<|xPk rfl<|xPk rfl<|xPk rfl<|oNl<|eJ h rfl
 exact wSk rfl<|wSk rfl<|xPk rfl<|xPk rfl<|xPk rfl<|oNl<|eJ h rfl
 exact wSk rfl<|wSk rfl<|wSk rfl<|wSk rfl<|wSk rfl<|wSk rfl<|wSk rfl<|wSk rfl<|wSk rfl<|wSk rfl<|wSk rfl<|xPk rfl<|oNl<|eJ h rfl
 refine cIf h rfl (fun q13 h=> ?_) (fun q13 h=> ?_)
 exact cRs<|xAs rfl<|oNl<|cRt<|eXr h rfl
 exact cSk<|cRg<|xMv rfl<|cM rfl<|xAs rfl<|oNl<|eL h rfl
 exact cEx<|eX h rfl
 rcases q with v2_2 | ⟨v3_3,v9_4⟩
 cases h
 exact eR rfl rfl rfl rfl
 refine cRs<|xMv rfl<|xLs rfl<|xC0 h (bA ·) rfl (fun c35_14 h=> ?_)
 refine xAs rfl<|oNl<|cRt ?_
 cases h
 exact eR rfl rfl rfl rfl
abbrev zA(p:(List UInt8)→Option (Bool)):Prop:= ∀ {t0_0:List UInt8} {r:Bool},p t0_0=some r→Big Try.prog τ An (.fn 220 [.one (.c (.str t0_0))] [] (.one (.c (.bool r))) none [] none)
def jM(n:Nat)(t0_0:List UInt8):Option (Bool):=
  (bif decide (t0_0=([99,97,115,101]:List UInt8))then some true else bif decide (t0_0=([111,102]:List UInt8))then some true else some (decide (t0_0=([101,110,100]:List UInt8)))).bind fun v2_1=>some v2_1
theorem vF{n:Nat}:zA (jM n):=by
 intro t0_0 r h
 unfold jM at h
 refine bF Try.func220 rfl rfl<|cRs<|xAs rfl<|oRs<|oJn h [(2,12)] [] (fun v2_1=>(.n,[(2,Bo v2_1)],[])) (fun _ h=> ?_) (fun v2_1 h=> ?_)
 refine xMv rfl<|xEs rfl<|xMv rfl<|oIf 5 h rfl (fun q2 h=> ?_) (fun q2 h=> ?_)
 exact wSk rfl<|wSk rfl<|xPk rfl<|xMv rfl<|wSk rfl<|wSk rfl<|xPk rfl<|xAs rfl<|oNl<|eJ h rfl
 refine xMv rfl<|xEs rfl<|xPk rfl<|xMv rfl<|oIf 9 h rfl (fun q3 h=> ?_) (fun q3 h=> ?_)
 exact wSk rfl<|wSk rfl<|xPk rfl<|xAs rfl<|oNl<|eJ h rfl
 exact xMv rfl<|xEs rfl<|xPk rfl<|xAs rfl<|oNl<|eJ h rfl
 refine cRt ?_
 cases h
 exact eR rfl rfl rfl rfl
abbrev FR(p:(List UInt8)→Option (Bool)):Prop:= ∀ {t0_0:List UInt8} {r:Bool},p t0_0=some r→Big Try.prog τ An (.fn 134 [.one (.c (.str t0_0))] [] (.one (.c (.bool r))) none [] none)
def eO(n:Nat)(t0_0:List UInt8):Option (Bool):=
  ((gM n t0_0).bind fun c4_2=>bif c4_2 then(jM n t0_0).bind fun c7_4=>some (!c7_4)else some false).bind fun v2_1=>some v2_1
theorem oH{n:Nat}:FR (eO n):=by
 intro t0_0 r h
 unfold eO at h
 refine bF Try.func134 rfl rfl<|cRs<|xAs rfl<|oRs<|oJn h [(2,9)] [] (fun v2_1=>(.n,[(2,Bo v2_1)],[])) (fun _ h=> ?_) (fun v2_1 h=> ?_)
 refine xMv rfl<|xC0 h (oI ·) rfl (fun c4_2 h=> ?_)
 refine xMv rfl<|oIf 5 h rfl (fun q3 h=> ?_) (fun q3 h=> ?_)
 refine xMv rfl<|xC0 h (vF ·) rfl (fun c7_4 h=> ?_)
 exact gJ rfl<|xPk rfl<|xAs rfl<|oNl<|eJ h rfl
 exact wSk rfl<|wSk rfl<|wSk rfl<|xPk rfl<|xAs rfl<|oNl<|eJ h rfl
 refine cRt ?_
 cases h
 exact eR rfl rfl rfl rfl
abbrev FN(p:(List aB)→(List aA)→(List UInt8)→Option (Int)):Prop:= ∀ {t0_0:List aB} {t0_1:List aA} {t1_0:List UInt8} {r:Int},p t0_0 t0_1 t1_0=some r→Big Try.prog τ An (.fn 257 [.one (.ag [.sl (t0_0.map aH), .sl (t0_1.map aE)]), .one (.c (.str t1_0))] [] (.one (.c (.int .i64 r))) none [] none)
def gY(n:Nat)(t0_0:List aB)(t1_0:List UInt8):(Int)→Option ((Int)⊕((Int)⊕(Int×Bool)))
  | v5_1=>bif decide (v5_1<(t0_0.length:Int))then(ix t0_0 v5_1).bind fun e16_6=>bif decide (e16_6.f0=t1_0)then some (.inr (.inl v5_1))else some (.inl (IntKind.wrap .i64 (v5_1+(1:Int))))else some (.inr (.inr (v5_1,false)))
def gL(n:Nat)(t0_0:List aB)(t0_1:List aA)(t1_0:List UInt8):Option (Int):=
  (loopN (gY n t0_0 t1_0) n (0:Int)).bind fun q=>(match q with | .inl v4_2=>some v4_2 | .inr (v5_3,v10_4)=>some ((-1):Int))
theorem sS{n:Nat}:FN (gL n):=by
 intro t0_0 t0_1 t1_0 r h
 unfold gL at h
 refine bF Try.func257 rfl rfl<|cRs<|xBx rfl<|xAs rfl<|oNl<|cSq<|cRs<|xAs rfl<|oNl<|cLp h [(4,21)] [] (fun v5_1=>([(5,I64 v5_1)],[])) (fun q=>match q with | .inl v4_2=>(.r,[(4,I64 v4_2)],[]) | .inr (v5_3,v10_4)=>(.e 0,[(5,I64 v5_3),(10,Bo v10_4)],[])) rfl (fun v5_1 _ h=> ?_) (fun q h=> ?_)
 unfold gY at h
 refine cSq<|cRs<|xMv rfl<|xFd rfl<|xLd rfl<|xLn rfl<|xLt rfl<|oNl<|cIf h rfl (fun q5 h=> ?_) (fun q5 h=> ?_)
 refine cSk<|cSq<|cBk<|cRs<|xFd rfl<|xLd rfl<|xMv rfl<|xIx h bL rfl (fun e16_6 h=> ?_)
 refine xFd rfl<|xLd rfl<|xMv rfl<|xEs rfl<|oNl<|cIf h rfl (fun q7 h=> ?_) (fun q7 h=> ?_)
 exact cRs<|xMv rfl<|xAs rfl<|oNl<|cRt<|eXr h rfl
 exact cSk<|cRg<|xMv rfl<|cM rfl<|xAs rfl<|oNl<|eL h rfl
 exact cEx<|eX h rfl
 rcases q with v4_2 | ⟨v5_3,v10_4⟩
 cases h
 exact eR rfl rfl rfl rfl
 refine cRs<|xAs rfl<|oNl<|cRt ?_
 cases h
 exact eR rfl rfl rfl rfl
abbrev DQ(p:Int→Int→(List UInt8)→(List aA)→Int→Option (Bool)):Prop:= ∀ {t0_0 t0_1:Int} {t0_2:List UInt8} {t0_3:List aA} {t1_0:Int} {r:Bool},p t0_0 t0_1 t0_2 t0_3 t1_0=some r→Big Try.prog τ An (.fn 291 [.one (.ag [.int .i64 t0_0, .int .i64 t0_1, .str t0_2, .sl (t0_3.map aE)]), .one (.c (.int .i64 t1_0))] [] (.one (.c (.bool r))) none [] none)
def kA(n:Nat)(t0_0:Int)(t0_1:Int)(t0_2:List UInt8)(t0_3:List aA)(t1_0:Int):Option (Bool):=
  bif decide (t0_0=(1:Int))then((aW n t0_1 (0:Int) (1000000000000:Int)).bind fun c15_3=>bif c15_3 then bif decide (t0_2=([]:List UInt8))then some (decide ((t0_3.length:Int)=(0:Int)))else some false else some false).bind fun v4_2=>some v4_2 else bif decide (t0_0=(2:Int))then((eO n t0_2).bind fun c29_8=>bif c29_8 then bif decide (t0_1=(0:Int))then some (decide ((t0_3.length:Int)=(0:Int)))else some false else some false).bind fun v4_7=>some v4_7 else bif decide (t0_0=(3:Int))then(bif decide (t0_2=([]:List UInt8))then bif decide ((t0_3.length:Int)=(0:Int))then(aW n t0_1 ((-1):Int) (IntKind.wrap .i64 (t1_0 - (1:Int)))).bind fun c53_15=>some c53_15 else some false else some false).bind fun v4_12=>some v4_12 else bif decide (t0_0=(4:Int))then(bif decide (t0_2=([]:List UInt8))then bif decide (t0_1=(0:Int))then some (decide ((t0_3.length:Int)≤(20:Int)))else some false else some false).bind fun v4_17=>some v4_17 else bif decide (t0_0=(5:Int))then(bif decide (t0_2=([]:List UInt8))then bif decide (t0_1=(0:Int))then some (decide ((t0_3.length:Int)≤(20:Int)))else some false else some false).bind fun v4_21=>some v4_21 else bif decide (t0_0=(6:Int))then(bif decide (t0_2=([]:List UInt8))then bif decide (t0_1=(0:Int))then(aW n (t0_3.length:Int) (2:Int) (6:Int)).bind fun c82_28=>some c82_28 else some false else some false).bind fun v4_25=>some v4_25 else some false
theorem AQ{n:Nat}:DQ (kA n):=by
 intro t0_0 t0_1 t0_2 t0_3 t1_0 r h
 unfold kA at h
 refine bF Try.func291 rfl rfl<|cRs<|xBx rfl<|xAs rfl<|oRs<|xFd rfl<|xLd rfl<|xLn rfl<|xAs rfl<|oNl<|cSq<|cRs<|xFd rfl<|xLd rfl ?_
 refine oNl<|cBk<|cRs<|xEq rfl<|xAs rfl<|oNl<|cIf h rfl (fun q1 h=> ?_) (fun q1 h=> ?_)
 refine cRs<|oJn h [(4,4),(13,24)] [] (fun v4_2=>(.n,[(4,Bo v4_2)],[])) (fun _ h=> ?_) (fun v4_2 h=> ?_)
 refine xFd rfl<|xLd rfl<|xC0 h (bA ·) rfl (fun c15_3 h=> ?_)
 refine xMv rfl<|oIf 16 h rfl (fun q4 h=> ?_) (fun q4 h=> ?_)
 refine xFd rfl<|xLd rfl<|xEs rfl<|xPk rfl<|xMv rfl<|oIf 21 h rfl (fun q5 h=> ?_) (fun q5 h=> ?_)
 exact xMv rfl<|xEq rfl<|xPk rfl<|xAs rfl<|oNl<|eJ h rfl
 exact wSk rfl<|wSk rfl<|xPk rfl<|xAs rfl<|oNl<|eJ h rfl
 exact wSk rfl<|wSk rfl<|wSk rfl<|xPk rfl<|xMv rfl<|wSk rfl<|wSk rfl<|xPk rfl<|xAs rfl<|oNl<|eJ h rfl
 refine cRt ?_
 cases h
 exact eR rfl rfl rfl rfl
 refine cRs<|xEq rfl<|xAs rfl<|oNl<|cIf h rfl (fun q6 h=> ?_) (fun q6 h=> ?_)
 refine cRs<|oJn h [(4,4),(27,38)] [] (fun v4_7=>(.n,[(4,Bo v4_7)],[])) (fun _ h=> ?_) (fun v4_7 h=> ?_)
 refine xFd rfl<|xLd rfl<|xC0 h (oH ·) rfl (fun c29_8 h=> ?_)
 refine xMv rfl<|oIf 30 h rfl (fun q9 h=> ?_) (fun q9 h=> ?_)
 refine xFd rfl<|xLd rfl<|xEq rfl<|xPk rfl<|xMv rfl<|oIf 35 h rfl (fun q10 h=> ?_) (fun q10 h=> ?_)
 exact xMv rfl<|xEq rfl<|xPk rfl<|xAs rfl<|oNl<|eJ h rfl
 exact wSk rfl<|wSk rfl<|xPk rfl<|xAs rfl<|oNl<|eJ h rfl
 exact wSk rfl<|wSk rfl<|wSk rfl<|xPk rfl<|xMv rfl<|wSk rfl<|wSk rfl<|xPk rfl<|xAs rfl<|oNl<|eJ h rfl
 refine cRt ?_
 cases h
 exact eR rfl rfl rfl rfl
 refine cRs<|xEq rfl<|xAs rfl<|oNl<|cIf h rfl (fun q11 h=> ?_) (fun q11 h=> ?_)
 refine cRs<|oJn h [(4,4),(41,54)] [] (fun v4_12=>(.n,[(4,Bo v4_12)],[])) (fun _ h=> ?_) (fun v4_12 h=> ?_)
 refine xFd rfl<|xLd rfl<|xEs rfl<|xMv rfl<|oIf 44 h rfl (fun q13 h=> ?_) (fun q13 h=> ?_)
 refine xMv rfl<|xEq rfl<|xPk rfl<|xMv rfl<|oIf 48 h rfl (fun q14 h=> ?_) (fun q14 h=> ?_)
 refine xFd rfl<|xLd rfl<|xMv rfl<|tM rfl<|xC0 h (bA ·) rfl (fun c53_15 h=> ?_)
 exact xPk rfl<|xAs rfl<|oNl<|eJ h rfl
 exact wSk rfl<|wSk rfl<|wSk rfl<|wSk rfl<|wSk rfl<|xPk rfl<|xAs rfl<|oNl<|eJ h rfl
 exact wSk rfl<|wSk rfl<|xPk rfl<|xMv rfl<|wSk rfl<|wSk rfl<|wSk rfl<|wSk rfl<|wSk rfl<|xPk rfl<|xAs rfl<|oNl<|eJ h rfl
 refine cRt ?_
 cases h
 exact eR rfl rfl rfl rfl
 refine cSq<|cRs<|xEq rfl<|xAs rfl<|oNl<|cIf h rfl (fun q16 h=> ?_) (fun q16 h=> ?_)
 refine cSk<|cT rfl<|cRs<|oJn h [(4,4),(58,69)] [] (fun v4_17=>(.n,[(4,Bo v4_17)],[])) (fun _ h=> ?_) (fun v4_17 h=> ?_)
 refine xFd rfl<|xLd rfl<|xEs rfl<|xMv rfl<|oIf 61 h rfl (fun q18 h=> ?_) (fun q18 h=> ?_)
 refine xFd rfl<|xLd rfl<|xEq rfl<|xPk rfl<|xMv rfl<|oIf 66 h rfl (fun q19 h=> ?_) (fun q19 h=> ?_)
 exact xMv rfl<|xLe rfl<|xPk rfl<|xAs rfl<|oNl<|eJ h rfl
 exact wSk rfl<|wSk rfl<|xPk rfl<|xAs rfl<|oNl<|eJ h rfl
 exact wSk rfl<|wSk rfl<|wSk rfl<|xPk rfl<|xMv rfl<|wSk rfl<|wSk rfl<|xPk rfl<|xAs rfl<|oNl<|eJ h rfl
 refine cRt ?_
 cases h
 exact eR rfl rfl rfl rfl
 refine cRg<|xEq rfl<|xAs rfl<|oNl<|cIf h rfl (fun q20 h=> ?_) (fun q20 h=> ?_)
 refine cRs<|oJn h [(4,4),(58,69)] [] (fun v4_21=>(.n,[(4,Bo v4_21)],[])) (fun _ h=> ?_) (fun v4_21 h=> ?_)
 refine xFd rfl<|xLd rfl<|xEs rfl<|xMv rfl<|oIf 61 h rfl (fun q22 h=> ?_) (fun q22 h=> ?_)
 refine xFd rfl<|xLd rfl<|xEq rfl<|xPk rfl<|xMv rfl<|oIf 66 h rfl (fun q23 h=> ?_) (fun q23 h=> ?_)
 exact xMv rfl<|xLe rfl<|xPk rfl<|xAs rfl<|oNl<|eJ h rfl
 exact wSk rfl<|wSk rfl<|xPk rfl<|xAs rfl<|oNl<|eJ h rfl
 exact wSk rfl<|wSk rfl<|wSk rfl<|xPk rfl<|xMv rfl<|wSk rfl<|wSk rfl<|xPk rfl<|xAs rfl<|oNl<|eJ h rfl
 refine cRt ?_
 cases h
 exact eR rfl rfl rfl rfl
 refine cRs<|xEq rfl<|xAs rfl<|oNl<|cIf h rfl (fun q24 h=> ?_) (fun q24 h=> ?_)
 refine cRs<|oJn h [(4,4),(72,83)] [] (fun v4_25=>(.n,[(4,Bo v4_25)],[])) (fun _ h=> ?_) (fun v4_25 h=> ?_)
 refine xFd rfl<|xLd rfl<|xEs rfl<|xMv rfl<|oIf 75 h rfl (fun q26 h=> ?_) (fun q26 h=> ?_)
 refine xFd rfl<|xLd rfl<|xEq rfl<|xPk rfl<|xMv rfl<|oIf 80 h rfl (fun q27 h=> ?_) (fun q27 h=> ?_)
 refine xMv rfl<|xC0 h (bA ·) rfl (fun c82_28 h=> ?_)
 exact xPk rfl<|xAs rfl<|oNl<|eJ h rfl
 exact wSk rfl<|wSk rfl<|xPk rfl<|xAs rfl<|oNl<|eJ h rfl
 exact wSk rfl<|wSk rfl<|wSk rfl<|xPk rfl<|xMv rfl<|wSk rfl<|wSk rfl<|xPk rfl<|xAs rfl<|oNl<|eJ h rfl
 refine cRt ?_
 cases h
 exact eR rfl rfl rfl rfl
 refine cSk<|cRs<|xAs rfl<|oNl<|cRt ?_
 cases h
 exact eR rfl rfl rfl rfl
abbrev jK:Type:=Int→Int→(List UInt8)→(List aA)→Int→Int→Int→Option (Int)
abbrev nV(p:jK):Prop:= ∀ {t0_0 t0_1:Int} {t0_2:List UInt8} {t0_3:List aA} {t1_0 t2_0 t3_0:Int} {r:Int},p t0_0 t0_1 t0_2 t0_3 t1_0 t2_0 t3_0=some r→Big Try.prog τ An (.fn 260 [.one (.ag [.int .i64 t0_0, .int .i64 t0_1, .str t0_2, .sl (t0_3.map aE)]), .one (.c (.int .i64 t1_0)), .one (.c (.int .i64 t2_0)), .one (.c (.int .i64 t3_0))] [] (.one (.c (.int .i64 r))) none [] none)
def dK(n:Nat)(r_spec_l9Look:jK)(t1_0:Int)(t2_0:Int)(t0_3:List aA):(Int×Int)→Option ((Int×Int)⊕((Int×Int×Bool)))
  | (v3_6,v9_7)=>(bif decide (v9_7<(t0_3.length:Int))then some (decide ((0:Int)≤v3_6))else some false).bind fun v32_11=>bif v32_11 then(ix t0_3 v9_7).bind fun e38_14=>(r_spec_l9Look e38_14.f0 e38_14.f1 e38_14.f2 e38_14.f3 t1_0 (IntKind.wrap .i64 (t2_0 - (1:Int))) v3_6).bind fun c44_15=>some (.inl (c44_15,(IntKind.wrap .i64 (v9_7+(1:Int)))))else some (.inr (v3_6,v9_7,false))
def lH(n:Nat)(r_spec_l9Look:jK)(t0_0:Int)(t0_1:Int)(t0_2:List UInt8)(t0_3:List aA)(t1_0:Int)(t2_0:Int)(t3_0:Int):Option (Int):=
  (bif decide (t2_0<(1:Int))then some true else bif decide (t3_0<(1:Int))then some true else(kA n t0_0 t0_1 t0_2 t0_3 t1_0).bind fun c19_4=>some (!c19_4)).bind fun v21_1=>bif v21_1 then some ((-1):Int)else(loopN (dK n r_spec_l9Look t1_0 t2_0 t0_3) n ((IntKind.wrap .i64 (t3_0 - (1:Int))),(0:Int))).bind fun(v3_8,v9_9,v32_10)=>some v3_8
theorem AJ{n:Nat}{r_spec_l9Look:jK}(ih_spec_l9Look:nV r_spec_l9Look):nV (lH n r_spec_l9Look):=by
 intro t0_0 t0_1 t0_2 t0_3 t1_0 t2_0 t3_0 r h
 unfold lH at h
 refine bF Try.func260 rfl rfl<|cRs<|xBx rfl<|xAs rfl<|oNl<|cSq<|cRs<|oJn h [(10,21)] [] (fun v21_1=>(.n,[(21,Bo v21_1)],[])) (fun _ h=> ?_) (fun v21_1 h=> ?_)
 refine xMv rfl<|xLt rfl<|xMv rfl<|oIf 12 h rfl (fun q2 h=> ?_) (fun q2 h=> ?_)
 exact wSk rfl<|wSk rfl<|xPk rfl<|xMv rfl<|wSk rfl<|wSk rfl<|wSk rfl<|wSk rfl<|xPk rfl<|oNl<|eJ h rfl
 refine xMv rfl<|xLt rfl<|xPk rfl<|xMv rfl<|oIf 16 h rfl (fun q3 h=> ?_) (fun q3 h=> ?_)
 exact wSk rfl<|wSk rfl<|wSk rfl<|wSk rfl<|xPk rfl<|oNl<|eJ h rfl
 refine xLd rfl<|xMv rfl<|xC0 h (AQ ·) rfl (fun c19_4 h=> ?_)
 exact gJ rfl<|xPk rfl<|oNl<|eJ h rfl
 refine cIf h rfl (fun q5 h=> ?_) (fun q5 h=> ?_)
 refine cRs<|xAs rfl<|oNl<|cRt ?_
 cases h
 exact eR rfl rfl rfl rfl
 refine cSk<|cRs<|xMv rfl<|tM rfl<|xAs rfl<|oNl<|cSq<|cRs<|xAs rfl<|oNl<|cLp h [(3,3),(9,9),(24,44)] [] (fun(v3_6,v9_7)=>([(3,I64 v3_6),(9,I64 v9_7)],[])) (fun(v3_8,v9_9,v32_10)=>(.e 0,[(3,I64 v3_8),(9,I64 v9_9),(32,Bo v32_10)],[])) rfl (fun st _ h=> ?_) (fun q h=> ?_)
 obtain⟨v3_6,v9_7⟩:=st
 unfold dK at h
 refine cSq<|cRs<|oJn h [(24,32)] [] (fun v32_11=>(.n,[(32,Bo v32_11)],[])) (fun _ h=> ?_) (fun v32_11 h=> ?_)
 refine xMv rfl<|xFd rfl<|xLd rfl<|xLn rfl<|xLt rfl<|xMv rfl<|oIf 29 h rfl (fun q12 h=> ?_) (fun q12 h=> ?_)
 exact xMv rfl<|xGe rfl<|xPk rfl<|oNl<|eJ h rfl
 exact wSk rfl<|wSk rfl<|xPk rfl<|oNl<|eJ h rfl
 refine cIf h rfl (fun q13 h=> ?_) (fun q13 h=> ?_)
 refine cSk<|cSq<|cBk<|cRg<|xFd rfl<|xLd rfl<|xMv rfl<|xIx h aL rfl (fun e38_14 h=> ?_)
 refine xLd rfl<|xMv rfl<|xMv rfl<|tM rfl<|xMv rfl<|xC0 h (ih_spec_l9Look ·) rfl (fun c44_15 h=> ?_)
 exact xAs rfl<|oNl<|cRg<|xMv rfl<|cM rfl<|xAs rfl<|oNl<|eL h rfl
 exact cEx<|eX h rfl
 obtain⟨v3_8,v9_9,v32_10⟩:=q
 refine cRs<|xMv rfl<|xAs rfl<|oNl<|cRt ?_
 cases h
 exact eR rfl rfl rfl rfl
def wH:Nat→(jK)
  | 0=>(fun _ _ _ _ _ _ _=>none)
  | n+1=>lH n (wH n)
def dO(n:Nat):jK:=wH n
theorem AN(n:Nat):nV (dO n):=by
  induction n with
  | zero=>exact(fun h=>nomatch h)
  | succ n ih=>exact AJ (n:=n) ih
theorem CC{n:Nat}:nV (dO n):=(AN n)
theorem xA(n:Nat):dO (n+1)=lH n (dO n):=rfl
abbrev fL:Type:=Int→Int→(List UInt8)→(List aA)→Option ((List Int))
abbrev mO(p:fL):Prop:= ∀ {t0_0 t0_1:Int} {t0_2:List UInt8} {t0_3:List aA} {r:(List Int)},p t0_0 t0_1 t0_2 t0_3=some r→Big Try.prog τ An (.fn 261 [.one (.ag [.int .i64 t0_0, .int .i64 t0_1, .str t0_2, .sl (t0_3.map aE)])] [] (.one (.c (.sl (r.map aX)))) none [] none)
def fX(n:Nat)(r_spec_l9Slots:fL)(t0_3:List aA):((List Int)×Int)→Option (((List Int)×Int)⊕(((List Int)×Int×Bool)))
  | (v3_5,v4_6)=>bif decide (v4_6<(t0_3.length:Int))then(ix t0_3 v4_6).bind fun e30_11=>(r_spec_l9Slots e30_11.f0 e30_11.f1 e30_11.f2 e30_11.f3).bind fun c32_12=>(tP 8 v3_5 c32_12).bind fun v33_13=>some (.inl (v33_13,(IntKind.wrap .i64 (v4_6+(1:Int)))))else some (.inr (v3_5,v4_6,false))
def fW(n:Nat)(r_spec_l9Slots:fL)(t0_3:List aA):((List Int)×Int)→Option (((List Int)×Int)⊕(((List Int)×Int×Bool)))
  | (v3_14,v4_15)=>bif decide (v4_15<(t0_3.length:Int))then(ix t0_3 v4_15).bind fun e30_20=>(r_spec_l9Slots e30_20.f0 e30_20.f1 e30_20.f2 e30_20.f3).bind fun c32_21=>(tP 8 v3_14 c32_21).bind fun v33_22=>some (.inl (v33_22,(IntKind.wrap .i64 (v4_15+(1:Int)))))else some (.inr (v3_14,v4_15,false))
def jX(n:Nat)(r_spec_l9Slots:fL)(t0_0:Int)(t0_1:Int)(t0_2:List UInt8)(t0_3:List aA):Option ((List Int)):=
  (bif decide (t0_0=(3:Int))then some (!decide (t0_1=((-1):Int)))else some false).bind fun v13_1=>bif v13_1 then(tP 8 ([]:List Int) ([t0_1]:List Int)).bind fun v18_4=>(loopN (fX n r_spec_l9Slots t0_3) n (v18_4,(0:Int))).bind fun(v3_7,v4_8,v23_9)=>some v3_7 else(loopN (fW n r_spec_l9Slots t0_3) n (([]:List Int),(0:Int))).bind fun(v3_16,v4_17,v23_18)=>some v3_16
theorem yO{n:Nat}{r_spec_l9Slots:fL}(ih_spec_l9Slots:mO r_spec_l9Slots):mO (jX n r_spec_l9Slots):=by
 intro t0_0 t0_1 t0_2 t0_3 r h
 unfold jX at h
 refine bF Try.func261 rfl rfl<|cRs<|xBx rfl<|wAe (Li aX []) rfl rfl rfl rfl<|oRs<|Dk (L:=([]:List Int)) (f:=aX) rfl rfl rfl rfl rfl rfl rfl<|xAs rfl<|oNl<|cSq<|cRs<|oJn h [(6,13)] [] (fun v13_1=>(.n,[(13,Bo v13_1)],[])) (fun _ h=> ?_) (fun v13_1 h=> ?_)
 refine xFd rfl<|xLd rfl<|xEq rfl<|xMv rfl<|oIf 9 h rfl (fun q2 h=> ?_) (fun q2 h=> ?_)
 exact xFd rfl<|xLd rfl<|xNe rfl<|xPk rfl<|oNl<|eJ h rfl
 exact wSk rfl<|wSk rfl<|wSk rfl<|xPk rfl<|oNl<|eJ h rfl
 refine cIf h rfl (fun q3 h=> ?_) (fun q3 h=> ?_)
 refine cRg<|xMv rfl<|xFd rfl<|xLd rfl<|Dk (L:=([t0_1]:List Int)) (f:=aX) rfl rfl rfl rfl rfl rfl rfl<|wAp (f:=aX) h rfl rfl rfl rfl rfl rfl rfl rfl rfl (fun _=>rfl) rfl (fun v18_4 h=> ?_)
 refine xAs rfl<|oNl<|cSq<|cRs<|xAs rfl<|oNl<|cLp h [(3,4),(19,33)] [] (fun(v3_5,v4_6)=>([(3,Li aX v3_5),(4,I64 v4_6)],[])) (fun(v3_7,v4_8,v23_9)=>(.e 0,[(3,Li aX v3_7),(4,I64 v4_8),(23,Bo v23_9)],[])) rfl (fun st _ h=> ?_) (fun q h=> ?_)
 obtain⟨v3_5,v4_6⟩:=st
 unfold fX at h
 refine cSq<|cRs<|xMv rfl<|xFd rfl<|xLd rfl<|xLn rfl<|xLt rfl<|oNl<|cIf h rfl (fun q10 h=> ?_) (fun q10 h=> ?_)
 refine cSk<|cSq<|cBk<|cRg<|xMv rfl<|xFd rfl<|xLd rfl<|xMv rfl<|xIx h aL rfl (fun e30_11 h=> ?_)
 refine xLd rfl<|xC0 h (ih_spec_l9Slots ·) rfl (fun c32_12 h=> ?_)
 refine wAp (f:=aX) h rfl rfl rfl rfl rfl rfl rfl rfl rfl (fun _=>rfl) rfl (fun v33_13 h=> ?_)
 exact xAs rfl<|oNl<|cRg<|xMv rfl<|cM rfl<|xAs rfl<|oNl<|eL h rfl
 exact cEx<|eX h rfl
 obtain⟨v3_7,v4_8,v23_9⟩:=q
 refine cRs<|xMv rfl<|xAs rfl<|oNl<|cRt ?_
 cases h
 exact eR rfl rfl rfl rfl
 refine cSk<|cSq<|cRs<|xAs rfl<|oNl<|cLp h [(3,4),(19,33)] [] (fun(v3_14,v4_15)=>([(3,Li aX v3_14),(4,I64 v4_15)],[])) (fun(v3_16,v4_17,v23_18)=>(.e 0,[(3,Li aX v3_16),(4,I64 v4_17),(23,Bo v23_18)],[])) rfl (fun st _ h=> ?_) (fun q h=> ?_)
 obtain⟨v3_14,v4_15⟩:=st
 unfold fW at h
 refine cSq<|cRs<|xMv rfl<|xFd rfl<|xLd rfl<|xLn rfl<|xLt rfl<|oNl<|cIf h rfl (fun q19 h=> ?_) (fun q19 h=> ?_)
 refine cSk<|cSq<|cBk<|cRg<|xMv rfl<|xFd rfl<|xLd rfl<|xMv rfl<|xIx h aL rfl (fun e30_20 h=> ?_)
 refine xLd rfl<|xC0 h (ih_spec_l9Slots ·) rfl (fun c32_21 h=> ?_)
 refine wAp (f:=aX) h rfl rfl rfl rfl rfl rfl rfl rfl rfl (fun _=>rfl) rfl (fun v33_22 h=> ?_)
 exact xAs rfl<|oNl<|cRg<|xMv rfl<|cM rfl<|xAs rfl<|oNl<|eL h rfl
 exact cEx<|eX h rfl
 obtain⟨v3_16,v4_17,v23_18⟩:=q
 refine cRs<|xMv rfl<|xAs rfl<|oNl<|cRt ?_
 cases h
 exact eR rfl rfl rfl rfl
def uC:Nat→(fL)
  | 0=>(fun _ _ _ _=>none)
  | n+1=>jX n (uC n)
def dB(n:Nat):fL:=uC n
theorem yU(n:Nat):mO (dB n):=by
  induction n with
  | zero=>exact(fun h=>nomatch h)
  | succ n ih=>exact yO (n:=n) ih
theorem AP{n:Nat}:mO (dB n):=(yU n)
theorem vC(n:Nat):dB (n+1)=jX n (dB n):=rfl
abbrev DU(p:Int→Int→(List UInt8)→(List aA)→Int→Option (Bool)):Prop:= ∀ {t0_0 t0_1:Int} {t0_2:List UInt8} {t0_3:List aA} {t1_0:Int} {r:Bool},p t0_0 t0_1 t0_2 t0_3 t1_0=some r→Big Try.prog τ An (.fn 194 [.one (.ag [.int .i64 t0_0, .int .i64 t0_1, .str t0_2, .sl (t0_3.map aE)]), .one (.c (.int .i64 t1_0))] [] (.one (.c (.bool r))) none [] none)
def fZ(n:Nat)(c18_6:(List Int))(v6_7:Int):(Int)→Option ((Int)⊕((Bool)⊕(Int×Bool)))
  | v7_12=>bif decide (v7_12<v6_7)then(ix c18_6 v7_12).bind fun e32_17=>(ix c18_6 v6_7).bind fun e36_18=>bif decide (e32_17=e36_18)then some (.inr (.inl false))else some (.inl (IntKind.wrap .i64 (v7_12+(1:Int))))else some (.inr (.inr (v7_12,false)))
def jO(n:Nat)(c18_6:(List Int)):(Int)→Option ((Int)⊕((Bool)⊕(Int×Bool)))
  | v6_7=>bif decide (v6_7<(c18_6.length:Int))then(loopN (fZ n c18_6 v6_7) n (0:Int)).bind fun q=>(match q with | .inl v4_13=>some (.inr (.inl v4_13)) | .inr (v7_14,v27_15)=>some (.inl (IntKind.wrap .i64 (v6_7+(1:Int)))))else some (.inr (.inr (v6_7,false)))
def hU(n:Nat)(t0_0:Int)(t0_1:Int)(t0_2:List UInt8)(t0_3:List aA)(t1_0:Int):Option (Bool):=
  ((aW n t1_0 (0:Int) (400:Int)).bind fun c9_2=>bif !c9_2 then some true else(dO n t0_0 t0_1 t0_2 t0_3 t1_0 (10:Int) (300:Int)).bind fun c14_4=>some (decide (c14_4<(0:Int)))).bind fun v16_1=>bif v16_1 then some false else(dB n t0_0 t0_1 t0_2 t0_3).bind fun c18_6=>(loopN (jO n c18_6) n (0:Int)).bind fun q=>(match q with | .inl v4_8=>some v4_8 | .inr (v6_9,v22_10)=>some true)
theorem AT{n:Nat}:DU (hU n):=by
 intro t0_0 t0_1 t0_2 t0_3 t1_0 r h
 unfold hU at h
 refine bF Try.func194 rfl rfl<|cRs<|xBx rfl<|xAs rfl<|oNl<|cSq<|cRs<|oJn h [(8,16)] [] (fun v16_1=>(.n,[(16,Bo v16_1)],[])) (fun _ h=> ?_) (fun v16_1 h=> ?_)
 refine xMv rfl<|xC0 h (bA ·) rfl (fun c9_2 h=> ?_)
 refine gJ rfl<|xMv rfl<|oIf 11 h rfl (fun q3 h=> ?_) (fun q3 h=> ?_)
 exact wSk rfl<|wSk rfl<|wSk rfl<|wSk rfl<|xPk rfl<|oNl<|eJ h rfl
 refine xLd rfl<|xMv rfl<|xC0 h (CC ·) rfl (fun c14_4 h=> ?_)
 exact xLt rfl<|xPk rfl<|oNl<|eJ h rfl
 refine cIf h rfl (fun q5 h=> ?_) (fun q5 h=> ?_)
 refine cRs<|xAs rfl<|oNl<|cRt ?_
 cases h
 exact eR rfl rfl rfl rfl
 refine cSk<|cRs<|xLd rfl<|xC0 h (AP ·) rfl (fun c18_6 h=> ?_)
 refine xAs rfl<|oNl<|cSq<|cRs<|xAs rfl<|oNl<|cLp h [(4,4),(6,7),(19,38)] [] (fun v6_7=>([(6,I64 v6_7)],[])) (fun q=>match q with | .inl v4_8=>(.r,[(4,Bo v4_8)],[]) | .inr (v6_9,v22_10)=>(.e 0,[(6,I64 v6_9),(22,Bo v22_10)],[])) rfl (fun v6_7 _ h=> ?_) (fun q h=> ?_)
 unfold jO at h
 refine cSq<|cRs<|xMv rfl<|xMv rfl<|xLn rfl<|xLt rfl<|oNl<|cIf h rfl (fun q11 h=> ?_) (fun q11 h=> ?_)
 refine cSk<|cSq<|cBk<|cRs<|xAs rfl<|oNl<|cLp h [(4,4),(7,7),(25,38)] [] (fun v7_12=>([(7,I64 v7_12)],[])) (fun q=>match q with | .inl v4_13=>(.r,[(4,Bo v4_13)],[]) | .inr (v7_14,v27_15)=>(.e 2,[(7,I64 v7_14),(27,Bo v27_15)],[])) rfl (fun v7_12 _ h=> ?_) (fun q h=> ?_)
 unfold fZ at h
 refine cSq<|cRs<|xMv rfl<|xMv rfl<|xLt rfl<|oNl<|cIf h rfl (fun q16 h=> ?_) (fun q16 h=> ?_)
 refine cSk<|cSq<|cBk<|cRs<|xMv rfl<|xMv rfl<|xIx h iN rfl (fun e32_17 h=> ?_)
 refine xLd rfl<|xMv rfl<|xMv rfl<|xIx h iN rfl (fun e36_18 h=> ?_)
 refine xLd rfl<|xEq rfl<|oNl<|cIf h rfl (fun q19 h=> ?_) (fun q19 h=> ?_)
 exact cRs<|xAs rfl<|oNl<|cRt<|eXr h rfl
 exact cSk<|cRg<|xMv rfl<|cM rfl<|xAs rfl<|oNl<|eL h rfl
 exact cEx<|eX h rfl
 rcases q with v4_13 | ⟨v7_14,v27_15⟩
 exact eXr h rfl
 exact cRg<|xMv rfl<|cM rfl<|xAs rfl<|oNl<|eL h rfl
 exact cEx<|eX h rfl
 rcases q with v4_8 | ⟨v6_9,v22_10⟩
 cases h
 exact eR rfl rfl rfl rfl
 refine cRs<|xAs rfl<|oNl<|cRt ?_
 cases h
 exact eR rfl rfl rfl rfl
abbrev IV(p:(List UInt8)→Option (Bool)):Prop:= ∀ {t0_0:List UInt8} {r:Bool},p t0_0=some r→Big Try.prog τ An (.fn 286 [.one (.c (.str t0_0))] [] (.one (.c (.bool r))) none [] none)
def oB(n:Nat)(t0_0:List UInt8):Option (Bool):=
  (bif decide (t0_0=([43]:List UInt8))then some true else bif decide (t0_0=([45]:List UInt8))then some true else bif decide (t0_0=([42]:List UInt8))then some true else bif decide (t0_0=([61,61]:List UInt8))then some true else some (decide (t0_0=([60]:List UInt8)))).bind fun v2_1=>some v2_1
theorem FG{n:Nat}:IV (oB n):=by
 intro t0_0 r h
 unfold oB at h
 refine bF Try.func286 rfl rfl<|cRs<|xAs rfl<|oRs<|oJn h [(2,20)] [] (fun v2_1=>(.n,[(2,Bo v2_1)],[])) (fun _ h=> ?_) (fun v2_1 h=> ?_)
 refine xMv rfl<|xEs rfl<|xMv rfl<|oIf 5 h rfl (fun q2 h=> ?_) (fun q2 h=> ?_)
 refine wSk rfl<|wSk rfl<|xPk rfl<|xMv rfl<|wSk rfl<|wSk rfl<|xPk rfl<|xMv rfl<|wSk rfl<|wSk rfl<|xPk rfl<|xMv rfl<|wSk rfl<|wSk rfl ?_
 exact xPk rfl<|xAs rfl<|oNl<|eJ h rfl
 refine xMv rfl<|xEs rfl<|xPk rfl<|xMv rfl<|oIf 9 h rfl (fun q3 h=> ?_) (fun q3 h=> ?_)
 exact wSk rfl<|wSk rfl<|xPk rfl<|xMv rfl<|wSk rfl<|wSk rfl<|xPk rfl<|xMv rfl<|wSk rfl<|wSk rfl<|xPk rfl<|xAs rfl<|oNl<|eJ h rfl
 refine xMv rfl<|xEs rfl<|xPk rfl<|xMv rfl<|oIf 13 h rfl (fun q4 h=> ?_) (fun q4 h=> ?_)
 exact wSk rfl<|wSk rfl<|xPk rfl<|xMv rfl<|wSk rfl<|wSk rfl<|xPk rfl<|xAs rfl<|oNl<|eJ h rfl
 refine xMv rfl<|xEs rfl<|xPk rfl<|xMv rfl<|oIf 17 h rfl (fun q5 h=> ?_) (fun q5 h=> ?_)
 exact wSk rfl<|wSk rfl<|xPk rfl<|xAs rfl<|oNl<|eJ h rfl
 exact xMv rfl<|xEs rfl<|xPk rfl<|xAs rfl<|oNl<|eJ h rfl
 refine cRt ?_
 cases h
 exact eR rfl rfl rfl rfl
abbrev HB(p:(List aB)→(List aA)→(List UInt8)→Int→Int→(List aD)→Int→Option (Bool)):Prop:= ∀ {t0_0:List aB} {t0_1:List aA} {t1_0:List UInt8} {t1_1 t1_2:Int} {t1_3:List aD} {t2_0:Int} {r:Bool},p t0_0 t0_1 t1_0 t1_1 t1_2 t1_3 t2_0=some r→Big Try.prog τ An (.fn 258 [.one (.ag [.sl (t0_0.map aH), .sl (t0_1.map aE)]), .one (.ag [.str t1_0, .int .i64 t1_1, .int .i64 t1_2, .sl (t1_3.map aK)]), .one (.c (.int .i64 t2_0))] [] (.one (.c (.bool r))) none [] none)
def lC(n:Nat)(t0_0:List aB)(t0_1:List aA)(t1_0:List UInt8)(t1_1:Int)(t1_2:Int)(t1_3:List aD)(t2_0:Int):Option (Bool):=
  (ix t1_3 t2_0).bind fun e14_1=>(bif decide (e14_1.f2=([]:List UInt8))then some (decide (e14_1.f3=(0:Int)))else some false).bind fun v8_2=>(bif decide (e14_1.f2=([]:List UInt8))then(aW n e14_1.f3 (IntKind.wrap .i64 (t2_0+(1:Int))) (IntKind.wrap .i64 ((t1_3.length:Int) - (1:Int)))).bind fun c36_6=>some c36_6 else some false).bind fun v9_4=>bif decide (e14_1.f0=(1:Int))then(bif v8_2 then(aW n e14_1.f1 (0:Int) (1000000000000:Int)).bind fun c46_10=>some c46_10 else some false).bind fun v6_8=>some v6_8 else bif decide (e14_1.f0=(2:Int))then((eO n e14_1.f2).bind fun c52_13=>bif c52_13 then bif decide (e14_1.f1=(0:Int))then some (decide (e14_1.f3=(0:Int)))else some false else some false).bind fun v6_12=>some v6_12 else bif decide (e14_1.f0=(3:Int))then(bif v8_2 then(aW n e14_1.f1 (0:Int) (IntKind.wrap .i64 (t1_2 - (1:Int)))).bind fun c72_19=>some c72_19 else some false).bind fun v6_17=>some v6_17 else bif decide (e14_1.f0=(4:Int))then(bif v8_2 then(aW n e14_1.f1 (0:Int) (20:Int)).bind fun c81_23=>some c81_23 else some false).bind fun v6_21=>some v6_21 else bif decide (e14_1.f0=(5:Int))then(bif v8_2 then(aW n e14_1.f1 (0:Int) (20:Int)).bind fun c81_27=>some c81_27 else some false).bind fun v6_25=>some v6_25 else bif decide (e14_1.f0=(6:Int))then(bif v8_2 then(aW n e14_1.f1 (2:Int) (6:Int)).bind fun c89_31=>some c89_31 else some false).bind fun v6_29=>some v6_29 else bif decide (e14_1.f0=(7:Int))then((oB n e14_1.f2).bind fun c95_34=>bif c95_34 then bif decide (e14_1.f1=(0:Int))then some (decide (e14_1.f3=(0:Int)))else some false else some false).bind fun v6_33=>some v6_33 else bif decide (e14_1.f0=(8:Int))then(gL n t0_0 t0_1 e14_1.f2).bind fun c111_38=>(bif decide ((0:Int)≤c111_38)then(ix t0_0 c111_38).bind fun e118_41=>bif decide (e118_41.f1=e14_1.f1)then some (decide (e14_1.f3=(0:Int)))else some false else some false).bind fun v6_39=>some v6_39 else bif decide (e14_1.f0=(9:Int))then(bif v9_4 then(aW n e14_1.f1 (0:Int) (IntKind.wrap .i64 ((t0_1.length:Int) - (1:Int)))).bind fun c140_46=>bif c140_46 then(ix t0_1 e14_1.f1).bind fun e147_48=>(hU n e147_48.f0 e147_48.f1 e147_48.f2 e147_48.f3 t1_2).bind fun c151_49=>some c151_49 else some false else some false).bind fun v6_44=>some v6_44 else bif decide (e14_1.f0=(10:Int))then(bif v9_4 then some (decide (e14_1.f1=(0:Int)))else some false).bind fun v6_51=>some v6_51 else(bif v8_2 then bif decide (e14_1.f1=(0:Int))then(aW n e14_1.f0 (11:Int) (12:Int)).bind fun c170_56=>some c170_56 else some false else some false).bind fun v6_53=>some v6_53
theorem DE{n:Nat}:HB (lC n):=by
 intro t0_0 t0_1 t1_0 t1_1 t1_2 t1_3 t2_0 r h
 unfold lC at h
 refine bF Try.func258 rfl rfl<|cRs<|xBx rfl<|xBx rfl<|xAs rfl<|oRs<|xFd rfl<|xLd rfl<|xMv rfl<|xIx h bP rfl (fun e14_1 h=> ?_)
 refine xLd rfl<|xAc rfl<|xSt rfl<|oRs<|oJn h [(8,8),(16,23)] [] (fun v8_2=>(.n,[(8,Bo v8_2)],[])) (fun _ h=> ?_) (fun v8_2 h=> ?_)
 refine xFd rfl<|xLd rfl<|xEs rfl<|xMv rfl<|oIf 19 h rfl (fun q3 h=> ?_) (fun q3 h=> ?_)
 exact xFd rfl<|xLd rfl<|xEq rfl<|xPk rfl<|xAs rfl<|oNl<|eJ h rfl
 exact wSk rfl<|wSk rfl<|wSk rfl<|xPk rfl<|xAs rfl<|oNl<|eJ h rfl
 refine cRs<|oJn h [(9,9),(24,37)] [] (fun v9_4=>(.n,[(9,Bo v9_4)],[])) (fun _ h=> ?_) (fun v9_4 h=> ?_)
 refine xFd rfl<|xLd rfl<|xEs rfl<|xMv rfl<|oIf 27 h rfl (fun q5 h=> ?_) (fun q5 h=> ?_)
 refine xFd rfl<|xLd rfl<|xMv rfl<|cM rfl<|xFd rfl<|xLd rfl<|xLn rfl<|tM rfl<|xC0 h (bA ·) rfl (fun c36_6 h=> ?_)
 exact xPk rfl<|xAs rfl<|oNl<|eJ h rfl
 exact wSk rfl<|wSk rfl<|wSk rfl<|wSk rfl<|wSk rfl<|wSk rfl<|wSk rfl<|wSk rfl<|wSk rfl<|xPk rfl<|xAs rfl<|oNl<|eJ h rfl
 refine cSq<|cRs<|xFd rfl<|xLd rfl<|oNl<|cBk<|cRs<|xEq rfl<|xAs rfl<|oNl<|cIf h rfl (fun q7 h=> ?_) (fun q7 h=> ?_)
 refine cRs<|oJn h [(6,6),(42,47)] [] (fun v6_8=>(.n,[(6,Bo v6_8)],[])) (fun _ h=> ?_) (fun v6_8 h=> ?_)
 refine xMv rfl<|xMv rfl<|oIf 43 h rfl (fun q9 h=> ?_) (fun q9 h=> ?_)
 refine xFd rfl<|xLd rfl<|xC0 h (bA ·) rfl (fun c46_10 h=> ?_)
 exact xPk rfl<|xAs rfl<|oNl<|eJ h rfl
 exact wSk rfl<|wSk rfl<|wSk rfl<|xPk rfl<|xAs rfl<|oNl<|eJ h rfl
 refine cRt ?_
 cases h
 exact eR rfl rfl rfl rfl
 refine cRs<|xEq rfl<|xAs rfl<|oNl<|cIf h rfl (fun q11 h=> ?_) (fun q11 h=> ?_)
 refine cRs<|oJn h [(6,6),(50,62)] [] (fun v6_12=>(.n,[(6,Bo v6_12)],[])) (fun _ h=> ?_) (fun v6_12 h=> ?_)
 refine xFd rfl<|xLd rfl<|xC0 h (oH ·) rfl (fun c52_13 h=> ?_)
 refine xMv rfl<|oIf 53 h rfl (fun q14 h=> ?_) (fun q14 h=> ?_)
 refine xFd rfl<|xLd rfl<|xEq rfl<|xPk rfl<|xMv rfl<|oIf 58 h rfl (fun q15 h=> ?_) (fun q15 h=> ?_)
 exact xFd rfl<|xLd rfl<|xEq rfl<|xPk rfl<|xAs rfl<|oNl<|eJ h rfl
 exact wSk rfl<|wSk rfl<|wSk rfl<|xPk rfl<|xAs rfl<|oNl<|eJ h rfl
 exact wSk rfl<|wSk rfl<|wSk rfl<|xPk rfl<|xMv rfl<|wSk rfl<|wSk rfl<|wSk rfl<|xPk rfl<|xAs rfl<|oNl<|eJ h rfl
 refine cRt ?_
 cases h
 exact eR rfl rfl rfl rfl
 refine cRs<|xEq rfl<|xAs rfl<|oNl<|cIf h rfl (fun q16 h=> ?_) (fun q16 h=> ?_)
 refine cRs<|oJn h [(6,6),(65,73)] [] (fun v6_17=>(.n,[(6,Bo v6_17)],[])) (fun _ h=> ?_) (fun v6_17 h=> ?_)
 refine xMv rfl<|xMv rfl<|oIf 66 h rfl (fun q18 h=> ?_) (fun q18 h=> ?_)
 refine xFd rfl<|xLd rfl<|xFd rfl<|xLd rfl<|tM rfl<|xC0 h (bA ·) rfl (fun c72_19 h=> ?_)
 exact xPk rfl<|xAs rfl<|oNl<|eJ h rfl
 exact wSk rfl<|wSk rfl<|wSk rfl<|wSk rfl<|wSk rfl<|wSk rfl<|xPk rfl<|xAs rfl<|oNl<|eJ h rfl
 refine cRt ?_
 cases h
 exact eR rfl rfl rfl rfl
 refine cSq<|cRs<|xEq rfl<|xAs rfl<|oNl<|cIf h rfl (fun q20 h=> ?_) (fun q20 h=> ?_)
 refine cSk<|cT rfl<|cRs<|oJn h [(6,6),(77,82)] [] (fun v6_21=>(.n,[(6,Bo v6_21)],[])) (fun _ h=> ?_) (fun v6_21 h=> ?_)
 refine xMv rfl<|xMv rfl<|oIf 78 h rfl (fun q22 h=> ?_) (fun q22 h=> ?_)
 refine xFd rfl<|xLd rfl<|xC0 h (bA ·) rfl (fun c81_23 h=> ?_)
 exact xPk rfl<|xAs rfl<|oNl<|eJ h rfl
 exact wSk rfl<|wSk rfl<|wSk rfl<|xPk rfl<|xAs rfl<|oNl<|eJ h rfl
 refine cRt ?_
 cases h
 exact eR rfl rfl rfl rfl
 refine cRg<|xEq rfl<|xAs rfl<|oNl<|cIf h rfl (fun q24 h=> ?_) (fun q24 h=> ?_)
 refine cRs<|oJn h [(6,6),(77,82)] [] (fun v6_25=>(.n,[(6,Bo v6_25)],[])) (fun _ h=> ?_) (fun v6_25 h=> ?_)
 refine xMv rfl<|xMv rfl<|oIf 78 h rfl (fun q26 h=> ?_) (fun q26 h=> ?_)
 refine xFd rfl<|xLd rfl<|xC0 h (bA ·) rfl (fun c81_27 h=> ?_)
 exact xPk rfl<|xAs rfl<|oNl<|eJ h rfl
 exact wSk rfl<|wSk rfl<|wSk rfl<|xPk rfl<|xAs rfl<|oNl<|eJ h rfl
 refine cRt ?_
 cases h
 exact eR rfl rfl rfl rfl
 refine cRs<|xEq rfl<|xAs rfl<|oNl<|cIf h rfl (fun q28 h=> ?_) (fun q28 h=> ?_)
 refine cRs<|oJn h [(6,6),(85,90)] [] (fun v6_29=>(.n,[(6,Bo v6_29)],[])) (fun _ h=> ?_) (fun v6_29 h=> ?_)
 refine xMv rfl<|xMv rfl<|oIf 86 h rfl (fun q30 h=> ?_) (fun q30 h=> ?_)
 refine xFd rfl<|xLd rfl<|xC0 h (bA ·) rfl (fun c89_31 h=> ?_)
 exact xPk rfl<|xAs rfl<|oNl<|eJ h rfl
 exact wSk rfl<|wSk rfl<|wSk rfl<|xPk rfl<|xAs rfl<|oNl<|eJ h rfl
 refine cRt ?_
 cases h
 exact eR rfl rfl rfl rfl
 refine cRs<|xEq rfl<|xAs rfl<|oNl<|cIf h rfl (fun q32 h=> ?_) (fun q32 h=> ?_)
 refine cRs<|oJn h [(6,6),(93,105)] [] (fun v6_33=>(.n,[(6,Bo v6_33)],[])) (fun _ h=> ?_) (fun v6_33 h=> ?_)
 refine xFd rfl<|xLd rfl<|xC0 h (FG ·) rfl (fun c95_34 h=> ?_)
 refine xMv rfl<|oIf 96 h rfl (fun q35 h=> ?_) (fun q35 h=> ?_)
 refine xFd rfl<|xLd rfl<|xEq rfl<|xPk rfl<|xMv rfl<|oIf 101 h rfl (fun q36 h=> ?_) (fun q36 h=> ?_)
 exact xFd rfl<|xLd rfl<|xEq rfl<|xPk rfl<|xAs rfl<|oNl<|eJ h rfl
 exact wSk rfl<|wSk rfl<|wSk rfl<|xPk rfl<|xAs rfl<|oNl<|eJ h rfl
 exact wSk rfl<|wSk rfl<|wSk rfl<|xPk rfl<|xMv rfl<|wSk rfl<|wSk rfl<|wSk rfl<|xPk rfl<|xAs rfl<|oNl<|eJ h rfl
 refine cRt ?_
 cases h
 exact eR rfl rfl rfl rfl
 refine cRs<|xEq rfl<|xAs rfl<|oNl<|cIf h rfl (fun q37 h=> ?_) (fun q37 h=> ?_)
 refine cRs<|xLd rfl<|xFd rfl<|xLd rfl<|xC0 h (sS ·) rfl (fun c111_38 h=> ?_)
 refine xAs rfl<|oRs<|oJn h [(6,6),(112,129)] [] (fun v6_39=>(.n,[(6,Bo v6_39)],[])) (fun _ h=> ?_) (fun v6_39 h=> ?_)
 refine xMv rfl<|xGe rfl<|xMv rfl<|oIf 114 h rfl (fun q40 h=> ?_) (fun q40 h=> ?_)
 refine xFd rfl<|xLd rfl<|xMv rfl<|xIx h bL rfl (fun e118_41 h=> ?_)
 refine xFd rfl<|xLd rfl<|xFd rfl<|xLd rfl<|xEq rfl<|xPk rfl<|xMv rfl<|oIf 125 h rfl (fun q42 h=> ?_) (fun q42 h=> ?_)
 exact xFd rfl<|xLd rfl<|xEq rfl<|xPk rfl<|xAs rfl<|oNl<|eJ h rfl
 exact wSk rfl<|wSk rfl<|wSk rfl<|xPk rfl<|xAs rfl<|oNl<|eJ h rfl
 refine wSk rfl<|wSk rfl<|wSk rfl<|wSk rfl<|wSk rfl<|wSk rfl<|wSk rfl<|wSk rfl<|wSk rfl<|xPk rfl<|xMv rfl<|wSk rfl<|wSk rfl<|wSk rfl ?_
 exact xPk rfl<|xAs rfl<|oNl<|eJ h rfl
 refine cRt ?_
 cases h
 exact eR rfl rfl rfl rfl
 refine cRs<|xEq rfl<|xAs rfl<|oNl<|cIf h rfl (fun q43 h=> ?_) (fun q43 h=> ?_)
 refine cRs<|oJn h [(6,6),(132,152)] [] (fun v6_44=>(.n,[(6,Bo v6_44)],[])) (fun _ h=> ?_) (fun v6_44 h=> ?_)
 refine xMv rfl<|xMv rfl<|oIf 133 h rfl (fun q45 h=> ?_) (fun q45 h=> ?_)
 refine xFd rfl<|xLd rfl<|xFd rfl<|xLd rfl<|xLn rfl<|tM rfl<|xC0 h (bA ·) rfl (fun c140_46 h=> ?_)
 refine xPk rfl<|xMv rfl<|oIf 142 h rfl (fun q47 h=> ?_) (fun q47 h=> ?_)
 refine xFd rfl<|xLd rfl<|xFd rfl<|xLd rfl<|xIx h aL rfl (fun e147_48 h=> ?_)
 refine xLd rfl<|xFd rfl<|xLd rfl<|xC0 h (AT ·) rfl (fun c151_49 h=> ?_)
 exact xPk rfl<|xAs rfl<|oNl<|eJ h rfl
 exact wSk rfl<|wSk rfl<|wSk rfl<|wSk rfl<|wSk rfl<|wSk rfl<|wSk rfl<|wSk rfl<|wSk rfl<|xPk rfl<|xAs rfl<|oNl<|eJ h rfl
 refine wSk rfl<|wSk rfl<|wSk rfl<|wSk rfl<|wSk rfl<|wSk rfl<|wSk rfl<|xPk rfl<|xMv rfl<|wSk rfl<|wSk rfl<|wSk rfl<|wSk rfl<|wSk rfl ?_
 exact wSk rfl<|wSk rfl<|wSk rfl<|wSk rfl<|xPk rfl<|xAs rfl<|oNl<|eJ h rfl
 refine cRt ?_
 cases h
 exact eR rfl rfl rfl rfl
 refine cRs<|xEq rfl<|xAs rfl<|oNl<|cIf h rfl (fun q50 h=> ?_) (fun q50 h=> ?_)
 refine cRs<|oJn h [(6,6),(155,160)] [] (fun v6_51=>(.n,[(6,Bo v6_51)],[])) (fun _ h=> ?_) (fun v6_51 h=> ?_)
 refine xMv rfl<|xMv rfl<|oIf 156 h rfl (fun q52 h=> ?_) (fun q52 h=> ?_)
 exact xFd rfl<|xLd rfl<|xEq rfl<|xPk rfl<|xAs rfl<|oNl<|eJ h rfl
 exact wSk rfl<|wSk rfl<|wSk rfl<|xPk rfl<|xAs rfl<|oNl<|eJ h rfl
 refine cRt ?_
 cases h
 exact eR rfl rfl rfl rfl
 refine cSk<|cRs<|oJn h [(6,6),(161,171)] [] (fun v6_53=>(.n,[(6,Bo v6_53)],[])) (fun _ h=> ?_) (fun v6_53 h=> ?_)
 refine xMv rfl<|xMv rfl<|oIf 162 h rfl (fun q54 h=> ?_) (fun q54 h=> ?_)
 refine xFd rfl<|xLd rfl<|xEq rfl<|xPk rfl<|xMv rfl<|oIf 167 h rfl (fun q55 h=> ?_) (fun q55 h=> ?_)
 refine xFd rfl<|xLd rfl<|xC0 h (bA ·) rfl (fun c170_56 h=> ?_)
 exact xPk rfl<|xAs rfl<|oNl<|eJ h rfl
 exact wSk rfl<|wSk rfl<|wSk rfl<|xPk rfl<|xAs rfl<|oNl<|eJ h rfl
 exact wSk rfl<|wSk rfl<|wSk rfl<|xPk rfl<|xMv rfl<|wSk rfl<|wSk rfl<|wSk rfl<|xPk rfl<|xAs rfl<|oNl<|eJ h rfl
 refine cRt ?_
 cases h
 exact eR rfl rfl rfl rfl
abbrev DP(p:Int→Int→(List UInt8)→Int→Option (Int×Int)):Prop:= ∀ {t0_0 t0_1:Int} {t0_2:List UInt8} {t0_3:Int} {r:Int×Int},p t0_0 t0_1 t0_2 t0_3=some r→Big Try.prog τ An (.fn 289 [.one (.ag [.int .i64 t0_0, .int .i64 t0_1, .str t0_2, .int .i64 t0_3])] [] (.tup [.c (.int .i64 r.1), .c (.int .i64 r.2)]) none [] none)
def jZ(n:Nat)(t0_0:Int)(t0_1:Int)(t0_2:List UInt8)(t0_3:Int):Option (Int×Int):=
  bif decide (t0_0=(1:Int))then some ((0:Int),(1:Int))else bif decide (t0_0=(2:Int))then some ((0:Int),(1:Int))else bif decide (t0_0=(3:Int))then some ((0:Int),(1:Int))else bif decide (t0_0=(4:Int))then some (t0_1,(1:Int))else bif decide (t0_0=(5:Int))then some (t0_1,(1:Int))else bif decide (t0_0=(6:Int))then some (t0_1,(1:Int))else bif decide (t0_0=(8:Int))then some (t0_1,(1:Int))else bif decide (t0_0=(7:Int))then some ((2:Int),(1:Int))else bif decide (t0_0=(9:Int))then some ((1:Int),(0:Int))else bif decide (t0_0=(12:Int))then some ((1:Int),(0:Int))else some ((0:Int),(0:Int))
theorem AO{n:Nat}:DP (jZ n):=by
 intro t0_0 t0_1 t0_2 t0_3 r h
 unfold jZ at h
 refine bF Try.func289 rfl rfl<|cRs<|xBx rfl<|xAs rfl<|xAs rfl<|oNl<|cSq<|cRs<|xFd rfl<|xLd rfl<|oNl<|cBk<|cSq<|cRs ?_
 refine xEq rfl<|xAs rfl<|oNl<|cIf h rfl (fun q1 h=> ?_) (fun q1 h=> ?_)
 refine cSk<|cT rfl<|cRs<|xAs rfl<|xAs rfl<|oNl<|cRt ?_
 cases h
 exact eR rfl rfl rfl rfl
 refine cRs<|xEq rfl<|xAs rfl<|oNl<|cIf h rfl (fun q2 h=> ?_) (fun q2 h=> ?_)
 refine cSk<|cT rfl<|cRs<|xAs rfl<|xAs rfl<|oNl<|cRt ?_
 cases h
 exact eR rfl rfl rfl rfl
 refine cRg<|xEq rfl<|xAs rfl<|oNl<|cIf h rfl (fun q3 h=> ?_) (fun q3 h=> ?_)
 refine cRs<|xAs rfl<|xAs rfl<|oNl<|cRt ?_
 cases h
 exact eR rfl rfl rfl rfl
 refine cSq<|cRs<|xEq rfl<|xAs rfl<|oNl<|cIf h rfl (fun q4 h=> ?_) (fun q4 h=> ?_)
 refine cSk<|cT rfl<|cRs<|xFd rfl<|xLd rfl<|xAs rfl<|xAs rfl<|oNl<|cRt ?_
 cases h
 exact eR rfl rfl rfl rfl
 refine cRs<|xEq rfl<|xAs rfl<|oNl<|cIf h rfl (fun q5 h=> ?_) (fun q5 h=> ?_)
 refine cSk<|cT rfl<|cRs<|xFd rfl<|xLd rfl<|xAs rfl<|xAs rfl<|oNl<|cRt ?_
 cases h
 exact eR rfl rfl rfl rfl
 refine cRs<|xEq rfl<|xAs rfl<|oNl<|cIf h rfl (fun q6 h=> ?_) (fun q6 h=> ?_)
 refine cSk<|cT rfl<|cRs<|xFd rfl<|xLd rfl<|xAs rfl<|xAs rfl<|oNl<|cRt ?_
 cases h
 exact eR rfl rfl rfl rfl
 refine cRg<|xEq rfl<|xAs rfl<|oNl<|cIf h rfl (fun q7 h=> ?_) (fun q7 h=> ?_)
 refine cRs<|xFd rfl<|xLd rfl<|xAs rfl<|xAs rfl<|oNl<|cRt ?_
 cases h
 exact eR rfl rfl rfl rfl
 refine cRs<|xEq rfl<|xAs rfl<|oNl<|cIf h rfl (fun q8 h=> ?_) (fun q8 h=> ?_)
 refine cRs<|xAs rfl<|xAs rfl<|oNl<|cRt ?_
 cases h
 exact eR rfl rfl rfl rfl
 refine cSq<|cRs<|xEq rfl<|xAs rfl<|oNl<|cIf h rfl (fun q9 h=> ?_) (fun q9 h=> ?_)
 refine cSk<|cT rfl<|cRs<|xAs rfl<|xAs rfl<|oNl<|cRt ?_
 cases h
 exact eR rfl rfl rfl rfl
 refine cRg<|xEq rfl<|xAs rfl<|oNl<|cIf h rfl (fun q10 h=> ?_) (fun q10 h=> ?_)
 refine cRs<|xAs rfl<|xAs rfl<|oNl<|cRt ?_
 cases h
 exact eR rfl rfl rfl rfl
 refine cSk<|cRs<|xAs rfl<|xAs rfl<|oNl<|cRt ?_
 cases h
 exact eR rfl rfl rfl rfl
abbrev FP(p:(List Int)→Int→Int→Option (Bool×(List Int))):Prop:= ∀ {t0_0:List Int} {t1_0 t2_0:Int} {r:Bool×(List Int)},p t0_0 t1_0 t2_0=some r→Big Try.prog τ An (.fn 290 [.one (.c (.sl (t0_0.map aX))), .one (.c (.int .i64 t1_0)), .one (.c (.int .i64 t2_0))] [] (.one (.c (.bool r.1))) (some (.sl (r.2.map aX))) [] none)
def dP(n:Nat)(t0_0:List Int)(t1_0:Int)(t2_0:Int):Option (Bool×(List Int)):=
  (ix t0_0 t1_0).bind fun e9_1=>bif decide (e9_1=((-1):Int))then(ix t0_0 t1_0).bind fun e15_3=>(some (t0_0.set (Int.toNat t1_0) t2_0)).bind fun u0_4=>(ix u0_4 t1_0).bind fun e18_5=>some ((decide (e18_5=t2_0)),u0_4)else(ix t0_0 t1_0).bind fun e18_6=>some ((decide (e18_6=t2_0)),t0_0)
theorem lW{n:Nat}:FP (dP n):=by
 intro t0_0 t1_0 t2_0 r h
 unfold dP at h
 refine bFi Try.func290 rfl rfl<|cRs<|xAs rfl<|oNl<|cSq<|cRs<|xMv rfl<|xMv rfl<|xIx h iN rfl (fun e9_1 h=> ?_)
 refine xLd rfl<|xEq rfl<|oNl<|cIf h rfl (fun q2 h=> ?_) (fun q2 h=> ?_)
 refine cRg<|wAl rfl rfl rfl rfl<|xMv rfl<|xMv rfl<|wIp (f:=aX) h rfl rfl rfl rfl rfl rfl (fun _=>rfl) rfl (fun e15_3 ke15_3 h=> ?_)
 refine tN (f:=aX) (v':=t2_0) h ke15_3 rfl rfl rfl rfl rfl rfl rfl rfl rfl (fun u0_4 h=> ?_)
 refine oNl<|cRs<|xMv rfl<|xMv rfl<|xIx h iN rfl (fun e18_5 h=> ?_)
 refine xLd rfl<|xMv rfl<|xEq rfl<|xAs rfl<|oNl<|cRt ?_
 cases h
 exact eRi rfl rfl rfl rfl rfl
 refine cSk<|cRs<|xMv rfl<|xMv rfl<|xIx h iN rfl (fun e18_6 h=> ?_)
 refine xLd rfl<|xMv rfl<|xEq rfl<|xAs rfl<|oNl<|cRt ?_
 cases h
 exact eRi rfl rfl rfl rfl rfl
abbrev Ad(p:(List UInt8)→Int→Int→(List aD)→Option ((List Int)×Bool)):Prop:= ∀ {t0_0:List UInt8} {t0_1 t0_2:Int} {t0_3:List aD} {r:(List Int)×Bool},p t0_0 t0_1 t0_2 t0_3=some r→Big Try.prog τ An (.fn 259 [.one (.ag [.str t0_0, .int .i64 t0_1, .int .i64 t0_2, .sl (t0_3.map aK)])] [] (.tup [.c (.sl (r.1.map aX)), .c (.bool r.2)]) none [] none)
def cW(n:Nat):((List Int)×Int)→Option (((List Int)×Int)⊕(((List Int)×Int×Bool)))
  | (v4_2,v5_3)=>bif decide (v5_3<(v4_2.length:Int))then(ix v4_2 v5_3).bind fun e24_8=>(some (v4_2.set (Int.toNat v5_3) ((-1):Int))).bind fun u4_9=>some (.inl (u4_9,(IntKind.wrap .i64 (v5_3+(1:Int)))))else some (.inr (v4_2,v5_3,false))
def cF(n:Nat)(t0_3:List aD):((List Int)×Int)→Option (((List Int)×Int)⊕(((List Int)×Bool)⊕((List Int)×Int×Bool)))
  | (v4_10,v6_11)=>bif decide (v6_11<(v4_10.length:Int))then(((ix t0_3 v6_11).bind fun e34_26=>(jZ n e34_26.f0 e34_26.f1 e34_26.f2 e34_26.f3).bind fun c38_27=>(ix v4_10 v6_11).bind fun e43_28=>(bif decide (e43_28<c38_27.1)then some true else bif decide ((300:Int)<e43_28)then some true else bif decide (e34_26.f0=(12:Int))then some (!decide (e43_28=(1:Int)))else some false).bind fun v60_29=>bif v60_29 then some (.inl (v4_10,false))else bif decide (e34_26.f0=(11:Int))then bif !true then some (.inl (v4_10,false))else some (.inr (v4_10,false,e34_26.f0,e34_26.f1,e34_26.f2,e34_26.f3))else bif decide (e34_26.f0=(12:Int))then bif !true then some (.inl (v4_10,false))else some (.inr (v4_10,false,e34_26.f0,e34_26.f1,e34_26.f2,e34_26.f3))else bif decide (e34_26.f0=(10:Int))then(dP n v4_10 e34_26.f3 e43_28).bind fun c89_39=>bif !c89_39.1 then some (.inl (c89_39.2,false))else some (.inr (c89_39.2,false,e34_26.f0,e34_26.f1,e34_26.f2,e34_26.f3))else bif decide (e34_26.f0=(9:Int))then((dP n v4_10 e34_26.f3 e43_28).bind fun c96_44=>bif c96_44.1 then bif decide ((IntKind.wrap .i64 (v6_11+(1:Int)))<(c96_44.2.length:Int))then(dP n c96_44.2 (IntKind.wrap .i64 (v6_11+(1:Int))) (IntKind.wrap .i64 (e43_28 - (1:Int)))).bind fun c110_47=>some (c110_47.2,c110_47.1)else some (c96_44.2,false)else some (c96_44.2,false)).bind fun(v4_42,v11_43)=>bif !v11_43 then some (.inl (v4_42,false))else some (.inr (v4_42,false,e34_26.f0,e34_26.f1,e34_26.f2,e34_26.f3))else(bif decide ((IntKind.wrap .i64 (v6_11+(1:Int)))<(v4_10.length:Int))then(dP n v4_10 (IntKind.wrap .i64 (v6_11+(1:Int))) (IntKind.wrap .i64 ((IntKind.wrap .i64 (e43_28 - c38_27.1))+c38_27.2))).bind fun c78_52=>some (c78_52.2,c78_52.1)else some (v4_10,false)).bind fun(v4_49,v11_50)=>bif !v11_50 then some (.inl (v4_49,false))else some (.inr (v4_49,false,e34_26.f0,e34_26.f1,e34_26.f2,e34_26.f3)):Option (((List Int)×Bool)⊕((List Int)×Bool×Int×Int×(List UInt8)×Int)))).bind fun q=>(match q with | .inl (v2_18,v3_19)=>some (.inr (.inl (v2_18,v3_19))) | .inr (v4_20,v113_21,w7_22,w7_23,w7_24,w7_25)=>some (.inl (v4_20,(IntKind.wrap .i64 (v6_11+(1:Int))))))else some (.inr (.inr (v4_10,v6_11,false)))
def gX(n:Nat)(t0_0:List UInt8)(t0_1:Int)(t0_2:Int)(t0_3:List aD):Option ((List Int)×Bool):=
  (ck (decide (0≤(t0_3.length:Int)∧(t0_3.length:Int)≤maxLen∧8*(t0_3.length:Int)≤281474976710656))).bind fun _=>(loopN (cW n) n ((List.replicate (Int.toNat (t0_3.length:Int)) (0:Int)),(1:Int))).bind fun(v4_4,v5_5,v19_6)=>(loopN (cF n t0_3) n (v4_4,(0:Int))).bind fun q=>(match q with | .inl (v2_12,v3_13)=>some (v2_12,v3_13) | .inr (v4_14,v6_15,v28_16)=>some (v4_14,true))
theorem xH{n:Nat}:Ad (gX n):=by
 intro t0_0 t0_1 t0_2 t0_3 r h
 unfold gX at h
 refine bF Try.func259 rfl rfl<|cRs<|xBx rfl<|wAe (Li aX []) rfl rfl rfl rfl<|xAs rfl<|oRs<|xFd rfl<|xLd rfl<|xLn rfl<|oCk h (fun k15_0 h=> ?_)
 refine wMk (z:=(0:Int)) (f:=aX) k15_0 rfl rfl rfl rfl rfl rfl rfl<|xAs rfl<|oNl<|cSq<|cRs<|xAs rfl<|oNl<|cLp h [(4,5),(16,24)] [] (fun(v4_2,v5_3)=>([(4,Li aX v4_2),(5,I64 v5_3)],[])) (fun(v4_4,v5_5,v19_6)=>(.e 0,[(4,Li aX v4_4),(5,I64 v5_5),(19,Bo v19_6)],[])) rfl (fun st _ h=> ?_) (fun q h=> ?_)
 obtain⟨v4_2,v5_3⟩:=st
 unfold cW at h
 refine cSq<|cRs<|xMv rfl<|xMv rfl<|xLn rfl<|xLt rfl<|oNl<|cIf h rfl (fun q7 h=> ?_) (fun q7 h=> ?_)
 refine cSk<|cSq<|cBk<|cRg<|wAl rfl rfl rfl rfl<|xMv rfl<|wIp (f:=aX) h rfl rfl rfl rfl rfl rfl (fun _=>rfl) rfl (fun e24_8 ke24_8 h=> ?_)
 refine tN (f:=aX) (v':=((-1):Int)) h ke24_8 rfl rfl rfl rfl rfl rfl rfl rfl rfl (fun u4_9 h=> ?_)
 exact oNl<|cRg<|xMv rfl<|cM rfl<|xAs rfl<|oNl<|eL h rfl
 exact cEx<|eX h rfl
 obtain⟨v4_4,v5_5,v19_6⟩:=q
 refine cSq<|cRs<|xAs rfl<|oNl<|cLp h [(2,4),(6,11),(25,114)] [(7,7)] (fun(v4_10,v6_11)=>([(4,Li aX v4_10),(6,I64 v6_11)],[])) (fun q=>match q with | .inl (v2_12,v3_13)=>(.r,[(2,Li aX v2_12),(3,Bo v3_13)],[]) | .inr (v4_14,v6_15,v28_16)=>(.e 2,[(4,Li aX v4_14),(6,I64 v6_15),(28,Bo v28_16)],[])) rfl (fun st _ h=> ?_) (fun q h=> ?_)
 obtain⟨v4_10,v6_11⟩:=st
 unfold cF at h
 refine cSq<|cRs<|xMv rfl<|xMv rfl<|xLn rfl<|xLt rfl<|oNl<|cIf h rfl (fun q17 h=> ?_) (fun q17 h=> ?_)
 refine cSk<|cSq<|cJn h [(2,4),(7,11),(31,114)] [(7,7)] (fun q=>match q with | .inl (v2_18,v3_19)=>(.r,[(2,Li aX v2_18),(3,Bo v3_19)],[]) | .inr (v4_20,v113_21,w7_22,w7_23,w7_24,w7_25)=>(.n,[(4,Li aX v4_20),(113,Bo v113_21)],[(7,[.int .i64 w7_22, .int .i64 w7_23, .str w7_24, .int .i64 w7_25])])) (fun _ h=> ?_) (fun q h=> ?_)
 refine cBk<|cRs<|xFd rfl<|xLd rfl<|xMv rfl<|xIx h bP rfl (fun e34_26 h=> ?_)
 refine xLd rfl<|xAc rfl<|xSt rfl<|oRs<|xLd rfl<|xC0 h (AO ·) rfl (fun c38_27 h=> ?_)
 refine xMv rfl<|xEt rfl<|xEt rfl<|xAs rfl<|xAs rfl<|oRs<|xMv rfl<|xMv rfl<|xIx h iN rfl (fun e43_28 h=> ?_)
 refine xLd rfl<|xAs rfl<|oNl<|cSq<|cRs<|oJn h [(45,60)] [] (fun v60_29=>(.n,[(60,Bo v60_29)],[])) (fun _ h=> ?_) (fun v60_29 h=> ?_)
 refine xMv rfl<|xMv rfl<|xLt rfl<|xMv rfl<|oIf 48 h rfl (fun q30 h=> ?_) (fun q30 h=> ?_)
 exact wSk rfl<|wSk rfl<|xPk rfl<|xMv rfl<|wSk rfl<|wSk rfl<|wSk rfl<|wSk rfl<|wSk rfl<|wSk rfl<|wSk rfl<|xPk rfl<|oNl<|eJ h rfl
 refine xMv rfl<|xGt rfl<|xPk rfl<|xMv rfl<|oIf 52 h rfl (fun q31 h=> ?_) (fun q31 h=> ?_)
 exact wSk rfl<|wSk rfl<|wSk rfl<|wSk rfl<|wSk rfl<|wSk rfl<|wSk rfl<|xPk rfl<|oNl<|eJ h rfl
 refine xFd rfl<|xLd rfl<|xEq rfl<|xMv rfl<|oIf 56 h rfl (fun q32 h=> ?_) (fun q32 h=> ?_)
 exact xMv rfl<|xNe rfl<|xPk rfl<|xPk rfl<|oNl<|eJ h rfl
 exact wSk rfl<|wSk rfl<|xPk rfl<|xPk rfl<|oNl<|eJ h rfl
 refine cIf h rfl (fun q33 h=> ?_) (fun q33 h=> ?_)
 exact cRs<|xMv rfl<|xAs rfl<|xAs rfl<|oNl<|cRt<|eJ h rfl
 refine cSk<|cRs<|xAs rfl<|oNl<|cSq<|cRs<|xFd rfl<|xLd rfl<|oNl<|cBk<|cSq<|cRs<|xEq rfl<|xAs rfl ?_
 refine oNl<|cIf h rfl (fun q34 h=> ?_) (fun q34 h=> ?_)
 refine cSk<|cT rfl<|cSk<|cRs<|xMv rfl<|gJ rfl<|oNl<|cIf h rfl (fun q35 h=> ?_) (fun q35 h=> ?_)
 exact cRs<|xMv rfl<|xAs rfl<|xAs rfl<|oNl<|cRt<|eJ h rfl
 exact cSk<|eJ h rfl
 refine cRg<|xEq rfl<|xAs rfl<|oNl<|cIf h rfl (fun q36 h=> ?_) (fun q36 h=> ?_)
 refine cSk<|cRs<|xMv rfl<|gJ rfl<|oNl<|cIf h rfl (fun q37 h=> ?_) (fun q37 h=> ?_)
 exact cRs<|xMv rfl<|xAs rfl<|xAs rfl<|oNl<|cRt<|eJ h rfl
 exact cSk<|eJ h rfl
 refine cRs<|xEq rfl<|xAs rfl<|oNl<|cIf h rfl (fun q38 h=> ?_) (fun q38 h=> ?_)
 refine cRg<|wAl rfl rfl rfl rfl<|xFd rfl<|xLd rfl<|xMv rfl<|xIo (fun c89_39=> .sl (c89_39.2.map aX)) h (lW ·) rfl (PC _) (fun _=>Cn _ _) (fun c89_39 h=> ?_)
 refine xAs rfl<|oNl<|cRs<|xMv rfl<|gJ rfl<|oNl<|cIf h rfl (fun q40 h=> ?_) (fun q40 h=> ?_)
 exact cRs<|xMv rfl<|xAs rfl<|xAs rfl<|oNl<|cRt<|eJ h rfl
 exact cSk<|eJ h rfl
 refine cRs<|xEq rfl<|xAs rfl<|oNl<|cIf h rfl (fun q41 h=> ?_) (fun q41 h=> ?_)
 refine cRg<|oJn h [(4,4),(11,11),(92,111)] [] (fun(v4_42,v11_43)=>(.n,[(4,Li aX v4_42),(11,Bo v11_43)],[])) (fun _ h=> ?_) (fun q h=> ?_)
 refine wAl rfl rfl rfl rfl<|xFd rfl<|xLd rfl<|xMv rfl<|xIo (fun c96_44=> .sl (c96_44.2.map aX)) h (lW ·) rfl (PC _) (fun _=>Cn _ _) (fun c96_44 h=> ?_)
 refine xMv rfl<|oIf 97 h rfl (fun q45 h=> ?_) (fun q45 h=> ?_)
 refine xMv rfl<|cM rfl<|xMv rfl<|xLn rfl<|xLt rfl<|xPk rfl<|xMv rfl<|oIf 104 h rfl (fun q46 h=> ?_) (fun q46 h=> ?_)
 refine wAl rfl rfl rfl rfl<|xMv rfl<|cM rfl<|xMv rfl<|tM rfl<|xIo (fun c110_47=> .sl (c110_47.2.map aX)) h (lW ·) rfl (PC _) (fun _=>Cn _ _) (fun c110_47 h=> ?_)
 exact xPk rfl<|xAs rfl<|oNl<|eJ h rfl
 exact wSk rfl<|wSk rfl<|wSk rfl<|wSk rfl<|wSk rfl<|wSk rfl<|xPk rfl<|xAs rfl<|oNl<|eJ h rfl
 refine wSk rfl<|wSk rfl<|wSk rfl<|wSk rfl<|wSk rfl<|xPk rfl<|xMv rfl<|wSk rfl<|wSk rfl<|wSk rfl<|wSk rfl<|wSk rfl<|wSk rfl<|xPk rfl ?_
 exact xAs rfl<|oNl<|eJ h rfl
 obtain⟨v4_42,v11_43⟩:=q
 refine cRs<|xMv rfl<|gJ rfl<|oNl<|cIf h rfl (fun q48 h=> ?_) (fun q48 h=> ?_)
 exact cRs<|xMv rfl<|xAs rfl<|xAs rfl<|oNl<|cRt<|eJ h rfl
 exact cSk<|eJ h rfl
 refine cRg<|oJn h [(4,4),(11,11),(64,79)] [] (fun(v4_49,v11_50)=>(.n,[(4,Li aX v4_49),(11,Bo v11_50)],[])) (fun _ h=> ?_) (fun q h=> ?_)
 refine xMv rfl<|cM rfl<|xMv rfl<|xLn rfl<|xLt rfl<|xMv rfl<|oIf 69 h rfl (fun q51 h=> ?_) (fun q51 h=> ?_)
 refine wAl rfl rfl rfl rfl<|xMv rfl<|cM rfl<|xMv rfl<|xMv rfl<|tM rfl<|xMv rfl<|cM rfl<|xIo (fun c78_52=> .sl (c78_52.2.map aX)) h (lW ·) rfl (PC _) (fun _=>Cn _ _) (fun c78_52 h=> ?_)
 exact xPk rfl<|xAs rfl<|oNl<|eJ h rfl
 exact wSk rfl<|wSk rfl<|wSk rfl<|wSk rfl<|wSk rfl<|wSk rfl<|wSk rfl<|wSk rfl<|wSk rfl<|xPk rfl<|xAs rfl<|oNl<|eJ h rfl
 obtain⟨v4_49,v11_50⟩:=q
 refine cRs<|xMv rfl<|gJ rfl<|oNl<|cIf h rfl (fun q53 h=> ?_) (fun q53 h=> ?_)
 exact cRs<|xMv rfl<|xAs rfl<|xAs rfl<|oNl<|cRt<|eJ h rfl
 exact cSk<|eJ h rfl
 rcases q with⟨v2_18,v3_19⟩ | ⟨v4_20,v113_21,w7_22,w7_23,w7_24,w7_25⟩
 exact eXr h rfl
 exact cRg<|xMv rfl<|cM rfl<|xAs rfl<|oNl<|eL h rfl
 exact cEx<|eX h rfl
 rcases q with⟨v2_12,v3_13⟩ | ⟨v4_14,v6_15,v28_16⟩
 cases h
 exact eR rfl rfl rfl rfl
 refine cRs<|xMv rfl<|xAs rfl<|xAs rfl<|oNl<|cRt ?_
 cases h
 exact eR rfl rfl rfl rfl
abbrev FM(p:(List aB)→(List aA)→Int→Option (Bool)):Prop:= ∀ {t0_0:List aB} {t0_1:List aA} {t1_0:Int} {r:Bool},p t0_0 t0_1 t1_0=some r→Big Try.prog τ An (.fn 193 [.one (.ag [.sl (t0_0.map aH), .sl (t0_1.map aE)]), .one (.c (.int .i64 t1_0))] [] (.one (.c (.bool r))) none [] none)
def kN(n:Nat)(t0_0:List aB)(e13_1:aB)(t0_1:List aA):(Int)→Option ((Int)⊕((Bool)⊕(Int×Bool)))
  | v6_13=>bif decide (v6_13<(e13_1.f3.length:Int))then(lC n t0_0 t0_1 e13_1.f0 e13_1.f1 e13_1.f2 e13_1.f3 v6_13).bind fun c58_18=>bif !c58_18 then some (.inr (.inl false))else some (.inl (IntKind.wrap .i64 (v6_13+(1:Int))))else some (.inr (.inr (v6_13,false)))
def lL(n:Nat)(t0_0:List aB)(t0_1:List aA)(t1_0:Int):Option (Bool):=
  (ix t0_0 t1_0).bind fun e13_1=>((eO n e13_1.f0).bind fun c17_3=>bif !c17_3 then some true else(gL n t0_0 t0_1 e13_1.f0).bind fun c23_5=>bif !decide (c23_5=t1_0)then some true else(aW n e13_1.f1 (0:Int) (4:Int)).bind fun c30_7=>bif !c30_7 then some true else(aW n e13_1.f2 e13_1.f1 (400:Int)).bind fun c38_9=>bif !c38_9 then some true else(aW n (e13_1.f3.length:Int) (1:Int) (1500:Int)).bind fun c45_11=>some (!c45_11)).bind fun v47_2=>bif v47_2 then some false else(loopN (kN n t0_0 e13_1 t0_1) n (0:Int)).bind fun q=>(match q with | .inl v4_14=>some v4_14 | .inr (v6_15,v52_16)=>(gX n e13_1.f0 e13_1.f1 e13_1.f2 e13_1.f3).bind fun c62_20=>(ix e13_1.f3 (IntKind.wrap .i64 ((e13_1.f3.length:Int) - (1:Int)))).bind fun e71_21=>(bif c62_20.2 then bif decide (e71_21.f0=(12:Int))then some true else some (decide (e71_21.f0=(11:Int)))else some false).bind fun v4_22=>some v4_22)
theorem CD{n:Nat}:FM (lL n):=by
 intro t0_0 t0_1 t1_0 r h
 unfold lL at h
 refine bF Try.func193 rfl rfl<|cRs<|xBx rfl<|xAs rfl<|oRs<|xFd rfl<|xLd rfl<|xMv rfl<|xIx h bL rfl (fun e13_1 h=> ?_)
 refine xLd rfl<|xAz [.str [], .int .i64 0, .int .i64 0, .sl ([].map aK)] rfl<|xSt rfl<|oNl<|cSq<|cRs<|oJn h [(15,47)] [] (fun v47_2=>(.n,[(47,Bo v47_2)],[])) (fun _ h=> ?_) (fun v47_2 h=> ?_)
 refine xFd rfl<|xLd rfl<|xC0 h (oH ·) rfl (fun c17_3 h=> ?_)
 refine gJ rfl<|xMv rfl<|oIf 19 h rfl (fun q4 h=> ?_) (fun q4 h=> ?_)
 refine wSk rfl<|wSk rfl<|wSk rfl<|wSk rfl<|wSk rfl<|wSk rfl<|xPk rfl<|xMv rfl<|wSk rfl<|wSk rfl<|wSk rfl<|wSk rfl<|xPk rfl<|xMv rfl ?_
 refine wSk rfl<|wSk rfl<|wSk rfl<|wSk rfl<|wSk rfl<|wSk rfl<|xPk rfl<|xMv rfl<|wSk rfl<|wSk rfl<|wSk rfl<|wSk rfl<|wSk rfl<|xPk rfl ?_
 exact oNl<|eJ h rfl
 refine xLd rfl<|xFd rfl<|xLd rfl<|xC0 h (sS ·) rfl (fun c23_5 h=> ?_)
 refine xMv rfl<|xNe rfl<|xPk rfl<|xMv rfl<|oIf 27 h rfl (fun q6 h=> ?_) (fun q6 h=> ?_)
 refine wSk rfl<|wSk rfl<|wSk rfl<|wSk rfl<|xPk rfl<|xMv rfl<|wSk rfl<|wSk rfl<|wSk rfl<|wSk rfl<|wSk rfl<|wSk rfl<|xPk rfl<|xMv rfl ?_
 exact wSk rfl<|wSk rfl<|wSk rfl<|wSk rfl<|wSk rfl<|xPk rfl<|oNl<|eJ h rfl
 refine xFd rfl<|xLd rfl<|xC0 h (bA ·) rfl (fun c30_7 h=> ?_)
 refine gJ rfl<|xPk rfl<|xMv rfl<|oIf 33 h rfl (fun q8 h=> ?_) (fun q8 h=> ?_)
 refine wSk rfl<|wSk rfl<|wSk rfl<|wSk rfl<|wSk rfl<|wSk rfl<|xPk rfl<|xMv rfl<|wSk rfl<|wSk rfl<|wSk rfl<|wSk rfl<|wSk rfl<|xPk rfl ?_
 exact oNl<|eJ h rfl
 refine xFd rfl<|xLd rfl<|xFd rfl<|xLd rfl<|xC0 h (bA ·) rfl (fun c38_9 h=> ?_)
 refine gJ rfl<|xPk rfl<|xMv rfl<|oIf 41 h rfl (fun q10 h=> ?_) (fun q10 h=> ?_)
 exact wSk rfl<|wSk rfl<|wSk rfl<|wSk rfl<|wSk rfl<|xPk rfl<|oNl<|eJ h rfl
 refine xFd rfl<|xLd rfl<|xLn rfl<|xC0 h (bA ·) rfl (fun c45_11 h=> ?_)
 exact gJ rfl<|xPk rfl<|oNl<|eJ h rfl
 refine cIf h rfl (fun q12 h=> ?_) (fun q12 h=> ?_)
 refine cRs<|xAs rfl<|oNl<|cRt ?_
 cases h
 exact eR rfl rfl rfl rfl
 refine cSk<|cSq<|cRs<|xAs rfl<|oNl<|cLp h [(4,4),(6,6),(48,59)] [] (fun v6_13=>([(6,I64 v6_13)],[])) (fun q=>match q with | .inl v4_14=>(.r,[(4,Bo v4_14)],[]) | .inr (v6_15,v52_16)=>(.e 0,[(6,I64 v6_15),(52,Bo v52_16)],[])) rfl (fun v6_13 _ h=> ?_) (fun q h=> ?_)
 unfold kN at h
 refine cSq<|cRs<|xMv rfl<|xFd rfl<|xLd rfl<|xLn rfl<|xLt rfl<|oNl<|cIf h rfl (fun q17 h=> ?_) (fun q17 h=> ?_)
 refine cSk<|cSq<|cBk<|cRs<|xLd rfl<|xLd rfl<|xMv rfl<|xC0 h (DE ·) rfl (fun c58_18 h=> ?_)
 refine gJ rfl<|oNl<|cIf h rfl (fun q19 h=> ?_) (fun q19 h=> ?_)
 exact cRs<|xAs rfl<|oNl<|cRt<|eXr h rfl
 exact cSk<|cRg<|xMv rfl<|cM rfl<|xAs rfl<|oNl<|eL h rfl
 exact cEx<|eX h rfl
 rcases q with v4_14 | ⟨v6_15,v52_16⟩
 cases h
 exact eR rfl rfl rfl rfl
 refine cRs<|xLd rfl<|xC0 h (xH ·) rfl (fun c62_20 h=> ?_)
 refine xMv rfl<|xEt rfl<|xEt rfl<|xAs rfl<|xAs rfl<|oRs<|xFd rfl<|xLd rfl<|xFd rfl<|xLd rfl<|xLn rfl<|tM rfl<|xIx h bP rfl (fun e71_21 h=> ?_)
 refine xFd rfl<|xLd rfl<|xAs rfl<|oRs<|oJn h [(4,4),(74,82)] [] (fun v4_22=>(.n,[(4,Bo v4_22)],[])) (fun _ h=> ?_) (fun v4_22 h=> ?_)
 refine xMv rfl<|xMv rfl<|oIf 75 h rfl (fun q23 h=> ?_) (fun q23 h=> ?_)
 refine xMv rfl<|xEq rfl<|xMv rfl<|oIf 78 h rfl (fun q24 h=> ?_) (fun q24 h=> ?_)
 exact wSk rfl<|wSk rfl<|xPk rfl<|xPk rfl<|xAs rfl<|oNl<|eJ h rfl
 exact xMv rfl<|xEq rfl<|xPk rfl<|xPk rfl<|xAs rfl<|oNl<|eJ h rfl
 exact wSk rfl<|wSk rfl<|wSk rfl<|wSk rfl<|wSk rfl<|wSk rfl<|xPk rfl<|xAs rfl<|oNl<|eJ h rfl
 refine cRt ?_
 cases h
 exact eR rfl rfl rfl rfl
abbrev FS(p:(List aB)→(List aA)→Option (Bool)):Prop:= ∀ {t0_0:List aB} {t0_1:List aA} {r:Bool},p t0_0 t0_1=some r→Big Try.prog τ An (.fn 102 [.one (.ag [.sl (t0_0.map aH), .sl (t0_1.map aE)])] [] (.one (.c (.bool r))) none [] none)
def kO(n:Nat)(t0_0:List aB)(t0_1:List aA):(Int)→Option ((Int)⊕((Bool)⊕(Int×Bool)))
  | v3_4=>bif decide (v3_4<(t0_0.length:Int))then(lL n t0_0 t0_1 v3_4).bind fun c23_9=>bif !c23_9 then some (.inr (.inl false))else some (.inl (IntKind.wrap .i64 (v3_4+(1:Int))))else some (.inr (.inr (v3_4,false)))
def jF(n:Nat)(t0_0:List aB)(t0_1:List aA):Option (Bool):=
  (bif decide ((12:Int)<(t0_0.length:Int))then some true else some (decide ((2000:Int)<(t0_1.length:Int)))).bind fun v13_1=>bif v13_1 then some false else(loopN (kO n t0_0 t0_1) n (0:Int)).bind fun q=>(match q with | .inl v2_5=>some v2_5 | .inr (v3_6,v18_7)=>some true)
theorem sU{n:Nat}:FS (jF n):=by
 intro t0_0 t0_1 r h
 unfold jF at h
 refine bF Try.func102 rfl rfl<|cRs<|xBx rfl<|xAs rfl<|oNl<|cSq<|cRs<|oJn h [(4,13)] [] (fun v13_1=>(.n,[(13,Bo v13_1)],[])) (fun _ h=> ?_) (fun v13_1 h=> ?_)
 refine xFd rfl<|xLd rfl<|xLn rfl<|xGt rfl<|xMv rfl<|oIf 8 h rfl (fun q2 h=> ?_) (fun q2 h=> ?_)
 exact wSk rfl<|wSk rfl<|wSk rfl<|wSk rfl<|xPk rfl<|oNl<|eJ h rfl
 exact xFd rfl<|xLd rfl<|xLn rfl<|xGt rfl<|xPk rfl<|oNl<|eJ h rfl
 refine cIf h rfl (fun q3 h=> ?_) (fun q3 h=> ?_)
 refine cRs<|xAs rfl<|oNl<|cRt ?_
 cases h
 exact eR rfl rfl rfl rfl
 refine cSk<|cSq<|cRs<|xAs rfl<|oNl<|cLp h [(2,3),(14,24)] [] (fun v3_4=>([(3,I64 v3_4)],[])) (fun q=>match q with | .inl v2_5=>(.r,[(2,Bo v2_5)],[]) | .inr (v3_6,v18_7)=>(.e 0,[(3,I64 v3_6),(18,Bo v18_7)],[])) rfl (fun v3_4 _ h=> ?_) (fun q h=> ?_)
 unfold kO at h
 refine cSq<|cRs<|xMv rfl<|xFd rfl<|xLd rfl<|xLn rfl<|xLt rfl<|oNl<|cIf h rfl (fun q8 h=> ?_) (fun q8 h=> ?_)
 refine cSk<|cSq<|cBk<|cRs<|xLd rfl<|xMv rfl<|xC0 h (CD ·) rfl (fun c23_9 h=> ?_)
 refine gJ rfl<|oNl<|cIf h rfl (fun q10 h=> ?_) (fun q10 h=> ?_)
 exact cRs<|xAs rfl<|oNl<|cRt<|eXr h rfl
 exact cSk<|cRg<|xMv rfl<|cM rfl<|xAs rfl<|oNl<|eL h rfl
 exact cEx<|eX h rfl
 rcases q with v2_5 | ⟨v3_6,v18_7⟩
 cases h
 exact eR rfl rfl rfl rfl
 refine cRs<|xAs rfl<|oNl<|cRt ?_
 cases h
 exact eR rfl rfl rfl rfl
abbrev CQ(p:(List UInt8)→Int→(List aB)→(List aA)→Bool→(List aB)→(List aA)→Option (Bool)):Prop:= ∀ {t0_0:List UInt8} {t0_1:Int} {t0_2:List aB} {t0_3:List aA} {t0_4:Bool} {t0_5:List aB} {t0_6:List aA} {r:Bool},p t0_0 t0_1 t0_2 t0_3 t0_4 t0_5 t0_6=some r→Big Try.prog τ An (.fn 235 [.one (.ag [.str t0_0, .int .i64 t0_1, .sl (t0_2.map aH), .sl (t0_3.map aE), .bool t0_4, .sl (t0_5.map aH), .sl (t0_6.map aE)])] [] (.one (.c (.bool r))) none [] none)
def iV(n:Nat)(t0_0:List UInt8)(t0_1:Int)(t0_2:List aB)(t0_3:List aA)(t0_4:Bool)(t0_5:List aB)(t0_6:List aA):Option (Bool):=
  ((gM n t0_0).bind fun c5_2=>bif !c5_2 then some true else(aW n t0_1 (1:Int) (10000:Int)).bind fun c10_4=>bif !c10_4 then some true else(jF n t0_2 t0_3).bind fun c16_6=>bif !c16_6 then some true else(jF n t0_5 t0_6).bind fun c22_8=>some (!c22_8)).bind fun v24_1=>bif v24_1 then some false else bif t0_4 then some (decide ((1:Int)<t0_1))else(bif decide ((t0_5.length:Int)=(0:Int))then some (decide ((t0_6.length:Int)=(0:Int)))else some false).bind fun v2_11=>some v2_11
theorem yW{n:Nat}:CQ (iV n):=by
 intro t0_0 t0_1 t0_2 t0_3 t0_4 t0_5 t0_6 r h
 unfold iV at h
 refine bF Try.func235 rfl rfl<|cRs<|xBx rfl<|xAs rfl<|oNl<|cSq<|cRs<|oJn h [(3,24)] [] (fun v24_1=>(.n,[(24,Bo v24_1)],[])) (fun _ h=> ?_) (fun v24_1 h=> ?_)
 refine xFd rfl<|xLd rfl<|xC0 h (oI ·) rfl (fun c5_2 h=> ?_)
 refine gJ rfl<|xMv rfl<|oIf 7 h rfl (fun q3 h=> ?_) (fun q3 h=> ?_)
 refine wSk rfl<|wSk rfl<|wSk rfl<|wSk rfl<|xPk rfl<|xMv rfl<|wSk rfl<|wSk rfl<|wSk rfl<|wSk rfl<|xPk rfl<|xMv rfl<|wSk rfl<|wSk rfl ?_
 exact wSk rfl<|wSk rfl<|xPk rfl<|oNl<|eJ h rfl
 refine xFd rfl<|xLd rfl<|xC0 h (bA ·) rfl (fun c10_4 h=> ?_)
 refine gJ rfl<|xPk rfl<|xMv rfl<|oIf 13 h rfl (fun q5 h=> ?_) (fun q5 h=> ?_)
 exact wSk rfl<|wSk rfl<|wSk rfl<|wSk rfl<|xPk rfl<|xMv rfl<|wSk rfl<|wSk rfl<|wSk rfl<|wSk rfl<|xPk rfl<|oNl<|eJ h rfl
 refine xFd rfl<|xLd rfl<|xC0 h (sU ·) rfl (fun c16_6 h=> ?_)
 refine gJ rfl<|xPk rfl<|xMv rfl<|oIf 19 h rfl (fun q7 h=> ?_) (fun q7 h=> ?_)
 exact wSk rfl<|wSk rfl<|wSk rfl<|wSk rfl<|xPk rfl<|oNl<|eJ h rfl
 refine xFd rfl<|xLd rfl<|xC0 h (sU ·) rfl (fun c22_8 h=> ?_)
 exact gJ rfl<|xPk rfl<|oNl<|eJ h rfl
 refine cIf h rfl (fun q9 h=> ?_) (fun q9 h=> ?_)
 refine cRs<|xAs rfl<|oNl<|cRt ?_
 cases h
 exact eR rfl rfl rfl rfl
 refine cSk<|cSq<|cRs<|xFd rfl<|xLd rfl<|oNl<|cIf h rfl (fun q10 h=> ?_) (fun q10 h=> ?_)
 refine cRs<|xFd rfl<|xLd rfl<|xGt rfl<|xAs rfl<|oNl<|cRt ?_
 cases h
 exact eR rfl rfl rfl rfl
 refine cSk<|cRs<|oJn h [(2,2),(30,41)] [] (fun v2_11=>(.n,[(2,Bo v2_11)],[])) (fun _ h=> ?_) (fun v2_11 h=> ?_)
 refine xFd rfl<|xFd rfl<|xLd rfl<|xLn rfl<|xEq rfl<|xMv rfl<|oIf 35 h rfl (fun q12 h=> ?_) (fun q12 h=> ?_)
 exact xFd rfl<|xFd rfl<|xLd rfl<|xLn rfl<|xEq rfl<|xPk rfl<|xAs rfl<|oNl<|eJ h rfl
 exact wSk rfl<|wSk rfl<|wSk rfl<|wSk rfl<|wSk rfl<|xPk rfl<|xAs rfl<|oNl<|eJ h rfl
 refine cRt ?_
 cases h
 exact eR rfl rfl rfl rfl
abbrev DT(p:(List aC)→Option (Bool)):Prop:= ∀ {t0_0:List aC} {r:Bool},p t0_0=some r→Big Try.prog τ An (.fn 154 [.one (.c (.sl (t0_0.map aF)))] [] (.one (.c (.bool r))) none [] none)
def jN(n:Nat)(t0_0:List aC):(Int)→Option ((Int)⊕((Bool)⊕(Int×Bool)))
  | v3_1=>bif decide (v3_1<(t0_0.length:Int))then((ix t0_0 v3_1).bind fun e12_7=>(iV n e12_7.f0 e12_7.f1 e12_7.f2 e12_7.f3 e12_7.f4 e12_7.f5 e12_7.f6).bind fun c14_8=>bif !c14_8 then some true else bif decide ((0:Int)<v3_1)then(ix t0_0 (IntKind.wrap .i64 (v3_1 - (1:Int)))).bind fun e23_11=>(ix t0_0 v3_1).bind fun e28_12=>some (!(pG e23_11.f0 e28_12.f0))else some false).bind fun v33_6=>bif v33_6 then some (.inr (.inl false))else some (.inl (IntKind.wrap .i64 (v3_1+(1:Int))))else some (.inr (.inr (v3_1,false)))
def kC(n:Nat)(t0_0:List aC):Option (Bool):=
  (loopN (jN n t0_0) n (0:Int)).bind fun q=>(match q with | .inl v2_2=>some v2_2 | .inr (v3_3,v7_4)=>some (decide ((t0_0.length:Int)≤(10:Int))))
theorem AS{n:Nat}:DT (kC n):=by
 intro t0_0 r h
 unfold kC at h
 refine bF Try.func154 rfl rfl<|cRs<|xAs rfl<|oNl<|cSq<|cRs<|xAs rfl<|oNl<|cLp h [(2,33)] [] (fun v3_1=>([(3,I64 v3_1)],[])) (fun q=>match q with | .inl v2_2=>(.r,[(2,Bo v2_2)],[]) | .inr (v3_3,v7_4)=>(.e 0,[(3,I64 v3_3),(7,Bo v7_4)],[])) rfl (fun v3_1 _ h=> ?_) (fun q h=> ?_)
 unfold jN at h
 refine cSq<|cRs<|xMv rfl<|xMv rfl<|xLn rfl<|xLt rfl<|oNl<|cIf h rfl (fun q5 h=> ?_) (fun q5 h=> ?_)
 refine cSk<|cSq<|cBk<|cRs<|oJn h [(10,33)] [] (fun v33_6=>(.n,[(33,Bo v33_6)],[])) (fun _ h=> ?_) (fun v33_6 h=> ?_)
 refine xMv rfl<|xMv rfl<|xIx h aR rfl (fun e12_7 h=> ?_)
 refine xLd rfl<|xC0 h (yW ·) rfl (fun c14_8 h=> ?_)
 refine gJ rfl<|xMv rfl<|oIf 16 h rfl (fun q9 h=> ?_) (fun q9 h=> ?_)
 refine wSk rfl<|wSk rfl<|wSk rfl<|wSk rfl<|wSk rfl<|wSk rfl<|wSk rfl<|wSk rfl<|wSk rfl<|wSk rfl<|wSk rfl<|wSk rfl<|wSk rfl<|wSk rfl ?_
 exact wSk rfl<|wSk rfl<|xPk rfl<|oNl<|eJ h rfl
 refine xMv rfl<|xGt rfl<|xMv rfl<|oIf 19 h rfl (fun q10 h=> ?_) (fun q10 h=> ?_)
 refine xMv rfl<|xMv rfl<|tM rfl<|xIx h aR rfl (fun e23_11 h=> ?_)
 refine xFd rfl<|xLd rfl<|xMv rfl<|xMv rfl<|xIx h aR rfl (fun e28_12 h=> ?_)
 exact xFd rfl<|xLd rfl<|wBi (.bool (!(pG e23_11.f0 e28_12.f0))) rfl rfl rfl rfl rfl<|xPk rfl<|xPk rfl<|oNl<|eJ h rfl
 refine wSk rfl<|wSk rfl<|wSk rfl<|wSk rfl<|wSk rfl<|wSk rfl<|wSk rfl<|wSk rfl<|wSk rfl<|wSk rfl<|wSk rfl<|wSk rfl<|xPk rfl<|xPk rfl ?_
 exact oNl<|eJ h rfl
 refine cIf h rfl (fun q13 h=> ?_) (fun q13 h=> ?_)
 exact cRs<|xAs rfl<|oNl<|cRt<|eXr h rfl
 exact cSk<|cRg<|xMv rfl<|cM rfl<|xAs rfl<|oNl<|eL h rfl
 exact cEx<|eX h rfl
 rcases q with v2_2 | ⟨v3_3,v7_4⟩
 cases h
 exact eR rfl rfl rfl rfl
 refine cRs<|xMv rfl<|xLn rfl<|xLe rfl<|xAs rfl<|oNl<|cRt ?_
 cases h
 exact eR rfl rfl rfl rfl
abbrev HC(p:(List aC)→(List UInt8)→Option (Int)):Prop:= ∀ {t0_0:List aC} {t1_0:List UInt8} {r:Int},p t0_0 t1_0=some r→Big Try.prog τ An (.fn 156 [.one (.c (.sl (t0_0.map aF))), .one (.c (.str t1_0))] [] (.one (.c (.int .i64 r))) none [] none)
def fR(n:Nat)(t0_0:List aC)(t1_0:List UInt8):(Int)→Option ((Int)⊕((Int)⊕(Int×Bool)))
  | v5_1=>bif decide (v5_1<(t0_0.length:Int))then(ix t0_0 v5_1).bind fun e14_6=>bif decide (e14_6.f0=t1_0)then some (.inr (.inl v5_1))else some (.inl (IntKind.wrap .i64 (v5_1+(1:Int))))else some (.inr (.inr (v5_1,false)))
def mW(n:Nat)(t0_0:List aC)(t1_0:List UInt8):Option (Int):=
  (loopN (fR n t0_0 t1_0) n (0:Int)).bind fun q=>(match q with | .inl v4_2=>some v4_2 | .inr (v5_3,v9_4)=>some ((-1):Int))
theorem DF{n:Nat}:HC (mW n):=by
 intro t0_0 t1_0 r h
 unfold mW at h
 refine bF Try.func156 rfl rfl<|cRs<|xAs rfl<|oNl<|cSq<|cRs<|xAs rfl<|oNl<|cLp h [(4,19)] [] (fun v5_1=>([(5,I64 v5_1)],[])) (fun q=>match q with | .inl v4_2=>(.r,[(4,I64 v4_2)],[]) | .inr (v5_3,v9_4)=>(.e 0,[(5,I64 v5_3),(9,Bo v9_4)],[])) rfl (fun v5_1 _ h=> ?_) (fun q h=> ?_)
 unfold fR at h
 refine cSq<|cRs<|xMv rfl<|xMv rfl<|xLn rfl<|xLt rfl<|oNl<|cIf h rfl (fun q5 h=> ?_) (fun q5 h=> ?_)
 refine cSk<|cSq<|cBk<|cRs<|xMv rfl<|xMv rfl<|xIx h aR rfl (fun e14_6 h=> ?_)
 refine xFd rfl<|xLd rfl<|xMv rfl<|xEs rfl<|oNl<|cIf h rfl (fun q7 h=> ?_) (fun q7 h=> ?_)
 exact cRs<|xMv rfl<|xAs rfl<|oNl<|cRt<|eXr h rfl
 exact cSk<|cRg<|xMv rfl<|cM rfl<|xAs rfl<|oNl<|eL h rfl
 exact cEx<|eX h rfl
 rcases q with v4_2 | ⟨v5_3,v9_4⟩
 cases h
 exact eR rfl rfl rfl rfl
 refine cRs<|xAs rfl<|oNl<|cRt ?_
 cases h
 exact eR rfl rfl rfl rfl
abbrev Ae(p:(List aC)→(List UInt8)→Option ((List aC)×Int)):Prop:= ∀ {t0_0:List aC} {t1_0:List UInt8} {r:(List aC)×Int},p t0_0 t1_0=some r→Big Try.prog τ An (.fn 58 [.one (.c (.sl (t0_0.map aF))), .one (.c (.str t1_0))] [] (.tup [.c (.sl (r.1.map aF)), .c (.int .i64 r.2)]) none [] none)
def hH(n:Nat)(t0_0:List aC)(t1_0:List UInt8):Option ((List aC)×Int):=
  (kB n t0_0).bind fun c9_1=>((kC n t0_0).bind fun c11_3=>bif !c11_3 then some true else(gM n t1_0).bind fun c15_5=>some (!c15_5)).bind fun v17_2=>bif v17_2 then some (c9_1,(1:Int))else(mW n t0_0 t1_0).bind fun c21_7=>(bif decide (c21_7<(0:Int))then some true else(ix t0_0 c21_7).bind fun e27_10=>some (!e27_10.f4)).bind fun v31_8=>bif v31_8 then some (c9_1,(4:Int))else(ix c9_1 c21_7).bind fun e35_12=>(some (c9_1.set (Int.toNat c21_7) (aC.mk e35_12.f0 e35_12.f1 e35_12.f2 e35_12.f3 false e35_12.f5 e35_12.f6))).bind fun u6_13=>(ix u6_13 c21_7).bind fun e40_14=>(some (u6_13.set (Int.toNat c21_7) (aC.mk e40_14.f0 e40_14.f1 e40_14.f2 e40_14.f3 e40_14.f4 ([]:List aB) ([]:List aA)))).bind fun u6_15=>some (u6_15,(0:Int))
theorem xJ{n:Nat}:Ae (hH n):=by
 intro t0_0 t1_0 r h
 unfold hH at h
 refine bF Try.func58 rfl rfl<|cRs<|wAe (Li aF []) rfl rfl rfl rfl<|xAs rfl<|oRs<|xMv rfl<|xC0 h (AR ·) rfl (fun c9_1 h=> ?_)
 refine xAs rfl<|oNl<|cSq<|cRs<|oJn h [(10,17)] [] (fun v17_2=>(.n,[(17,Bo v17_2)],[])) (fun _ h=> ?_) (fun v17_2 h=> ?_)
 refine xMv rfl<|xC0 h (AS ·) rfl (fun c11_3 h=> ?_)
 refine gJ rfl<|xMv rfl<|oIf 13 h rfl (fun q4 h=> ?_) (fun q4 h=> ?_)
 exact wSk rfl<|wSk rfl<|wSk rfl<|xPk rfl<|oNl<|eJ h rfl
 refine xMv rfl<|xC0 h (oI ·) rfl (fun c15_5 h=> ?_)
 exact gJ rfl<|xPk rfl<|oNl<|eJ h rfl
 refine cIf h rfl (fun q6 h=> ?_) (fun q6 h=> ?_)
 refine cRs<|xMv rfl<|xAs rfl<|xAs rfl<|oNl<|cRt ?_
 cases h
 exact eR rfl rfl rfl rfl
 refine cSk<|cRs<|xMv rfl<|xMv rfl<|xC0 h (DF ·) rfl (fun c21_7 h=> ?_)
 refine xAs rfl<|oNl<|cSq<|cRs<|oJn h [(22,31)] [] (fun v31_8=>(.n,[(31,Bo v31_8)],[])) (fun _ h=> ?_) (fun v31_8 h=> ?_)
 refine xMv rfl<|xLt rfl<|xMv rfl<|oIf 24 h rfl (fun q9 h=> ?_) (fun q9 h=> ?_)
 exact wSk rfl<|wSk rfl<|wSk rfl<|wSk rfl<|wSk rfl<|wSk rfl<|xPk rfl<|oNl<|eJ h rfl
 refine xMv rfl<|xMv rfl<|xIx h aR rfl (fun e27_10 h=> ?_)
 exact xFd rfl<|xLd rfl<|gJ rfl<|xPk rfl<|oNl<|eJ h rfl
 refine cIf h rfl (fun q11 h=> ?_) (fun q11 h=> ?_)
 refine cRs<|xMv rfl<|xAs rfl<|xAs rfl<|oNl<|cRt ?_
 cases h
 exact eR rfl rfl rfl rfl
 refine cSk<|cRs<|wAl rfl rfl rfl rfl<|xMv rfl<|wIp (f:=aF) h rfl rfl rfl rfl rfl rfl (fun _=>rfl) rfl (fun e35_12 ke35_12 h=> ?_)
 refine xFd rfl<|tN (f:=aF) (v':=aC.mk e35_12.f0 e35_12.f1 e35_12.f2 e35_12.f3 false e35_12.f5 e35_12.f6) h ke35_12 rfl rfl rfl rfl rfl rfl rfl rfl rfl (fun u6_13 h=> ?_)
 refine oRs<|wAl rfl rfl rfl rfl<|xMv rfl<|wBd [.sl ([].map aH), .sl ([].map aE)] rfl rfl rfl rfl rfl rfl<|wIp (f:=aF) h rfl rfl rfl rfl rfl rfl (fun _=>rfl) rfl (fun e40_14 ke40_14 h=> ?_)
 refine xFd rfl<|tN (f:=aF) (v':=aC.mk e40_14.f0 e40_14.f1 e40_14.f2 e40_14.f3 e40_14.f4 ([]:List aB) ([]:List aA)) h ke40_14 rfl rfl rfl rfl rfl rfl rfl rfl rfl (fun u6_15 h=> ?_)
 refine oRs<|xMv rfl<|xAs rfl<|xAs rfl<|oNl<|cRt ?_
 cases h
 exact eR rfl rfl rfl rfl
abbrev HD(p:Int→Int→(List UInt8)→Int→Option (Int×Int×(List UInt8)×Int)):Prop:= ∀ {t0_0 t0_1:Int} {t0_2:List UInt8} {t0_3:Int} {r:Int×Int×(List UInt8)×Int},p t0_0 t0_1 t0_2 t0_3=some r→Big Try.prog τ An (.fn 292 [.one (.ag [.int .i64 t0_0, .int .i64 t0_1, .str t0_2, .int .i64 t0_3])] [] (.one (.ag [.int .i64 r.1, .int .i64 r.2.1, .str r.2.2.1, .int .i64 r.2.2.2])) none [] none)
def pA(n:Nat)(t0_0:Int)(t0_1:Int)(t0_2:List UInt8)(t0_3:Int):Option (Int×Int×(List UInt8)×Int):=
  some (t0_0,t0_1,t0_2,t0_3)
theorem DG{n:Nat}:HD (pA n):=by
 intro t0_0 t0_1 t0_2 t0_3 r h
 unfold pA at h
 refine bF Try.func292 rfl rfl<|cRs<|xBx rfl<|xAc rfl<|oRs<|xAc rfl<|oRs<|xFd rfl<|xLd rfl<|xFd rfl<|xSt rfl<|oRs<|xFd rfl<|xLd rfl ?_
 refine xFd rfl<|xSt rfl<|oRs<|xFd rfl<|xLd rfl<|xFd rfl<|xSt rfl<|oRs<|xFd rfl<|xLd rfl<|xFd rfl<|xSt rfl<|oRs<|xLd rfl ?_
 refine xSt rfl<|oNl<|cRt ?_
 cases h
 exact eR rfl rfl rfl rfl
abbrev FU(p:(List aD)→Option ((List aD))):Prop:= ∀ {t0_0:List aD} {r:(List aD)},p t0_0=some r→Big Try.prog τ An (.fn 262 [.one (.c (.sl (t0_0.map aK)))] [] (.one (.c (.sl (r.map aK)))) none [] none)
def kR(n:Nat)(t0_0:List aD):((List aD)×Int)→Option (((List aD)×Int)⊕(((List aD)×Int×Bool)))
  | (v3_2,v4_3)=>bif decide (v4_3<(t0_0.length:Int))then(ix t0_0 v4_3).bind fun e18_8=>(pA n e18_8.f0 e18_8.f1 e18_8.f2 e18_8.f3).bind fun c20_9=>(ix v3_2 v4_3).bind fun e21_10=>(some (v3_2.set (Int.toNat v4_3) (aD.mk c20_9.1 c20_9.2.1 c20_9.2.2.1 c20_9.2.2.2))).bind fun u3_11=>some (.inl (u3_11,(IntKind.wrap .i64 (v4_3+(1:Int)))))else some (.inr (v3_2,v4_3,false))
def lM(n:Nat)(t0_0:List aD):Option ((List aD)):=
  (ck (decide (0≤(t0_0.length:Int)∧(t0_0.length:Int)≤maxLen∧40*(t0_0.length:Int)≤281474976710656))).bind fun _=>(loopN (kR n t0_0) n ((List.replicate (Int.toNat (t0_0.length:Int)) (aD.mk (0:Int) (0:Int) ([]:List UInt8) (0:Int))),(0:Int))).bind fun(v3_4,v4_5,v11_6)=>some v3_4
theorem CF{n:Nat}:FU (lM n):=by
 intro t0_0 r h
 unfold lM at h
 refine bF Try.func262 rfl rfl<|cRs<|wAe (Li aK []) rfl rfl rfl rfl<|oRs<|xMv rfl<|xLn rfl<|oCk h (fun k7_0 h=> ?_)
 refine wMk (z:=aD.mk (0:Int) (0:Int) ([]:List UInt8) (0:Int)) (f:=aK) k7_0 rfl rfl rfl rfl rfl rfl rfl<|xAs rfl<|oNl<|cSq<|cRs<|xAs rfl<|oNl<|cLp h [(3,4),(8,21)] [] (fun(v3_2,v4_3)=>([(3,Li aK v3_2),(4,I64 v4_3)],[])) (fun(v3_4,v4_5,v11_6)=>(.e 0,[(3,Li aK v3_4),(4,I64 v4_5),(11,Bo v11_6)],[])) rfl (fun st _ h=> ?_) (fun q h=> ?_)
 obtain⟨v3_2,v4_3⟩:=st
 unfold kR at h
 refine cSq<|cRs<|xMv rfl<|xMv rfl<|xLn rfl<|xLt rfl<|oNl<|cIf h rfl (fun q7 h=> ?_) (fun q7 h=> ?_)
 refine cSk<|cSq<|cBk<|cRg<|wAl rfl rfl rfl rfl<|xMv rfl<|xMv rfl<|xMv rfl<|xIx h bP rfl (fun e18_8 h=> ?_)
 refine xLd rfl<|xC0 h (DG ·) rfl (fun c20_9 h=> ?_)
 refine wIp (f:=aK) h rfl rfl rfl rfl rfl rfl (fun _=>rfl) rfl (fun e21_10 ke21_10 h=> ?_)
 refine tN (f:=aK) (v':=aD.mk c20_9.1 c20_9.2.1 c20_9.2.2.1 c20_9.2.2.2) h ke21_10 rfl rfl rfl rfl rfl rfl rfl rfl rfl (fun u3_11 h=> ?_)
 exact oNl<|cRg<|xMv rfl<|cM rfl<|xAs rfl<|oNl<|eL h rfl
 exact cEx<|eX h rfl
 obtain⟨v3_4,v4_5,v11_6⟩:=q
 refine cRs<|xMv rfl<|xAs rfl<|oNl<|cRt ?_
 cases h
 exact eR rfl rfl rfl rfl
abbrev IX(p:(List UInt8)→Int→Int→(List aD)→Option ((List UInt8)×Int×Int×(List aD))):Prop:= ∀ {t0_0:List UInt8} {t0_1 t0_2:Int} {t0_3:List aD} {r:(List UInt8)×Int×Int×(List aD)},p t0_0 t0_1 t0_2 t0_3=some r→Big Try.prog τ An (.fn 195 [.one (.ag [.str t0_0, .int .i64 t0_1, .int .i64 t0_2, .sl (t0_3.map aK)])] [] (.one (.ag [.str r.1, .int .i64 r.2.1, .int .i64 r.2.2.1, .sl (r.2.2.2.map aK)])) none [] none)
def oC(n:Nat)(t0_0:List UInt8)(t0_1:Int)(t0_2:Int)(t0_3:List aD):Option ((List UInt8)×Int×Int×(List aD)):=
  (lM n t0_3).bind fun c15_1=>some (t0_0,t0_1,t0_2,c15_1)
theorem FH{n:Nat}:IX (oC n):=by
 intro t0_0 t0_1 t0_2 t0_3 r h
 unfold oC at h
 refine bF Try.func195 rfl rfl<|cRs<|xBx rfl<|xAz [.str [], .int .i64 0, .int .i64 0, .sl ([].map aK)] rfl<|oRs<|xAz [.str [], .int .i64 0, .int .i64 0, .sl ([].map aK)] rfl<|oRs<|xFd rfl<|xLd rfl<|xFd rfl<|xSt rfl<|oRs<|xFd rfl<|xLd rfl ?_
 refine xFd rfl<|xSt rfl<|oRs<|xFd rfl<|xLd rfl<|xFd rfl<|xSt rfl<|oRs<|xFd rfl<|xLd rfl<|xC0 h (CF ·) rfl (fun c15_1 h=> ?_)
 refine xFd rfl<|xSt rfl<|oRs<|xLd rfl<|xSt rfl<|oNl<|cRt ?_
 cases h
 exact eR rfl rfl rfl rfl
abbrev HE(p:(List aO)→Option ((List aB))):Prop:= ∀ {t0_0:List aO} {r:(List aB)},p t0_0=some r→Big Try.prog τ An (.fn 107 [.one (.c (.sl (t0_0.map cE)))] [] (.one (.c (.sl (r.map aH)))) none [] none)
def lS(n:Nat)(t0_0:List aO):((List aB)×Int)→Option (((List aB)×Int)⊕(((List aB)×Int×Bool)))
  | (v3_2,v4_3)=>bif decide (v4_3<(t0_0.length:Int))then(ix t0_0 v4_3).bind fun e18_8=>(oC n e18_8.f0 e18_8.f1 e18_8.f2 e18_8.f3).bind fun c20_9=>(ix v3_2 v4_3).bind fun e21_10=>(some (v3_2.set (Int.toNat v4_3) (aB.mk c20_9.1 c20_9.2.1 c20_9.2.2.1 c20_9.2.2.2))).bind fun u3_11=>some (.inl (u3_11,(IntKind.wrap .i64 (v4_3+(1:Int)))))else some (.inr (v3_2,v4_3,false))
def mX(n:Nat)(t0_0:List aO):Option ((List aB)):=
  (ck (decide (0≤(t0_0.length:Int)∧(t0_0.length:Int)≤maxLen∧56*(t0_0.length:Int)≤281474976710656))).bind fun _=>(loopN (lS n t0_0) n ((List.replicate (Int.toNat (t0_0.length:Int)) (aB.mk ([]:List UInt8) (0:Int) (0:Int) ([]:List aD))),(0:Int))).bind fun(v3_4,v4_5,v11_6)=>some v3_4
theorem DH{n:Nat}:HE (mX n):=by
 intro t0_0 r h
 unfold mX at h
 refine bF Try.func107 rfl rfl<|cRs<|wAe (Li aH []) rfl rfl rfl rfl<|oRs<|xMv rfl<|xLn rfl<|oCk h (fun k7_0 h=> ?_)
 refine wMk (z:=aB.mk ([]:List UInt8) (0:Int) (0:Int) ([]:List aD)) (f:=aH) k7_0 rfl rfl rfl rfl rfl rfl rfl<|xAs rfl<|oNl<|cSq<|cRs<|xAs rfl<|oNl<|cLp h [(3,4),(8,21)] [] (fun(v3_2,v4_3)=>([(3,Li aH v3_2),(4,I64 v4_3)],[])) (fun(v3_4,v4_5,v11_6)=>(.e 0,[(3,Li aH v3_4),(4,I64 v4_5),(11,Bo v11_6)],[])) rfl (fun st _ h=> ?_) (fun q h=> ?_)
 obtain⟨v3_2,v4_3⟩:=st
 unfold lS at h
 refine cSq<|cRs<|xMv rfl<|xMv rfl<|xLn rfl<|xLt rfl<|oNl<|cIf h rfl (fun q7 h=> ?_) (fun q7 h=> ?_)
 refine cSk<|cSq<|cBk<|cRg<|wAl rfl rfl rfl rfl<|xMv rfl<|xMv rfl<|xMv rfl<|xIx h wG rfl (fun e18_8 h=> ?_)
 refine xLd rfl<|xC0 h (FH ·) rfl (fun c20_9 h=> ?_)
 refine wIp (f:=aH) h rfl rfl rfl rfl rfl rfl (fun _=>rfl) rfl (fun e21_10 ke21_10 h=> ?_)
 refine tN (f:=aH) (v':=aB.mk c20_9.1 c20_9.2.1 c20_9.2.2.1 c20_9.2.2.2) h ke21_10 rfl rfl rfl rfl rfl rfl rfl rfl rfl (fun u3_11 h=> ?_)
 exact oNl<|cRg<|xMv rfl<|cM rfl<|xAs rfl<|oNl<|eL h rfl
 exact cEx<|eX h rfl
 obtain⟨v3_4,v4_5,v11_6⟩:=q
 refine cRs<|xMv rfl<|xAs rfl<|oNl<|cRt ?_
 cases h
 exact eR rfl rfl rfl rfl
abbrev gG:Type:=Int→Int→(List UInt8)→(List aI)→Option (Int×Int×(List UInt8)×(List aA))
abbrev nD(p:gG):Prop:= ∀ {t0_0 t0_1:Int} {t0_2:List UInt8} {t0_3:List aI} {r:Int×Int×(List UInt8)×(List aA)},p t0_0 t0_1 t0_2 t0_3=some r→Big Try.prog τ An (.fn 196 [.one (.ag [.int .i64 t0_0, .int .i64 t0_1, .str t0_2, .sl (t0_3.map aT)])] [] (.one (.ag [.int .i64 r.1, .int .i64 r.2.1, .str r.2.2.1, .sl (r.2.2.2.map aE)])) none [] none)
abbrev gO:Type:=(List aI)→Option ((List aA))
abbrev lP(p:gO):Prop:= ∀ {t0_0:List aI} {r:(List aA)},p t0_0=some r→Big Try.prog τ An (.fn 108 [.one (.c (.sl (t0_0.map aT)))] [] (.one (.c (.sl (r.map aE)))) none [] none)
def mQ(n:Nat)(r_laws_toPatS:gO)(r_laws_toPat:gG)(t0_0:Int)(t0_1:Int)(t0_2:List UInt8)(t0_3:List aI):Option (Int×Int×(List UInt8)×(List aA)):=
  (r_laws_toPatS t0_3).bind fun c15_1=>some (t0_0,t0_1,t0_2,c15_1)
theorem Bt{n:Nat}{r_laws_toPatS:gO}(ih_laws_toPatS:lP r_laws_toPatS){r_laws_toPat:gG}(ih_laws_toPat:nD r_laws_toPat):nD (mQ n r_laws_toPatS r_laws_toPat):=by
 intro t0_0 t0_1 t0_2 t0_3 r h
 unfold mQ at h
 refine bF Try.func196 rfl rfl<|cRs<|xBx rfl<|xAz [.int .i64 0, .int .i64 0, .str [], .sl ([].map aE)] rfl<|oRs<|xAz [.int .i64 0, .int .i64 0, .str [], .sl ([].map aE)] rfl<|oRs<|xFd rfl<|xLd rfl<|xFd rfl<|xSt rfl<|oRs<|xFd rfl<|xLd rfl ?_
 refine xFd rfl<|xSt rfl<|oRs<|xFd rfl<|xLd rfl<|xFd rfl<|xSt rfl<|oRs<|xFd rfl<|xLd rfl<|xC0 h (ih_laws_toPatS ·) rfl (fun c15_1 h=> ?_)
 refine xFd rfl<|xSt rfl<|oRs<|xLd rfl<|xSt rfl<|oNl<|cRt ?_
 cases h
 exact eR rfl rfl rfl rfl
def kQ(n:Nat)(r_laws_toPat:gG)(t0_0:List aI):((List aA)×Int)→Option (((List aA)×Int)⊕(((List aA)×Int×Bool)))
  | (v3_2,v4_3)=>bif decide (v4_3<(t0_0.length:Int))then(ix t0_0 v4_3).bind fun e18_8=>(r_laws_toPat e18_8.f0 e18_8.f1 e18_8.f2 e18_8.f3).bind fun c20_9=>(ix v3_2 v4_3).bind fun e21_10=>(some (v3_2.set (Int.toNat v4_3) (aA.mk c20_9.1 c20_9.2.1 c20_9.2.2.1 c20_9.2.2.2))).bind fun u3_11=>some (.inl (u3_11,(IntKind.wrap .i64 (v4_3+(1:Int)))))else some (.inr (v3_2,v4_3,false))
def lI(n:Nat)(r_laws_toPatS:gO)(r_laws_toPat:gG)(t0_0:List aI):Option ((List aA)):=
  (ck (decide (0≤(t0_0.length:Int)∧(t0_0.length:Int)≤maxLen∧56*(t0_0.length:Int)≤281474976710656))).bind fun _=>(loopN (kQ n r_laws_toPat t0_0) n ((List.replicate (Int.toNat (t0_0.length:Int)) (aA.mk (0:Int) (0:Int) ([]:List UInt8) ([]:List aA))),(0:Int))).bind fun(v3_4,v4_5,v11_6)=>some v3_4
theorem AK{n:Nat}{r_laws_toPatS:gO}(ih_laws_toPatS:lP r_laws_toPatS){r_laws_toPat:gG}(ih_laws_toPat:nD r_laws_toPat):lP (lI n r_laws_toPatS r_laws_toPat):=by
 intro t0_0 r h
 unfold lI at h
 refine bF Try.func108 rfl rfl<|cRs<|wAe (Li aE []) rfl rfl rfl rfl<|oRs<|xMv rfl<|xLn rfl<|oCk h (fun k7_0 h=> ?_)
 refine wMk (z:=aA.mk (0:Int) (0:Int) ([]:List UInt8) ([]:List aA)) (f:=aE) k7_0 rfl rfl rfl rfl rfl rfl rfl<|xAs rfl<|oNl<|cSq<|cRs<|xAs rfl<|oNl<|cLp h [(3,4),(8,21)] [] (fun(v3_2,v4_3)=>([(3,Li aE v3_2),(4,I64 v4_3)],[])) (fun(v3_4,v4_5,v11_6)=>(.e 0,[(3,Li aE v3_4),(4,I64 v4_5),(11,Bo v11_6)],[])) rfl (fun st _ h=> ?_) (fun q h=> ?_)
 obtain⟨v3_2,v4_3⟩:=st
 unfold kQ at h
 refine cSq<|cRs<|xMv rfl<|xMv rfl<|xLn rfl<|xLt rfl<|oNl<|cIf h rfl (fun q7 h=> ?_) (fun q7 h=> ?_)
 refine cSk<|cSq<|cBk<|cRg<|wAl rfl rfl rfl rfl<|xMv rfl<|xMv rfl<|xMv rfl<|xIx h mN rfl (fun e18_8 h=> ?_)
 refine xLd rfl<|xC0 h (ih_laws_toPat ·) rfl (fun c20_9 h=> ?_)
 refine wIp (f:=aE) h rfl rfl rfl rfl rfl rfl (fun a=>by rw[aL]; rfl) rfl (fun e21_10 ke21_10 h=> ?_)
 refine tN (f:=aE) (v':=aA.mk c20_9.1 c20_9.2.1 c20_9.2.2.1 c20_9.2.2.2) h ke21_10 rfl rfl rfl rfl rfl rfl rfl (by rw[aL]; rfl) (by rw[aL,dA]; rfl) (fun u3_11 h=> ?_)
 exact oNl<|cRg<|xMv rfl<|cM rfl<|xAs rfl<|oNl<|eL h rfl
 exact cEx<|eX h rfl
 obtain⟨v3_4,v4_5,v11_6⟩:=q
 refine cRs<|xMv rfl<|xAs rfl<|oNl<|cRt ?_
 cases h
 exact eR rfl rfl rfl rfl
def jB:Nat→(gO)×(gG)
  | 0=>((fun _=>none),(fun _ _ _ _=>none))
  | n+1=>(lI n ((jB n).1) ((jB n).2),mQ n ((jB n).1) ((jB n).2))
def eP(n:Nat):gO:=(jB n).1
def iS(n:Nat):gG:=(jB n).2
theorem rK(n:Nat):lP (eP n)∧nD (iS n):=by
  induction n with
  | zero=>exact⟨(fun h=>nomatch h),(fun h=>nomatch h)⟩
  | succ n ih=>exact⟨AK (n:=n) (ih.1) (ih.2),Bt (n:=n) (ih.1) (ih.2)⟩
theorem CE{n:Nat}:lP (eP n):=(rK n).1
theorem Mj{n:Nat}:nD (iS n):=(rK n).2
theorem xB(n:Nat):eP (n+1)=lI n (eP n) (iS n):=rfl
theorem yQ(n:Nat):iS (n+1)=mQ n (eP n) (iS n):=rfl
abbrev FV(p:(List aO)→(List aI)→Option ((List aB)×(List aA))):Prop:= ∀ {t0_0:List aO} {t0_1:List aI} {r:(List aB)×(List aA)},p t0_0 t0_1=some r→Big Try.prog τ An (.fn 33 [.one (.ag [.sl (t0_0.map cE), .sl (t0_1.map aT)])] [] (.one (.ag [.sl (r.1.map aH), .sl (r.2.map aE)])) none [] none)
def jG(n:Nat)(t0_0:List aO)(t0_1:List aI):Option ((List aB)×(List aA)):=
  (mX n t0_0).bind fun c6_1=>(eP n t0_1).bind fun c10_2=>some (c6_1,c10_2)
theorem sV{n:Nat}:FV (jG n):=by
 intro t0_0 t0_1 r h
 unfold jG at h
 refine bF Try.func33 rfl rfl<|cRs<|xBx rfl<|xAz [.sl ([].map aH), .sl ([].map aE)] rfl<|oRs<|xAz [.sl ([].map aH), .sl ([].map aE)] rfl<|oRs<|xFd rfl<|xLd rfl<|xC0 h (DH ·) rfl (fun c6_1 h=> ?_)
 refine xFd rfl<|xSt rfl<|oRs<|xFd rfl<|xLd rfl<|xC0 h (CE ·) rfl (fun c10_2 h=> ?_)
 refine xFd rfl<|xSt rfl<|oRs<|xLd rfl<|xSt rfl<|oNl<|cRt ?_
 cases h
 exact eR rfl rfl rfl rfl
abbrev DV(p:(List UInt8)→Int→(List aO)→(List aI)→Bool→(List aO)→(List aI)→Option ((List UInt8)×Int×(List aB)×(List aA)×Bool×(List aB)×(List aA))):Prop:= ∀ {t0_0:List UInt8} {t0_1:Int} {t0_2:List aO} {t0_3:List aI} {t0_4:Bool} {t0_5:List aO} {t0_6:List aI} {r:(List UInt8)×Int×(List aB)×(List aA)×Bool×(List aB)×(List aA)},p t0_0 t0_1 t0_2 t0_3 t0_4 t0_5 t0_6=some r→Big Try.prog τ An (.fn 157 [.one (.ag [.str t0_0, .int .i64 t0_1, .sl (t0_2.map cE), .sl (t0_3.map aT), .bool t0_4, .sl (t0_5.map cE), .sl (t0_6.map aT)])] [] (.one (.ag [.str r.1, .int .i64 r.2.1, .sl (r.2.2.1.map aH), .sl (r.2.2.2.1.map aE), .bool r.2.2.2.2.1, .sl (r.2.2.2.2.2.1.map aH), .sl (r.2.2.2.2.2.2.map aE)])) none [] none)
def kD(n:Nat)(t0_0:List UInt8)(t0_1:Int)(t0_2:List aO)(t0_3:List aI)(t0_4:Bool)(t0_5:List aO)(t0_6:List aI):Option ((List UInt8)×Int×(List aB)×(List aA)×Bool×(List aB)×(List aA)):=
  (jG n t0_2 t0_3).bind fun c12_1=>(jG n t0_5 t0_6).bind fun c19_2=>some (t0_0,t0_1,c12_1.1,c12_1.2,t0_4,c19_2.1,c19_2.2)
theorem AU{n:Nat}:DV (kD n):=by
 intro t0_0 t0_1 t0_2 t0_3 t0_4 t0_5 t0_6 r h
 unfold kD at h
 refine bF Try.func157 rfl rfl<|cRs<|xBx rfl<|xAz [.str [], .int .i64 0, .sl ([].map aH), .sl ([].map aE), .bool false, .sl ([].map aH), .sl ([].map aE)] rfl<|oRs<|xAz [.str [], .int .i64 0, .sl ([].map aH), .sl ([].map aE), .bool false, .sl ([].map aH), .sl ([].map aE)] rfl<|oRs<|xFd rfl<|xLd rfl<|xFd rfl<|xSt rfl<|oRs<|xFd rfl<|xLd rfl ?_
 refine xFd rfl<|xSt rfl<|oRs<|xFd rfl<|xLd rfl<|xC0 h (sV ·) rfl (fun c12_1 h=> ?_)
 refine xFd rfl<|xSt rfl<|oRs<|xFd rfl<|xLd rfl<|xFd rfl<|xSt rfl<|oRs<|xFd rfl<|xLd rfl<|xC0 h (sV ·) rfl (fun c19_2 h=> ?_)
 refine xFd rfl<|xSt rfl<|oRs<|xLd rfl<|xSt rfl<|oNl<|cRt ?_
 cases h
 exact eR rfl rfl rfl rfl
abbrev CS(p:(List S_laws_Entry)→Option ((List aC))):Prop:= ∀ {t0_0:List S_laws_Entry} {r:(List aC)},p t0_0=some r→Big Try.prog τ An (.fn 59 [.one (.c (.sl (t0_0.map rS_laws_Entry)))] [] (.one (.c (.sl (r.map aF)))) none [] none)
def iI(n:Nat)(t0_0:List S_laws_Entry):((List aC)×Int)→Option (((List aC)×Int)⊕(((List aC)×Int×Bool)))
  | (v3_2,v4_3)=>bif decide (v4_3<(t0_0.length:Int))then(ix t0_0 v4_3).bind fun e18_8=>(kD n e18_8.f0 e18_8.f1 e18_8.f2 e18_8.f3 e18_8.f4 e18_8.f5 e18_8.f6).bind fun c20_9=>(ix v3_2 v4_3).bind fun e21_10=>(some (v3_2.set (Int.toNat v4_3) (aC.mk c20_9.1 c20_9.2.1 c20_9.2.2.1 c20_9.2.2.2.1 c20_9.2.2.2.2.1 c20_9.2.2.2.2.2.1 c20_9.2.2.2.2.2.2))).bind fun u3_11=>some (.inl (u3_11,(IntKind.wrap .i64 (v4_3+(1:Int)))))else some (.inr (v3_2,v4_3,false))
def dE(n:Nat)(t0_0:List S_laws_Entry):Option ((List aC)):=
  (ck (decide (0≤(t0_0.length:Int)∧(t0_0.length:Int)≤maxLen∧128*(t0_0.length:Int)≤281474976710656))).bind fun _=>(loopN (iI n t0_0) n ((List.replicate (Int.toNat (t0_0.length:Int)) (aC.mk ([]:List UInt8) (0:Int) ([]:List aB) ([]:List aA) false ([]:List aB) ([]:List aA))),(0:Int))).bind fun(v3_4,v4_5,v11_6)=>some v3_4
theorem jQ{n:Nat}:CS (dE n):=by
 intro t0_0 r h
 unfold dE at h
 refine bF Try.func59 rfl rfl<|cRs<|wAe (Li aF []) rfl rfl rfl rfl<|oRs<|xMv rfl<|xLn rfl<|oCk h (fun k7_0 h=> ?_)
 refine wMk (z:=aC.mk ([]:List UInt8) (0:Int) ([]:List aB) ([]:List aA) false ([]:List aB) ([]:List aA)) (f:=aF) k7_0 rfl rfl rfl rfl rfl rfl rfl<|xAs rfl<|oNl<|cSq<|cRs<|xAs rfl<|oNl<|cLp h [(3,4),(8,21)] [] (fun(v3_2,v4_3)=>([(3,Li aF v3_2),(4,I64 v4_3)],[])) (fun(v3_4,v4_5,v11_6)=>(.e 0,[(3,Li aF v3_4),(4,I64 v4_5),(11,Bo v11_6)],[])) rfl (fun st _ h=> ?_) (fun q h=> ?_)
 obtain⟨v3_2,v4_3⟩:=st
 unfold iI at h
 refine cSq<|cRs<|xMv rfl<|xMv rfl<|xLn rfl<|xLt rfl<|oNl<|cIf h rfl (fun q7 h=> ?_) (fun q7 h=> ?_)
 refine cSk<|cSq<|cBk<|cRg<|wAl rfl rfl rfl rfl<|xMv rfl<|xMv rfl<|xMv rfl<|xIx h rI rfl (fun e18_8 h=> ?_)
 refine xLd rfl<|xC0 h (AU ·) rfl (fun c20_9 h=> ?_)
 refine wIp (f:=aF) h rfl rfl rfl rfl rfl rfl (fun _=>rfl) rfl (fun e21_10 ke21_10 h=> ?_)
 refine tN (f:=aF) (v':=aC.mk c20_9.1 c20_9.2.1 c20_9.2.2.1 c20_9.2.2.2.1 c20_9.2.2.2.2.1 c20_9.2.2.2.2.2.1 c20_9.2.2.2.2.2.2) h ke21_10 rfl rfl rfl rfl rfl rfl rfl rfl rfl (fun u3_11 h=> ?_)
 exact oNl<|cRg<|xMv rfl<|cM rfl<|xAs rfl<|oNl<|eL h rfl
 exact cEx<|eX h rfl
 obtain⟨v3_4,v4_5,v11_6⟩:=q
 refine cRs<|xMv rfl<|xAs rfl<|oNl<|cRt ?_
 cases h
 exact eR rfl rfl rfl rfl
abbrev vJ(p:(List aD)→Option ((List aD))):Prop:= ∀ {t0_0:List aD} {r:(List aD)},p t0_0=some r→Big Try.prog τ An (.fn 282 [.one (.c (.sl (t0_0.map aK)))] [] (.one (.c (.sl (r.map aK)))) none [] none)
def eC(n:Nat)(t0_0:List aD):Option (List aD):=bif decide (t0_0.length*40≤140737488355328)then some t0_0 else none
set_option maxRecDepth 100000 in
theorem tK{n:Nat}:vJ (eC n):=by
 intro t0_0 r h
 unfold eC at h
 cases hc:decide (t0_0.length*40≤140737488355328)with
 | false=>rw[hc]at h; cases h
 | true=>
  rw[hc]at h
  cases h
  have hc:=of_decide_eq_true hc
  exact Big.lib Try.func282 rfl rfl (Nz OP rfl rfl rfl rfl (by decide) (fun e he=>by obtain⟨a,_,rfl⟩:=List.mem_map.1 he; exact⟨rfl,rfl⟩) (by rw[List.length_map]; exact hc) (by rw[List.length_map]; omega))

abbrev iG:Type:=Int→Int→(List UInt8)→(List aA)→Option (Int×Int×(List UInt8)×(List aA))
abbrev mP(p:iG):Prop:= ∀ {t0_0 t0_1:Int} {t0_2:List UInt8} {t0_3:List aA} {r:Int×Int×(List UInt8)×(List aA)},p t0_0 t0_1 t0_2 t0_3=some r→Big Try.prog τ An (.fn 283 [.one (.ag [.int .i64 t0_0, .int .i64 t0_1, .str t0_2, .sl (t0_3.map aE)])] [] (.one (.ag [.int .i64 r.1, .int .i64 r.2.1, .str r.2.2.1, .sl (r.2.2.2.map aE)])) none [] none)
def gD(n:Nat)(r_impl_copyPat:iG)(t0_3:List aA):(Int×Int×Int×(List UInt8)×(List aA))→Option ((Int×Int×Int×(List UInt8)×(List aA))⊕((Int×Bool×Int×Int×(List UInt8)×(List aA))))
  | (v16_1,w3_2,w3_3,w3_4,w3_5)=>bif decide (v16_1<(t0_3.length:Int))then(ix t0_3 v16_1).bind fun e18_13=>(r_impl_copyPat e18_13.f0 e18_13.f1 e18_13.f2 e18_13.f3).bind fun c23_14=>(tP 56 w3_5 ([aA.mk c23_14.1 c23_14.2.1 c23_14.2.2.1 c23_14.2.2.2]:List aA)).bind fun v25_15=>some (.inl ((IntKind.wrap .i64 (v16_1+(1:Int))),w3_2,w3_3,w3_4,v25_15))else some (.inr (v16_1,false,w3_2,w3_3,w3_4,w3_5))
def jY(n:Nat)(r_impl_copyPat:iG)(t0_0:Int)(t0_1:Int)(t0_2:List UInt8)(t0_3:List aA):Option (Int×Int×(List UInt8)×(List aA)):=
  (loopN (gD n r_impl_copyPat t0_3) n ((0:Int),t0_0,t0_1,t0_2,([]:List aA))).bind fun(v16_6,v17_7,w3_8,w3_9,w3_10,w3_11)=>some (w3_8,w3_9,w3_10,w3_11)
theorem yP{n:Nat}{r_impl_copyPat:iG}(ih_impl_copyPat:mP r_impl_copyPat):mP (jY n r_impl_copyPat):=by
 intro t0_0 t0_1 t0_2 t0_3 r h
 unfold jY at h
 refine bF Try.func283 rfl rfl<|cRs<|xBx rfl<|xAz [.int .i64 0, .int .i64 0, .str [], .sl ([].map aE)] rfl<|oRs<|xFd rfl<|xLd rfl<|xFd rfl<|xLd rfl<|xFd rfl<|xLd rfl<|wBd [.int .i64 t0_0, .int .i64 t0_1, .str t0_2, .sl ([].map aE)] rfl rfl rfl rfl rfl rfl<|xAz [.int .i64 0, .int .i64 0, .str [], .sl ([].map aE)] rfl<|xSt rfl ?_
 refine oNl<|cSq<|cRs<|xFd rfl<|xLd rfl<|xLn rfl<|xMv rfl<|oNl<|cLp h [(5,5),(16,27)] [(3,3),(5,5)] (fun(v16_1,w3_2,w3_3,w3_4,w3_5)=>([(16,I64 v16_1)],[(3,[.int .i64 w3_2, .int .i64 w3_3, .str w3_4, .sl (w3_5.map aE)])])) (fun(v16_6,v17_7,w3_8,w3_9,w3_10,w3_11)=>(.e 0,[(16,I64 v16_6),(17,Bo v17_7)],[(3,[.int .i64 w3_8, .int .i64 w3_9, .str w3_10, .sl (w3_11.map aE)])])) rfl (fun st _ h=> ?_) (fun q h=> ?_)
 obtain⟨v16_1,w3_2,w3_3,w3_4,w3_5⟩:=st
 unfold gD at h
 refine cRs<|xLt rfl<|oNl<|cSq<|cIf h rfl (fun q12 h=> ?_) (fun q12 h=> ?_)
 refine cSk<|cSq<|cBk<|cRs<|xIx h aL rfl (fun e18_13 h=> ?_)
 refine xLd rfl<|xAz [.int .i64 0, .int .i64 0, .str [], .sl ([].map aE)] rfl<|xSt rfl<|oNl<|cRg<|xFd rfl<|xLd rfl<|xLd rfl<|xC0 h (ih_impl_copyPat ·) rfl (fun c23_14 h=> ?_)
 refine Dk (L:=([aA.mk c23_14.1 c23_14.2.1 c23_14.2.2.1 c23_14.2.2.2]:List aA)) (f:=aE) rfl rfl rfl rfl (by simp only[List.map,dA]<;>rfl) rfl rfl<|wAp (f:=aE) h rfl rfl rfl rfl rfl rfl rfl rfl rfl (fun a=>by rw[aL]; rfl) rfl (fun v25_15 h=> ?_)
 exact xFd rfl<|xSt rfl<|oNl<|cRg<|cM rfl<|xMv rfl<|oNl<|eL h rfl
 exact cEx<|eX h rfl
 obtain⟨v16_6,v17_7,w3_8,w3_9,w3_10,w3_11⟩:=q
 refine cRs<|xLd rfl<|xSt rfl<|oNl<|cRt ?_
 cases h
 exact eR rfl rfl rfl rfl
def uD:Nat→(iG)
  | 0=>(fun _ _ _ _=>none)
  | n+1=>jY n (uD n)
def fK(n:Nat):iG:=uD n
theorem yV(n:Nat):mP (fK n):=by
  induction n with
  | zero=>exact(fun h=>nomatch h)
  | succ n ih=>exact yP (n:=n) ih
theorem Aa{n:Nat}:mP (fK n):=(yV n)
theorem vD(n:Nat):fK (n+1)=jY n (fK n):=rfl
abbrev CZ(p:(List aB)→(List aA)→Option ((List aB)×(List aA))):Prop:= ∀ {t0_0:List aB} {t0_1:List aA} {r:(List aB)×(List aA)},p t0_0 t0_1=some r→Big Try.prog τ An (.fn 236 [.one (.ag [.sl (t0_0.map aH), .sl (t0_1.map aE)])] [] (.one (.ag [.sl (r.1.map aH), .sl (r.2.map aE)])) none [] none)
def fE(n:Nat)(t0_0:List aB):(Int×(List aB)×(List aA))→Option ((Int×(List aB)×(List aA))⊕((Int×Bool×(List aB)×(List aA))))
  | (v11_1,w3_2,w3_3)=>bif decide (v11_1<(t0_0.length:Int))then(ix t0_0 v11_1).bind fun e13_9=>(eC n e13_9.f3).bind fun c17_10=>(tP 56 w3_2 ([aB.mk e13_9.f0 e13_9.f1 e13_9.f2 c17_10]:List aB)).bind fun v23_11=>some (.inl ((IntKind.wrap .i64 (v11_1+(1:Int))),v23_11,w3_3))else some (.inr (v11_1,false,w3_2,w3_3))
def fD(n:Nat)(t0_1:List aA):(Int×(List aB)×(List aA))→Option ((Int×(List aB)×(List aA))⊕((Int×Bool×(List aB)×(List aA))))
  | (v29_12,w3_13,w3_14)=>bif decide (v29_12<(t0_1.length:Int))then(ix t0_1 v29_12).bind fun e31_20=>(fK n e31_20.f0 e31_20.f1 e31_20.f2 e31_20.f3).bind fun c36_21=>(tP 56 w3_14 ([aA.mk c36_21.1 c36_21.2.1 c36_21.2.2.1 c36_21.2.2.2]:List aA)).bind fun v38_22=>some (.inl ((IntKind.wrap .i64 (v29_12+(1:Int))),w3_13,v38_22))else some (.inr (v29_12,false,w3_13,w3_14))
def fT(n:Nat)(t0_0:List aB)(t0_1:List aA):Option ((List aB)×(List aA)):=
  (loopN (fE n t0_0) n ((0:Int),([]:List aB),([]:List aA))).bind fun(v11_4,v12_5,w3_6,w3_7)=>(loopN (fD n t0_1) n ((0:Int),w3_6,w3_7)).bind fun(v29_15,v30_16,w3_17,w3_18)=>some (w3_17,w3_18)
theorem qR{n:Nat}:CZ (fT n):=by
 intro t0_0 t0_1 r h
 unfold fT at h
 refine bF Try.func236 rfl rfl<|cRs<|xBx rfl<|xAz [.sl ([].map aH), .sl ([].map aE)] rfl<|oRs<|xAz [.sl ([].map aH), .sl ([].map aE)] rfl<|oNl<|cSq<|cRs<|xFd rfl<|xLd rfl<|xLn rfl<|xMv rfl<|oNl<|cLp h [(5,5),(11,25)] [(3,3),(5,5)] (fun(v11_1,w3_2,w3_3)=>([(11,I64 v11_1)],[(3,[.sl (w3_2.map aH), .sl (w3_3.map aE)])])) (fun(v11_4,v12_5,w3_6,w3_7)=>(.e 0,[(11,I64 v11_4),(12,Bo v12_5)],[(3,[.sl (w3_6.map aH), .sl (w3_7.map aE)])])) rfl (fun st _ h=> ?_) (fun q h=> ?_)
 obtain⟨v11_1,w3_2,w3_3⟩:=st
 unfold fE at h
 refine cRs<|xLt rfl<|oNl<|cSq<|cIf h rfl (fun q8 h=> ?_) (fun q8 h=> ?_)
 refine cSk<|cSq<|cBk<|cRs<|xIx h bL rfl (fun e13_9 h=> ?_)
 refine xLd rfl<|xAz [.str [], .int .i64 0, .int .i64 0, .sl ([].map aK)] rfl<|xSt rfl<|oRs<|xFd rfl<|xLd rfl<|xC0 h (tK ·) rfl (fun c17_10 h=> ?_)
 refine xFd rfl<|xSt rfl<|oNl<|cRg<|xFd rfl<|xLd rfl<|xLd rfl<|Dk (L:=([aB.mk e13_9.f0 e13_9.f1 e13_9.f2 c17_10]:List aB)) (f:=aH) rfl rfl rfl rfl rfl rfl rfl<|wAp (f:=aH) h rfl rfl rfl rfl rfl rfl rfl rfl rfl (fun _=>rfl) rfl (fun v23_11 h=> ?_)
 exact xFd rfl<|xSt rfl<|oNl<|cRg<|cM rfl<|xMv rfl<|oNl<|eL h rfl
 exact cEx<|eX h rfl
 obtain⟨v11_4,v12_5,w3_6,w3_7⟩:=q
 refine cSq<|cRs<|xFd rfl<|xLd rfl<|xLn rfl<|xMv rfl<|oNl<|cLp h [(7,7),(29,40)] [(3,3),(7,7)] (fun(v29_12,w3_13,w3_14)=>([(29,I64 v29_12)],[(3,[.sl (w3_13.map aH), .sl (w3_14.map aE)])])) (fun(v29_15,v30_16,w3_17,w3_18)=>(.e 2,[(29,I64 v29_15),(30,Bo v30_16)],[(3,[.sl (w3_17.map aH), .sl (w3_18.map aE)])])) rfl (fun st _ h=> ?_) (fun q h=> ?_)
 obtain⟨v29_12,w3_13,w3_14⟩:=st
 unfold fD at h
 refine cRs<|xLt rfl<|oNl<|cSq<|cIf h rfl (fun q19 h=> ?_) (fun q19 h=> ?_)
 refine cSk<|cSq<|cBk<|cRs<|xIx h aL rfl (fun e31_20 h=> ?_)
 refine xLd rfl<|xAz [.int .i64 0, .int .i64 0, .str [], .sl ([].map aE)] rfl<|xSt rfl<|oNl<|cRg<|xFd rfl<|xLd rfl<|xLd rfl<|xC0 h (Aa ·) rfl (fun c36_21 h=> ?_)
 refine Dk (L:=([aA.mk c36_21.1 c36_21.2.1 c36_21.2.2.1 c36_21.2.2.2]:List aA)) (f:=aE) rfl rfl rfl rfl (by simp only[List.map,dA]<;>rfl) rfl rfl<|wAp (f:=aE) h rfl rfl rfl rfl rfl rfl rfl rfl rfl (fun a=>by rw[aL]; rfl) rfl (fun v38_22 h=> ?_)
 exact xFd rfl<|xSt rfl<|oNl<|cRg<|cM rfl<|xMv rfl<|oNl<|eL h rfl
 exact cEx<|eX h rfl
 obtain⟨v29_15,v30_16,w3_17,w3_18⟩:=q
 refine cRs<|xLd rfl<|xSt rfl<|oNl<|cRt ?_
 cases h
 exact eR rfl rfl rfl rfl
abbrev Ai(p:(List aC)→Option ((List aC))):Prop:= ∀ {t0_0:List aC} {r:(List aC)},p t0_0=some r→Big Try.prog τ An (.fn 158 [.one (.c (.sl (t0_0.map aF)))] [] (.one (.c (.sl (r.map aF)))) none [] none)
def eD(n:Nat)(t0_0:List aC):((List aC)×Int)→Option (((List aC)×Int)⊕(((List aC)×Int×Bool)))
  | (v3_1,v8_2)=>bif decide (v8_2<(t0_0.length:Int))then(ix t0_0 v8_2).bind fun e10_7=>(fT n e10_7.f2 e10_7.f3).bind fun c14_8=>(fT n e10_7.f5 e10_7.f6).bind fun c17_9=>(tP 128 v3_1 ([aC.mk e10_7.f0 e10_7.f1 c14_8.1 c14_8.2 e10_7.f4 c17_9.1 c17_9.2]:List aC)).bind fun v23_10=>some (.inl (v23_10,(IntKind.wrap .i64 (v8_2+(1:Int)))))else some (.inr (v3_1,v8_2,false))
def hJ(n:Nat)(t0_0:List aC):Option ((List aC)):=
  (loopN (eD n t0_0) n (([]:List aC),(0:Int))).bind fun(v3_3,v8_4,v9_5)=>some v3_3
theorem xM{n:Nat}:Ai (hJ n):=by
 intro t0_0 r h
 unfold hJ at h
 refine bF Try.func158 rfl rfl<|cRs<|wAe (Li aF []) rfl rfl rfl rfl<|oRs<|wAe (Li aF []) rfl rfl rfl rfl<|oNl<|cSq<|cRs<|xMv rfl<|xLn rfl<|xMv rfl<|oNl<|cLp h [(3,3),(5,5),(8,24)] [(5,5)] (fun(v3_1,v8_2)=>([(3,Li aF v3_1),(8,I64 v8_2)],[])) (fun(v3_3,v8_4,v9_5)=>(.e 0,[(3,Li aF v3_3),(8,I64 v8_4),(9,Bo v9_5)],[])) rfl (fun st _ h=> ?_) (fun q h=> ?_)
 obtain⟨v3_1,v8_2⟩:=st
 unfold eD at h
 refine cRs<|xLt rfl<|oNl<|cSq<|cIf h rfl (fun q6 h=> ?_) (fun q6 h=> ?_)
 refine cSk<|cSq<|cBk<|cRs<|xIx h aR rfl (fun e10_7 h=> ?_)
 refine xLd rfl<|xAz [.str [], .int .i64 0, .sl ([].map aH), .sl ([].map aE), .bool false, .sl ([].map aH), .sl ([].map aE)] rfl<|xSt rfl<|oRs<|xFd rfl<|xLd rfl<|xC0 h (qR ·) rfl (fun c14_8 h=> ?_)
 refine xFd rfl<|xLd rfl<|xC0 h (qR ·) rfl (fun c17_9 h=> ?_)
 refine xFd rfl<|xSt rfl<|xFd rfl<|xSt rfl<|oNl<|cRg<|xMv rfl<|xLd rfl<|Dk (L:=([aC.mk e10_7.f0 e10_7.f1 c14_8.1 c14_8.2 e10_7.f4 c17_9.1 c17_9.2]:List aC)) (f:=aF) rfl rfl rfl rfl rfl rfl rfl<|wAp (f:=aF) h rfl rfl rfl rfl rfl rfl rfl rfl rfl (fun _=>rfl) rfl (fun v23_10 h=> ?_)
 exact xAs rfl<|oNl<|cRg<|cM rfl<|xMv rfl<|oNl<|eL h rfl
 exact cEx<|eX h rfl
 obtain⟨v3_3,v8_4,v9_5⟩:=q
 refine cRs<|xMv rfl<|xAs rfl<|oNl<|cRt ?_
 cases h
 exact eR rfl rfl rfl rfl
abbrev Df(p:Int→Int→Int→Option (Bool)):Prop:= ∀ {t0_0 t1_0 t2_0:Int} {r:Bool},p t0_0 t1_0 t2_0=some r→Big Try.prog τ An (.fn 130 [.one (.c (.int .i64 t0_0)), .one (.c (.int .i64 t1_0)), .one (.c (.int .i64 t2_0))] [] (.one (.c (.bool r))) none [] none)
def aQ(n:Nat)(t0_0:Int)(t1_0:Int)(t2_0:Int):Option (Bool):=
  (bif decide (t1_0≤t0_0)then some (decide (t0_0≤t2_0))else some false).bind fun v6_1=>some v6_1
theorem aU{n:Nat}:Df (aQ n):=by
 intro t0_0 t1_0 t2_0 r h
 unfold aQ at h
 refine bF Try.func130 rfl rfl<|cRs<|xAs rfl<|oRs<|oJn h [(6,14)] [] (fun v6_1=>(.n,[(6,Bo v6_1)],[])) (fun _ h=> ?_) (fun v6_1 h=> ?_)
 refine xMv rfl<|xMv rfl<|xGe rfl<|xMv rfl<|oIf 10 h rfl (fun q2 h=> ?_) (fun q2 h=> ?_)
 exact xMv rfl<|xMv rfl<|xLe rfl<|xPk rfl<|xAs rfl<|oNl<|eJ h rfl
 exact wSk rfl<|wSk rfl<|wSk rfl<|xPk rfl<|xAs rfl<|oNl<|eJ h rfl
 refine cRt ?_
 cases h
 exact eR rfl rfl rfl rfl
abbrev Dd(p:Int→Option (Bool)):Prop:= ∀ {t0_0:Int} {r:Bool},p t0_0=some r→Big Try.prog τ An (.fn 237 [.one (.c (.int .u8 t0_0))] [] (.one (.c (.bool r))) none [] none)
def fH(n:Nat)(t0_0:Int):Option (Bool):=
  (bif decide ((97:Int)≤t0_0)then some (decide (t0_0≤(122:Int)))else some false).bind fun v2_1=>some v2_1
theorem rR{n:Nat}:Dd (fH n):=by
 intro t0_0 r h
 unfold fH at h
 refine bF Try.func237 rfl rfl<|cRs<|xAs rfl<|oRs<|oJn h [(2,8)] [] (fun v2_1=>(.n,[(2,Bo v2_1)],[])) (fun _ h=> ?_) (fun v2_1 h=> ?_)
 refine xMv rfl<|xGe rfl<|xMv rfl<|oIf 5 h rfl (fun q2 h=> ?_) (fun q2 h=> ?_)
 exact xMv rfl<|xLe rfl<|xPk rfl<|xAs rfl<|oNl<|eJ h rfl
 exact wSk rfl<|wSk rfl<|xPk rfl<|xAs rfl<|oNl<|eJ h rfl
 refine cRt ?_
 cases h
 exact eR rfl rfl rfl rfl
abbrev CY(p:Int→Option (Bool)):Prop:= ∀ {t0_0:Int} {r:Bool},p t0_0=some r→Big Try.prog τ An (.fn 238 [.one (.c (.int .u8 t0_0))] [] (.one (.c (.bool r))) none [] none)
def dY(n:Nat)(t0_0:Int):Option (Bool):=
  (bif decide ((48:Int)≤t0_0)then some (decide (t0_0≤(57:Int)))else some false).bind fun v2_1=>some v2_1
theorem qQ{n:Nat}:CY (dY n):=by
 intro t0_0 r h
 unfold dY at h
 refine bF Try.func238 rfl rfl<|cRs<|xAs rfl<|oRs<|oJn h [(2,8)] [] (fun v2_1=>(.n,[(2,Bo v2_1)],[])) (fun _ h=> ?_) (fun v2_1 h=> ?_)
 refine xMv rfl<|xGe rfl<|xMv rfl<|oIf 5 h rfl (fun q2 h=> ?_) (fun q2 h=> ?_)
 exact xMv rfl<|xLe rfl<|xPk rfl<|xAs rfl<|oNl<|eJ h rfl
 exact wSk rfl<|wSk rfl<|xPk rfl<|xAs rfl<|oNl<|eJ h rfl
 refine cRt ?_
 cases h
 exact eR rfl rfl rfl rfl
abbrev Fc(p:(List UInt8)→Option (Bool)):Prop:= ∀ {t0_0:List UInt8} {r:Bool},p t0_0=some r→Big Try.prog τ An (.fn 159 [.one (.c (.str t0_0))] [] (.one (.c (.bool r))) none [] none)
def kY(n:Nat)(t0_0:List UInt8):(Int)→Option ((Int)⊕((Bool)⊕(Int×Bool)))
  | v3_1=>bif decide (v3_1<(t0_0.length:Int))then((ixs t0_0 v3_1).bind fun e12_7=>(fH n e12_7).bind fun c13_8=>bif !c13_8 then bif decide (v3_1=(0:Int))then some true else(ixs t0_0 v3_1).bind fun e21_11=>(dY n e21_11).bind fun c22_12=>bif !c22_12 then(ixs t0_0 v3_1).bind fun e27_14=>some (!decide (e27_14=(95:Int)))else some false else some false).bind fun v31_6=>bif v31_6 then some (.inr (.inl false))else some (.inl (IntKind.wrap .i64 (v3_1+(1:Int))))else some (.inr (.inr (v3_1,false)))
def gN(n:Nat)(t0_0:List UInt8):Option (Bool):=
  (loopN (kY n t0_0) n (0:Int)).bind fun q=>(match q with | .inl v2_2=>some v2_2 | .inr (v3_3,v7_4)=>(aQ n (t0_0.length:Int) (1:Int) (20:Int)).bind fun c34_16=>some c34_16)
theorem oJ{n:Nat}:Fc (gN n):=by
 intro t0_0 r h
 unfold gN at h
 refine bF Try.func159 rfl rfl<|cRs<|xAs rfl<|oNl<|cSq<|cRs<|xAs rfl<|oNl<|cLp h [(2,31)] [] (fun v3_1=>([(3,I64 v3_1)],[])) (fun q=>match q with | .inl v2_2=>(.r,[(2,Bo v2_2)],[]) | .inr (v3_3,v7_4)=>(.e 0,[(3,I64 v3_3),(7,Bo v7_4)],[])) rfl (fun v3_1 _ h=> ?_) (fun q h=> ?_)
 unfold kY at h
 refine cSq<|cRs<|xMv rfl<|xMv rfl<|xLs rfl<|xLt rfl<|oNl<|cIf h rfl (fun q5 h=> ?_) (fun q5 h=> ?_)
 refine cSk<|cSq<|cBk<|cRs<|oJn h [(10,31)] [] (fun v31_6=>(.n,[(31,Bo v31_6)],[])) (fun _ h=> ?_) (fun v31_6 h=> ?_)
 refine xMv rfl<|xMv rfl<|Oo h rfl rfl rfl rfl rfl (fun e12_7 h=> ?_)
 refine xC0 h (rR ·) rfl (fun c13_8 h=> ?_)
 refine gJ rfl<|xMv rfl<|oIf 15 h rfl (fun q9 h=> ?_) (fun q9 h=> ?_)
 refine xMv rfl<|xEq rfl<|xMv rfl<|oIf 18 h rfl (fun q10 h=> ?_) (fun q10 h=> ?_)
 exact wSk rfl<|wSk rfl<|wSk rfl<|wSk rfl<|wSk rfl<|wSk rfl<|wSk rfl<|wSk rfl<|wSk rfl<|wSk rfl<|wSk rfl<|xPk rfl<|xPk rfl<|oNl<|eJ h rfl
 refine xMv rfl<|xMv rfl<|Oo h rfl rfl rfl rfl rfl (fun e21_11 h=> ?_)
 refine xC0 h (qQ ·) rfl (fun c22_12 h=> ?_)
 refine gJ rfl<|xMv rfl<|oIf 24 h rfl (fun q13 h=> ?_) (fun q13 h=> ?_)
 refine xMv rfl<|xMv rfl<|Oo h rfl rfl rfl rfl rfl (fun e27_14 h=> ?_)
 exact xNe rfl<|xPk rfl<|xPk rfl<|xPk rfl<|oNl<|eJ h rfl
 exact wSk rfl<|wSk rfl<|wSk rfl<|wSk rfl<|xPk rfl<|xPk rfl<|xPk rfl<|oNl<|eJ h rfl
 refine wSk rfl<|wSk rfl<|wSk rfl<|wSk rfl<|wSk rfl<|wSk rfl<|wSk rfl<|wSk rfl<|wSk rfl<|wSk rfl<|wSk rfl<|wSk rfl<|wSk rfl<|wSk rfl ?_
 exact wSk rfl<|xPk rfl<|oNl<|eJ h rfl
 refine cIf h rfl (fun q15 h=> ?_) (fun q15 h=> ?_)
 exact cRs<|xAs rfl<|oNl<|cRt<|eXr h rfl
 exact cSk<|cRg<|xMv rfl<|cM rfl<|xAs rfl<|oNl<|eL h rfl
 exact cEx<|eX h rfl
 rcases q with v2_2 | ⟨v3_3,v7_4⟩
 cases h
 exact eR rfl rfl rfl rfl
 refine cRs<|xMv rfl<|xLs rfl<|xC0 h (aU ·) rfl (fun c34_16 h=> ?_)
 refine xAs rfl<|oNl<|cRt ?_
 cases h
 exact eR rfl rfl rfl rfl
abbrev Fa(p:(List UInt8)→Int→Int→(List aD)→(List UInt8)→Option (Bool×(List UInt8))):Prop:= ∀ {t0_0:List UInt8} {t0_1 t0_2:Int} {t0_3:List aD} {o0_0:List UInt8} {r:Bool×(List UInt8)},p t0_0 t0_1 t0_2 t0_3 o0_0=some r→Big Try.prog τ An (.fn 213 [.one (.ag [.str t0_0, .int .i64 t0_1, .int .i64 t0_2, .sl (t0_3.map aK)]), .one (.ptr 1000000 0)] [[.str o0_0]] (.one (.c (.bool r.1))) none [[.str r.2]] none)
def nT(n:Nat)(t0_0:List UInt8)(t0_1:Int)(t0_2:Int)(t0_3:List aD)(o0_0:List UInt8):Option (Bool×(List UInt8)):=
  some ((decide (t0_0=o0_0)),o0_0)
theorem CK{n:Nat}:Fa (nT n):=by
 intro t0_0 t0_1 t0_2 t0_3 o0_0 r h
 unfold nT at h
 refine bF Try.func213 rfl rfl<|cRs<|xBx rfl<|xAs rfl<|oRs<|xFd rfl<|xLd rfl<|xLd rfl<|xEs rfl<|xAs rfl<|oNl<|cRt ?_
 cases h
 exact eR rfl rfl rfl rfl
abbrev rG(p:(List aB)→(List UInt8)→Option (Int×(List UInt8))):Prop:= ∀ {t0_0:List aB} {o0_0:List UInt8} {r:Int×(List UInt8)},p t0_0 o0_0=some r→Big Try.prog τ An (.fn 212 [.one (.c (.sl (t0_0.map aH))), .one (.fn 213 [(1000000,0)])] [[.str o0_0]] (.one (.c (.int .i64 r.1))) none [[.str r.2]] none)
def bN(n:Nat)(t0_0:List aB):(Int×(List UInt8))→Option ((Int×(List UInt8))⊕((Int×(List UInt8))⊕(Int×Bool×(List UInt8))))
  | (v8_1,w1000000_2)=>bif decide (v8_1<(t0_0.length:Int))then(ix t0_0 v8_1).bind fun e14_9=>(nT n e14_9.f0 e14_9.f1 e14_9.f2 e14_9.f3 w1000000_2).bind fun c16_10=>bif c16_10.1 then some (.inr (.inl (v8_1,c16_10.2)))else some (.inl ((IntKind.wrap .i64 (v8_1+(1:Int))),c16_10.2))else some (.inr (.inr (v8_1,false,w1000000_2)))
def dT(n:Nat)(t0_0:List aB)(o0_0:List UInt8):Option (Int×(List UInt8)):=
  (loopN (bN n t0_0) n ((0:Int),o0_0)).bind fun q=>(match q with | .inl (v4_3,w1000000_4)=>some (v4_3,w1000000_4) | .inr (v8_5,v9_6,w1000000_7)=>some (((-1):Int),w1000000_7))
theorem pX{n:Nat}:rG (dT n):=by
 intro t0_0 o0_0 r h
 unfold dT at h
 refine bF Try.func212 rfl rfl<|cRs<|xAs rfl<|oNl<|cSq<|cRs<|xMv rfl<|xLn rfl<|xMv rfl<|oNl<|cLp h [(4,5),(8,18)] [(1000000,1000000)] (fun(v8_1,w1000000_2)=>([(8,I64 v8_1)],[(1000000,[.str w1000000_2])])) (fun q=>match q with | .inl (v4_3,w1000000_4)=>(.r,[(4,I64 v4_3)],[(1000000,[.str w1000000_4])]) | .inr (v8_5,v9_6,w1000000_7)=>(.e 0,[(8,I64 v8_5),(9,Bo v9_6)],[(1000000,[.str w1000000_7])])) rfl (fun st _ h=> ?_) (fun q h=> ?_)
 obtain⟨v8_1,w1000000_2⟩:=st
 unfold bN at h
 refine cRs<|xLt rfl<|oNl<|cSq<|cIf h rfl (fun q8 h=> ?_) (fun q8 h=> ?_)
 refine cSk<|cSq<|cBk<|cRs<|xMv rfl<|xAs rfl<|oRs<|xMv rfl<|xMv rfl<|xMv rfl<|xIx h bL rfl (fun e14_9 h=> ?_)
 refine xLd rfl<|xC1 h (CK ·) rfl (fun c16_10 h=> ?_)
 refine oNl<|cIf h rfl (fun q11 h=> ?_) (fun q11 h=> ?_)
 exact cRs<|xMv rfl<|xAs rfl<|oNl<|cRt<|eXr h rfl
 exact cSk<|cRg<|cM rfl<|xMv rfl<|oNl<|eL h rfl
 exact cEx<|eX h rfl
 rcases q with⟨v4_3,w1000000_4⟩ | ⟨v8_5,v9_6,w1000000_7⟩
 cases h
 exact eR rfl rfl rfl rfl
 refine cRs<|xAs rfl<|oNl<|cRt ?_
 cases h
 exact eR rfl rfl rfl rfl
abbrev Ic(p:(List UInt8)→(List aB)→(List aA)→Option (Int×(List aB)×(List aA))):Prop:= ∀ {t1_0:List UInt8} {o0_0:List aB} {o0_1:List aA} {r:Int×(List aB)×(List aA)},p t1_0 o0_0 o0_1=some r→Big Try.prog τ An (.fn 128 [.one (.ptr 1000000 0), .one (.c (.str t1_0))] [[.sl (o0_0.map aH), .sl (o0_1.map aE)]] (.one (.c (.int .i64 r.1))) none [[.sl (r.2.1.map aH), .sl (r.2.2.map aE)]] none)
def mI(n:Nat)(t1_0:List UInt8)(o0_0:List aB)(o0_1:List aA):Option (Int×(List aB)×(List aA)):=
  (dT n o0_0 t1_0).bind fun c10_1=>some (c10_1.1,o0_0,o0_1)
theorem wP{n:Nat}:Ic (mI n):=by
 intro t1_0 o0_0 o0_1 r h
 unfold mI at h
 refine bF Try.func128 rfl rfl<|cRs<|xBx rfl<|xAs rfl<|oRs<|xMv rfl<|xNc rfl<|xFd rfl<|xLd rfl<|wFn rfl rfl rfl<|xC1 h (pX ·) rfl (fun c10_1 h=> ?_)
 refine xAs rfl<|oNl<|cRt ?_
 cases h
 exact eR rfl rfl rfl rfl
abbrev Da(p:(List UInt8)→Option (Bool)):Prop:= ∀ {t0_0:List UInt8} {r:Bool},p t0_0=some r→Big Try.prog τ An (.fn 138 [.one (.c (.str t0_0))] [] (.one (.c (.bool r))) none [] none)
def dC(n:Nat)(t0_0:List UInt8):Option (Bool):=
  ((gN n t0_0).bind fun c4_2=>bif c4_2 then bif !decide (t0_0=([99,97,115,101]:List UInt8))then bif !decide (t0_0=([111,102]:List UInt8))then some (!decide (t0_0=([101,110,100]:List UInt8)))else some false else some false else some false).bind fun v2_1=>some v2_1
theorem kZ{n:Nat}:Da (dC n):=by
 intro t0_0 r h
 unfold dC at h
 refine bF Try.func138 rfl rfl<|cRs<|xAs rfl<|oRs<|oJn h [(2,16)] [] (fun v2_1=>(.n,[(2,Bo v2_1)],[])) (fun _ h=> ?_) (fun v2_1 h=> ?_)
 refine xMv rfl<|xC0 h (oJ ·) rfl (fun c4_2 h=> ?_)
 refine xMv rfl<|oIf 5 h rfl (fun q3 h=> ?_) (fun q3 h=> ?_)
 refine xMv rfl<|xNs rfl<|xPk rfl<|xMv rfl<|oIf 9 h rfl (fun q4 h=> ?_) (fun q4 h=> ?_)
 refine xMv rfl<|xNs rfl<|xPk rfl<|xMv rfl<|oIf 13 h rfl (fun q5 h=> ?_) (fun q5 h=> ?_)
 exact xMv rfl<|xNs rfl<|xPk rfl<|xAs rfl<|oNl<|eJ h rfl
 exact wSk rfl<|wSk rfl<|xPk rfl<|xAs rfl<|oNl<|eJ h rfl
 exact wSk rfl<|wSk rfl<|xPk rfl<|xMv rfl<|wSk rfl<|wSk rfl<|xPk rfl<|xAs rfl<|oNl<|eJ h rfl
 exact wSk rfl<|wSk rfl<|xPk rfl<|xMv rfl<|wSk rfl<|wSk rfl<|xPk rfl<|xMv rfl<|wSk rfl<|wSk rfl<|xPk rfl<|xAs rfl<|oNl<|eJ h rfl
 refine cRt ?_
 cases h
 exact eR rfl rfl rfl rfl
abbrev vH(p:(List Int)→Int→Option (Int)):Prop:= ∀ {t0_0:List Int} {t1_0:Int} {r:Int},p t0_0 t1_0=some r→Big Try.prog τ An (.fn 274 [.one (.c (.sl (t0_0.map aX))), .one (.c (.int .i64 t1_0))] [] (.one (.c (.int .i64 r))) none [] none)
def cQ(n:Nat)(t0_0:List Int)(t1_0:Int):(Int)→Option ((Int)⊕((Int)⊕(Int×Bool)))
  | v8_1=>bif decide (v8_1<(t0_0.length:Int))then(ix t0_0 v8_1).bind fun e14_6=>bif decide (t1_0=e14_6)then some (.inr (.inl v8_1))else some (.inl (IntKind.wrap .i64 (v8_1+(1:Int))))else some (.inr (.inr (v8_1,false)))
def eB(n:Nat)(t0_0:List Int)(t1_0:Int):Option (Int):=
  (loopN (cQ n t0_0 t1_0) n (0:Int)).bind fun q=>(match q with | .inl v4_2=>some v4_2 | .inr (v8_3,v9_4)=>some ((-1):Int))
theorem tJ{n:Nat}:vH (eB n):=by
 intro t0_0 t1_0 r h
 unfold eB at h
 refine bF Try.func274 rfl rfl<|cRs<|xAs rfl<|oNl<|cSq<|cRs<|xMv rfl<|xLn rfl<|xMv rfl<|oNl<|cLp h [(4,5),(8,18)] [] (fun v8_1=>([(8,I64 v8_1)],[])) (fun q=>match q with | .inl v4_2=>(.r,[(4,I64 v4_2)],[]) | .inr (v8_3,v9_4)=>(.e 0,[(8,I64 v8_3),(9,Bo v9_4)],[])) rfl (fun v8_1 _ h=> ?_) (fun q h=> ?_)
 unfold cQ at h
 refine cRs<|xLt rfl<|oNl<|cSq<|cIf h rfl (fun q5 h=> ?_) (fun q5 h=> ?_)
 refine cSk<|cSq<|cBk<|cRs<|xMv rfl<|xAs rfl<|oRs<|xMv rfl<|xMv rfl<|xMv rfl<|xIx h iN rfl (fun e14_6 h=> ?_)
 refine xLd rfl<|xEq rfl<|oNl<|cIf h rfl (fun q7 h=> ?_) (fun q7 h=> ?_)
 exact cRs<|xMv rfl<|xAs rfl<|oNl<|cRt<|eXr h rfl
 exact cSk<|cRg<|cM rfl<|xMv rfl<|oNl<|eL h rfl
 exact cEx<|eX h rfl
 rcases q with v4_2 | ⟨v8_3,v9_4⟩
 cases h
 exact eR rfl rfl rfl rfl
 refine cRs<|xAs rfl<|oNl<|cRt ?_
 cases h
 exact eR rfl rfl rfl rfl
abbrev rX(p:(List Int)→Int→Option (Bool)):Prop:= ∀ {t0_0:List Int} {t1_0:Int} {r:Bool},p t0_0 t1_0=some r→Big Try.prog τ An (.fn 216 [.one (.c (.sl (t0_0.map aX))), .one (.c (.int .i64 t1_0))] [] (.one (.c (.bool r))) none [] none)
def cR(n:Nat)(t0_0:List Int)(t1_0:Int):Option (Bool):=
  (eB n t0_0 t1_0).bind fun c7_1=>some (decide ((0:Int)≤c7_1))
theorem qT{n:Nat}:rX (cR n):=by
 intro t0_0 t1_0 r h
 unfold cR at h
 refine bF Try.func216 rfl rfl<|cRs<|xAs rfl<|oRs<|xMv rfl<|xMv rfl<|xC0 h (tJ ·) rfl (fun c7_1 h=> ?_)
 refine xGe rfl<|xAs rfl<|oNl<|cRt ?_
 cases h
 exact eR rfl rfl rfl rfl
abbrev De(p:Int→Option (Bool)):Prop:= ∀ {t0_0:Int} {r:Bool},p t0_0=some r→Big Try.prog τ An (.fn 299 [.one (.c (.int .u8 t0_0))] [] (.one (.c (.bool r))) none [] none)
def iC(n:Nat)(t0_0:Int):Option (Bool):=
  (bif decide ((65:Int)≤t0_0)then bif decide (t0_0≤(90:Int))then some true else some (decide (t0_0=(95:Int)))else some (decide (t0_0=(95:Int)))).bind fun v2_1=>some v2_1
theorem rS{n:Nat}:De (iC n):=by
 intro t0_0 r h
 unfold iC at h
 refine bF Try.func299 rfl rfl<|cRs<|xAs rfl<|oRs<|oJn h [(2,12)] [] (fun v2_1=>(.n,[(2,Bo v2_1)],[])) (fun _ h=> ?_) (fun v2_1 h=> ?_)
 refine xMv rfl<|xGe rfl<|xMv rfl<|oIf 5 h rfl (fun q2 h=> ?_) (fun q2 h=> ?_)
 refine xMv rfl<|xLe rfl<|xPk rfl<|xMv rfl<|oIf 9 h rfl (fun q3 h=> ?_) (fun q3 h=> ?_)
 exact wSk rfl<|wSk rfl<|xPk rfl<|xAs rfl<|oNl<|eJ h rfl
 exact xMv rfl<|xEq rfl<|xPk rfl<|xAs rfl<|oNl<|eJ h rfl
 exact wSk rfl<|wSk rfl<|xPk rfl<|xMv rfl<|xMv rfl<|xEq rfl<|xPk rfl<|xAs rfl<|oNl<|eJ h rfl
 refine cRt ?_
 cases h
 exact eR rfl rfl rfl rfl
abbrev zD(p:Int→Option (Bool)):Prop:= ∀ {t0_0:Int} {r:Bool},p t0_0=some r→Big Try.prog τ An (.fn 298 [.one (.c (.int .u8 t0_0))] [] (.one (.c (.bool r))) none [] none)
def gC(n:Nat)(t0_0:Int):Option (Bool):=
  ((fH n t0_0).bind fun c4_2=>bif c4_2 then some true else(iC n t0_0).bind fun c7_4=>bif c7_4 then some true else(dY n t0_0).bind fun c11_6=>some c11_6).bind fun v2_1=>some v2_1
theorem vG{n:Nat}:zD (gC n):=by
 intro t0_0 r h
 unfold gC at h
 refine bF Try.func298 rfl rfl<|cRs<|xAs rfl<|oRs<|oJn h [(2,12)] [] (fun v2_1=>(.n,[(2,Bo v2_1)],[])) (fun _ h=> ?_) (fun v2_1 h=> ?_)
 refine xMv rfl<|xC0 h (rR ·) rfl (fun c4_2 h=> ?_)
 refine xMv rfl<|oIf 5 h rfl (fun q3 h=> ?_) (fun q3 h=> ?_)
 exact wSk rfl<|wSk rfl<|xPk rfl<|xMv rfl<|wSk rfl<|wSk rfl<|xPk rfl<|xAs rfl<|oNl<|eJ h rfl
 refine xMv rfl<|xC0 h (rS ·) rfl (fun c7_4 h=> ?_)
 refine xPk rfl<|xMv rfl<|oIf 9 h rfl (fun q5 h=> ?_) (fun q5 h=> ?_)
 exact wSk rfl<|wSk rfl<|xPk rfl<|xAs rfl<|oNl<|eJ h rfl
 refine xMv rfl<|xC0 h (qQ ·) rfl (fun c11_6 h=> ?_)
 exact xPk rfl<|xAs rfl<|oNl<|eJ h rfl
 refine cRt ?_
 cases h
 exact eR rfl rfl rfl rfl
abbrev HJ(p:(List UInt8)→Option (Bool)):Prop:= ∀ {t0_0:List UInt8} {r:Bool},p t0_0=some r→Big Try.prog τ An (.fn 268 [.one (.c (.str t0_0))] [] (.one (.c (.bool r))) none [] none)
def lV(n:Nat)(t0_0:List UInt8):(Int)→Option ((Int)⊕((Bool)⊕(Int×Bool)))
  | v3_1=>bif decide (v3_1<(t0_0.length:Int))then(ixs t0_0 v3_1).bind fun e12_6=>(gC n e12_6).bind fun c13_7=>bif !c13_7 then some (.inr (.inl false))else some (.inl (IntKind.wrap .i64 (v3_1+(1:Int))))else some (.inr (.inr (v3_1,false)))
def nC(n:Nat)(t0_0:List UInt8):Option (Bool):=
  (loopN (lV n t0_0) n (0:Int)).bind fun q=>(match q with | .inl v2_2=>some v2_2 | .inr (v3_3,v7_4)=>((aQ n (t0_0.length:Int) (1:Int) (20:Int)).bind fun c17_10=>bif c17_10 then(ixs t0_0 (0:Int)).bind fun e20_12=>(iC n e20_12).bind fun c21_13=>some c21_13 else some false).bind fun v2_9=>some v2_9)
theorem DM{n:Nat}:HJ (nC n):=by
 intro t0_0 r h
 unfold nC at h
 refine bF Try.func268 rfl rfl<|cRs<|xAs rfl<|oNl<|cSq<|cRs<|xAs rfl<|oNl<|cLp h [(2,14)] [] (fun v3_1=>([(3,I64 v3_1)],[])) (fun q=>match q with | .inl v2_2=>(.r,[(2,Bo v2_2)],[]) | .inr (v3_3,v7_4)=>(.e 0,[(3,I64 v3_3),(7,Bo v7_4)],[])) rfl (fun v3_1 _ h=> ?_) (fun q h=> ?_)
 unfold lV at h
 refine cSq<|cRs<|xMv rfl<|xMv rfl<|xLs rfl<|xLt rfl<|oNl<|cIf h rfl (fun q5 h=> ?_) (fun q5 h=> ?_)
 refine cSk<|cSq<|cBk<|cRs<|xMv rfl<|xMv rfl<|Oo h rfl rfl rfl rfl rfl (fun e12_6 h=> ?_)
 refine xC0 h (vG ·) rfl (fun c13_7 h=> ?_)
 refine gJ rfl<|oNl<|cIf h rfl (fun q8 h=> ?_) (fun q8 h=> ?_)
 exact cRs<|xAs rfl<|oNl<|cRt<|eXr h rfl
 exact cSk<|cRg<|xMv rfl<|cM rfl<|xAs rfl<|oNl<|eL h rfl
 exact cEx<|eX h rfl
 rcases q with v2_2 | ⟨v3_3,v7_4⟩
 cases h
 exact eR rfl rfl rfl rfl
 refine cRs<|oJn h [(2,2),(15,22)] [] (fun v2_9=>(.n,[(2,Bo v2_9)],[])) (fun _ h=> ?_) (fun v2_9 h=> ?_)
 refine xMv rfl<|xLs rfl<|xC0 h (aU ·) rfl (fun c17_10 h=> ?_)
 refine xMv rfl<|oIf 18 h rfl (fun q11 h=> ?_) (fun q11 h=> ?_)
 refine xMv rfl<|Oo h rfl rfl rfl rfl rfl (fun e20_12 h=> ?_)
 refine xC0 h (rS ·) rfl (fun c21_13 h=> ?_)
 exact xPk rfl<|xAs rfl<|oNl<|eJ h rfl
 exact wSk rfl<|wSk rfl<|wSk rfl<|xPk rfl<|xAs rfl<|oNl<|eJ h rfl
 refine cRt ?_
 cases h
 exact eR rfl rfl rfl rfl
abbrev Ia(p:(List UInt8)→Option (Bool)):Prop:= ∀ {t0_0:List UInt8} {r:Bool},p t0_0=some r→Big Try.prog τ An (.fn 271 [.one (.c (.str t0_0))] [] (.one (.c (.bool r))) none [] none)
def mH(n:Nat)(t0_0:List UInt8):Option (Bool):=
  bif decide (t0_0=([43]:List UInt8))then some true else bif decide (t0_0=([45]:List UInt8))then some true else bif decide (t0_0=([42]:List UInt8))then some true else bif decide (t0_0=([61,61]:List UInt8))then some true else bif decide (t0_0=([60]:List UInt8))then some true else some false
theorem wN{n:Nat}:Ia (mH n):=by
 intro t0_0 r h
 unfold mH at h
 refine bF Try.func271 rfl rfl<|cRs<|xAs rfl<|oNl<|cSq<|cRs<|xMv rfl<|oNl<|cBk<|cSq<|cRs<|xEs rfl<|xAs rfl<|oNl<|cIf h rfl (fun q1 h=> ?_) (fun q1 h=> ?_)
 refine cSk<|cT rfl<|cRs<|xAs rfl<|oNl<|cRt ?_
 cases h
 exact eR rfl rfl rfl rfl
 refine cRs<|xEs rfl<|xAs rfl<|oNl<|cIf h rfl (fun q2 h=> ?_) (fun q2 h=> ?_)
 refine cSk<|cT rfl<|cRs<|xAs rfl<|oNl<|cRt ?_
 cases h
 exact eR rfl rfl rfl rfl
 refine cRs<|xEs rfl<|xAs rfl<|oNl<|cIf h rfl (fun q3 h=> ?_) (fun q3 h=> ?_)
 refine cSk<|cT rfl<|cRs<|xAs rfl<|oNl<|cRt ?_
 cases h
 exact eR rfl rfl rfl rfl
 refine cRs<|xEs rfl<|xAs rfl<|oNl<|cIf h rfl (fun q4 h=> ?_) (fun q4 h=> ?_)
 refine cSk<|cT rfl<|cRs<|xAs rfl<|oNl<|cRt ?_
 cases h
 exact eR rfl rfl rfl rfl
 refine cRg<|xEs rfl<|xAs rfl<|oNl<|cIf h rfl (fun q5 h=> ?_) (fun q5 h=> ?_)
 refine cRs<|xAs rfl<|oNl<|cRt ?_
 cases h
 exact eR rfl rfl rfl rfl
 refine cSk<|cRs<|xAs rfl<|oNl<|cRt ?_
 cases h
 exact eR rfl rfl rfl rfl
abbrev Dc(p:Int→Int→(List UInt8)→Int→Option (Bool)):Prop:= ∀ {t0_0 t1_0:Int} {t2_0:List UInt8} {t3_0:Int} {r:Bool},p t0_0 t1_0 t2_0 t3_0=some r→Big Try.prog τ An (.fn 217 [.one (.c (.int .i64 t0_0)), .one (.c (.int .i64 t1_0)), .one (.c (.str t2_0)), .one (.c (.int .i64 t3_0))] [] (.one (.c (.bool r))) none [] none)
def kG(n:Nat)(t0_0:Int)(t1_0:Int)(t2_0:List UInt8)(t3_0:Int):Option (Bool):=
  bif decide (t0_0=(1:Int))then((aQ n t1_0 (0:Int) (1000000000000:Int)).bind fun c13_3=>bif c13_3 then bif decide (t2_0=([]:List UInt8))then some (decide (t3_0=(0:Int)))else some false else some false).bind fun v8_2=>some v8_2 else bif decide (t0_0=(2:Int))then(bif decide (t1_0=(0:Int))then(dC n t2_0).bind fun c28_9=>bif c28_9 then some (decide (t3_0=(0:Int)))else some false else some false).bind fun v8_7=>some v8_7 else bif decide (t0_0=(3:Int))then(bif decide (t1_0=(0:Int))then(nC n t2_0).bind fun c40_14=>bif c40_14 then some (decide (t3_0=(0:Int)))else some false else some false).bind fun v8_12=>some v8_12 else bif decide (t0_0=(4:Int))then(bif decide (t1_0=(0:Int))then bif decide (t2_0=([]:List UInt8))then some (decide (t3_0≤(20:Int)))else some false else some false).bind fun v8_17=>some v8_17 else bif decide (t0_0=(5:Int))then(bif decide (t1_0=(0:Int))then bif decide (t2_0=([]:List UInt8))then some (decide (t3_0≤(20:Int)))else some false else some false).bind fun v8_21=>some v8_21 else bif decide (t0_0=(6:Int))then(bif decide (t1_0=(0:Int))then bif decide (t2_0=([]:List UInt8))then(aQ n t3_0 (2:Int) (6:Int)).bind fun c69_28=>some c69_28 else some false else some false).bind fun v8_25=>some v8_25 else bif decide (t0_0=(7:Int))then(bif decide (t1_0=(0:Int))then(mH n t2_0).bind fun c77_32=>bif c77_32 then some (decide (t3_0=(2:Int)))else some false else some false).bind fun v8_30=>some v8_30 else bif decide (t0_0=(8:Int))then(bif decide (t1_0=(0:Int))then(dC n t2_0).bind fun c89_37=>bif c89_37 then some (decide (t3_0≤(4:Int)))else some false else some false).bind fun v8_35=>some v8_35 else bif decide (t0_0=(9:Int))then(bif decide (t1_0=(0:Int))then bif decide (t2_0=([]:List UInt8))then some (decide (t3_0=(1:Int)))else some false else some false).bind fun v8_40=>some v8_40 else some false
theorem AX{n:Nat}:Dc (kG n):=by
 intro t0_0 t1_0 t2_0 t3_0 r h
 unfold kG at h
 refine bF Try.func217 rfl rfl<|cRs<|xAs rfl<|oNl<|cSq<|cRs<|xMv rfl<|oNl<|cBk<|cRs<|xEq rfl<|xAs rfl<|oNl<|cIf h rfl (fun q1 h=> ?_) (fun q1 h=> ?_)
 refine cRs<|oJn h [(8,8),(12,21)] [] (fun v8_2=>(.n,[(8,Bo v8_2)],[])) (fun _ h=> ?_) (fun v8_2 h=> ?_)
 refine xMv rfl<|xC0 h (aU ·) rfl (fun c13_3 h=> ?_)
 refine xMv rfl<|oIf 14 h rfl (fun q4 h=> ?_) (fun q4 h=> ?_)
 refine xMv rfl<|xEs rfl<|xPk rfl<|xMv rfl<|oIf 18 h rfl (fun q5 h=> ?_) (fun q5 h=> ?_)
 exact xMv rfl<|xEq rfl<|xPk rfl<|xAs rfl<|oNl<|eJ h rfl
 exact wSk rfl<|wSk rfl<|xPk rfl<|xAs rfl<|oNl<|eJ h rfl
 exact wSk rfl<|wSk rfl<|xPk rfl<|xMv rfl<|wSk rfl<|wSk rfl<|xPk rfl<|xAs rfl<|oNl<|eJ h rfl
 refine cRt ?_
 cases h
 exact eR rfl rfl rfl rfl
 refine cRs<|xEq rfl<|xAs rfl<|oNl<|cIf h rfl (fun q6 h=> ?_) (fun q6 h=> ?_)
 refine cRs<|oJn h [(8,8),(24,33)] [] (fun v8_7=>(.n,[(8,Bo v8_7)],[])) (fun _ h=> ?_) (fun v8_7 h=> ?_)
 refine xMv rfl<|xEq rfl<|xMv rfl<|oIf 26 h rfl (fun q8 h=> ?_) (fun q8 h=> ?_)
 refine xMv rfl<|xC0 h (kZ ·) rfl (fun c28_9 h=> ?_)
 refine xPk rfl<|xMv rfl<|oIf 30 h rfl (fun q10 h=> ?_) (fun q10 h=> ?_)
 exact xMv rfl<|xEq rfl<|xPk rfl<|xAs rfl<|oNl<|eJ h rfl
 exact wSk rfl<|wSk rfl<|xPk rfl<|xAs rfl<|oNl<|eJ h rfl
 exact wSk rfl<|wSk rfl<|xPk rfl<|xMv rfl<|wSk rfl<|wSk rfl<|xPk rfl<|xAs rfl<|oNl<|eJ h rfl
 refine cRt ?_
 cases h
 exact eR rfl rfl rfl rfl
 refine cRs<|xEq rfl<|xAs rfl<|oNl<|cIf h rfl (fun q11 h=> ?_) (fun q11 h=> ?_)
 refine cRs<|oJn h [(8,8),(36,45)] [] (fun v8_12=>(.n,[(8,Bo v8_12)],[])) (fun _ h=> ?_) (fun v8_12 h=> ?_)
 refine xMv rfl<|xEq rfl<|xMv rfl<|oIf 38 h rfl (fun q13 h=> ?_) (fun q13 h=> ?_)
 refine xMv rfl<|xC0 h (DM ·) rfl (fun c40_14 h=> ?_)
 refine xPk rfl<|xMv rfl<|oIf 42 h rfl (fun q15 h=> ?_) (fun q15 h=> ?_)
 exact xMv rfl<|xEq rfl<|xPk rfl<|xAs rfl<|oNl<|eJ h rfl
 exact wSk rfl<|wSk rfl<|xPk rfl<|xAs rfl<|oNl<|eJ h rfl
 exact wSk rfl<|wSk rfl<|xPk rfl<|xMv rfl<|wSk rfl<|wSk rfl<|xPk rfl<|xAs rfl<|oNl<|eJ h rfl
 refine cRt ?_
 cases h
 exact eR rfl rfl rfl rfl
 refine cSq<|cRs<|xEq rfl<|xAs rfl<|oNl<|cIf h rfl (fun q16 h=> ?_) (fun q16 h=> ?_)
 refine cSk<|cT rfl<|cRs<|oJn h [(8,8),(49,58)] [] (fun v8_17=>(.n,[(8,Bo v8_17)],[])) (fun _ h=> ?_) (fun v8_17 h=> ?_)
 refine xMv rfl<|xEq rfl<|xMv rfl<|oIf 51 h rfl (fun q18 h=> ?_) (fun q18 h=> ?_)
 refine xMv rfl<|xEs rfl<|xPk rfl<|xMv rfl<|oIf 55 h rfl (fun q19 h=> ?_) (fun q19 h=> ?_)
 exact xMv rfl<|xLe rfl<|xPk rfl<|xAs rfl<|oNl<|eJ h rfl
 exact wSk rfl<|wSk rfl<|xPk rfl<|xAs rfl<|oNl<|eJ h rfl
 exact wSk rfl<|wSk rfl<|xPk rfl<|xMv rfl<|wSk rfl<|wSk rfl<|xPk rfl<|xAs rfl<|oNl<|eJ h rfl
 refine cRt ?_
 cases h
 exact eR rfl rfl rfl rfl
 refine cRg<|xEq rfl<|xAs rfl<|oNl<|cIf h rfl (fun q20 h=> ?_) (fun q20 h=> ?_)
 refine cRs<|oJn h [(8,8),(49,58)] [] (fun v8_21=>(.n,[(8,Bo v8_21)],[])) (fun _ h=> ?_) (fun v8_21 h=> ?_)
 refine xMv rfl<|xEq rfl<|xMv rfl<|oIf 51 h rfl (fun q22 h=> ?_) (fun q22 h=> ?_)
 refine xMv rfl<|xEs rfl<|xPk rfl<|xMv rfl<|oIf 55 h rfl (fun q23 h=> ?_) (fun q23 h=> ?_)
 exact xMv rfl<|xLe rfl<|xPk rfl<|xAs rfl<|oNl<|eJ h rfl
 exact wSk rfl<|wSk rfl<|xPk rfl<|xAs rfl<|oNl<|eJ h rfl
 exact wSk rfl<|wSk rfl<|xPk rfl<|xMv rfl<|wSk rfl<|wSk rfl<|xPk rfl<|xAs rfl<|oNl<|eJ h rfl
 refine cRt ?_
 cases h
 exact eR rfl rfl rfl rfl
 refine cRs<|xEq rfl<|xAs rfl<|oNl<|cIf h rfl (fun q24 h=> ?_) (fun q24 h=> ?_)
 refine cRs<|oJn h [(8,8),(61,70)] [] (fun v8_25=>(.n,[(8,Bo v8_25)],[])) (fun _ h=> ?_) (fun v8_25 h=> ?_)
 refine xMv rfl<|xEq rfl<|xMv rfl<|oIf 63 h rfl (fun q26 h=> ?_) (fun q26 h=> ?_)
 refine xMv rfl<|xEs rfl<|xPk rfl<|xMv rfl<|oIf 67 h rfl (fun q27 h=> ?_) (fun q27 h=> ?_)
 refine xMv rfl<|xC0 h (aU ·) rfl (fun c69_28 h=> ?_)
 exact xPk rfl<|xAs rfl<|oNl<|eJ h rfl
 exact wSk rfl<|wSk rfl<|xPk rfl<|xAs rfl<|oNl<|eJ h rfl
 exact wSk rfl<|wSk rfl<|xPk rfl<|xMv rfl<|wSk rfl<|wSk rfl<|xPk rfl<|xAs rfl<|oNl<|eJ h rfl
 refine cRt ?_
 cases h
 exact eR rfl rfl rfl rfl
 refine cRs<|xEq rfl<|xAs rfl<|oNl<|cIf h rfl (fun q29 h=> ?_) (fun q29 h=> ?_)
 refine cRs<|oJn h [(8,8),(73,82)] [] (fun v8_30=>(.n,[(8,Bo v8_30)],[])) (fun _ h=> ?_) (fun v8_30 h=> ?_)
 refine xMv rfl<|xEq rfl<|xMv rfl<|oIf 75 h rfl (fun q31 h=> ?_) (fun q31 h=> ?_)
 refine xMv rfl<|xC0 h (wN ·) rfl (fun c77_32 h=> ?_)
 refine xPk rfl<|xMv rfl<|oIf 79 h rfl (fun q33 h=> ?_) (fun q33 h=> ?_)
 exact xMv rfl<|xEq rfl<|xPk rfl<|xAs rfl<|oNl<|eJ h rfl
 exact wSk rfl<|wSk rfl<|xPk rfl<|xAs rfl<|oNl<|eJ h rfl
 exact wSk rfl<|wSk rfl<|xPk rfl<|xMv rfl<|wSk rfl<|wSk rfl<|xPk rfl<|xAs rfl<|oNl<|eJ h rfl
 refine cRt ?_
 cases h
 exact eR rfl rfl rfl rfl
 refine cRs<|xEq rfl<|xAs rfl<|oNl<|cIf h rfl (fun q34 h=> ?_) (fun q34 h=> ?_)
 refine cRs<|oJn h [(8,8),(85,94)] [] (fun v8_35=>(.n,[(8,Bo v8_35)],[])) (fun _ h=> ?_) (fun v8_35 h=> ?_)
 refine xMv rfl<|xEq rfl<|xMv rfl<|oIf 87 h rfl (fun q36 h=> ?_) (fun q36 h=> ?_)
 refine xMv rfl<|xC0 h (kZ ·) rfl (fun c89_37 h=> ?_)
 refine xPk rfl<|xMv rfl<|oIf 91 h rfl (fun q38 h=> ?_) (fun q38 h=> ?_)
 exact xMv rfl<|xLe rfl<|xPk rfl<|xAs rfl<|oNl<|eJ h rfl
 exact wSk rfl<|wSk rfl<|xPk rfl<|xAs rfl<|oNl<|eJ h rfl
 exact wSk rfl<|wSk rfl<|xPk rfl<|xMv rfl<|wSk rfl<|wSk rfl<|xPk rfl<|xAs rfl<|oNl<|eJ h rfl
 refine cRt ?_
 cases h
 exact eR rfl rfl rfl rfl
 refine cRs<|xEq rfl<|xAs rfl<|oNl<|cIf h rfl (fun q39 h=> ?_) (fun q39 h=> ?_)
 refine cRs<|oJn h [(8,8),(97,106)] [] (fun v8_40=>(.n,[(8,Bo v8_40)],[])) (fun _ h=> ?_) (fun v8_40 h=> ?_)
 refine xMv rfl<|xEq rfl<|xMv rfl<|oIf 99 h rfl (fun q41 h=> ?_) (fun q41 h=> ?_)
 refine xMv rfl<|xEs rfl<|xPk rfl<|xMv rfl<|oIf 103 h rfl (fun q42 h=> ?_) (fun q42 h=> ?_)
 exact xMv rfl<|xEq rfl<|xPk rfl<|xAs rfl<|oNl<|eJ h rfl
 exact wSk rfl<|wSk rfl<|xPk rfl<|xAs rfl<|oNl<|eJ h rfl
 exact wSk rfl<|wSk rfl<|xPk rfl<|xMv rfl<|wSk rfl<|wSk rfl<|xPk rfl<|xAs rfl<|oNl<|eJ h rfl
 refine cRt ?_
 cases h
 exact eR rfl rfl rfl rfl
 refine cSk<|cRs<|xAs rfl<|oNl<|cRt ?_
 cases h
 exact eR rfl rfl rfl rfl
abbrev dJ:Type:=Int→Int→(List UInt8)→(List aA)→Int→Int→Int→(List Int)→Option (Bool×Int×Int×(List Int))
abbrev iM(p:dJ):Prop:= ∀ {t1_0 t1_1:Int} {t1_2:List UInt8} {t1_3:List aA} {t2_0 o0_0 o0_1:Int} {o0_2:List Int} {r:Bool×Int×Int×(List Int)},p t1_0 t1_1 t1_2 t1_3 t2_0 o0_0 o0_1 o0_2=some r→Big Try.prog τ An (.fn 131 [.one (.ptr 1000000 0), .one (.ag [.int .i64 t1_0, .int .i64 t1_1, .str t1_2, .sl (t1_3.map aE)]), .one (.c (.int .i64 t2_0))] [[.int .i64 o0_0, .int .i64 o0_1, .sl (o0_2.map aX)]] (.one (.c (.bool r.1))) none [[.int .i64 r.2.1, .int .i64 r.2.2.1, .sl (r.2.2.2.map aX)]] none)
def cK(n:Nat)(r_impl_fitter_fits:dJ)(t2_0:Int)(t1_3:List aA):(Int×Int×Int×(List Int))→Option ((Int×Int×Int×(List Int))⊕((Bool×Int×Int×(List Int))⊕(Int×Bool×Int×Int×(List Int))))
  | (v92_18,w1000000_19,w1000000_20,w1000000_21)=>bif decide (v92_18<(t1_3.length:Int))then(ix t1_3 v92_18).bind fun e94_32=>(r_impl_fitter_fits e94_32.f0 e94_32.f1 e94_32.f2 e94_32.f3 (IntKind.wrap .i64 (t2_0+(1:Int))) w1000000_19 w1000000_20 w1000000_21).bind fun c100_33=>bif !c100_33.1 then some (.inr (.inl (false,c100_33.2.1,c100_33.2.2.1,c100_33.2.2.2)))else some (.inl ((IntKind.wrap .i64 (v92_18+(1:Int))),c100_33.2.1,c100_33.2.2.1,c100_33.2.2.2))else some (.inr (.inr (v92_18,false,w1000000_19,w1000000_20,w1000000_21)))
def eV(n:Nat)(r_impl_fitter_fits:dJ)(t1_0:Int)(t1_1:Int)(t1_2:List UInt8)(t1_3:List aA)(t2_0:Int)(o0_0:Int)(o0_1:Int)(o0_2:List Int):Option (Bool×Int×Int×(List Int)):=
  (bif decide ((10:Int)<t2_0)then some true else some (decide ((300:Int)<(IntKind.wrap .i64 (o0_1+(1:Int)))))).bind fun v24_1=>bif v24_1 then some (false,o0_0,(IntKind.wrap .i64 (o0_1+(1:Int))),o0_2)else bif decide (t1_0=(3:Int))then((aQ n t1_1 ((-1):Int) (IntKind.wrap .i64 (o0_0 - (1:Int)))).bind fun c35_6=>bif !c35_6 then some true else bif !decide (t1_2=([]:List UInt8))then some true else bif decide ((0:Int)<(t1_3.length:Int))then some true else bif decide ((0:Int)≤t1_1)then(cR n o0_2 t1_1).bind fun c59_11=>some c59_11 else some false).bind fun v61_5=>bif v61_5 then some (false,o0_0,(IntKind.wrap .i64 (o0_1+(1:Int))),o0_2)else(tP 8 o0_2 ([t1_1]:List Int)).bind fun v70_13=>some (true,o0_0,(IntKind.wrap .i64 (o0_1+(1:Int))),v70_13)else(bif decide ((6:Int)<t1_0)then some true else(kG n t1_0 t1_1 t1_2 (t1_3.length:Int)).bind fun c86_16=>some (!c86_16)).bind fun v88_14=>bif v88_14 then some (false,o0_0,(IntKind.wrap .i64 (o0_1+(1:Int))),o0_2)else(loopN (cK n r_impl_fitter_fits t2_0 t1_3) n ((0:Int),o0_0,(IntKind.wrap .i64 (o0_1+(1:Int))),o0_2)).bind fun q=>(match q with | .inl (v6_22,w1000000_23,w1000000_24,w1000000_25)=>some (v6_22,w1000000_23,w1000000_24,w1000000_25) | .inr (v92_26,v93_27,w1000000_28,w1000000_29,w1000000_30)=>some (true,w1000000_28,w1000000_29,w1000000_30))
theorem tG{n:Nat}{r_impl_fitter_fits:dJ}(ih_impl_fitter_fits:iM r_impl_fitter_fits):iM (eV n r_impl_fitter_fits):=by
 intro t1_0 t1_1 t1_2 t1_3 t2_0 o0_0 o0_1 o0_2 r h
 unfold eV at h
 refine bF Try.func131 rfl rfl<|cRs<|xBx rfl<|xAs rfl<|oRs<|xMv rfl<|xNc rfl<|xFd rfl<|xLd rfl<|cM rfl<|xNc rfl<|xFd rfl<|xSt rfl<|oNl ?_
 refine cSq<|cRs<|oJn h [(16,24)] [] (fun v24_1=>(.n,[(24,Bo v24_1)],[])) (fun _ h=> ?_) (fun v24_1 h=> ?_)
 refine xMv rfl<|xGt rfl<|xMv rfl<|oIf 18 h rfl (fun q2 h=> ?_) (fun q2 h=> ?_)
 exact wSk rfl<|wSk rfl<|wSk rfl<|wSk rfl<|wSk rfl<|xPk rfl<|oNl<|eJ h rfl
 exact xMv rfl<|xNc rfl<|xFd rfl<|xLd rfl<|xGt rfl<|xPk rfl<|oNl<|eJ h rfl
 refine cIf h rfl (fun q3 h=> ?_) (fun q3 h=> ?_)
 refine cRs<|xAs rfl<|oNl<|cRt ?_
 cases h
 exact eR rfl rfl rfl rfl
 refine cSk<|cSq<|cRs<|xFd rfl<|xLd rfl<|xEq rfl<|oNl<|cIf h rfl (fun q4 h=> ?_) (fun q4 h=> ?_)
 refine cSq<|cRs<|oJn h [(28,61)] [] (fun v61_5=>(.n,[(61,Bo v61_5)],[])) (fun _ h=> ?_) (fun v61_5 h=> ?_)
 refine xFd rfl<|xLd rfl<|xMv rfl<|xNc rfl<|xFd rfl<|xLd rfl<|tM rfl<|xC0 h (aU ·) rfl (fun c35_6 h=> ?_)
 refine gJ rfl<|xMv rfl<|oIf 37 h rfl (fun q7 h=> ?_) (fun q7 h=> ?_)
 refine wSk rfl<|wSk rfl<|wSk rfl<|xPk rfl<|xMv rfl<|wSk rfl<|wSk rfl<|wSk rfl<|wSk rfl<|xPk rfl<|xMv rfl<|wSk rfl<|wSk rfl<|wSk rfl ?_
 exact wSk rfl<|wSk rfl<|wSk rfl<|wSk rfl<|wSk rfl<|wSk rfl<|wSk rfl<|wSk rfl<|wSk rfl<|xPk rfl<|oNl<|eJ h rfl
 refine xFd rfl<|xLd rfl<|xNs rfl<|xPk rfl<|xMv rfl<|oIf 42 h rfl (fun q8 h=> ?_) (fun q8 h=> ?_)
 refine wSk rfl<|wSk rfl<|wSk rfl<|wSk rfl<|xPk rfl<|xMv rfl<|wSk rfl<|wSk rfl<|wSk rfl<|wSk rfl<|wSk rfl<|wSk rfl<|wSk rfl<|wSk rfl ?_
 exact wSk rfl<|wSk rfl<|wSk rfl<|wSk rfl<|xPk rfl<|oNl<|eJ h rfl
 refine xFd rfl<|xLd rfl<|xLn rfl<|xGt rfl<|xPk rfl<|xMv rfl<|oIf 48 h rfl (fun q9 h=> ?_) (fun q9 h=> ?_)
 exact wSk rfl<|wSk rfl<|wSk rfl<|wSk rfl<|wSk rfl<|wSk rfl<|wSk rfl<|wSk rfl<|wSk rfl<|wSk rfl<|wSk rfl<|wSk rfl<|xPk rfl<|oNl<|eJ h rfl
 refine xFd rfl<|xLd rfl<|xGe rfl<|xMv rfl<|oIf 52 h rfl (fun q10 h=> ?_) (fun q10 h=> ?_)
 refine xMv rfl<|xNc rfl<|xFd rfl<|xLd rfl<|xFd rfl<|xLd rfl<|xC0 h (qT ·) rfl (fun c59_11 h=> ?_)
 exact xPk rfl<|xPk rfl<|oNl<|eJ h rfl
 exact wSk rfl<|wSk rfl<|wSk rfl<|wSk rfl<|wSk rfl<|wSk rfl<|wSk rfl<|xPk rfl<|xPk rfl<|oNl<|eJ h rfl
 refine cIf h rfl (fun q12 h=> ?_) (fun q12 h=> ?_)
 refine cRs<|xAs rfl<|oNl<|cRt ?_
 cases h
 exact eR rfl rfl rfl rfl
 refine cSk<|cRs<|xMv rfl<|xMv rfl<|xNc rfl<|xFd rfl<|xLd rfl<|xFd rfl<|xLd rfl<|Dk (L:=([t1_1]:List Int)) (f:=aX) rfl rfl rfl rfl rfl rfl rfl<|wAp (f:=aX) h rfl rfl rfl rfl rfl rfl rfl rfl rfl (fun _=>rfl) rfl (fun v70_13 h=> ?_)
 refine xNc rfl<|xFd rfl<|xSt rfl<|oRs<|xAs rfl<|oNl<|cRt ?_
 cases h
 exact eR rfl rfl rfl rfl
 refine cSk<|cSq<|cRs<|oJn h [(73,88)] [] (fun v88_14=>(.n,[(88,Bo v88_14)],[])) (fun _ h=> ?_) (fun v88_14 h=> ?_)
 refine xFd rfl<|xLd rfl<|xGt rfl<|xMv rfl<|oIf 76 h rfl (fun q15 h=> ?_) (fun q15 h=> ?_)
 exact wSk rfl<|wSk rfl<|wSk rfl<|wSk rfl<|wSk rfl<|wSk rfl<|wSk rfl<|wSk rfl<|wSk rfl<|wSk rfl<|wSk rfl<|xPk rfl<|oNl<|eJ h rfl
 refine xFd rfl<|xLd rfl<|xFd rfl<|xLd rfl<|xFd rfl<|xLd rfl<|xFd rfl<|xLd rfl<|xLn rfl<|xC0 h (AX ·) rfl (fun c86_16 h=> ?_)
 exact gJ rfl<|xPk rfl<|oNl<|eJ h rfl
 refine cIf h rfl (fun q17 h=> ?_) (fun q17 h=> ?_)
 refine cRs<|xAs rfl<|oNl<|cRt ?_
 cases h
 exact eR rfl rfl rfl rfl
 refine cSk<|cSq<|cRs<|xFd rfl<|xLd rfl<|xLn rfl<|xMv rfl<|oNl<|cLp h [(6,6),(8,8),(92,102)] [(8,8),(1000000,1000000)] (fun(v92_18,w1000000_19,w1000000_20,w1000000_21)=>([(92,I64 v92_18)],[(1000000,[.int .i64 w1000000_19, .int .i64 w1000000_20, .sl (w1000000_21.map aX)])])) (fun q=>match q with | .inl (v6_22,w1000000_23,w1000000_24,w1000000_25)=>(.r,[(6,Bo v6_22)],[(1000000,[.int .i64 w1000000_23, .int .i64 w1000000_24, .sl (w1000000_25.map aX)])]) | .inr (v92_26,v93_27,w1000000_28,w1000000_29,w1000000_30)=>(.e 0,[(92,I64 v92_26),(93,Bo v93_27)],[(1000000,[.int .i64 w1000000_28, .int .i64 w1000000_29, .sl (w1000000_30.map aX)])])) rfl (fun st _ h=> ?_) (fun q h=> ?_)
 obtain⟨v92_18,w1000000_19,w1000000_20,w1000000_21⟩:=st
 unfold cK at h
 refine cRs<|xLt rfl<|oNl<|cSq<|cIf h rfl (fun q31 h=> ?_) (fun q31 h=> ?_)
 refine cSk<|cSq<|cBk<|cRs<|xIx h aL rfl (fun e94_32 h=> ?_)
 refine xLd rfl<|xAz [.int .i64 0, .int .i64 0, .str [], .sl ([].map aE)] rfl<|xSt rfl<|oRs<|xMv rfl<|xLd rfl<|xMv rfl<|cM rfl<|xC1 h (ih_impl_fitter_fits ·) rfl (fun c100_33 h=> ?_)
 refine gJ rfl<|oNl<|cIf h rfl (fun q34 h=> ?_) (fun q34 h=> ?_)
 exact cRs<|xAs rfl<|oNl<|cRt<|eXr h rfl
 exact cSk<|cRg<|cM rfl<|xMv rfl<|oNl<|eL h rfl
 exact cEx<|eX h rfl
 rcases q with⟨v6_22,w1000000_23,w1000000_24,w1000000_25⟩ | ⟨v92_26,v93_27,w1000000_28,w1000000_29,w1000000_30⟩
 cases h
 exact eR rfl rfl rfl rfl
 refine cRs<|xAs rfl<|oNl<|cRt ?_
 cases h
 exact eR rfl rfl rfl rfl
def pC:Nat→(dJ)
  | 0=>(fun _ _ _ _ _ _ _ _=>none)
  | n+1=>eV n (pC n)
def bR(n:Nat):dJ:=pC n
theorem tI(n:Nat):iM (bR n):=by
  induction n with
  | zero=>exact(fun h=>nomatch h)
  | succ n ih=>exact tG (n:=n) ih
theorem tZ{n:Nat}:iM (bR n):=(tI n)
theorem rA(n:Nat):bR (n+1)=eV n (bR n):=rfl
abbrev Dj(p:Int→Int→(List UInt8)→(List aA)→Int→Option (Bool)):Prop:= ∀ {t0_0 t0_1:Int} {t0_2:List UInt8} {t0_3:List aA} {t1_0:Int} {r:Bool},p t0_0 t0_1 t0_2 t0_3 t1_0=some r→Big Try.prog τ An (.fn 45 [.one (.ag [.int .i64 t0_0, .int .i64 t0_1, .str t0_2, .sl (t0_3.map aE)]), .one (.c (.int .i64 t1_0))] [] (.one (.c (.bool r))) none [] none)
def iE(n:Nat)(t0_0:Int)(t0_1:Int)(t0_2:List UInt8)(t0_3:List aA)(t1_0:Int):Option (Bool):=
  ((aQ n t1_0 (0:Int) (400:Int)).bind fun c9_5=>bif c9_5 then(bR n t0_0 t0_1 t0_2 t0_3 (1:Int) t1_0 (0:Int) ([]:List Int)).bind fun c12_7=>some (c12_7.1,c12_7.2.1,c12_7.2.2.1,c12_7.2.2.2)else some (false,t1_0,(0:Int),([]:List Int))).bind fun(v4_1,w5_2,w5_3,w5_4)=>some v4_1
theorem Ac{n:Nat}:Dj (iE n):=by
 intro t0_0 t0_1 t0_2 t0_3 t1_0 r h
 unfold iE at h
 refine bF Try.func45 rfl rfl<|cRs<|xBx rfl<|xAs rfl<|oRs<|xMv rfl<|wBd [.int .i64 t1_0, .int .i64 0, .sl ([].map aX)] rfl rfl rfl rfl rfl rfl<|xAz [.int .i64 0, .int .i64 0, .sl ([].map aX)] rfl<|xSt rfl<|oRs<|oJn h [(4,4),(8,13)] [(5,5)] (fun(v4_1,w5_2,w5_3,w5_4)=>(.n,[(4,Bo v4_1)],[(5,[.int .i64 w5_2, .int .i64 w5_3, .sl (w5_4.map aX)])])) (fun _ h=> ?_) (fun q h=> ?_)
 refine xMv rfl<|xC0 h (aU ·) rfl (fun c9_5 h=> ?_)
 refine xMv rfl<|oIf 10 h rfl (fun q6 h=> ?_) (fun q6 h=> ?_)
 refine xLd rfl<|xC1 h (tZ ·) rfl (fun c12_7 h=> ?_)
 exact xPk rfl<|xAs rfl<|oNl<|eJ h rfl
 exact wSk rfl<|wSk rfl<|xPk rfl<|xAs rfl<|oNl<|eJ h rfl
 obtain⟨v4_1,w5_2,w5_3,w5_4⟩:=q
 refine cRt ?_
 cases h
 exact eR rfl rfl rfl rfl
abbrev HK(p:(List UInt8)→Int→Int→(List aD)→Int→Int→(List UInt8)→Int→(List aB)→(List aA)→Option (Bool×(List aB)×(List aA))):Prop:= ∀ {t1_0:List UInt8} {t1_1 t1_2:Int} {t1_3:List aD} {t2_0 t2_1:Int} {t2_2:List UInt8} {t2_3:Int} {o0_0:List aB} {o0_1:List aA} {r:Bool×(List aB)×(List aA)},p t1_0 t1_1 t1_2 t1_3 t2_0 t2_1 t2_2 t2_3 o0_0 o0_1=some r→Big Try.prog τ An (.fn 214 [.one (.ptr 1000000 0), .one (.cp [.str t1_0, .int .i64 t1_1, .int .i64 t1_2, .sl (t1_3.map aK)]), .one (.ag [.int .i64 t2_0, .int .i64 t2_1, .str t2_2, .int .i64 t2_3])] [[.sl (o0_0.map aH), .sl (o0_1.map aE)]] (.one (.c (.bool r.1))) none [[.sl (r.2.1.map aH), .sl (r.2.2.map aE)]] none)
end Go.Own
