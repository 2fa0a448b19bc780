/- A part of the proof. No conditions. -/
import Derived.Test.YtloebajamceclaaW41A
set_option linter.unusedVariables false
set_option linter.unusedSimpArgs false
set_option linter.unnecessarySimpa false
namespace Go.Own
open Go Go.Proofs
def bZ(a:List UInt8):List T:=[.str a]
theorem mL(a:List UInt8):bZ a=[.str a]:=rfl
def XS(a:Int):List T:=[.int .u8 a]
theorem Sl(a:Int):XS a=[.int .u8 a]:=rfl
def YL(a:Int):List T:=[.int .i64 a]
theorem Zj(a:Int):YL a=[.int .i64 a]:=rfl
mutual
inductive aI where
  | mk (f0:Int) (f1:Int) (f2:List UInt8) (f3:List aI) (f4:List aF)
inductive aF where
  | two (p x:aI)
end
def aF.p:aF→aI
  | .two a _=>a
def aF.x:aF→aI
  | .two _ a=>a
def aI.f0:aI→Int
  | .mk a _ _ _ _=>a
def aI.f1:aI→Int
  | .mk _ a _ _ _=>a
def aI.f2:aI→List UInt8
  | .mk _ _ a _ _=>a
def aI.f3:aI→List aI
  | .mk _ _ _ a _=>a
def aI.f4:aI→List aF
  | .mk _ _ _ _ a=>a
def aF.f0(c:aF):Int:=aI.f0 (aF.p c)
def aF.f1(c:aF):Int:=aI.f1 (aF.p c)
def aF.f2(c:aF):List UInt8:=aI.f2 (aF.p c)
def aF.f3(c:aF):List aI:=aI.f3 (aF.p c)
def aF.f4(c:aF):List aF:=aI.f4 (aF.p c)
def aF.f5(c:aF):Int:=aI.f0 (aF.x c)
def aF.f6(c:aF):Int:=aI.f1 (aF.x c)
def aF.f7(c:aF):List UInt8:=aI.f2 (aF.x c)
def aF.f8(c:aF):List aI:=aI.f3 (aF.x c)
def aF.f9(c:aF):List aF:=aI.f4 (aF.x c)
def aF.mk(a0:Int)(a1:Int)(a2:List UInt8)(a3:List aI)(a4:List aF)(a5:Int)(a6:Int)(a7:List UInt8)(a8:List aI)(a9:List aF):aF:= .two (.mk a0 a1 a2 a3 a4) (.mk a5 a6 a7 a8 a9)
mutual
def aV:aI→List T
  | .mk a0 a1 a2 a3 a4=> [.int .i64 a0, .int .i64 a1, .str a2, .sl (pT a3), .sl (mS a4)]
def pT:List aI→List (List T)
  | []=> []
  | x::r=>aV x::pT r
def aP:aF→List T
  | .two p x=>aV p++aV x
def mS:List aF→List (List T)
  | []=> []
  | x::r=>aP x::mS r
end
theorem vH: ∀l:List aI,pT l=l.map aV
  | []=>by simp [pT]
  | x::r=>by simp [pT,vH r]
theorem tK: ∀l:List aF,mS l=l.map aP
  | []=>by simp [mS]
  | x::r=>by simp [mS,tK r]
theorem GT(a0:Int)(a1:Int)(a2:List UInt8)(a3:List aI)(a4:List aF):aV (.mk a0 a1 a2 a3 a4)=[.int .i64 a0, .int .i64 a1, .str a2, .sl (a3.map aV), .sl (a4.map aP)]:=by simp only[aV,vH,tK]
theorem eC(a:aI):aV a=[.int .i64 a.f0, .int .i64 a.f1, .str a.f2, .sl (a.f3.map aV), .sl (a.f4.map aP)]:=by
  cases a; exact GT _ _ _ _ _
theorem jU(a:aF):aP a=[.int .i64 a.f0, .int .i64 a.f1, .str a.f2, .sl (a.f3.map aV), .sl (a.f4.map aP), .int .i64 a.f5, .int .i64 a.f6, .str a.f7, .sl (a.f8.map aV), .sl (a.f9.map aP)]:=by
  cases a with
  | two p x=>
    simp only[aP]; rw[eC p,eC x]; rfl
theorem PE(a0:Int)(a1:Int)(a2:List UInt8)(a3:List aI)(a4:List aF)(a5:Int)(a6:Int)(a7:List UInt8)(a8:List aI)(a9:List aF):aP (.mk a0 a1 a2 a3 a4 a5 a6 a7 a8 a9)=[.int .i64 a0, .int .i64 a1, .str a2, .sl (a3.map aV), .sl (a4.map aP), .int .i64 a5, .int .i64 a6, .str a7, .sl (a8.map aV), .sl (a9.map aP)]:=jU _
structure aW where
  f0:List UInt8
  f1:List (List UInt8)
  f2:Int
  f3:Int
  f4:List UInt8
  f5:List aI
  f6:List aF
def iR(a:aW):List T:=[.str a.f0, .sl (a.f1.map bZ), .int .i64 a.f2, .int .i64 a.f3, .str a.f4, .sl (a.f5.map aV), .sl (a.f6.map aP)]
theorem zV(a:aW):iR a=[.str a.f0, .sl (a.f1.map bZ), .int .i64 a.f2, .int .i64 a.f3, .str a.f4, .sl (a.f5.map aV), .sl (a.f6.map aP)]:=rfl
mutual
inductive aB where
  | mk (f0:Int) (f1:Int) (f2:List UInt8) (f3:List aB) (f4:List aA)
inductive aA where
  | two (p x:aB)
end
def aA.p:aA→aB
  | .two a _=>a
def aA.x:aA→aB
  | .two _ a=>a
def aB.f0:aB→Int
  | .mk a _ _ _ _=>a
def aB.f1:aB→Int
  | .mk _ a _ _ _=>a
def aB.f2:aB→List UInt8
  | .mk _ _ a _ _=>a
def aB.f3:aB→List aB
  | .mk _ _ _ a _=>a
def aB.f4:aB→List aA
  | .mk _ _ _ _ a=>a
def aA.f0(c:aA):Int:=aB.f0 (aA.p c)
def aA.f1(c:aA):Int:=aB.f1 (aA.p c)
def aA.f2(c:aA):List UInt8:=aB.f2 (aA.p c)
def aA.f3(c:aA):List aB:=aB.f3 (aA.p c)
def aA.f4(c:aA):List aA:=aB.f4 (aA.p c)
def aA.f5(c:aA):Int:=aB.f0 (aA.x c)
def aA.f6(c:aA):Int:=aB.f1 (aA.x c)
def aA.f7(c:aA):List UInt8:=aB.f2 (aA.x c)
def aA.f8(c:aA):List aB:=aB.f3 (aA.x c)
def aA.f9(c:aA):List aA:=aB.f4 (aA.x c)
def aA.mk(a0:Int)(a1:Int)(a2:List UInt8)(a3:List aB)(a4:List aA)(a5:Int)(a6:Int)(a7:List UInt8)(a8:List aB)(a9:List aA):aA:= .two (.mk a0 a1 a2 a3 a4) (.mk a5 a6 a7 a8 a9)
mutual
def aE:aB→List T
  | .mk a0 a1 a2 a3 a4=> [.int .i64 a0, .int .i64 a1, .str a2, .sl (pU a3), .sl (mT a4)]
def pU:List aB→List (List T)
  | []=> []
  | x::r=>aE x::pU r
def aC:aA→List T
  | .two p x=>aE p++aE x
def mT:List aA→List (List T)
  | []=> []
  | x::r=>aC x::mT r
end
theorem vJ: ∀l:List aB,pU l=l.map aE
  | []=>by simp [pU]
  | x::r=>by simp [pU,vJ r]
theorem tL: ∀l:List aA,mT l=l.map aC
  | []=>by simp [mT]
  | x::r=>by simp [mT,tL r]
theorem cC(a0:Int)(a1:Int)(a2:List UInt8)(a3:List aB)(a4:List aA):aE (.mk a0 a1 a2 a3 a4)=[.int .i64 a0, .int .i64 a1, .str a2, .sl (a3.map aE), .sl (a4.map aC)]:=by simp only[aE,vJ,tL]
theorem aK(a:aB):aE a=[.int .i64 a.f0, .int .i64 a.f1, .str a.f2, .sl (a.f3.map aE), .sl (a.f4.map aC)]:=by
  cases a; exact cC _ _ _ _ _
theorem aG(a:aA):aC a=[.int .i64 a.f0, .int .i64 a.f1, .str a.f2, .sl (a.f3.map aE), .sl (a.f4.map aC), .int .i64 a.f5, .int .i64 a.f6, .str a.f7, .sl (a.f8.map aE), .sl (a.f9.map aC)]:=by
  cases a with
  | two p x=>
    simp only[aC]; rw[aK p,aK x]; rfl
theorem aY(a0:Int)(a1:Int)(a2:List UInt8)(a3:List aB)(a4:List aA)(a5:Int)(a6:Int)(a7:List UInt8)(a8:List aB)(a9:List aA):aC (.mk a0 a1 a2 a3 a4 a5 a6 a7 a8 a9)=[.int .i64 a0, .int .i64 a1, .str a2, .sl (a3.map aE), .sl (a4.map aC), .int .i64 a5, .int .i64 a6, .str a7, .sl (a8.map aE), .sl (a9.map aC)]:=aG _
structure aD where
  f0:List UInt8
  f1:List (List UInt8)
  f2:Int
  f3:Int
  f4:List UInt8
  f5:List aB
  f6:List aA
def aH(a:aD):List T:=[.str a.f0, .sl (a.f1.map bZ), .int .i64 a.f2, .int .i64 a.f3, .str a.f4, .sl (a.f5.map aE), .sl (a.f6.map aC)]
theorem bC(a:aD):aH a=[.str a.f0, .sl (a.f1.map bZ), .int .i64 a.f2, .int .i64 a.f3, .str a.f4, .sl (a.f5.map aE), .sl (a.f6.map aC)]:=rfl
theorem Nu:Ae Try.prog 37 true 1 [(0,83)]:=by
  refine Ae.of (S:=68) Try.func37 rfl rfl (by decide) (by decide) (fun cs k w Bx R a hl hsz hdf h0 h1 hbs hq=> ?_)
  refine Sw rfl hsz hdf h0 h1 hbs hq (fun a w b Bx hst hq=> ?_)
  refine VN Te [] rfl rfl rfl (fun _=>rfl) (Ae.slice _ 83) (by rw[hl]; decide) rfl rfl rfl hst hq (fun k a w hst hq=> ?_)
  exact VM rfl rfl hst hq
abbrev cO:Type:=Int→Int→(List UInt8)→(List aI)→(List aF)→Int→Int→(List UInt8)→(List aI)→(List aF)→Int→Option (Int)
abbrev gY(p:cO):Prop:= ∀ {a b:Int} {d:List UInt8} {f:List aI} {g:List aF} {j l:Int} {m:List UInt8} {o:List aI} {s:List aF} {t:Int} {r:Int},p a b d f g j l m o s t=some r→Big Try.prog τ An (.fn 85 [.one (.ag [.int .i64 a, .int .i64 b, .str d, .sl (f.map aV), .sl (g.map aP), .int .i64 j, .int .i64 l, .str m, .sl (o.map aV), .sl (s.map aP)]), .one (.c (.int .i64 t))] [] (.one (.c (.int .i64 r))) none [] none)
abbrev cS:Type:=(List aF)→Int→Option (Int)
abbrev fY(p:cS):Prop:= ∀ {a:List aF} {b:Int} {r:Int},p a b=some r→Big Try.prog τ An (.fn 40 [.one (.c (.sl (a.map aP))), .one (.c (.int .i64 b))] [] (.one (.c (.int .i64 r))) none [] none)
abbrev dI:Type:=(List aI)→Int→Option (Int)
abbrev jJ(p:dI):Prop:= ∀ {a:List aI} {b:Int} {r:Int},p a b=some r→Big Try.prog τ An (.fn 39 [.one (.c (.sl (a.map aV))), .one (.c (.int .i64 b))] [] (.one (.c (.int .i64 r))) none [] none)
abbrev dP:Type:=Int→Int→(List UInt8)→(List aI)→(List aF)→Int→Option (Int)
abbrev kO(p:dP):Prop:= ∀ {a b:Int} {d:List UInt8} {f:List aI} {g:List aF} {j:Int} {r:Int},p a b d f g j=some r→Big Try.prog τ An (.fn 7 [.one (.ag [.int .i64 a, .int .i64 b, .str d, .sl (f.map aV), .sl (g.map aP)]), .one (.c (.int .i64 j))] [] (.one (.c (.int .i64 r))) none [] none)
def mO(n:Nat)(a:dP)(f:dI)(b:cS)(d:cO)(j:Int)(l:Int)(m:List UInt8)(o:List aI)(p:List aF)(s:Int)(t:Int)(u:List UInt8)(v:List aI)(w:List aF)(y:Int):Option (Int):=
  (a j l m o p y).bind fun g=>bif decide (g<(0:Int))then some ((-1):Int)else(a s t u v w g).bind fun c=>bif decide (c<(0:Int))then some ((-1):Int)else some c
theorem By{n:Nat}{f:dP}(c:kO f){d:dI}(l:jJ d){a:cS}(g:fY a){b:cO}(j:gY b):gY (mO n f d a b):=by
 intro t u v w y z A B C D E r h; unfold mO at h; refine bF Try.func85 rfl rfl<|gco 10 rfl<|xC0 h (c ·) rfl (fun o h=> ?_)
 refine goc 8 rfl<|cIf h rfl (fun p h=> ?_) (fun p h=> ?_)
 exact gec; refine gco 6 rfl<|xC0 h (c ·) rfl (fun m h=> ?_)
 refine goc 8 rfl<|cIf h rfl (fun s h=> ?_) (fun s h=> ?_)
 exact gec; exact gec
def kU(n:Nat)(b:cO)(f:List aF):(Int×Int)→Option ((Int×Int)⊕((Int)⊕(Int×Int×Bool)))
  | (g,c)=>bif decide (c<(f.length:Int))then(ix f c).bind fun a=>(b a.f0 a.f1 a.f2 a.f3 a.f4 a.f5 a.f6 a.f7 a.f8 a.f9 g).bind fun d=>bif decide (d<(0:Int))then some (.inr (.inl ((-1):Int)))else some (.inl (d,(IntKind.wrap .i64 (c+(1:Int)))))else some (.inr (.inr (g,c,false)))
def lF(n:Nat)(f:dP)(d:dI)(b:cS)(a:cO)(c:List aF)(g:Int):Option (Int):=
  bif decide ((IntKind.wrap .i64 (g - (c.length:Int)))<(0:Int))then some ((-1):Int)else(loopN (kU n a c) n ((IntKind.wrap .i64 (g - (c.length:Int))),(0:Int))).bind fun q=>(match q with | .inl l=>some l | .inr (j,o,m)=>some j)
theorem Ai{n:Nat}{d:dP}(m:kO d){c:dI}(j:jJ c){a:cS}(g:fY a){b:cO}(f:gY b):fY (lF n d c a b):=by
 intro B C r h; unfold lF at h; refine bF Try.func40 rfl rfl<|gco 8 rfl<|xLn rfl<|goc 9 rfl<|cIf h rfl (fun z h=> ?_) (fun z h=> ?_)
 exact gec; refine gcc 6 rfl<|cLp h [(1,1),(4,5),(12,25)] [] (fun(o,t)=>([(1,I64 o),(5,I64 t)],[])) (fun q=>match q with | .inl s=>(.r,[(4,I64 s)],[]) | .inr (p,u,l)=>(.e 0,[(1,I64 p),(5,I64 u),(15,Bo l)],[])) rfl (fun st _ h=> ?_) (fun q h=> ?_)
 obtain⟨o,t⟩:=st; unfold kU at h; refine gco 5 rfl<|xLn rfl<|goc 2 rfl<|cIf h rfl (fun A h=> ?_) (fun A h=> ?_)
 refine gco 7 rfl<|xIx h jU rfl (fun y h=> ?_)
 refine goo 2 rfl<|xC0 h (f ·) rfl (fun v h=> ?_)
 refine goc 7 rfl<|cIf h rfl (fun w h=> ?_) (fun w h=> ?_)
 exact gec; exact gec; exact gec; rcases q with s | ⟨p,u,l⟩; exact en; exact gec
def nP(n:Nat)(b:dP)(f:List aI):(Int×Int)→Option ((Int×Int)⊕((Int)⊕(Int×Int×Bool)))
  | (g,c)=>bif decide (c<(f.length:Int))then(ix f c).bind fun a=>(b a.f0 a.f1 a.f2 a.f3 a.f4 g).bind fun d=>bif decide (d<(0:Int))then some (.inr (.inl ((-1):Int)))else some (.inl (d,(IntKind.wrap .i64 (c+(1:Int)))))else some (.inr (.inr (g,c,false)))
def oF(n:Nat)(a:dP)(f:dI)(b:cS)(d:cO)(c:List aI)(g:Int):Option (Int):=
  bif decide ((IntKind.wrap .i64 (g - (c.length:Int)))<(0:Int))then some ((-1):Int)else(loopN (nP n a c) n ((IntKind.wrap .i64 (g - (c.length:Int))),(0:Int))).bind fun q=>(match q with | .inl l=>some l | .inr (j,o,m)=>some j)
theorem DI{n:Nat}{d:dP}(f:kO d){c:dI}(l:jJ c){a:cS}(g:fY a){b:cO}(j:gY b):jJ (oF n d c a b):=by
 intro B C r h; unfold oF at h; refine bF Try.func39 rfl rfl<|gco 8 rfl<|xLn rfl<|goc 9 rfl<|cIf h rfl (fun z h=> ?_) (fun z h=> ?_)
 exact gec; refine gcc 6 rfl<|cLp h [(1,1),(4,5),(12,25)] [] (fun(o,t)=>([(1,I64 o),(5,I64 t)],[])) (fun q=>match q with | .inl s=>(.r,[(4,I64 s)],[]) | .inr (p,u,m)=>(.e 0,[(1,I64 p),(5,I64 u),(15,Bo m)],[])) rfl (fun st _ h=> ?_) (fun q h=> ?_)
 obtain⟨o,t⟩:=st; unfold nP at h; refine gco 5 rfl<|xLn rfl<|goc 2 rfl<|cIf h rfl (fun A h=> ?_) (fun A h=> ?_)
 refine gco 7 rfl<|xIx h eC rfl (fun y h=> ?_)
 refine goo 2 rfl<|xC0 h (f ·) rfl (fun v h=> ?_)
 refine goc 7 rfl<|cIf h rfl (fun w h=> ?_) (fun w h=> ?_)
 exact gec; exact gec; exact gec; rcases q with s | ⟨p,u,m⟩; exact en; exact gec
def pP(n:Nat)(g:dP)(b:dI)(a:cS)(f:cO)(p:Int)(s:Int)(j:List UInt8)(m:List aI)(o:List aF)(l:Int):Option (Int):=
  bif decide ((IntKind.wrap .i64 (l - (j.length:Int)))<(0:Int))then some ((-1):Int)else(b m (IntKind.wrap .i64 (l - (j.length:Int)))).bind fun c=>bif decide (c<(0:Int))then some ((-1):Int)else(a o c).bind fun d=>bif decide (d<(0:Int))then some ((-1):Int)else some d
theorem EW{n:Nat}{d:dP}(l:kO d){c:dI}(g:jJ c){a:cS}(f:fY a){b:cO}(j:gY b):kO (pP n d c a b):=by
 intro u v w y z A r h; unfold pP at h; refine bF Try.func7 rfl rfl<|gco 10 rfl<|xLs rfl<|goc 9 rfl<|cIf h rfl (fun p h=> ?_) (fun p h=> ?_)
 exact gec; refine gco 6 rfl<|xC0 h (g ·) rfl (fun m h=> ?_)
 refine goc 8 rfl<|cIf h rfl (fun s h=> ?_) (fun s h=> ?_)
 exact gec; refine gco 6 rfl<|xC0 h (f ·) rfl (fun o h=> ?_)
 refine goc 8 rfl<|cIf h rfl (fun t h=> ?_) (fun t h=> ?_)
 exact gec; exact gec
def bK:Nat→(dP)×(dI)×(cS)×(cO)
  | 0=>((fun _ _ _ _ _ _=>none),(fun _ _=>none),(fun _ _=>none),(fun _ _ _ _ _ _ _ _ _ _ _=>none))
  | n+1=>(pP n ((bK n).1) ((bK n).2.1) ((bK n).2.2.1) ((bK n).2.2.2),oF n ((bK n).1) ((bK n).2.1) ((bK n).2.2.1) ((bK n).2.2.2),lF n ((bK n).1) ((bK n).2.1) ((bK n).2.2.1) ((bK n).2.2.2),mO n ((bK n).1) ((bK n).2.1) ((bK n).2.2.1) ((bK n).2.2.2))
def dL(n:Nat):dP:=(bK n).1
def gJ(n:Nat):dI:=(bK n).2.1
def eM(n:Nat):cS:=(bK n).2.2.1
def fE(n:Nat):cO:=(bK n).2.2.2
theorem oW(n:Nat):kO (dL n)∧jJ (gJ n)∧fY (eM n)∧gY (fE n):=by
  induction n with
  | zero=>exact⟨(fun h=>nomatch h),(fun h=>nomatch h),(fun h=>nomatch h),(fun h=>nomatch h)⟩
  | succ n ih=>exact⟨EW (n:=n) (ih.1) (ih.2.1) (ih.2.2.1) (ih.2.2.2),DI (n:=n) (ih.1) (ih.2.1) (ih.2.2.1) (ih.2.2.2),Ai (n:=n) (ih.1) (ih.2.1) (ih.2.2.1) (ih.2.2.2),By (n:=n) (ih.1) (ih.2.1) (ih.2.2.1) (ih.2.2.2)⟩
theorem Gh{n:Nat}:kO (dL n):=(oW n).1
theorem QB{n:Nat}:jJ (gJ n):=(oW n).2.1
theorem OT{n:Nat}:fY (eM n):=(oW n).2.2.1
theorem PG{n:Nat}:gY (fE n):=(oW n).2.2.2
theorem CH(n:Nat):dL (n+1)=pP n (dL n) (gJ n) (eM n) (fE n):=rfl
theorem Aq(n:Nat):gJ (n+1)=oF n (dL n) (gJ n) (eM n) (fE n):=rfl
theorem yK(n:Nat):eM (n+1)=lF n (dL n) (gJ n) (eM n) (fE n):=rfl
theorem zK(n:Nat):fE (n+1)=mO n (dL n) (gJ n) (eM n) (fE n):=rfl
abbrev Eu(p:(List (List UInt8))→Int→Option (Int)):Prop:= ∀ {a:List (List UInt8)} {b:Int} {r:Int},p a b=some r→Big Try.prog τ An (.fn 139 [.one (.c (.sl (a.map bZ))), .one (.c (.int .i64 b))] [] (.one (.c (.int .i64 r))) none [] none)
def kT(n:Nat)(d:List (List UInt8)):(Int×Int)→Option ((Int×Int)⊕((Int)⊕(Int×Int×Bool)))
  | (b,a)=>bif decide (a<(d.length:Int))then(ix d a).bind fun c=>bif decide ((IntKind.wrap .i64 (b - (c.length:Int)))<(0:Int))then some (.inr (.inl ((-1):Int)))else some (.inl ((IntKind.wrap .i64 (b - (c.length:Int))),(IntKind.wrap .i64 (a+(1:Int)))))else some (.inr (.inr (b,a,false)))
def lP(n:Nat)(a:List (List UInt8))(b:Int):Option (Int):=
  bif decide ((IntKind.wrap .i64 (b - (a.length:Int)))<(0:Int))then some ((-1):Int)else(loopN (kT n a) n ((IntKind.wrap .i64 (b - (a.length:Int))),(0:Int))).bind fun q=>(match q with | .inl d=>some d | .inr (c,g,f)=>some c)
theorem CP{n:Nat}:Eu (lP n):=by
 intro p s r h; unfold lP at h; refine bF Try.func139 rfl rfl<|gco 8 rfl<|xLn rfl<|goc 9 rfl<|cIf h rfl (fun m h=> ?_) (fun m h=> ?_)
 exact gec; refine gcc 6 rfl<|cLp h [(1,1),(4,5),(12,26)] [] (fun(b,f)=>([(1,I64 b),(5,I64 f)],[])) (fun q=>match q with | .inl d=>(.r,[(4,I64 d)],[]) | .inr (c,g,a)=>(.e 0,[(1,I64 c),(5,I64 g),(15,Bo a)],[])) rfl (fun st _ h=> ?_) (fun q h=> ?_)
 obtain⟨b,f⟩:=st; unfold kT at h; refine gco 5 rfl<|xLn rfl<|goc 2 rfl<|cIf h rfl (fun o h=> ?_) (fun o h=> ?_)
 refine gco 8 rfl<|xIx h mL rfl (fun l h=> ?_)
 refine xLd rfl<|xLs rfl<|goc 8 rfl<|cIf h rfl (fun j h=> ?_) (fun j h=> ?_)
 exact gec; exact gec; exact gec; rcases q with d | ⟨c,g,a⟩; exact en; exact gec
abbrev Ly(p:(List UInt8)→(List (List UInt8))→Int→Int→(List UInt8)→(List aI)→(List aF)→Int→Option (Int)):Prop:= ∀ {a:List UInt8} {b:List (List UInt8)} {d f:Int} {g:List UInt8} {j:List aI} {l:List aF} {m:Int} {r:Int},p a b d f g j l m=some r→Big Try.prog τ An (.fn 108 [.one (.ag [.str a, .sl (b.map bZ), .int .i64 d, .int .i64 f, .str g, .sl (j.map aV), .sl (l.map aP)]), .one (.c (.int .i64 m))] [] (.one (.c (.int .i64 r))) none [] none)
def rN(n:Nat)(c:List UInt8)(f:List (List UInt8))(g:Int)(j:Int)(l:List UInt8)(m:List aI)(o:List aF)(d:Int):Option (Int):=
  bif decide ((IntKind.wrap .i64 (d - (c.length:Int)))<(0:Int))then some ((-1):Int)else(lP n f (IntKind.wrap .i64 (d - (c.length:Int)))).bind fun a=>bif decide (a<(0:Int))then some ((-1):Int)else(dL n g j l m o a).bind fun b=>bif decide (b<(0:Int))then some ((-1):Int)else some b
theorem Hd{n:Nat}:Ly (rN n):=by
 intro g j l m o p s t r h; unfold rN at h; refine bF Try.func108 rfl rfl<|gco 10 rfl<|xLs rfl<|goc 9 rfl<|cIf h rfl (fun c h=> ?_) (fun c h=> ?_)
 exact gec; refine gco 6 rfl<|xC0 h (CP ·) rfl (fun a h=> ?_)
 refine goc 8 rfl<|cIf h rfl (fun d h=> ?_) (fun d h=> ?_)
 exact gec; refine gco 6 rfl<|xC0 h (Gh ·) rfl (fun b h=> ?_)
 refine goc 8 rfl<|cIf h rfl (fun f h=> ?_) (fun f h=> ?_)
 exact gec; exact gec
abbrev KA(p:(List aW)→Int→Option (Int)):Prop:= ∀ {a:List aW} {b:Int} {r:Int},p a b=some r→Big Try.prog τ An (.fn 70 [.one (.c (.sl (a.map iR))), .one (.c (.int .i64 b))] [] (.one (.c (.int .i64 r))) none [] none)
def oS(n:Nat)(d:List aW):(Int×Int)→Option ((Int×Int)⊕((Int)⊕(Int×Int×Bool)))
  | (f,b)=>bif decide (b<(d.length:Int))then(ix d b).bind fun a=>(rN n a.f0 a.f1 a.f2 a.f3 a.f4 a.f5 a.f6 f).bind fun c=>bif decide (c<(0:Int))then some (.inr (.inl ((-1):Int)))else some (.inl (c,(IntKind.wrap .i64 (b+(1:Int)))))else some (.inr (.inr (f,b,false)))
def pX(n:Nat)(a:List aW)(b:Int):Option (Int):=
  bif decide ((IntKind.wrap .i64 (b - (a.length:Int)))<(0:Int))then some ((-1):Int)else(loopN (oS n a) n ((IntKind.wrap .i64 (b - (a.length:Int))),(0:Int))).bind fun q=>(match q with | .inl d=>some d | .inr (c,g,f)=>some c)
theorem Gg{n:Nat}:KA (pX n):=by
 intro s t r h; unfold pX at h; refine bF Try.func70 rfl rfl<|gco 8 rfl<|xLn rfl<|goc 9 rfl<|cIf h rfl (fun o h=> ?_) (fun o h=> ?_)
 exact gec; refine gcc 6 rfl<|cLp h [(1,1),(4,5),(12,25)] [] (fun(b,f)=>([(1,I64 b),(5,I64 f)],[])) (fun q=>match q with | .inl d=>(.r,[(4,I64 d)],[]) | .inr (c,g,a)=>(.e 0,[(1,I64 c),(5,I64 g),(15,Bo a)],[])) rfl (fun st _ h=> ?_) (fun q h=> ?_)
 obtain⟨b,f⟩:=st; unfold oS at h; refine gco 5 rfl<|xLn rfl<|goc 2 rfl<|cIf h rfl (fun p h=> ?_) (fun p h=> ?_)
 refine gco 7 rfl<|xIx h zV rfl (fun m h=> ?_)
 refine goo 2 rfl<|xC0 h (Hd ·) rfl (fun j h=> ?_)
 refine goc 7 rfl<|cIf h rfl (fun l h=> ?_) (fun l h=> ?_)
 exact gec; exact gec; exact gec; rcases q with d | ⟨c,g,a⟩; exact en; exact gec
abbrev Gv(p:(List aW)→Int→Option (Int)):Prop:= ∀ {a:List aW} {b:Int} {r:Int},p a b=some r→Big Try.prog τ An (.fn 32 [.one (.ag [.sl (a.map iR)]), .one (.c (.int .i64 b))] [] (.one (.c (.int .i64 r))) none [] none)
def mX(n:Nat)(b:List aW)(c:Int):Option (Int):=
  (pX n b c).bind fun a=>bif decide (a<(0:Int))then some ((-1):Int)else some a
theorem DS{n:Nat}:Gv (mX n):=by
 intro c d r h; unfold mX at h; refine bF Try.func32 rfl rfl<|gco 10 rfl<|xC0 h (Gg ·) rfl (fun a h=> ?_)
 refine goc 8 rfl<|cIf h rfl (fun b h=> ?_) (fun b h=> ?_)
 exact gec; exact gec
abbrev kL:Type:=Int→Int→(List UInt8)→(List aB)→(List aA)→Option (Int×Int×(List UInt8)×(List aB)×(List aA))
abbrev sQ(p:kL):Prop:= ∀ {a b:Int} {c:List UInt8} {d:List aB} {f:List aA} {r:Int×Int×(List UInt8)×(List aB)×(List aA)},p a b c d f=some r→Big Try.prog τ An (.fn 109 [.one (.ag [.int .i64 a, .int .i64 b, .str c, .sl (d.map aE), .sl (f.map aC)])] [] (.one (.ag [.int .i64 r.1, .int .i64 r.2.1, .str r.2.2.1, .sl (r.2.2.2.1.map aE), .sl (r.2.2.2.2.map aC)])) none [] none)
def lL(n:Nat)(c:kL)(f:List aB):(Int×Int×Int×(List UInt8)×(List aB)×(List aA))→Option ((Int×Int×Int×(List UInt8)×(List aB)×(List aA))⊕((Int×Bool×Int×Int×(List UInt8)×(List aB)×(List aA))))
  | (d,j,l,m,o,p)=>bif decide (d<(f.length:Int))then(ix f d).bind fun b=>(c b.f0 b.f1 b.f2 b.f3 b.f4).bind fun a=>(sX 80 o ([aB.mk a.1 a.2.1 a.2.2.1 a.2.2.2.1 a.2.2.2.2]:List aB)).bind fun g=>some (.inl ((IntKind.wrap .i64 (d+(1:Int))),j,l,m,g,p))else some (.inr (d,false,j,l,m,o,p))
def lK(n:Nat)(a:kL)(j:List aA):(Int×Int×Int×(List UInt8)×(List aB)×(List aA))→Option ((Int×Int×Int×(List UInt8)×(List aB)×(List aA))⊕((Int×Bool×Int×Int×(List UInt8)×(List aB)×(List aA))))
  | (g,l,m,o,p,s)=>bif decide (g<(j.length:Int))then(ix j g).bind fun d=>(a d.f0 d.f1 d.f2 d.f3 d.f4).bind fun b=>(ix j g).bind fun f=>(a f.f5 f.f6 f.f7 f.f8 f.f9).bind fun c=>(sX 160 s ([aA.mk b.1 b.2.1 b.2.2.1 b.2.2.2.1 b.2.2.2.2 c.1 c.2.1 c.2.2.1 c.2.2.2.1 c.2.2.2.2]:List aA)).bind fun t=>some (.inl ((IntKind.wrap .i64 (g+(1:Int))),l,m,o,p,t))else some (.inr (g,false,l,m,o,p,s))
def pM(n:Nat)(a:kL)(p:Int)(s:Int)(t:List UInt8)(u:List aB)(v:List aA):Option (Int×Int×(List UInt8)×(List aB)×(List aA)):=
  (loopN (lL n a u) n ((0:Int),p,s,t,([]:List aB),([]:List aA))).bind fun(B,z,w,b,c,d,f)=>(loopN (lK n a v) n ((0:Int),w,b,c,d,f)).bind fun(A,y,g,j,l,m,o)=>some (g,j,l,m,o)
theorem ET{n:Nat}{g:kL}(d:sQ g):sQ (pM n g):=by
 intro a1 a2 a3 a4 a5 r h; unfold pM at h; refine bF Try.func109 rfl rfl<|gco 3 rfl<|xAz [.int .i64 0, .int .i64 0, .str [], .sl ([].map aE), .sl ([].map aC)] rfl<|goo 4 rfl<|xAz [.int .i64 0, .int .i64 0, .str [], .sl ([].map aE), .sl ([].map aC)] rfl<|goo 4 rfl<|yQ (L:=([]:List aB)) (f:=aE) rfl rfl rfl rfl rfl rfl rfl<|goo 5 rfl<|yQ (L:=([]:List aA)) (f:=aC) rfl rfl rfl rfl rfl rfl rfl<|goc 8 rfl<|cLp h [(4,4),(11,28)] [(3,3)] (fun(I,K,M,N,Q,R)=>([(4,I64 I)],[(3,[.int .i64 K, .int .i64 M, .str N, .sl (Q.map aE), .sl (R.map aC)])])) (fun(J,m,T,s,t,u,v)=>(.e 0,[(4,I64 J),(15,Bo m)],[(3,[.int .i64 T, .int .i64 s, .str t, .sl (u.map aE), .sl (v.map aC)])])) rfl (fun st _ h=> ?_) (fun q h=> ?_)
 obtain⟨I,K,M,N,Q,R⟩:=st; unfold lL at h; refine gco 6 rfl<|xLn rfl<|goc 2 rfl<|cIf h rfl (fun X h=> ?_) (fun X h=> ?_)
 refine gco 9 rfl<|xIx h aK rfl (fun U h=> ?_)
 refine xLd rfl<|xC0 h (d ·) rfl (fun j h=> ?_)
 refine yQ (L:=([aB.mk j.1 j.2.1 j.2.2.1 j.2.2.2.1 j.2.2.2.2]:List aB)) (f:=aE) rfl rfl rfl rfl (by simp only[List.map,cC]<;>rfl) rfl rfl<|wAp (f:=aE) h rfl rfl rfl rfl rfl rfl rfl rfl rfl (fun a=>by rw[aK]; rfl) rfl (fun Z h=> ?_)
 exact geo; exact gec; obtain⟨J,m,T,s,t,u,v⟩:=q; refine gcc 5 rfl<|cLp h [(5,5),(29,55)] [(3,3)] (fun(o,w,y,z,A,B)=>([(5,I64 o)],[(3,[.int .i64 w, .int .i64 y, .str z, .sl (A.map aE), .sl (B.map aC)])])) (fun(p,l,C,D,E,G,H)=>(.e 2,[(5,I64 p),(33,Bo l)],[(3,[.int .i64 C, .int .i64 D, .str E, .sl (G.map aE), .sl (H.map aC)])])) rfl (fun st _ h=> ?_) (fun q h=> ?_)
 obtain⟨o,w,y,z,A,B⟩:=st; unfold lK at h; refine gco 6 rfl<|xLn rfl<|goc 2 rfl<|cIf h rfl (fun Y h=> ?_) (fun Y h=> ?_)
 refine gco 9 rfl<|xIx h aG rfl (fun V h=> ?_)
 refine goo 2 rfl<|xC0 h (d ·) rfl (fun b h=> ?_)
 refine goo 3 rfl<|xIx h aG rfl (fun W h=> ?_)
 refine goo 2 rfl<|xC0 h (d ·) rfl (fun c h=> ?_)
 refine wBd [.int .i64 b.1, .int .i64 b.2.1, .str b.2.2.1, .sl (b.2.2.2.1.map aE), .sl (b.2.2.2.2.map aC), .int .i64 c.1, .int .i64 c.2.1, .str c.2.2.1, .sl (c.2.2.2.1.map aE), .sl (c.2.2.2.2.map aC)] rfl rfl rfl rfl rfl rfl<|yQ (L:=([aA.mk b.1 b.2.1 b.2.2.1 b.2.2.2.1 b.2.2.2.2 c.1 c.2.1 c.2.2.1 c.2.2.2.1 c.2.2.2.2]:List aA)) (f:=aC) rfl rfl rfl rfl (by simp only[List.map,aY]<;>rfl) rfl rfl<|wAp (f:=aC) h rfl rfl rfl rfl rfl rfl rfl rfl rfl (fun a=>by rw[aG]; rfl) rfl (fun a0 h=> ?_)
 exact geo; exact gec; obtain⟨p,l,C,D,E,G,H⟩:=q; exact gec
def Ba:Nat→(kL)
  | 0=>(fun _ _ _ _ _=>none)
  | n+1=>pM n (Ba n)
def eB(n:Nat):kL:=Ba n
theorem Ee(n:Nat):sQ (eB n):=by
  induction n with
  | zero=>exact(fun h=>nomatch h)
  | succ n ih=>exact ET (n:=n) ih
theorem GY{n:Nat}:sQ (eB n):=(Ee n)
theorem CE(n:Nat):eB (n+1)=pM n (eB n):=rfl
abbrev Az(p:(List aD)→Option ((List aD))):Prop:= ∀ {a:List aD} {r:(List aD)},p a=some r→Big Try.prog τ An (.fn 71 [.one (.ag [.sl (a.map aH)])] [] (.one (.ag [.sl (r.map aH)])) none [] none)
def eP(n:Nat)(d:List aD):(Int×(List aD))→Option ((Int×(List aD))⊕((Int×Bool×(List aD))))
  | (c,g)=>bif decide (c<(d.length:Int))then(ix d c).bind fun a=>(sX 16 ([]:List (List UInt8)) a.f1).bind fun j=>(eB n a.f2 a.f3 a.f4 a.f5 a.f6).bind fun b=>(sX 120 g ([aD.mk a.f0 j b.1 b.2.1 b.2.2.1 b.2.2.2.1 b.2.2.2.2]:List aD)).bind fun f=>some (.inl ((IntKind.wrap .i64 (c+(1:Int))),f))else some (.inr (c,false,g))
def hI(n:Nat)(a:List aD):Option ((List aD)):=
  (loopN (eP n a) n ((0:Int),([]:List aD))).bind fun(d,c,b)=>some b
theorem yP{n:Nat}:Az (hI n):=by
 intro s r h; unfold hI at h; refine bF Try.func71 rfl rfl<|gco 3 rfl<|xAz [.sl ([].map aH)] rfl<|oRs<|wBd [.sl ([].map aH)] rfl rfl rfl rfl rfl rfl<|xAz [.sl ([].map aH)] rfl<|goc 7 rfl<|cLp h [(4,5),(7,33)] [(3,3),(5,5)] (fun(g,l)=>([(4,I64 g)],[(3,[.sl (l.map aH)])])) (fun(j,c,m)=>(.e 0,[(4,I64 j),(11,Bo c)],[(3,[.sl (m.map aH)])])) rfl (fun st _ h=> ?_) (fun q h=> ?_)
 obtain⟨g,l⟩:=st; unfold eP at h; refine gco 6 rfl<|xLn rfl<|goc 2 rfl<|cIf h rfl (fun p h=> ?_) (fun p h=> ?_)
 refine gco 8 rfl<|xIx h bC rfl (fun b h=> ?_)
 refine xLd rfl<|xAz [.str [], .sl ([].map bZ), .int .i64 0, .int .i64 0, .str [], .sl ([].map aE), .sl ([].map aC)] rfl<|goo 7 rfl<|yQ (L:=([]:List (List UInt8))) (f:=bZ) rfl rfl rfl rfl rfl rfl rfl<|goo 2 rfl<|wAp (f:=bZ) h rfl rfl rfl rfl rfl rfl rfl rfl rfl (fun _=>rfl) rfl (fun d h=> ?_)
 refine goo 2 rfl<|xC0 h (GY ·) rfl (fun a h=> ?_)
 refine wBd [.str b.f0, .sl (d.map bZ), .int .i64 a.1, .int .i64 a.2.1, .str a.2.2.1, .sl (a.2.2.2.1.map aE), .sl (a.2.2.2.2.map aC)] rfl rfl rfl rfl rfl rfl<|yQ (L:=([aD.mk b.f0 d a.1 a.2.1 a.2.2.1 a.2.2.2.1 a.2.2.2.2]:List aD)) (f:=aH) rfl rfl rfl rfl rfl rfl rfl<|wAp (f:=aH) h rfl rfl rfl rfl rfl rfl rfl rfl rfl (fun _=>rfl) rfl (fun o h=> ?_)
 exact geo; exact gec; obtain⟨j,c,m⟩:=q; exact gec
abbrev Lw(p:(List aD)→(List UInt8)→Option (Int)):Prop:= ∀ {a:List aD} {b:List UInt8} {r:Int},p a b=some r→Big Try.prog τ An (.fn 72 [.one (.ag [.sl (a.map aH)]), .one (.c (.str b))] [] (.one (.c (.int .i64 r))) none [] none)
def mW(n:Nat)(b:List aD)(d:List UInt8):(Int)→Option ((Int)⊕((Int)⊕(Int×Bool)))
  | a=>bif decide (a<(b.length:Int))then(ix b a).bind fun c=>bif decide (c.f0=d)then some (.inr (.inl a))else some (.inl (IntKind.wrap .i64 (a+(1:Int))))else some (.inr (.inr (a,false)))
def kG(n:Nat)(a:List aD)(b:List UInt8):Option (Int):=
  (loopN (mW n a b) n (0:Int)).bind fun q=>(match q with | .inl c=>some c | .inr (f,d)=>some ((-1):Int))
theorem rH{n:Nat}:Lw (kG n):=by
 intro l m r h; unfold kG at h; refine bF Try.func72 rfl rfl<|gcc 10 rfl<|cLp h [(4,21)] [] (fun c=>([(5,I64 c)],[])) (fun q=>match q with | .inl b=>(.r,[(4,I64 b)],[]) | .inr (d,a)=>(.e 0,[(5,I64 d),(10,Bo a)],[])) rfl (fun c _ h=> ?_) (fun q h=> ?_)
 unfold mW at h; refine gco 6 rfl<|xLn rfl<|goc 2 rfl<|cIf h rfl (fun g h=> ?_) (fun g h=> ?_)
 refine gco 8 rfl<|xIx h bC rfl (fun f h=> ?_)
 refine goc 5 rfl<|cIf h rfl (fun j h=> ?_) (fun j h=> ?_)
 exact gec; exact gec; exact gec; rcases q with b | ⟨d,a⟩; exact en; exact gec
abbrev Lv(p:(List (List UInt8))→(List UInt8)→Option (Bool)):Prop:= ∀ {a:List (List UInt8)} {b:List UInt8} {r:Bool},p a b=some r→Big Try.prog τ An (.fn 112 [.one (.c (.sl (a.map bZ))), .one (.c (.str b))] [] (.one (.c (.bool r))) none [] none)
def mU(n:Nat)(b:List (List UInt8))(d:List UInt8):(Int)→Option ((Int)⊕((Bool)⊕(Int×Bool)))
  | a=>bif decide (a<(b.length:Int))then(ix b a).bind fun c=>bif decide (c=d)then some (.inr (.inl true))else some (.inl (IntKind.wrap .i64 (a+(1:Int))))else some (.inr (.inr (a,false)))
def kF(n:Nat)(a:List (List UInt8))(b:List UInt8):Option (Bool):=
  (loopN (mU n a b) n (0:Int)).bind fun q=>(match q with | .inl c=>some c | .inr (d,f)=>some false)
theorem rG{n:Nat}:Lv (kF n):=by
 intro l m r h; unfold kF at h; refine bF Try.func112 rfl rfl<|gcc 9 rfl<|cLp h [(4,17)] [] (fun b=>([(5,I64 b)],[])) (fun q=>match q with | .inl a=>(.r,[(4,Bo a)],[]) | .inr (c,d)=>(.e 0,[(5,I64 c),(9,Bo d)],[])) rfl (fun b _ h=> ?_) (fun q h=> ?_)
 unfold mU at h; refine gco 5 rfl<|xLn rfl<|goc 2 rfl<|cIf h rfl (fun g h=> ?_) (fun g h=> ?_)
 refine gco 7 rfl<|xIx h mL rfl (fun f h=> ?_)
 refine goc 4 rfl<|cIf h rfl (fun j h=> ?_) (fun j h=> ?_)
 exact gec; exact gec; exact gec; rcases q with a | ⟨c,d⟩; exact en; exact gec
abbrev Jt(p:(List (List UInt8))→Option (Bool)):Prop:= ∀ {a:List (List UInt8)} {r:Bool},p a=some r→Big Try.prog τ An (.fn 88 [.one (.c (.sl (a.map bZ)))] [] (.one (.c (.bool r))) none [] none)
def oP(n:Nat)(b:List (List UInt8)):(Int)→Option ((Int)⊕((Bool)⊕(Int×Bool)))
  | a=>bif decide (a<(b.length:Int))then(sub b none (some a)).bind fun f=>(ix b a).bind fun d=>(kF n f d).bind fun c=>bif c then some (.inr (.inl false))else some (.inl (IntKind.wrap .i64 (a+(1:Int))))else some (.inr (.inr (a,false)))
def nD(n:Nat)(a:List (List UInt8)):Option (Bool):=
  (loopN (oP n a) n (0:Int)).bind fun q=>(match q with | .inl b=>some b | .inr (c,d)=>some true)
theorem xY{n:Nat}:Jt (nD n):=by
 intro o r h; unfold nD at h; refine bF Try.func88 rfl rfl<|gcc 9 rfl<|cLp h [(2,17)] [] (fun b=>([(3,I64 b)],[])) (fun q=>match q with | .inl a=>(.r,[(2,Bo a)],[]) | .inr (c,d)=>(.e 0,[(3,I64 c),(7,Bo d)],[])) rfl (fun b _ h=> ?_) (fun q h=> ?_)
 unfold oP at h; refine gco 5 rfl<|xLn rfl<|goc 2 rfl<|cIf h rfl (fun l h=> ?_) (fun l h=> ?_)
 refine gco 7 rfl<|wSl (rf:=bZ) h rfl rfl rfl rfl .no (.so rfl) (fun _=>rfl) rfl (fun j h=> ?_)
 refine goo 2 rfl<|xIx h mL rfl (fun g h=> ?_)
 refine xLd rfl<|xC0 h (rG ·) rfl (fun f h=> ?_)
 refine oNl<|cIf h rfl (fun m h=> ?_) (fun m h=> ?_)
 exact gec; exact gec; exact gec; rcases q with a | ⟨c,d⟩; exact en; exact gec
abbrev NS(p:Int→Int→Int→Option (Bool)):Prop:= ∀ {a b d:Int} {r:Bool},p a b d=some r→Big Try.prog τ An (.fn 142 [.one (.c (.int .i64 a)), .one (.c (.int .i64 b)), .one (.c (.int .i64 d))] [] (.one (.c (.bool r))) none [] none)
def dZ(n:Nat)(a:Int)(b:Int)(c:Int):Option (Bool):=
  (bif decide (b≤a)then some (decide (a≤c))else some false).bind fun d=>some d
theorem eY{n:Nat}:NS (dZ n):=by
 intro c d f r h; unfold dZ at h; refine bF Try.func142 rfl rfl<|gco 6 rfl<|oJn h [(6,14)] [] (fun a=>(.n,[(6,Bo a)],[])) (fun _ h=> ?_) (fun a h=> ?_)
 refine goo 4 rfl<|oIf 10 h rfl (fun b h=> ?_) (fun b h=> ?_)
 exact geo; exact geo; exact gec
abbrev Jy(p:(List UInt8)→Option (Bool)):Prop:= ∀ {a:List UInt8} {r:Bool},p a=some r→Big Try.prog τ An (.fn 114 [.one (.c (.str a))] [] (.one (.c (.bool r))) none [] none)
def oQ(n:Nat)(d:List UInt8):(Int)→Option ((Int)⊕((Bool)⊕(Int×Bool)))
  | a=>bif decide (a<(d.length:Int))then(ixs d a).bind fun b=>(dZ n (IntKind.wrap .i64 b) (97:Int) (122:Int)).bind fun f=>(bif !f then bif decide (a=(0:Int))then some true else(dZ n (IntKind.wrap .i64 b) (48:Int) (57:Int)).bind fun c=>bif !c then some (!decide ((IntKind.wrap .i64 b)=(95:Int)))else some false else some false).bind fun g=>bif g then some (.inr (.inl false))else some (.inl (IntKind.wrap .i64 (a+(1:Int))))else some (.inr (.inr (a,false)))
def pV(n:Nat)(b:List UInt8):Option (Bool):=
  (loopN (oQ n b) n (0:Int)).bind fun q=>(match q with | .inl c=>some c | .inr (d,f)=>(dZ n (b.length:Int) (1:Int) (20:Int)).bind fun a=>some a)
theorem Gc{n:Nat}:Jy (pV n):=by
 intro v r h; unfold pV at h; refine bF Try.func114 rfl rfl<|gcc 9 rfl<|cLp h [(2,32)] [] (fun c=>([(3,I64 c)],[])) (fun q=>match q with | .inl b=>(.r,[(2,Bo b)],[]) | .inr (d,f)=>(.e 0,[(3,I64 d),(9,Bo f)],[])) rfl (fun c _ h=> ?_) (fun q h=> ?_)
 unfold oQ at h; refine gco 5 rfl<|xLs rfl<|goc 2 rfl<|cIf h rfl (fun t h=> ?_) (fun t h=> ?_)
 refine gco 7 rfl<|PY h rfl rfl rfl rfl rfl (fun s h=> ?_)
 refine goo 6 rfl<|xC0 h (eY ·) rfl (fun p h=> ?_)
 refine goo 4 rfl<|oJn h [(18,32)] [] (fun a=>(.n,[(32,Bo a)],[])) (fun _ h=> ?_) (fun a h=> ?_)
 refine goo 3 rfl<|oIf 20 h rfl (fun u h=> ?_) (fun u h=> ?_)
 refine goo 3 rfl<|oIf 23 h rfl (fun l h=> ?_) (fun l h=> ?_)
 exact geo; refine xMv rfl<|xC0 h (eY ·) rfl (fun g h=> ?_)
 refine goo 2 rfl<|oIf 27 h rfl (fun m h=> ?_) (fun m h=> ?_)
 exact geo; exact geo; exact geo; refine cIf h rfl (fun o h=> ?_) (fun o h=> ?_)
 exact gec; exact gec; exact gec; rcases q with b | ⟨d,f⟩; exact en; refine gco 3 rfl<|xLs rfl<|xC0 h (eY ·) rfl (fun j h=> ?_)
 exact geo
abbrev DY(p:(List UInt8)→Option (Bool)):Prop:= ∀ {a:List UInt8} {r:Bool},p a=some r→Big Try.prog τ An (.fn 115 [.one (.c (.str a))] [] (.one (.c (.bool r))) none [] none)
def nM(n:Nat)(a:List UInt8):Option (Bool):=
  (bif decide (a=([99,97,115,101]:List UInt8))then some true else bif decide (a=([111,102]:List UInt8))then some true else some (decide (a=([101,110,100]:List UInt8)))).bind fun b=>some b
theorem Av{n:Nat}:DY (nM n):=by
 intro d r h; unfold nM at h; refine bF Try.func115 rfl rfl<|gco 6 rfl<|oJn h [(2,12)] [] (fun a=>(.n,[(2,Bo a)],[])) (fun _ h=> ?_) (fun a h=> ?_)
 refine goo 3 rfl<|oIf 5 h rfl (fun b h=> ?_) (fun b h=> ?_)
 exact geo; refine goo 4 rfl<|oIf 9 h rfl (fun c h=> ?_) (fun c h=> ?_)
 exact geo; exact geo; exact gec
abbrev Ju(p:(List UInt8)→Option (Bool)):Prop:= ∀ {a:List UInt8} {r:Bool},p a=some r→Big Try.prog τ An (.fn 74 [.one (.c (.str a))] [] (.one (.c (.bool r))) none [] none)
def iN(n:Nat)(a:List UInt8):Option (Bool):=
  ((pV n a).bind fun b=>bif b then(nM n a).bind fun c=>some (!c)else some false).bind fun d=>some d
theorem qH{n:Nat}:Ju (iN n):=by
 intro f r h; unfold iN at h; refine bF Try.func74 rfl rfl<|gco 6 rfl<|oJn h [(2,9)] [] (fun a=>(.n,[(2,Bo a)],[])) (fun _ h=> ?_) (fun a h=> ?_)
 refine xMv rfl<|xC0 h (Gc ·) rfl (fun b h=> ?_)
 refine xMv rfl<|oIf 5 h rfl (fun d h=> ?_) (fun d h=> ?_)
 refine xMv rfl<|xC0 h (Av ·) rfl (fun c h=> ?_)
 exact geo; exact geo; exact gec
abbrev Hl(p:Int→Option (Bool)):Prop:= ∀ {a:Int} {r:Bool},p a=some r→Big Try.prog τ An (.fn 163 [.one (.c (.int .u8 a))] [] (.one (.c (.bool r))) none [] none)
def oL(n:Nat)(a:Int):Option (Bool):=
  ((dZ n (IntKind.wrap .i64 a) (65:Int) (90:Int)).bind fun b=>bif b then some true else some (decide (a=(95:Int)))).bind fun c=>some c
theorem En{n:Nat}:Hl (oL n):=by
 intro d r h; unfold oL at h; refine bF Try.func163 rfl rfl<|gco 6 rfl<|oJn h [(2,9)] [] (fun a=>(.n,[(2,Bo a)],[])) (fun _ h=> ?_) (fun a h=> ?_)
 refine goo 2 rfl<|xC0 h (eY ·) rfl (fun b h=> ?_)
 refine xMv rfl<|oIf 6 h rfl (fun c h=> ?_) (fun c h=> ?_)
 exact geo; exact geo; exact gec
abbrev Hk(p:Int→Option (Bool)):Prop:= ∀ {a:Int} {r:Bool},p a=some r→Big Try.prog τ An (.fn 164 [.one (.c (.int .u8 a))] [] (.one (.c (.bool r))) none [] none)
def oK(n:Nat)(b:Int):Option (Bool):=
  (dZ n (IntKind.wrap .i64 b) (97:Int) (122:Int)).bind fun a=>some a
theorem Em{n:Nat}:Hk (oK n):=by
 intro b r h; unfold oK at h; refine bF Try.func164 rfl rfl<|gco 8 rfl<|xC0 h (eY ·) rfl (fun a h=> ?_)
 exact geo
abbrev Hm(p:Int→Option (Bool)):Prop:= ∀ {a:Int} {r:Bool},p a=some r→Big Try.prog τ An (.fn 165 [.one (.c (.int .u8 a))] [] (.one (.c (.bool r))) none [] none)
def oM(n:Nat)(b:Int):Option (Bool):=
  (dZ n (IntKind.wrap .i64 b) (48:Int) (57:Int)).bind fun a=>some a
theorem Eo{n:Nat}:Hm (oM n):=by
 intro b r h; unfold oM at h; refine bF Try.func165 rfl rfl<|gco 8 rfl<|xC0 h (eY ·) rfl (fun a h=> ?_)
 exact geo
abbrev Hj(p:(List UInt8)→Option (Bool)):Prop:= ∀ {a:List UInt8} {r:Bool},p a=some r→Big Try.prog τ An (.fn 153 [.one (.c (.str a))] [] (.one (.c (.bool r))) none [] none)
def nN(n:Nat)(b:List UInt8):(Int)→Option ((Int)⊕((Bool)⊕(Int×Bool)))
  | a=>bif decide (a<(b.length:Int))then((ixs b a).bind fun l=>(oL n l).bind fun j=>bif !j then bif decide (a=(0:Int))then some true else(ixs b a).bind fun f=>(oK n f).bind fun c=>bif !c then(ixs b a).bind fun g=>(oM n g).bind fun d=>some (!d)else some false else some false).bind fun m=>bif m then some (.inr (.inl false))else some (.inl (IntKind.wrap .i64 (a+(1:Int))))else some (.inr (.inr (a,false)))
def lV(n:Nat)(b:List UInt8):Option (Bool):=
  (loopN (nN n b) n (0:Int)).bind fun q=>(match q with | .inl c=>some c | .inr (d,f)=>(dZ n (b.length:Int) (1:Int) (20:Int)).bind fun a=>some a)
theorem wH{n:Nat}:Hj (lV n):=by
 intro z r h; unfold lV at h; refine bF Try.func153 rfl rfl<|gcc 9 rfl<|cLp h [(2,32)] [] (fun c=>([(3,I64 c)],[])) (fun q=>match q with | .inl b=>(.r,[(2,Bo b)],[]) | .inr (d,f)=>(.e 0,[(3,I64 d),(7,Bo f)],[])) rfl (fun c _ h=> ?_) (fun q h=> ?_)
 unfold nN at h; refine gco 5 rfl<|xLs rfl<|goc 2 rfl<|cIf h rfl (fun w h=> ?_) (fun w h=> ?_)
 refine gco 5 rfl<|oJn h [(10,32)] [] (fun a=>(.n,[(32,Bo a)],[])) (fun _ h=> ?_) (fun a h=> ?_)
 refine goo 2 rfl<|PY h rfl rfl rfl rfl rfl (fun v h=> ?_)
 refine xC0 h (En ·) rfl (fun u h=> ?_)
 refine goo 2 rfl<|oIf 15 h rfl (fun y h=> ?_) (fun y h=> ?_)
 refine goo 3 rfl<|oIf 18 h rfl (fun p h=> ?_) (fun p h=> ?_)
 exact geo; refine goo 2 rfl<|PY h rfl rfl rfl rfl rfl (fun m h=> ?_)
 refine xC0 h (Em ·) rfl (fun g h=> ?_)
 refine goo 2 rfl<|oIf 24 h rfl (fun s h=> ?_) (fun s h=> ?_)
 refine goo 2 rfl<|PY h rfl rfl rfl rfl rfl (fun o h=> ?_)
 refine xC0 h (Eo ·) rfl (fun j h=> ?_)
 exact geo; exact geo; exact geo; refine cIf h rfl (fun t h=> ?_) (fun t h=> ?_)
 exact gec; exact gec; exact gec; rcases q with b | ⟨d,f⟩; exact en; refine gco 3 rfl<|xLs rfl<|xC0 h (eY ·) rfl (fun l h=> ?_)
 exact geo
abbrev nI:Type:=Int→Int→(List UInt8)→(List aB)→(List aA)→Option ((List (List UInt8)))
abbrev sR(p:nI):Prop:= ∀ {a b:Int} {d:List UInt8} {f:List aB} {g:List aA} {r:(List (List UInt8))},p a b d f g=some r→Big Try.prog τ An (.fn 89 [.one (.ag [.int .i64 a, .int .i64 b, .str d, .sl (f.map aE), .sl (g.map aC)])] [] (.one (.c (.sl (r.map bZ)))) none [] none)
def lM(n:Nat)(b:nI)(f:List aB):((List (List UInt8))×Int)→Option (((List (List UInt8))×Int)⊕(((List (List UInt8))×Int×Bool)))
  | (j,c)=>bif decide (c<(f.length:Int))then(ix f c).bind fun a=>(b a.f0 a.f1 a.f2 a.f3 a.f4).bind fun d=>(sX 16 j d).bind fun g=>some (.inl (g,(IntKind.wrap .i64 (c+(1:Int)))))else some (.inr (j,c,false))
def pN(n:Nat)(a:nI)(d:Int)(l:Int)(b:List UInt8)(f:List aB)(m:List aA):Option ((List (List UInt8))):=
  bif decide (d=(3:Int))then bif !decide (b=([95]:List UInt8))then(sX 16 ([]:List (List UInt8)) ([b]:List (List UInt8))).bind fun c=>some c else some ([]:List (List UInt8))else(loopN (lM n a f) n (([]:List (List UInt8)),(0:Int))).bind fun(g,o,j)=>some g
theorem EU{n:Nat}{a:nI}(b:sR a):sR (pN n a):=by
 intro y z m A B r h; unfold pN at h; refine bF Try.func89 rfl rfl<|gco 3 rfl<|wAe (Li bZ []) rfl rfl rfl rfl<|oRs<|yQ (L:=([]:List (List UInt8))) (f:=bZ) rfl rfl rfl rfl rfl rfl rfl<|goc 9 rfl<|cIf h rfl (fun u h=> ?_) (fun u h=> ?_)
 refine gcc 7 rfl<|cIf h rfl (fun v h=> ?_) (fun v h=> ?_)
 refine gco 4 rfl<|yQ (L:=([m]:List (List UInt8))) (f:=bZ) rfl rfl rfl rfl rfl rfl rfl<|wAp (f:=bZ) h rfl rfl rfl rfl rfl rfl rfl rfl rfl (fun _=>rfl) rfl (fun t h=> ?_)
 exact geo; exact gec; refine gcc 6 rfl<|cLp h [(3,4),(18,32)] [] (fun(d,j)=>([(3,Li bZ d),(4,I64 j)],[])) (fun(g,l,c)=>(.e 0,[(3,Li bZ g),(4,I64 l),(22,Bo c)],[])) rfl (fun st _ h=> ?_) (fun q h=> ?_)
 obtain⟨d,j⟩:=st; unfold lM at h; refine gco 6 rfl<|xLn rfl<|goc 2 rfl<|cIf h rfl (fun w h=> ?_) (fun w h=> ?_)
 refine gco 8 rfl<|xIx h aK rfl (fun p h=> ?_)
 refine xLd rfl<|xC0 h (b ·) rfl (fun o h=> ?_)
 refine wAp (f:=bZ) h rfl rfl rfl rfl rfl rfl rfl rfl rfl (fun _=>rfl) rfl (fun s h=> ?_)
 exact geo; exact gec; obtain⟨g,l,c⟩:=q; exact gec
def Bb:Nat→(nI)
  | 0=>(fun _ _ _ _ _=>none)
  | n+1=>pN n (Bb n)
def eW(n:Nat):nI:=Bb n
theorem Ef(n:Nat):sR (eW n):=by
  induction n with
  | zero=>exact(fun h=>nomatch h)
  | succ n ih=>exact EU (n:=n) ih
theorem xZ{n:Nat}:sR (eW n):=(Ef n)
theorem CF(n:Nat):eW (n+1)=pN n (eW n):=rfl
abbrev NR(p:(List UInt8)→Option (Bool)):Prop:= ∀ {a:List UInt8} {r:Bool},p a=some r→Big Try.prog τ An (.fn 154 [.one (.c (.str a))] [] (.one (.c (.bool r))) none [] none)
def tD(n:Nat)(a:List UInt8):Option (Bool):=
  (bif decide (a=([43]:List UInt8))then some true else bif decide (a=([45]:List UInt8))then some true else bif decide (a=([42]:List UInt8))then some true else bif decide (a=([61,61]:List UInt8))then some true else some (decide (a=([60]:List UInt8)))).bind fun b=>some b
theorem Jr{n:Nat}:NR (tD n):=by
 intro g r h; unfold tD at h; refine bF Try.func154 rfl rfl<|gco 6 rfl<|oJn h [(2,20)] [] (fun a=>(.n,[(2,Bo a)],[])) (fun _ h=> ?_) (fun a h=> ?_)
 refine goo 3 rfl<|oIf 5 h rfl (fun b h=> ?_) (fun b h=> ?_)
 exact geo; refine goo 4 rfl<|oIf 9 h rfl (fun c h=> ?_) (fun c h=> ?_)
 exact geo; refine goo 4 rfl<|oIf 13 h rfl (fun d h=> ?_) (fun d h=> ?_)
 exact geo; refine goo 4 rfl<|oIf 17 h rfl (fun f h=> ?_) (fun f h=> ?_)
 exact geo; exact geo; exact gec
abbrev Hi(p:Int→Int→(List UInt8)→(List aB)→(List aA)→Bool→Option (Bool)):Prop:= ∀ {a b:Int} {d:List UInt8} {f:List aB} {g:List aA} {j:Bool} {r:Bool},p a b d f g j=some r→Big Try.prog τ An (.fn 128 [.one (.ag [.int .i64 a, .int .i64 b, .str d, .sl (f.map aE), .sl (g.map aC)]), .one (.c (.bool j))] [] (.one (.c (.bool r))) none [] none)
def oJ(n:Nat)(a:Int)(f:Int)(b:List UInt8)(c:List aB)(s:List aA)(d:Bool):Option (Bool):=
  (bif !decide (a=(9:Int))then bif decide ((0:Int)<(s.length:Int))then some true else bif !decide (a=(1:Int))then some (!decide (f=(0:Int)))else some false else bif !decide (a=(1:Int))then some (!decide (f=(0:Int)))else some false).bind fun u=>bif u then some false else bif decide (a=(1:Int))then((dZ n f (0:Int) (1000000000000:Int)).bind fun t=>bif t then bif decide (b=([]:List UInt8))then some (decide ((c.length:Int)=(0:Int)))else some false else some false).bind fun E=>some E else bif decide (a=(2:Int))then((iN n b).bind fun l=>bif l then some (decide ((c.length:Int)=(0:Int)))else some false).bind fun v=>some v else bif decide (a=(3:Int))then((lV n b).bind fun m=>bif m then bif decide ((c.length:Int)=(0:Int))then bif d then some true else some (!decide (b=([95]:List UInt8)))else some false else some false).bind fun w=>some w else bif decide (a=(4:Int))then(bif decide (b=([]:List UInt8))then some (decide ((c.length:Int)≤(20:Int)))else some false).bind fun y=>some y else bif decide (a=(5:Int))then(bif decide (b=([]:List UInt8))then some (decide ((c.length:Int)≤(20:Int)))else some false).bind fun z=>some z else bif decide (a=(6:Int))then(bif decide (b=([]:List UInt8))then(dZ n (c.length:Int) (2:Int) (6:Int)).bind fun o=>some o else some false).bind fun A=>some A else bif decide (a=(7:Int))then(bif !d then(tD n b).bind fun p=>bif p then some (decide ((c.length:Int)=(2:Int)))else some false else some false).bind fun B=>some B else bif decide (a=(8:Int))then(bif !d then(iN n b).bind fun g=>bif g then some (decide ((c.length:Int)≤(4:Int)))else some false else some false).bind fun C=>some C else bif decide (a=(9:Int))then(bif !d then bif decide (b=([]:List UInt8))then bif decide ((c.length:Int)=(1:Int))then(dZ n (s.length:Int) (1:Int) (6:Int)).bind fun j=>some j else some false else some false else some false).bind fun D=>some D else some false
theorem El{n:Nat}:Hi (oJ n):=by
 intro a7 a8 a9 b0 b1 b2 r h; unfold oJ at h; refine bF Try.func128 rfl rfl<|gco 9 rfl<|xLn rfl<|goo 5 rfl<|oJn h [(9,27)] [] (fun a=>(.n,[(27,Bo a)],[])) (fun _ h=> ?_) (fun a h=> ?_)
 refine goo 4 rfl<|oIf 12 h rfl (fun q2 h=> ?_) (fun q2 h=> ?_)
 refine goo 2 rfl<|xLn rfl<|goo 3 rfl<|oIf 18 h rfl (fun q3 h=> ?_) (fun q3 h=> ?_)
 exact geo; refine goo 4 rfl<|oIf 22 h rfl (fun q4 h=> ?_) (fun q4 h=> ?_)
 exact geo; exact geo; refine goo 10 rfl<|oIf 22 h rfl (fun q5 h=> ?_) (fun q5 h=> ?_)
 exact geo; exact geo; refine cIf h rfl (fun q6 h=> ?_) (fun q6 h=> ?_)
 exact gec; refine gcc 13 rfl<|cIf h rfl (fun q7 h=> ?_) (fun q7 h=> ?_)
 refine cRs<|oJn h [(4,4),(32,43)] [] (fun o=>(.n,[(4,Bo o)],[])) (fun _ h=> ?_) (fun o h=> ?_)
 refine goo 2 rfl<|xC0 h (eY ·) rfl (fun a0 h=> ?_)
 refine xMv rfl<|oIf 35 h rfl (fun y h=> ?_) (fun y h=> ?_)
 refine goo 5 rfl<|oIf 40 h rfl (fun z h=> ?_) (fun z h=> ?_)
 exact geo; exact geo; exact geo; exact gec; refine gcc 5 rfl<|cIf h rfl (fun A h=> ?_) (fun A h=> ?_)
 refine cRs<|oJn h [(4,4),(46,52)] [] (fun b=>(.n,[(4,Bo b)],[])) (fun _ h=> ?_) (fun b h=> ?_)
 refine goo 2 rfl<|xC0 h (qH ·) rfl (fun t h=> ?_)
 refine xMv rfl<|oIf 49 h rfl (fun B h=> ?_) (fun B h=> ?_)
 exact geo; exact geo; exact gec; refine gcc 5 rfl<|cIf h rfl (fun C h=> ?_) (fun C h=> ?_)
 refine cRs<|oJn h [(4,4),(55,69)] [] (fun c=>(.n,[(4,Bo c)],[])) (fun _ h=> ?_) (fun c h=> ?_)
 refine goo 2 rfl<|xC0 h (wH ·) rfl (fun u h=> ?_)
 refine xMv rfl<|oIf 58 h rfl (fun D h=> ?_) (fun D h=> ?_)
 refine goo 4 rfl<|oIf 62 h rfl (fun E h=> ?_) (fun E h=> ?_)
 refine goo 2 rfl<|oIf 64 h rfl (fun G h=> ?_) (fun G h=> ?_)
 exact geo; exact geo; exact geo; exact geo; exact gec; refine gcc 6 rfl<|cIf h rfl (fun H h=> ?_) (fun H h=> ?_)
 refine gco 4 rfl<|oJn h [(4,4),(73,79)] [] (fun d=>(.n,[(4,Bo d)],[])) (fun _ h=> ?_) (fun d h=> ?_)
 refine goo 4 rfl<|oIf 76 h rfl (fun I h=> ?_) (fun I h=> ?_)
 exact geo; exact geo; exact gec; refine gcc 4 rfl<|cIf h rfl (fun J h=> ?_) (fun J h=> ?_)
 refine cRs<|oJn h [(4,4),(73,79)] [] (fun f=>(.n,[(4,Bo f)],[])) (fun _ h=> ?_) (fun f h=> ?_)
 refine goo 4 rfl<|oIf 76 h rfl (fun K h=> ?_) (fun K h=> ?_)
 exact geo; exact geo; exact gec; refine gcc 5 rfl<|cIf h rfl (fun L h=> ?_) (fun L h=> ?_)
 refine cRs<|oJn h [(4,4),(82,88)] [] (fun g=>(.n,[(4,Bo g)],[])) (fun _ h=> ?_) (fun g h=> ?_)
 refine goo 4 rfl<|oIf 85 h rfl (fun M h=> ?_) (fun M h=> ?_)
 refine xMv rfl<|xC0 h (eY ·) rfl (fun v h=> ?_)
 exact geo; exact geo; exact gec; refine gcc 5 rfl<|cIf h rfl (fun N h=> ?_) (fun N h=> ?_)
 refine cRs<|oJn h [(4,4),(91,101)] [] (fun j=>(.n,[(4,Bo j)],[])) (fun _ h=> ?_) (fun j h=> ?_)
 refine goo 3 rfl<|oIf 93 h rfl (fun Q h=> ?_) (fun Q h=> ?_)
 refine goo 2 rfl<|xC0 h (Jr ·) rfl (fun w h=> ?_)
 refine goo 2 rfl<|oIf 98 h rfl (fun R h=> ?_) (fun R h=> ?_)
 exact geo; exact geo; exact geo; exact gec; refine gcc 5 rfl<|cIf h rfl (fun T h=> ?_) (fun T h=> ?_)
 refine cRs<|oJn h [(4,4),(104,114)] [] (fun l=>(.n,[(4,Bo l)],[])) (fun _ h=> ?_) (fun l h=> ?_)
 refine goo 3 rfl<|oIf 106 h rfl (fun U h=> ?_) (fun U h=> ?_)
 refine goo 2 rfl<|xC0 h (qH ·) rfl (fun p h=> ?_)
 refine goo 2 rfl<|oIf 111 h rfl (fun V h=> ?_) (fun V h=> ?_)
 exact geo; exact geo; exact geo; exact gec; refine gcc 5 rfl<|cIf h rfl (fun W h=> ?_) (fun W h=> ?_)
 refine cRs<|oJn h [(4,4),(117,133)] [] (fun m=>(.n,[(4,Bo m)],[])) (fun _ h=> ?_) (fun m h=> ?_)
 refine goo 3 rfl<|oIf 119 h rfl (fun X h=> ?_) (fun X h=> ?_)
 refine goo 5 rfl<|oIf 124 h rfl (fun Y h=> ?_) (fun Y h=> ?_)
 refine goo 4 rfl<|oIf 128 h rfl (fun Z h=> ?_) (fun Z h=> ?_)
 refine goo 2 rfl<|xLn rfl<|xC0 h (eY ·) rfl (fun s h=> ?_)
 exact geo; exact geo; exact geo; exact geo; exact gec; exact gec
abbrev kJ:Type:=Int→Int→(List UInt8)→(List aB)→(List aA)→Bool→Int→Int→Option (Int)
abbrev sO(p:kJ):Prop:= ∀ {a b:Int} {d:List UInt8} {f:List aB} {g:List aA} {j:Bool} {l m:Int} {r:Int},p a b d f g j l m=some r→Big Try.prog τ An (.fn 87 [.one (.ag [.int .i64 a, .int .i64 b, .str d, .sl (f.map aE), .sl (g.map aC)]), .one (.c (.bool j)), .one (.c (.int .i64 l)), .one (.c (.int .i64 m))] [] (.one (.c (.int .i64 r))) none [] none)
def fV(n:Nat)(b:kJ)(l:Bool)(m:Int)(g:List aB):(Int×Int)→Option ((Int×Int)⊕((Int×Int×Bool)))
  | (d,c)=>(bif decide (c<(g.length:Int))then some (decide ((0:Int)≤d))else some false).bind fun j=>bif j then(ix g c).bind fun a=>(b a.f0 a.f1 a.f2 a.f3 a.f4 l (IntKind.wrap .i64 (m - (1:Int))) d).bind fun f=>some (.inl (f,(IntKind.wrap .i64 (c+(1:Int)))))else some (.inr (d,c,false))
def fU(n:Nat)(b:kJ)(s:Int)(j:List aA):(Int×Int)→Option ((Int×Int)⊕((Int)⊕(Int×Int×Bool)))
  | (l,a)=>(bif decide (a<(j.length:Int))then some (decide ((0:Int)≤l))else some false).bind fun t=>bif t then(((ix j a).bind fun c=>(eW n c.f0 c.f1 c.f2 c.f3 c.f4).bind fun m=>(nD n m).bind fun o=>bif !o then some (.inl ((-1):Int))else(ix j a).bind fun d=>(b d.f0 d.f1 d.f2 d.f3 d.f4 true (IntKind.wrap .i64 (s - (1:Int))) l).bind fun g=>bif decide ((0:Int)≤g)then(ix j a).bind fun f=>(b f.f5 f.f6 f.f7 f.f8 f.f9 false (IntKind.wrap .i64 (s - (1:Int))) g).bind fun p=>some (.inr p)else some (.inr g):Option ((Int)⊕(Int)))).bind fun q=>(match q with | .inl v=>some (.inr (.inl v)) | .inr u=>some (.inl (u,(IntKind.wrap .i64 (a+(1:Int))))))else some (.inr (.inr (l,a,false)))
def pK(n:Nat)(a:kJ)(p:Int)(s:Int)(t:List UInt8)(c:List aB)(d:List aA)(f:Bool)(b:Int)(g:Int):Option (Int):=
  (bif decide (b<(1:Int))then some true else bif decide (g<(1:Int))then some true else(oJ n p s t c d f).bind fun j=>some (!j)).bind fun l=>bif l then some ((-1):Int)else(loopN (fV n a f b c) n ((IntKind.wrap .i64 (g - (1:Int))),(0:Int))).bind fun(u,z,w)=>(loopN (fU n a b d) n (u,(0:Int))).bind fun q=>(match q with | .inl o=>some o | .inr (m,v,y)=>some m)
theorem ER{n:Nat}{b:kJ}(a:sO b):sO (pK n b):=by
 intro X Y Z a0 a1 a2 a3 a4 r h; unfold pK at h; refine bF Try.func87 rfl rfl<|gco 8 rfl<|oJn h [(11,22)] [] (fun m=>(.n,[(22,Bo m)],[])) (fun _ h=> ?_) (fun m h=> ?_)
 refine goo 3 rfl<|oIf 13 h rfl (fun U h=> ?_) (fun U h=> ?_)
 exact geo; refine goo 4 rfl<|oIf 17 h rfl (fun V h=> ?_) (fun V h=> ?_)
 exact geo; refine goo 2 rfl<|xC0 h (El ·) rfl (fun T h=> ?_)
 exact geo; refine cIf h rfl (fun W h=> ?_) (fun W h=> ?_)
 exact gec; refine gcc 12 rfl<|cLp h [(3,3),(9,9),(25,45)] [] (fun(v,y)=>([(3,I64 v),(9,I64 y)],[])) (fun(w,z,f)=>(.e 0,[(3,I64 w),(9,I64 z),(33,Bo f)],[])) rfl (fun st _ h=> ?_) (fun q h=> ?_)
 obtain⟨v,y⟩:=st; unfold fV at h; refine gco 3 rfl<|oJn h [(25,33)] [] (fun g=>(.n,[(33,Bo g)],[])) (fun _ h=> ?_) (fun g h=> ?_)
 refine goo 3 rfl<|xLn rfl<|goo 2 rfl<|oIf 30 h rfl (fun K h=> ?_) (fun K h=> ?_)
 exact geo; exact geo; refine cIf h rfl (fun L h=> ?_) (fun L h=> ?_)
 refine gco 7 rfl<|xIx h aK rfl (fun G h=> ?_)
 refine goo 5 rfl<|xC0 h (a ·) rfl (fun A h=> ?_)
 exact geo; exact gec; obtain⟨w,z,f⟩:=q; refine gcc 5 rfl<|cLp h [(3,3),(8,8),(10,10),(46,87)] [] (fun(o,c)=>([(3,I64 o),(10,I64 c)],[])) (fun q=>match q with | .inl t=>(.r,[(8,I64 t)],[]) | .inr (p,d,j)=>(.e 2,[(3,I64 p),(10,I64 d),(54,Bo j)],[])) rfl (fun st _ h=> ?_) (fun q h=> ?_)
 obtain⟨o,c⟩:=st; unfold fU at h; refine gco 3 rfl<|oJn h [(46,54)] [] (fun l=>(.n,[(54,Bo l)],[])) (fun _ h=> ?_) (fun l h=> ?_)
 refine goo 3 rfl<|xLn rfl<|goo 2 rfl<|oIf 51 h rfl (fun M h=> ?_) (fun M h=> ?_)
 exact geo; exact geo; refine cIf h rfl (fun N h=> ?_) (fun N h=> ?_)
 refine gcc 2 rfl<|cJn h [(3,3),(8,8),(57,87)] [] (fun q=>match q with | .inl u=>(.r,[(8,I64 u)],[]) | .inr s=>(.n,[(3,I64 s)],[])) (fun _ h=> ?_) (fun q h=> ?_)
 refine gco 7 rfl<|xIx h aG rfl (fun H h=> ?_)
 refine goo 2 rfl<|xC0 h (xZ ·) rfl (fun B h=> ?_)
 refine xC0 h (xY ·) rfl (fun C h=> ?_)
 refine goc 2 rfl<|cIf h rfl (fun Q h=> ?_) (fun Q h=> ?_)
 exact gec; refine gco 6 rfl<|xIx h aG rfl (fun I h=> ?_)
 refine goo 5 rfl<|xC0 h (a ·) rfl (fun D h=> ?_)
 refine goc 7 rfl<|cIf h rfl (fun R h=> ?_) (fun R h=> ?_)
 refine gco 4 rfl<|xIx h aG rfl (fun J h=> ?_)
 refine goo 5 rfl<|xC0 h (a ·) rfl (fun E h=> ?_)
 exact geo; exact gec; rcases q with u | s; exact en; exact gec; exact gec; rcases q with t | ⟨p,d,j⟩; exact en; exact gec
def BY:Nat→(kJ)
  | 0=>(fun _ _ _ _ _ _ _ _=>none)
  | n+1=>pK n (BY n)
def dF(n:Nat):kJ:=BY n
theorem Ec(n:Nat):sO (dF n):=by
  induction n with
  | zero=>exact(fun h=>nomatch h)
  | succ n ih=>exact ER (n:=n) ih
theorem GW{n:Nat}:sO (dF n):=(Ec n)
theorem CC(n:Nat):dF (n+1)=pK n (dF n):=rfl
abbrev Jx(p:Int→Int→(List UInt8)→(List aB)→(List aA)→Option (Bool)):Prop:= ∀ {a b:Int} {d:List UInt8} {f:List aB} {g:List aA} {r:Bool},p a b d f g=some r→Big Try.prog τ An (.fn 159 [.one (.ag [.int .i64 a, .int .i64 b, .str d, .sl (f.map aE), .sl (g.map aC)])] [] (.one (.c (.bool r))) none [] none)
def nG(n:Nat)(b:Int)(c:Int)(d:List UInt8)(f:List aB)(g:List aA):Option (Bool):=
  (dF n b c d f g false (10:Int) (300:Int)).bind fun a=>some (decide ((0:Int)≤a))
theorem Gb{n:Nat}:Jx (nG n):=by
 intro b c d f g r h; unfold nG at h; refine bF Try.func159 rfl rfl<|gco 8 rfl<|xC0 h (GW ·) rfl (fun a h=> ?_)
 exact geo
abbrev Hh(p:(List UInt8)→(List (List UInt8))→Int→Int→(List UInt8)→(List aB)→(List aA)→Option (Bool)):Prop:= ∀ {a:List UInt8} {b:List (List UInt8)} {d f:Int} {g:List UInt8} {j:List aB} {l:List aA} {r:Bool},p a b d f g j l=some r→Big Try.prog τ An (.fn 140 [.one (.ag [.str a, .sl (b.map bZ), .int .i64 d, .int .i64 f, .str g, .sl (j.map aE), .sl (l.map aC)])] [] (.one (.c (.bool r))) none [] none)
def nL(n:Nat)(b:List (List UInt8)):(Int)→Option ((Int)⊕((Bool)⊕(Int×Bool)))
  | a=>bif decide (a<(b.length:Int))then((ix b a).bind fun f=>(lV n f).bind fun d=>bif !d then some true else(ix b a).bind fun c=>some (decide (c=([95]:List UInt8)))).bind fun g=>bif g then some (.inr (.inl false))else some (.inl (IntKind.wrap .i64 (a+(1:Int))))else some (.inr (.inr (a,false)))
def oI(n:Nat)(f:List UInt8)(c:List (List UInt8))(g:Int)(j:Int)(l:List UInt8)(m:List aB)(o:List aA):Option (Bool):=
  (loopN (nL n c) n (0:Int)).bind fun q=>(match q with | .inl p=>some p | .inr (s,t)=>((iN n f).bind fun a=>bif a then bif decide ((c.length:Int)≤(4:Int))then(nG n g j l m o).bind fun b=>some b else some false else some false).bind fun d=>some d)
theorem Ej{n:Nat}:Hh (oI n):=by
 intro y z A B C D E r h; unfold oI at h; refine bF Try.func140 rfl rfl<|gcc 10 rfl<|cLp h [(2,25)] [] (fun d=>([(3,I64 d)],[])) (fun q=>match q with | .inl c=>(.r,[(2,Bo c)],[]) | .inr (f,g)=>(.e 0,[(3,I64 f),(8,Bo g)],[])) rfl (fun d _ h=> ?_) (fun q h=> ?_)
 unfold nL at h; refine gco 6 rfl<|xLn rfl<|goc 2 rfl<|cIf h rfl (fun v h=> ?_) (fun v h=> ?_)
 refine gco 5 rfl<|oJn h [(11,25)] [] (fun a=>(.n,[(25,Bo a)],[])) (fun _ h=> ?_) (fun a h=> ?_)
 refine goo 3 rfl<|xIx h mL rfl (fun u h=> ?_)
 refine xLd rfl<|xC0 h (wH ·) rfl (fun t h=> ?_)
 refine goo 2 rfl<|oIf 18 h rfl (fun w h=> ?_) (fun w h=> ?_)
 exact geo; refine goo 3 rfl<|xIx h mL rfl (fun m h=> ?_)
 exact geo; refine cIf h rfl (fun o h=> ?_) (fun o h=> ?_)
 exact gec; exact gec; exact gec; rcases q with c | ⟨f,g⟩; exact en; refine cRs<|oJn h [(2,2),(26,39)] [] (fun b=>(.n,[(2,Bo b)],[])) (fun _ h=> ?_) (fun b h=> ?_)
 refine goo 2 rfl<|xC0 h (qH ·) rfl (fun j h=> ?_)
 refine xMv rfl<|oIf 29 h rfl (fun p h=> ?_) (fun p h=> ?_)
 refine goo 2 rfl<|xLn rfl<|goo 3 rfl<|oIf 35 h rfl (fun s h=> ?_) (fun s h=> ?_)
 refine goo 2 rfl<|xC0 h (Gb ·) rfl (fun l h=> ?_)
 exact geo; exact geo; exact geo; exact gec
abbrev DX(p:(List aD)→Option (Bool)):Prop:= ∀ {a:List aD} {r:Bool},p a=some r→Big Try.prog τ An (.fn 110 [.one (.ag [.sl (a.map aH)])] [] (.one (.c (.bool r))) none [] none)
def jQ(n:Nat)(c:List aD):(Int)→Option ((Int)⊕((Bool)⊕(Int×Bool)))
  | b=>bif decide (b<(c.length:Int))then(ix c b).bind fun a=>(oI n a.f0 a.f1 a.f2 a.f3 a.f4 a.f5 a.f6).bind fun d=>bif !d then some (.inr (.inl false))else some (.inl (IntKind.wrap .i64 (b+(1:Int))))else some (.inr (.inr (b,false)))
def jZ(n:Nat)(a:List aD):Option (Bool):=
  (loopN (jQ n a) n (0:Int)).bind fun q=>(match q with | .inl b=>some b | .inr (c,d)=>some (decide ((a.length:Int)≤(12:Int))))
theorem Au{n:Nat}:DX (jZ n):=by
 intro m r h; unfold jZ at h; refine bF Try.func110 rfl rfl<|gcc 10 rfl<|cLp h [(2,17)] [] (fun b=>([(3,I64 b)],[])) (fun q=>match q with | .inl a=>(.r,[(2,Bo a)],[]) | .inr (c,d)=>(.e 0,[(3,I64 c),(8,Bo d)],[])) rfl (fun b _ h=> ?_) (fun q h=> ?_)
 unfold jQ at h; refine gco 6 rfl<|xLn rfl<|goc 2 rfl<|cIf h rfl (fun j h=> ?_) (fun j h=> ?_)
 refine gco 8 rfl<|xIx h bC rfl (fun g h=> ?_)
 refine xLd rfl<|xC0 h (Ej ·) rfl (fun f h=> ?_)
 refine goc 2 rfl<|cIf h rfl (fun l h=> ?_) (fun l h=> ?_)
 exact gec; exact gec; exact gec; rcases q with a | ⟨c,d⟩; exact en; exact gco 4 rfl<|xLn rfl<|geo
abbrev kK:Type:=(List (List UInt8))→(List (List UInt8))→Int→Int→(List UInt8)→(List aB)→(List aA)→Option ((List (List UInt8)))
abbrev sP(p:kK):Prop:= ∀ {a b:List (List UInt8)} {d f:Int} {g:List UInt8} {j:List aB} {l:List aA} {r:(List (List UInt8))},p a b d f g j l=some r→Big Try.prog τ An (.fn 141 [.one (.c (.sl (a.map bZ))), .one (.c (.sl (b.map bZ))), .one (.ag [.int .i64 d, .int .i64 f, .str g, .sl (j.map aE), .sl (l.map aC)])] [] (.one (.c (.sl (r.map bZ)))) none [] none)
def iJ(n:Nat)(b:kK)(j:List (List UInt8))(f:List aB):((List (List UInt8))×Int)→Option (((List (List UInt8))×Int)⊕(((List (List UInt8))×Int×Bool)))
  | (g,c)=>bif decide (c<(f.length:Int))then(ix f c).bind fun a=>(b g j a.f0 a.f1 a.f2 a.f3 a.f4).bind fun d=>some (.inl (d,(IntKind.wrap .i64 (c+(1:Int)))))else some (.inr (g,c,false))
def iI(n:Nat)(d:kK)(p:List (List UInt8))(f:List aA):((List (List UInt8))×Int)→Option (((List (List UInt8))×Int)⊕(((List (List UInt8))×Int×Bool)))
  | (g,c)=>bif decide (c<(f.length:Int))then(sX 16 ([]:List (List UInt8)) p).bind fun m=>(ix f c).bind fun a=>(eW n a.f0 a.f1 a.f2 a.f3 a.f4).bind fun j=>(sX 16 m j).bind fun o=>(ix f c).bind fun b=>(d g o b.f5 b.f6 b.f7 b.f8 b.f9).bind fun l=>some (.inl (l,(IntKind.wrap .i64 (c+(1:Int)))))else some (.inr (g,c,false))
def pL(n:Nat)(a:kK)(b:List (List UInt8))(c:List (List UInt8))(p:Int)(z:Int)(d:List UInt8)(s:List aB)(t:List aA):Option ((List (List UInt8))):=
  bif decide (p=(3:Int))then((kF n c d).bind fun f=>bif !f then(kF n b d).bind fun g=>some (!g)else some false).bind fun m=>bif m then(sX 16 b ([d]:List (List UInt8))).bind fun o=>some o else some b else(loopN (iJ n a c s) n (b,(0:Int))).bind fun(j,w,u)=>(loopN (iI n a c t) n (j,(0:Int))).bind fun(l,y,v)=>some l
theorem ES{n:Nat}{b:kK}(a:sP b):sP (pL n b):=by
 intro R T U V v W X r h; unfold pL at h; refine bF Try.func141 rfl rfl<|gco 3 rfl<|wAe (Li bZ []) rfl rfl rfl rfl<|goc 8 rfl<|cIf h rfl (fun M h=> ?_) (fun M h=> ?_)
 refine gco 3 rfl<|oJn h [(13,24)] [] (fun m=>(.n,[(24,Bo m)],[])) (fun _ h=> ?_) (fun m h=> ?_)
 refine goo 3 rfl<|xC0 h (rG ·) rfl (fun I h=> ?_)
 refine goo 2 rfl<|oIf 18 h rfl (fun N h=> ?_) (fun N h=> ?_)
 refine goo 3 rfl<|xC0 h (rG ·) rfl (fun J h=> ?_)
 exact geo; exact geo; refine cIf h rfl (fun Q h=> ?_) (fun Q h=> ?_)
 refine gco 4 rfl<|yQ (L:=([v]:List (List UInt8))) (f:=bZ) rfl rfl rfl rfl rfl rfl rfl<|wAp (f:=bZ) h rfl rfl rfl rfl rfl rfl rfl rfl rfl (fun _=>rfl) rfl (fun K h=> ?_)
 exact geo; exact gec; refine gcc 6 rfl<|cLp h [(0,0),(7,7),(31,45)] [] (fun(t,u)=>([(0,Li bZ t),(7,I64 u)],[])) (fun(g,o,c)=>(.e 0,[(0,Li bZ g),(7,I64 o),(35,Bo c)],[])) rfl (fun st _ h=> ?_) (fun q h=> ?_)
 obtain⟨t,u⟩:=st; unfold iJ at h; refine gco 6 rfl<|xLn rfl<|goc 2 rfl<|cIf h rfl (fun D h=> ?_) (fun D h=> ?_)
 refine gco 9 rfl<|xIx h aK rfl (fun A h=> ?_)
 refine xLd rfl<|xC0 h (a ·) rfl (fun w h=> ?_)
 exact geo; exact gec; obtain⟨g,o,c⟩:=q; refine gcc 5 rfl<|cLp h [(0,0),(8,9),(46,72)] [] (fun(j,p)=>([(0,Li bZ j),(8,I64 p)],[])) (fun(l,s,d)=>(.e 2,[(0,Li bZ l),(8,I64 s),(50,Bo d)],[])) rfl (fun st _ h=> ?_) (fun q h=> ?_)
 obtain⟨j,p⟩:=st; unfold iI at h; refine gco 6 rfl<|xLn rfl<|goc 2 rfl<|cIf h rfl (fun E h=> ?_) (fun E h=> ?_)
 refine gco 5 rfl<|yQ (L:=([]:List (List UInt8))) (f:=bZ) rfl rfl rfl rfl rfl rfl rfl<|xMv rfl<|wAp (f:=bZ) h rfl rfl rfl rfl rfl rfl rfl rfl rfl (fun _=>rfl) rfl (fun G h=> ?_)
 refine goo 3 rfl<|xIx h aG rfl (fun B h=> ?_)
 refine goo 2 rfl<|xC0 h (xZ ·) rfl (fun y h=> ?_)
 refine wAp (f:=bZ) h rfl rfl rfl rfl rfl rfl rfl rfl rfl (fun _=>rfl) rfl (fun H h=> ?_)
 refine goo 8 rfl<|xIx h aG rfl (fun C h=> ?_)
 refine goo 2 rfl<|xC0 h (a ·) rfl (fun z h=> ?_)
 exact geo; exact gec; obtain⟨l,s,d⟩:=q; exact gec
def BZ:Nat→(kK)
  | 0=>(fun _ _ _ _ _ _ _=>none)
  | n+1=>pL n (BZ n)
def eA(n:Nat):kK:=BZ n
theorem Ed(n:Nat):sP (eA n):=by
  induction n with
  | zero=>exact(fun h=>nomatch h)
  | succ n ih=>exact ES (n:=n) ih
theorem GX{n:Nat}:sP (eA n):=(Ed n)
theorem CD(n:Nat):eA (n+1)=pL n (eA n):=rfl
abbrev Jw(p:Int→Int→(List UInt8)→(List aB)→(List aA)→Option ((List (List UInt8)))):Prop:= ∀ {a b:Int} {d:List UInt8} {f:List aB} {g:List aA} {r:(List (List UInt8))},p a b d f g=some r→Big Try.prog τ An (.fn 111 [.one (.ag [.int .i64 a, .int .i64 b, .str d, .sl (f.map aE), .sl (g.map aC)])] [] (.one (.c (.sl (r.map bZ)))) none [] none)
def nF(n:Nat)(b:Int)(c:Int)(d:List UInt8)(f:List aB)(g:List aA):Option ((List (List UInt8))):=
  (eA n ([]:List (List UInt8)) ([]:List (List UInt8)) b c d f g).bind fun a=>some a
theorem Ga{n:Nat}:Jw (nF n):=by
 intro b c d g j r h; unfold nF at h; refine bF Try.func111 rfl rfl<|gco 3 rfl<|wAe (Li bZ []) rfl rfl rfl rfl<|oRs<|yQ (L:=([]:List (List UInt8))) (f:=bZ) rfl rfl rfl rfl rfl rfl rfl<|yQ (L:=([]:List (List UInt8))) (f:=bZ) rfl rfl rfl rfl rfl rfl rfl<|xLd rfl<|xC0 h (GX ·) rfl (fun a h=> ?_)
 exact geo
abbrev eZ:Type:=(List aD)→Int→Int→(List UInt8)→(List aB)→(List aA)→Option (Bool)
abbrev rJ(p:eZ):Prop:= ∀ {a:List aD} {b d:Int} {f:List UInt8} {g:List aB} {j:List aA} {r:Bool},p a b d f g j=some r→Big Try.prog τ An (.fn 113 [.one (.ag [.sl (a.map aH)]), .one (.ag [.int .i64 b, .int .i64 d, .str f, .sl (g.map aE), .sl (j.map aC)])] [] (.one (.c (.bool r))) none [] none)
def jY(n:Nat)(b:eZ)(g:List aD)(f:List aB):(Int)→Option ((Int)⊕((Bool)⊕(Int×Bool)))
  | c=>bif decide (c<(f.length:Int))then(ix f c).bind fun a=>(b g a.f0 a.f1 a.f2 a.f3 a.f4).bind fun d=>bif !d then some (.inr (.inl false))else some (.inl (IntKind.wrap .i64 (c+(1:Int))))else some (.inr (.inr (c,false)))
def jX(n:Nat)(b:eZ)(g:List aD)(f:List aA):(Int)→Option ((Int)⊕((Bool)⊕(Int×Bool)))
  | c=>bif decide (c<(f.length:Int))then(ix f c).bind fun a=>(b g a.f5 a.f6 a.f7 a.f8 a.f9).bind fun d=>bif !d then some (.inr (.inl false))else some (.inl (IntKind.wrap .i64 (c+(1:Int))))else some (.inr (.inr (c,false)))
def jW(n:Nat)(b:eZ)(g:List aD)(f:List aB):(Int)→Option ((Int)⊕((Bool)⊕(Int×Bool)))
  | c=>bif decide (c<(f.length:Int))then(ix f c).bind fun a=>(b g a.f0 a.f1 a.f2 a.f3 a.f4).bind fun d=>bif !d then some (.inr (.inl false))else some (.inl (IntKind.wrap .i64 (c+(1:Int))))else some (.inr (.inr (c,false)))
def jV(n:Nat)(b:eZ)(g:List aD)(f:List aA):(Int)→Option ((Int)⊕((Bool)⊕(Int×Bool)))
  | c=>bif decide (c<(f.length:Int))then(ix f c).bind fun a=>(b g a.f5 a.f6 a.f7 a.f8 a.f9).bind fun d=>bif !d then some (.inr (.inl false))else some (.inl (IntKind.wrap .i64 (c+(1:Int))))else some (.inr (.inr (c,false)))
def oD(n:Nat)(a:eZ)(b:List aD)(p:Int)(C:Int)(s:List UInt8)(c:List aB)(f:List aA):Option (Bool):=
  bif decide (p=(8:Int))then(kG n b s).bind fun d=>(bif decide (d<(0:Int))then some true else(ix b d).bind fun g=>some (!decide ((g.f1.length:Int)=(c.length:Int)))).bind fun j=>bif j then some false else(loopN (jY n a b c) n (0:Int)).bind fun q=>(match q with | .inl t=>some t | .inr (D,u)=>(loopN (jX n a b f) n (0:Int)).bind fun q=>(match q with | .inl l=>some l | .inr (A,w)=>some true))else(loopN (jW n a b c) n (0:Int)).bind fun q=>(match q with | .inl m=>some m | .inr (z,v)=>(loopN (jV n a b f) n (0:Int)).bind fun q=>(match q with | .inl o=>some o | .inr (B,y)=>some true))
theorem DG{n:Nat}{b:eZ}(a:rJ b):rJ (oD n b):=by
 intro a0 a1 a2 a3 a4 a5 r h; unfold oD at h; refine bF Try.func113 rfl rfl<|gcc 13 rfl<|cIf h rfl (fun X h=> ?_) (fun X h=> ?_)
 refine gco 5 rfl<|xC0 h (rH ·) rfl (fun V h=> ?_)
 refine goo 4 rfl<|oJn h [(15,29)] [] (fun j=>(.n,[(29,Bo j)],[])) (fun _ h=> ?_) (fun j h=> ?_)
 refine goo 3 rfl<|oIf 17 h rfl (fun Y h=> ?_) (fun Y h=> ?_)
 exact geo; refine goo 3 rfl<|xIx h bC rfl (fun W h=> ?_)
 exact goo 2 rfl<|xLn rfl<|goo 2 rfl<|xLn rfl<|geo
 refine cIf h rfl (fun Z h=> ?_) (fun Z h=> ?_)
 exact gec; refine gcc 6 rfl<|cLp h [(4,4),(6,6),(30,44)] [] (fun z=>([(6,I64 z)],[])) (fun q=>match q with | .inl y=>(.r,[(4,Bo y)],[]) | .inr (A,c)=>(.e 0,[(6,I64 A),(34,Bo c)],[])) rfl (fun z _ h=> ?_) (fun q h=> ?_)
 unfold jY at h; refine gco 6 rfl<|xLn rfl<|goc 2 rfl<|cIf h rfl (fun K h=> ?_) (fun K h=> ?_)
 refine gco 9 rfl<|xIx h aK rfl (fun G h=> ?_)
 refine xLd rfl<|xC0 h (a ·) rfl (fun B h=> ?_)
 refine goc 2 rfl<|cIf h rfl (fun L h=> ?_) (fun L h=> ?_)
 exact gec; exact gec; exact gec; rcases q with y | ⟨A,c⟩; exact en; refine gcc 5 rfl<|cLp h [(4,4),(7,7),(45,60)] [] (fun t=>([(7,I64 t)],[])) (fun q=>match q with | .inl l=>(.r,[(4,Bo l)],[]) | .inr (u,f)=>(.e 2,[(7,I64 u),(49,Bo f)],[])) rfl (fun t _ h=> ?_) (fun q h=> ?_)
 unfold jX at h; refine gco 6 rfl<|xLn rfl<|goc 2 rfl<|cIf h rfl (fun M h=> ?_) (fun M h=> ?_)
 refine gco 9 rfl<|xIx h aG rfl (fun I h=> ?_)
 refine goo 2 rfl<|xC0 h (a ·) rfl (fun D h=> ?_)
 refine goc 2 rfl<|cIf h rfl (fun N h=> ?_) (fun N h=> ?_)
 exact gec; exact gec; exact gec; rcases q with l | ⟨u,f⟩; exact en; exact gec; refine gcc 6 rfl<|cLp h [(4,4),(6,6),(30,44)] [] (fun p=>([(6,I64 p)],[])) (fun q=>match q with | .inl m=>(.r,[(4,Bo m)],[]) | .inr (s,d)=>(.e 0,[(6,I64 s),(34,Bo d)],[])) rfl (fun p _ h=> ?_) (fun q h=> ?_)
 unfold jW at h; refine gco 6 rfl<|xLn rfl<|goc 2 rfl<|cIf h rfl (fun Q h=> ?_) (fun Q h=> ?_)
 refine gco 9 rfl<|xIx h aK rfl (fun H h=> ?_)
 refine xLd rfl<|xC0 h (a ·) rfl (fun C h=> ?_)
 refine goc 2 rfl<|cIf h rfl (fun R h=> ?_) (fun R h=> ?_)
 exact gec; exact gec; exact gec; rcases q with m | ⟨s,d⟩; exact en; refine gcc 5 rfl<|cLp h [(4,4),(7,7),(45,60)] [] (fun v=>([(7,I64 v)],[])) (fun q=>match q with | .inl o=>(.r,[(4,Bo o)],[]) | .inr (w,g)=>(.e 2,[(7,I64 w),(49,Bo g)],[])) rfl (fun v _ h=> ?_) (fun q h=> ?_)
 unfold jV at h; refine gco 6 rfl<|xLn rfl<|goc 2 rfl<|cIf h rfl (fun T h=> ?_) (fun T h=> ?_)
 refine gco 9 rfl<|xIx h aG rfl (fun J h=> ?_)
 refine goo 2 rfl<|xC0 h (a ·) rfl (fun E h=> ?_)
 refine goc 2 rfl<|cIf h rfl (fun U h=> ?_) (fun U h=> ?_)
 exact gec; exact gec; exact gec; rcases q with o | ⟨w,g⟩; exact en; exact gec
def zW:Nat→(eZ)
  | 0=>(fun _ _ _ _ _ _=>none)
  | n+1=>oD n (zW n)
def cD(n:Nat):eZ:=zW n
theorem DM(n:Nat):rJ (cD n):=by
  induction n with
  | zero=>exact(fun h=>nomatch h)
  | succ n ih=>exact DG (n:=n) ih
theorem Ei{n:Nat}:rJ (cD n):=(DM n)
theorem Ao(n:Nat):cD (n+1)=oD n (cD n):=rfl
abbrev Gt(p:(List aD)→Option (Bool)):Prop:= ∀ {a:List aD} {r:Bool},p a=some r→Big Try.prog τ An (.fn 73 [.one (.ag [.sl (a.map aH)])] [] (.one (.c (.bool r))) none [] none)
def mD(n:Nat)(f:aD)(b:(List (List UInt8))):(Int)→Option ((Int)⊕((Bool)⊕(Int×Bool)))
  | a=>bif decide (a<(b.length:Int))then(ix b a).bind fun d=>(kF n f.f1 d).bind fun c=>bif !c then some (.inr (.inl false))else some (.inl (IntKind.wrap .i64 (a+(1:Int))))else some (.inr (.inr (a,false)))
def mE(n:Nat)(c:List aD):(Int)→Option ((Int)⊕((Bool)⊕(Int×Bool)))
  | b=>bif decide (b<(c.length:Int))then(ix c b).bind fun a=>(nF n a.f2 a.f3 a.f4 a.f5 a.f6).bind fun l=>(loopN (mD n a l) n (0:Int)).bind fun q=>(match q with | .inl m=>some (.inr (.inl m)) | .inr (p,o)=>((kG n c a.f0).bind fun d=>bif !decide (d=b)then some true else(nD n a.f1).bind fun f=>bif !f then some true else(cD n c a.f2 a.f3 a.f4 a.f5 a.f6).bind fun g=>some (!g)).bind fun j=>bif j then some (.inr (.inl false))else some (.inl (IntKind.wrap .i64 (b+(1:Int)))))else some (.inr (.inr (b,false)))
def mV(n:Nat)(a:List aD):Option (Bool):=
  (jZ n a).bind fun b=>bif !b then some false else(loopN (mE n a) n (0:Int)).bind fun q=>(match q with | .inl c=>some c | .inr (f,d)=>some true)
theorem DQ{n:Nat}:Gt (mV n):=by
 intro H r h; unfold mV at h; refine bF Try.func73 rfl rfl<|gco 9 rfl<|xC0 h (Au ·) rfl (fun D h=> ?_)
 refine goc 2 rfl<|cIf h rfl (fun E h=> ?_) (fun E h=> ?_)
 exact gec; refine gcc 6 rfl<|cLp h [(2,6),(10,57)] [(4,4)] (fun l=>([(3,I64 l)],[])) (fun q=>match q with | .inl j=>(.r,[(2,Bo j)],[]) | .inr (m,c)=>(.e 0,[(3,I64 m),(14,Bo c)],[])) rfl (fun l _ h=> ?_) (fun q h=> ?_)
 unfold mE at h; refine gco 6 rfl<|xLn rfl<|goc 2 rfl<|cIf h rfl (fun G h=> ?_) (fun G h=> ?_)
 refine gco 8 rfl<|xIx h bC rfl (fun C h=> ?_)
 refine xLd rfl<|xAz [.str [], .sl ([].map bZ), .int .i64 0, .int .i64 0, .str [], .sl ([].map aE), .sl ([].map aC)] rfl<|goo 6 rfl<|xC0 h (Ga ·) rfl (fun B h=> ?_)
 refine goc 7 rfl<|cLp h [(2,2),(6,6),(25,38)] [] (fun f=>([(6,I64 f)],[])) (fun q=>match q with | .inl d=>(.r,[(2,Bo d)],[]) | .inr (g,a)=>(.e 2,[(6,I64 g),(28,Bo a)],[])) rfl (fun f _ h=> ?_) (fun q h=> ?_)
 unfold mD at h; refine gco 5 rfl<|xLn rfl<|goc 2 rfl<|cIf h rfl (fun v h=> ?_) (fun v h=> ?_)
 refine gco 9 rfl<|xIx h mL rfl (fun u h=> ?_)
 refine xLd rfl<|xC0 h (rG ·) rfl (fun o h=> ?_)
 refine goc 2 rfl<|cIf h rfl (fun w h=> ?_) (fun w h=> ?_)
 exact gec; exact gec; exact gec; rcases q with d | ⟨g,a⟩; exact en; refine cRs<|oJn h [(39,57)] [] (fun b=>(.n,[(57,Bo b)],[])) (fun _ h=> ?_) (fun b h=> ?_)
 refine goo 3 rfl<|xC0 h (rH ·) rfl (fun p h=> ?_)
 refine goo 3 rfl<|oIf 45 h rfl (fun y h=> ?_) (fun y h=> ?_)
 exact geo; refine goo 2 rfl<|xC0 h (xY ·) rfl (fun s h=> ?_)
 refine goo 3 rfl<|oIf 51 h rfl (fun z h=> ?_) (fun z h=> ?_)
 exact geo; refine goo 3 rfl<|xC0 h (Ei ·) rfl (fun t h=> ?_)
 exact geo; refine cIf h rfl (fun A h=> ?_) (fun A h=> ?_)
 exact gec; exact gec; exact gec; rcases q with j | ⟨m,c⟩; exact en; exact gec
abbrev eE:Type:=Int→Int→(List UInt8)→(List aB)→(List aA)→(List UInt8)→(List UInt8)→Option (Int×Int×(List UInt8)×(List aB)×(List aA))
abbrev qI(p:eE):Prop:= ∀ {a b:Int} {d:List UInt8} {f:List aB} {g:List aA} {j l:List UInt8} {r:Int×Int×(List UInt8)×(List aB)×(List aA)},p a b d f g j l=some r→Big Try.prog τ An (.fn 75 [.one (.ag [.int .i64 a, .int .i64 b, .str d, .sl (f.map aE), .sl (g.map aC)]), .one (.c (.str j)), .one (.c (.str l))] [] (.one (.ag [.int .i64 r.1, .int .i64 r.2.1, .str r.2.2.1, .sl (r.2.2.2.1.map aE), .sl (r.2.2.2.2.map aC)])) none [] none)
def fT(n:Nat)(c:eE)(p:List UInt8)(s:List UInt8):(Int×Int×Int×(List UInt8)×(List aB)×(List aA))→Option ((Int×Int×Int×(List UInt8)×(List aB)×(List aA))⊕((Int×Bool×Int×Int×(List UInt8)×(List aB)×(List aA))))
  | (d,g,j,l,f,m)=>bif decide (d<(f.length:Int))then(ix f d).bind fun b=>(c b.f0 b.f1 b.f2 b.f3 b.f4 p s).bind fun a=>(ix f d).bind fun t=>(some (f.set (Int.toNat d) (aB.mk a.1 a.2.1 a.2.2.1 a.2.2.2.1 a.2.2.2.2))).bind fun o=>some (.inl ((IntKind.wrap .i64 (d+(1:Int))),g,j,l,o,m))else some (.inr (d,false,g,j,l,f,m))
def fR(n:Nat)(d:eE)(p:List UInt8)(s:List UInt8):(Int×Int×Int×(List UInt8)×(List aB)×(List aA))→Option ((Int×Int×Int×(List UInt8)×(List aB)×(List aA))⊕((Int×Bool×Int×Int×(List UInt8)×(List aB)×(List aA))))
  | (c,g,j,l,m,f)=>bif decide (c<(f.length:Int))then(ix f c).bind fun a=>(d a.f5 a.f6 a.f7 a.f8 a.f9 p s).bind fun b=>(ix f c).bind fun t=>(some (f.set (Int.toNat c) (aA.mk a.f0 a.f1 a.f2 a.f3 a.f4 b.1 b.2.1 b.2.2.1 b.2.2.2.1 b.2.2.2.2))).bind fun o=>some (.inl ((IntKind.wrap .i64 (c+(1:Int))),g,j,l,m,o))else some (.inr (c,false,g,j,l,m,f))
def uH(n:Nat)(d:eE)(p:List UInt8)(s:List UInt8):(Int×Int×Int×(List UInt8)×(List aB)×(List aA))→Option ((Int×Int×Int×(List UInt8)×(List aB)×(List aA))⊕((Int×Bool×Int×Int×(List UInt8)×(List aB)×(List aA))))
  | (c,g,j,l,f,m)=>bif decide (c<(f.length:Int))then(ix f c).bind fun b=>(d b.f0 b.f1 b.f2 b.f3 b.f4 p s).bind fun a=>(ix f c).bind fun t=>(some (f.set (Int.toNat c) (aB.mk a.1 a.2.1 a.2.2.1 a.2.2.2.1 a.2.2.2.2))).bind fun o=>some (.inl ((IntKind.wrap .i64 (c+(1:Int))),g,j,l,o,m))else some (.inr (c,false,g,j,l,f,m))
def uG(n:Nat)(d:eE)(p:List UInt8)(s:List UInt8):(Int×Int×Int×(List UInt8)×(List aB)×(List aA))→Option ((Int×Int×Int×(List UInt8)×(List aB)×(List aA))⊕((Int×Bool×Int×Int×(List UInt8)×(List aB)×(List aA))))
  | (c,g,j,l,m,f)=>bif decide (c<(f.length:Int))then(ix f c).bind fun a=>(d a.f5 a.f6 a.f7 a.f8 a.f9 p s).bind fun b=>(ix f c).bind fun t=>(some (f.set (Int.toNat c) (aA.mk a.f0 a.f1 a.f2 a.f3 a.f4 b.1 b.2.1 b.2.2.1 b.2.2.2.1 b.2.2.2.2))).bind fun o=>some (.inl ((IntKind.wrap .i64 (c+(1:Int))),g,j,l,m,o))else some (.inr (c,false,g,j,l,m,f))
def mM(n:Nat)(a:eE)(d:Int)(f:Int)(g:List UInt8)(j:List aB)(l:List aA)(b:List UInt8)(c:List UInt8):Option (Int×Int×(List UInt8)×(List aB)×(List aA)):=
  (bif decide (d=(8:Int))then some (decide (g=b))else some false).bind fun m=>bif m then(loopN (fT n a b c) n ((0:Int),d,f,c,j,l)).bind fun(T,M,o,p,s,t,u)=>(loopN (fR n a b c) n ((0:Int),o,p,s,t,u)).bind fun(V,Q,v,w,y,z,A)=>some (v,w,y,z,A)else(loopN (uH n a b c) n ((0:Int),d,f,g,j,l)).bind fun(U,N,B,C,D,E,G)=>(loopN (uG n a b c) n ((0:Int),B,C,D,E,G)).bind fun(W,R,H,I,J,K,L)=>some (H,I,J,K,L)
theorem Bv{n:Nat}{c:eE}(b:qI c):qI (mM n c):=by
 intro d9 e0 e1 e2 e3 e4 e5 r h; unfold mM at h; refine bF Try.func75 rfl rfl<|gco 3 rfl<|xAz [.int .i64 0, .int .i64 0, .str [], .sl ([].map aE), .sl ([].map aC)] rfl<|goo 4 rfl<|oJn h [(9,17)] [] (fun v=>(.n,[(17,Bo v)],[])) (fun _ h=> ?_) (fun v h=> ?_)
 refine goo 4 rfl<|oIf 12 h rfl (fun q2 h=> ?_) (fun q2 h=> ?_)
 exact geo; exact geo; refine cIf h rfl (fun q3 h=> ?_) (fun q3 h=> ?_)
 refine gcc 10 rfl<|cLp h [(7,7),(20,38)] [(3,3)] (fun(b7,b8,b9,c0,c1,c2)=>([(7,I64 b7)],[(3,[.int .i64 b8, .int .i64 b9, .str c0, .sl (c1.map aE), .sl (c2.map aC)])])) (fun(w,p,E,G,H,I,J)=>(.e 0,[(7,I64 w),(24,Bo p)],[(3,[.int .i64 E, .int .i64 G, .str H, .sl (I.map aE), .sl (J.map aC)])])) rfl (fun st _ h=> ?_) (fun q h=> ?_)
 obtain⟨b7,b8,b9,c0,c1,c2⟩:=st; unfold fT at h; refine gco 6 rfl<|xLn rfl<|goc 2 rfl<|cIf h rfl (fun c9 h=> ?_) (fun c9 h=> ?_)
 refine gco 5 rfl<|wLa rfl rfl rfl rfl rfl rfl rfl<|goo 2 rfl<|wLa rfl rfl rfl rfl rfl rfl rfl<|xMv rfl<|wIp (f:=aE) h rfl rfl rfl rfl rfl rfl (fun a=>by rw[aK]; rfl) rfl (fun c3 ke33_18 h=> ?_)
 refine PI (f:=aE) ke33_18 rfl rfl rfl rfl rfl rfl rfl (by rw[aK]) rfl rfl rfl rfl rfl<|goo 2 rfl<|xC0 h (b ·) rfl (fun d h=> ?_)
 refine WF (f:=aE) h rfl rfl rfl rfl rfl rfl (fun a=>by rw[aK]; rfl) rfl rfl (fun c5 ke38_20 h=> ?_)
 refine WE (f:=aE) (v':=aB.mk d.1 d.2.1 d.2.2.1 d.2.2.2.1 d.2.2.2.2) h ke33_18 rfl rfl rfl rfl rfl rfl rfl rfl (by rw[cC]; rfl) (fun d3 h=> ?_)
 exact geo; exact gec; obtain⟨w,p,E,G,H,I,J⟩:=q; refine gcc 5 rfl<|cLp h [(8,8),(39,59)] [(3,3)] (fun(A,K,L,M,N,Q)=>([(8,I64 A)],[(3,[.int .i64 K, .int .i64 L, .str M, .sl (N.map aE), .sl (Q.map aC)])])) (fun(B,t,R,T,U,V,W)=>(.e 2,[(8,I64 B),(43,Bo t)],[(3,[.int .i64 R, .int .i64 T, .str U, .sl (V.map aE), .sl (W.map aC)])])) rfl (fun st _ h=> ?_) (fun q h=> ?_)
 obtain⟨A,K,L,M,N,Q⟩:=st; unfold fR at h; refine gco 6 rfl<|xLn rfl<|goc 2 rfl<|cIf h rfl (fun d0 h=> ?_) (fun d0 h=> ?_)
 refine gco 5 rfl<|wLa rfl rfl rfl rfl rfl rfl rfl<|goo 2 rfl<|wLa rfl rfl rfl rfl rfl rfl rfl<|xMv rfl<|wIp (f:=aC) h rfl rfl rfl rfl rfl rfl (fun a=>by rw[aG]; rfl) rfl (fun m ke52_36 h=> ?_)
 refine xFd rfl<|PI (f:=aC) ke52_36 rfl rfl rfl rfl rfl rfl rfl (by rw[aG]) rfl rfl rfl rfl rfl<|goo 2 rfl<|xC0 h (b ·) rfl (fun j h=> ?_)
 refine WF (f:=aC) h rfl rfl rfl rfl rfl rfl (fun a=>by rw[aG]; rfl) rfl rfl (fun c7 ke58_38 h=> ?_)
 refine xFd rfl<|WE (f:=aC) (v':=aA.mk m.f0 m.f1 m.f2 m.f3 m.f4 j.1 j.2.1 j.2.2.1 j.2.2.2.1 j.2.2.2.2) h ke52_36 rfl rfl rfl rfl rfl rfl rfl rfl (by rw[aY]; rfl) (fun d4 h=> ?_)
 exact geo; exact gec; obtain⟨B,t,R,T,U,V,W⟩:=q; exact gec; refine gcc 6 rfl<|cLp h [(7,7),(20,38)] [(3,3)] (fun(y,X,Y,Z,a0,a1)=>([(7,I64 y)],[(3,[.int .i64 X, .int .i64 Y, .str Z, .sl (a0.map aE), .sl (a1.map aC)])])) (fun(z,s,a2,a3,a4,a5,a6)=>(.e 0,[(7,I64 z),(24,Bo s)],[(3,[.int .i64 a2, .int .i64 a3, .str a4, .sl (a5.map aE), .sl (a6.map aC)])])) rfl (fun st _ h=> ?_) (fun q h=> ?_)
 obtain⟨y,X,Y,Z,a0,a1⟩:=st; unfold uH at h; refine gco 6 rfl<|xLn rfl<|goc 2 rfl<|cIf h rfl (fun d1 h=> ?_) (fun d1 h=> ?_)
 refine gco 5 rfl<|wLa rfl rfl rfl rfl rfl rfl rfl<|goo 2 rfl<|wLa rfl rfl rfl rfl rfl rfl rfl<|xMv rfl<|wIp (f:=aE) h rfl rfl rfl rfl rfl rfl (fun a=>by rw[aK]; rfl) rfl (fun c4 ke33_54 h=> ?_)
 refine PI (f:=aE) ke33_54 rfl rfl rfl rfl rfl rfl rfl (by rw[aK]) rfl rfl rfl rfl rfl<|goo 2 rfl<|xC0 h (b ·) rfl (fun g h=> ?_)
 refine WF (f:=aE) h rfl rfl rfl rfl rfl rfl (fun a=>by rw[aK]; rfl) rfl rfl (fun c6 ke38_56 h=> ?_)
 refine WE (f:=aE) (v':=aB.mk g.1 g.2.1 g.2.2.1 g.2.2.2.1 g.2.2.2.2) h ke33_54 rfl rfl rfl rfl rfl rfl rfl rfl (by rw[cC]; rfl) (fun d5 h=> ?_)
 exact geo; exact gec; obtain⟨z,s,a2,a3,a4,a5,a6⟩:=q; refine gcc 5 rfl<|cLp h [(8,8),(39,59)] [(3,3)] (fun(C,a7,a8,a9,b0,b1)=>([(8,I64 C)],[(3,[.int .i64 a7, .int .i64 a8, .str a9, .sl (b0.map aE), .sl (b1.map aC)])])) (fun(D,u,b2,b3,b4,b5,b6)=>(.e 2,[(8,I64 D),(43,Bo u)],[(3,[.int .i64 b2, .int .i64 b3, .str b4, .sl (b5.map aE), .sl (b6.map aC)])])) rfl (fun st _ h=> ?_) (fun q h=> ?_)
 obtain⟨C,a7,a8,a9,b0,b1⟩:=st; unfold uG at h; refine gco 6 rfl<|xLn rfl<|goc 2 rfl<|cIf h rfl (fun d2 h=> ?_) (fun d2 h=> ?_)
 refine gco 5 rfl<|wLa rfl rfl rfl rfl rfl rfl rfl<|goo 2 rfl<|wLa rfl rfl rfl rfl rfl rfl rfl<|xMv rfl<|wIp (f:=aC) h rfl rfl rfl rfl rfl rfl (fun a=>by rw[aG]; rfl) rfl (fun o ke52_72 h=> ?_)
 refine xFd rfl<|PI (f:=aC) ke52_72 rfl rfl rfl rfl rfl rfl rfl (by rw[aG]) rfl rfl rfl rfl rfl<|goo 2 rfl<|xC0 h (b ·) rfl (fun l h=> ?_)
 refine WF (f:=aC) h rfl rfl rfl rfl rfl rfl (fun a=>by rw[aG]; rfl) rfl rfl (fun c8 ke58_74 h=> ?_)
 refine xFd rfl<|WE (f:=aC) (v':=aA.mk o.f0 o.f1 o.f2 o.f3 o.f4 l.1 l.2.1 l.2.2.1 l.2.2.2.1 l.2.2.2.2) h ke52_72 rfl rfl rfl rfl rfl rfl rfl rfl (by rw[aY]; rfl) (fun d6 h=> ?_)
 exact geo; exact gec; obtain⟨D,u,b2,b3,b4,b5,b6⟩:=q; exact gec
def xV:Nat→(eE)
  | 0=>(fun _ _ _ _ _ _ _=>none)
  | n+1=>mM n (xV n)
def cM(n:Nat):eE:=xV n
theorem CL(n:Nat):qI (cM n):=by
  induction n with
  | zero=>exact(fun h=>nomatch h)
  | succ n ih=>exact Bv (n:=n) ih
theorem DP{n:Nat}:qI (cM n):=(CL n)
theorem zI(n:Nat):cM (n+1)=mM n (cM n):=rfl
abbrev Jv(p:(List aD)→(List UInt8)→(List UInt8)→Option ((List aD)×Bool)):Prop:= ∀ {a:List aD} {b d:List UInt8} {r:(List aD)×Bool},p a b d=some r→Big Try.prog τ An (.fn 33 [.one (.ag [.sl (a.map aH)]), .one (.c (.str b)), .one (.c (.str d))] [] (.tup [.ag [.sl (r.1.map aH)], .c (.bool r.2)]) none [] none)
def lN(n:Nat)(g:List UInt8)(j:List UInt8):(Int×(List aD))→Option ((Int×(List aD))⊕((Int×Bool×(List aD))))
  | (b,d)=>bif decide (b<(d.length:Int))then(ix d b).bind fun a=>(cM n a.f2 a.f3 a.f4 a.f5 a.f6 g j).bind fun c=>(ix d b).bind fun l=>(some (d.set (Int.toNat b) (aD.mk a.f0 a.f1 c.1 c.2.1 c.2.2.1 c.2.2.2.1 c.2.2.2.2))).bind fun f=>some (.inl ((IntKind.wrap .i64 (b+(1:Int))),f))else some (.inr (b,false,d))
def nE(n:Nat)(d:List aD)(g:List UInt8)(f:List UInt8):Option ((List aD)×Bool):=
  (hI n d).bind fun b=>(kG n d g).bind fun c=>((mV n d).bind fun j=>bif !j then some true else bif decide (c<(0:Int))then some true else(iN n f).bind fun l=>bif !l then some true else(kG n d f).bind fun m=>some (decide ((0:Int)≤m))).bind fun p=>bif p then some (b,false)else(ix b c).bind fun a=>(some (b.set (Int.toNat c) (aD.mk f a.f1 a.f2 a.f3 a.f4 a.f5 a.f6))).bind fun o=>(loopN (lN n g f) n ((0:Int),o)).bind fun(t,u,s)=>some (s,true)
theorem GZ{n:Nat}:Jv (nE n):=by
 intro H I p r h; unfold nE at h; refine bF Try.func33 rfl rfl<|gco 3 rfl<|xAz [.sl ([].map aH)] rfl<|goo 5 rfl<|xC0 h (yP ·) rfl (fun v h=> ?_)
 refine xAz [.sl ([].map aH)] rfl<|goo 6 rfl<|xC0 h (rH ·) rfl (fun w h=> ?_)
 refine goo 5 rfl<|oJn h [(16,33)] [] (fun l=>(.n,[(33,Bo l)],[])) (fun _ h=> ?_) (fun l h=> ?_)
 refine xLd rfl<|xC0 h (DQ ·) rfl (fun y h=> ?_)
 refine goo 2 rfl<|oIf 19 h rfl (fun D h=> ?_) (fun D h=> ?_)
 exact geo; refine goo 4 rfl<|oIf 23 h rfl (fun E h=> ?_) (fun E h=> ?_)
 exact geo; refine xMv rfl<|xC0 h (qH ·) rfl (fun z h=> ?_)
 refine goo 3 rfl<|oIf 28 h rfl (fun G h=> ?_) (fun G h=> ?_)
 exact geo; refine goo 2 rfl<|xC0 h (rH ·) rfl (fun A h=> ?_)
 exact geo; refine cIf h rfl (fun t h=> ?_) (fun t h=> ?_)
 exact gec; refine gco 4 rfl<|wLa rfl rfl rfl rfl rfl rfl rfl<|goo 2 rfl<|wIp (f:=aH) h rfl rfl rfl rfl rfl rfl (fun _=>rfl) rfl (fun a ke39_11 h=> ?_)
 refine xFd rfl<|CX (f:=aH) (v':=aD.mk p a.f1 a.f2 a.f3 a.f4 a.f5 a.f6) h ke39_11 rfl rfl rfl rfl rfl rfl rfl rfl rfl (fun B h=> ?_)
 refine goc 6 rfl<|cLp h [(10,10),(41,61)] [(8,8)] (fun(d,m)=>([(10,I64 d)],[(8,[.sl (m.map aH)])])) (fun(g,j,o)=>(.e 0,[(10,I64 g),(45,Bo j)],[(8,[.sl (o.map aH)])])) rfl (fun st _ h=> ?_) (fun q h=> ?_)
 obtain⟨d,m⟩:=st; unfold lN at h; refine gco 6 rfl<|xLn rfl<|goc 2 rfl<|cIf h rfl (fun u h=> ?_) (fun u h=> ?_)
 refine gco 5 rfl<|wLa rfl rfl rfl rfl rfl rfl rfl<|goo 2 rfl<|wLa rfl rfl rfl rfl rfl rfl rfl<|xMv rfl<|wIp (f:=aH) h rfl rfl rfl rfl rfl rfl (fun _=>rfl) rfl (fun c ke54_19 h=> ?_)
 refine xFd rfl<|PI (f:=aH) ke54_19 rfl rfl rfl rfl rfl rfl rfl rfl rfl rfl rfl rfl rfl<|goo 2 rfl<|xC0 h (DP ·) rfl (fun b h=> ?_)
 refine WF (f:=aH) h rfl rfl rfl rfl rfl rfl (fun _=>rfl) rfl rfl (fun s ke60_21 h=> ?_)
 refine xFd rfl<|WE (f:=aH) (v':=aD.mk c.f0 c.f1 b.1 b.2.1 b.2.2.1 b.2.2.2.1 b.2.2.2.2) h ke54_19 rfl rfl rfl rfl rfl rfl rfl rfl rfl (fun C h=> ?_)
 exact geo; exact gec; obtain⟨g,j,o⟩:=q; exact gec
abbrev cN:Type:=Int→Int→(List UInt8)→(List aI)→(List aF)→Int→Int→(List UInt8)→(List aI)→(List aF)→Option (Int×Int×(List UInt8)×(List aB)×(List aA)×Int×Int×(List UInt8)×(List aB)×(List aA))
abbrev gX(p:cN):Prop:= ∀ {a b:Int} {c:List UInt8} {d:List aI} {f:List aF} {g j:Int} {l:List UInt8} {m:List aI} {o:List aF} {r:Int×Int×(List UInt8)×(List aB)×(List aA)×Int×Int×(List UInt8)×(List aB)×(List aA)},p a b c d f g j l m o=some r→Big Try.prog τ An (.fn 92 [.one (.ag [.int .i64 a, .int .i64 b, .str c, .sl (d.map aV), .sl (f.map aP), .int .i64 g, .int .i64 j, .str l, .sl (m.map aV), .sl (o.map aP)])] [] (.one (.ag [.int .i64 r.1, .int .i64 r.2.1, .str r.2.2.1, .sl (r.2.2.2.1.map aE), .sl (r.2.2.2.2.1.map aC), .int .i64 r.2.2.2.2.2.1, .int .i64 r.2.2.2.2.2.2.1, .str r.2.2.2.2.2.2.2.1, .sl (r.2.2.2.2.2.2.2.2.1.map aE), .sl (r.2.2.2.2.2.2.2.2.2.map aC)])) none [] none)
abbrev cR:Type:=(List aF)→Option ((List aA))
abbrev fX(p:cR):Prop:= ∀ {a:List aF} {r:(List aA)},p a=some r→Big Try.prog τ An (.fn 47 [.one (.c (.sl (a.map aP)))] [] (.one (.c (.sl (r.map aC)))) none [] none)
abbrev dH:Type:=(List aI)→Option ((List aB))
abbrev jI(p:dH):Prop:= ∀ {a:List aI} {r:(List aB)},p a=some r→Big Try.prog τ An (.fn 46 [.one (.c (.sl (a.map aV)))] [] (.one (.c (.sl (r.map aE)))) none [] none)
abbrev dO:Type:=Int→Int→(List UInt8)→(List aI)→(List aF)→Option (Int×Int×(List UInt8)×(List aB)×(List aA))
abbrev kN(p:dO):Prop:= ∀ {a b:Int} {c:List UInt8} {d:List aI} {f:List aF} {r:Int×Int×(List UInt8)×(List aB)×(List aA)},p a b c d f=some r→Big Try.prog τ An (.fn 10 [.one (.ag [.int .i64 a, .int .i64 b, .str c, .sl (d.map aV), .sl (f.map aP)])] [] (.one (.ag [.int .i64 r.1, .int .i64 r.2.1, .str r.2.2.1, .sl (r.2.2.2.1.map aE), .sl (r.2.2.2.2.map aC)])) none [] none)
def mN(n:Nat)(a:dO)(g:dH)(d:cR)(f:cN)(j:Int)(l:Int)(m:List UInt8)(o:List aI)(p:List aF)(s:Int)(t:Int)(u:List UInt8)(v:List aI)(w:List aF):Option (Int×Int×(List UInt8)×(List aB)×(List aA)×Int×Int×(List UInt8)×(List aB)×(List aA)):=
  (a j l m o p).bind fun c=>(a s t u v w).bind fun b=>some (c.1,c.2.1,c.2.2.1,c.2.2.2.1,c.2.2.2.2,b.1,b.2.1,b.2.2.1,b.2.2.2.1,b.2.2.2.2)
theorem Bw{n:Nat}{f:dO}(c:kN f){d:dH}(l:jI d){a:cR}(g:fX a){b:cN}(j:gX b):gX (mN n f d a b):=by
 intro p s t u v w y z A B r h; unfold mN at h; refine bF Try.func92 rfl rfl<|gco 3 rfl<|xAz [.int .i64 0, .int .i64 0, .str [], .sl ([].map aE), .sl ([].map aC), .int .i64 0, .int .i64 0, .str [], .sl ([].map aE), .sl ([].map aC)] rfl<|oRs<|xAz [.int .i64 0, .int .i64 0, .str [], .sl ([].map aE), .sl ([].map aC), .int .i64 0, .int .i64 0, .str [], .sl ([].map aE), .sl ([].map aC)] rfl<|goo 5 rfl<|xC0 h (c ·) rfl (fun o h=> ?_)
 refine goo 7 rfl<|xC0 h (c ·) rfl (fun m h=> ?_)
 exact geo
def kR(n:Nat)(c:cN)(g:List aF):((List aA)×Int)→Option (((List aA)×Int)⊕(((List aA)×Int×Bool)))
  | (f,d)=>bif decide (d<(g.length:Int))then(ix g d).bind fun b=>(c b.f0 b.f1 b.f2 b.f3 b.f4 b.f5 b.f6 b.f7 b.f8 b.f9).bind fun a=>(ix f d).bind fun l=>(some (f.set (Int.toNat d) (aA.mk a.1 a.2.1 a.2.2.1 a.2.2.2.1 a.2.2.2.2.1 a.2.2.2.2.2.1 a.2.2.2.2.2.2.1 a.2.2.2.2.2.2.2.1 a.2.2.2.2.2.2.2.2.1 a.2.2.2.2.2.2.2.2.2))).bind fun j=>some (.inl (j,(IntKind.wrap .i64 (d+(1:Int)))))else some (.inr (f,d,false))
def lE(n:Nat)(f:dO)(d:dH)(c:cR)(a:cN)(b:List aF):Option ((List aA)):=
  (ck (decide (0≤(b.length:Int)∧(b.length:Int)≤maxLen∧160*(b.length:Int)≤281474976710656))).bind fun _=>(loopN (kR n a b) n ((List.replicate (Int.toNat (b.length:Int)) (aA.mk (0:Int) (0:Int) ([]:List UInt8) ([]:List aB) ([]:List aA) (0:Int) (0:Int) ([]:List UInt8) ([]:List aB) ([]:List aA))),(0:Int))).bind fun(g,l,j)=>some g
theorem Ah{n:Nat}{j:dO}(s:kN j){g:dH}(o:jI g){c:cR}(m:fX c){d:cN}(l:gX d):fX (lE n j g c d):=by
 intro E r h; unfold lE at h; refine bF Try.func47 rfl rfl<|cRs<|wAe (Li aC []) rfl rfl rfl rfl<|goo 4 rfl<|xLn rfl<|oCk h (fun y h=> ?_)
 refine wMk (z:=aA.mk (0:Int) (0:Int) ([]:List UInt8) ([]:List aB) ([]:List aA) (0:Int) (0:Int) ([]:List UInt8) ([]:List aB) ([]:List aA)) (f:=aC) y rfl rfl rfl rfl rfl rfl rfl<|goc 7 rfl<|cLp h [(3,4),(8,21)] [] (fun(t,v)=>([(3,Li aC t),(4,I64 v)],[])) (fun(u,w,p)=>(.e 0,[(3,Li aC u),(4,I64 w),(11,Bo p)],[])) rfl (fun st _ h=> ?_) (fun q h=> ?_)
 obtain⟨t,v⟩:=st; unfold kR at h; refine gco 5 rfl<|xLn rfl<|goc 2 rfl<|cIf h rfl (fun D h=> ?_) (fun D h=> ?_)
 refine gco 4 rfl<|wAl rfl rfl rfl rfl<|goo 3 rfl<|xIx h jU rfl (fun B h=> ?_)
 refine xLd rfl<|xC0 h (l ·) rfl (fun b h=> ?_)
 refine wIp (f:=aC) h rfl rfl rfl rfl rfl rfl (fun a=>by rw[aG]; rfl) rfl (fun A ke21_10 h=> ?_)
 refine CX (f:=aC) (v':=aA.mk b.1 b.2.1 b.2.2.1 b.2.2.2.1 b.2.2.2.2.1 b.2.2.2.2.2.1 b.2.2.2.2.2.2.1 b.2.2.2.2.2.2.2.1 b.2.2.2.2.2.2.2.2.1 b.2.2.2.2.2.2.2.2.2) h ke21_10 rfl rfl rfl rfl rfl rfl rfl (by rw[aG]; rfl) (by rw[aG,aY]; rfl) (fun C h=> ?_)
 exact geo; exact gec; obtain⟨u,w,p⟩:=q; exact gec
def nO(n:Nat)(d:dO)(g:List aI):((List aB)×Int)→Option (((List aB)×Int)⊕(((List aB)×Int×Bool)))
  | (f,c)=>bif decide (c<(g.length:Int))then(ix g c).bind fun b=>(d b.f0 b.f1 b.f2 b.f3 b.f4).bind fun a=>(ix f c).bind fun l=>(some (f.set (Int.toNat c) (aB.mk a.1 a.2.1 a.2.2.1 a.2.2.2.1 a.2.2.2.2))).bind fun j=>some (.inl (j,(IntKind.wrap .i64 (c+(1:Int)))))else some (.inr (f,c,false))
def oE(n:Nat)(a:dO)(f:dH)(c:cR)(d:cN)(b:List aI):Option ((List aB)):=
  (ck (decide (0≤(b.length:Int)∧(b.length:Int)≤maxLen∧80*(b.length:Int)≤281474976710656))).bind fun _=>(loopN (nO n a b) n ((List.replicate (Int.toNat (b.length:Int)) (aB.mk (0:Int) (0:Int) ([]:List UInt8) ([]:List aB) ([]:List aA))),(0:Int))).bind fun(g,l,j)=>some g
theorem DH{n:Nat}{g:dO}(l:kN g){d:dH}(p:jI d){b:cR}(m:fX b){c:cN}(o:gX c):jI (oE n g d b c):=by
 intro E r h; unfold oE at h; refine bF Try.func46 rfl rfl<|cRs<|wAe (Li aE []) rfl rfl rfl rfl<|goo 4 rfl<|xLn rfl<|oCk h (fun y h=> ?_)
 refine wMk (z:=aB.mk (0:Int) (0:Int) ([]:List UInt8) ([]:List aB) ([]:List aA)) (f:=aE) y rfl rfl rfl rfl rfl rfl rfl<|goc 7 rfl<|cLp h [(3,4),(8,21)] [] (fun(t,v)=>([(3,Li aE t),(4,I64 v)],[])) (fun(u,w,s)=>(.e 0,[(3,Li aE u),(4,I64 w),(11,Bo s)],[])) rfl (fun st _ h=> ?_) (fun q h=> ?_)
 obtain⟨t,v⟩:=st; unfold nO at h; refine gco 5 rfl<|xLn rfl<|goc 2 rfl<|cIf h rfl (fun D h=> ?_) (fun D h=> ?_)
 refine gco 4 rfl<|wAl rfl rfl rfl rfl<|goo 3 rfl<|xIx h eC rfl (fun B h=> ?_)
 refine xLd rfl<|xC0 h (l ·) rfl (fun j h=> ?_)
 refine wIp (f:=aE) h rfl rfl rfl rfl rfl rfl (fun a=>by rw[aK]; rfl) rfl (fun A ke21_10 h=> ?_)
 refine CX (f:=aE) (v':=aB.mk j.1 j.2.1 j.2.2.1 j.2.2.2.1 j.2.2.2.2) h ke21_10 rfl rfl rfl rfl rfl rfl rfl (by rw[aK]; rfl) (by rw[aK,cC]; rfl) (fun C h=> ?_)
 exact geo; exact gec; obtain⟨u,w,s⟩:=q; exact gec
def pO(n:Nat)(d:dO)(b:dH)(a:cR)(c:cN)(j:Int)(l:Int)(m:List UInt8)(o:List aI)(p:List aF):Option (Int×Int×(List UInt8)×(List aB)×(List aA)):=
  (b o).bind fun f=>(a p).bind fun g=>some (j,l,m,f,g)
theorem EV{n:Nat}{d:dO}(l:kN d){c:dH}(g:jI c){a:cR}(f:fX a){b:cN}(j:gX b):kN (pO n d c a b):=by
 intro p s t u v r h; unfold pO at h; refine bF Try.func10 rfl rfl<|gco 3 rfl<|xAz [.int .i64 0, .int .i64 0, .str [], .sl ([].map aE), .sl ([].map aC)] rfl<|oRs<|xAz [.int .i64 0, .int .i64 0, .str [], .sl ([].map aE), .sl ([].map aC)] rfl<|goo 26 rfl<|xC0 h (g ·) rfl (fun m h=> ?_)
 refine goo 7 rfl<|xC0 h (f ·) rfl (fun o h=> ?_)
 exact geo
def bJ:Nat→(dO)×(dH)×(cR)×(cN)
  | 0=>((fun _ _ _ _ _=>none),(fun _=>none),(fun _=>none),(fun _ _ _ _ _ _ _ _ _ _=>none))
  | n+1=>(pO n ((bJ n).1) ((bJ n).2.1) ((bJ n).2.2.1) ((bJ n).2.2.2),oE n ((bJ n).1) ((bJ n).2.1) ((bJ n).2.2.1) ((bJ n).2.2.2),lE n ((bJ n).1) ((bJ n).2.1) ((bJ n).2.2.1) ((bJ n).2.2.2),mN n ((bJ n).1) ((bJ n).2.1) ((bJ n).2.2.1) ((bJ n).2.2.2))
def dG(n:Nat):dO:=(bJ n).1
def gI(n:Nat):dH:=(bJ n).2.1
def eK(n:Nat):cR:=(bJ n).2.2.1
def fD(n:Nat):cN:=(bJ n).2.2.2
theorem oV(n:Nat):kN (dG n)∧jI (gI n)∧fX (eK n)∧gX (fD n):=by
  induction n with
  | zero=>exact⟨(fun h=>nomatch h),(fun h=>nomatch h),(fun h=>nomatch h),(fun h=>nomatch h)⟩
  | succ n ih=>exact⟨EV (n:=n) (ih.1) (ih.2.1) (ih.2.2.1) (ih.2.2.2),DH (n:=n) (ih.1) (ih.2.1) (ih.2.2.1) (ih.2.2.2),Ah (n:=n) (ih.1) (ih.2.1) (ih.2.2.1) (ih.2.2.2),Bw (n:=n) (ih.1) (ih.2.1) (ih.2.2.1) (ih.2.2.2)⟩
theorem Gf{n:Nat}:kN (dG n):=(oV n).1
theorem QA{n:Nat}:jI (gI n):=(oV n).2.1
theorem OS{n:Nat}:fX (eK n):=(oV n).2.2.1
theorem PF{n:Nat}:gX (fD n):=(oV n).2.2.2
theorem CG(n:Nat):dG (n+1)=pO n (dG n) (gI n) (eK n) (fD n):=rfl
theorem Ap(n:Nat):gI (n+1)=oE n (dG n) (gI n) (eK n) (fD n):=rfl
theorem yJ(n:Nat):eK (n+1)=lE n (dG n) (gI n) (eK n) (fD n):=rfl
theorem zJ(n:Nat):fD (n+1)=mN n (dG n) (gI n) (eK n) (fD n):=rfl
abbrev Et(p:(List (List UInt8))→Option ((List (List UInt8)))):Prop:= ∀ {a:List (List UInt8)} {r:(List (List UInt8))},p a=some r→Big Try.prog τ An (.fn 143 [.one (.c (.sl (a.map bZ)))] [] (.one (.c (.sl (r.map bZ)))) none [] none)
def kQ(n:Nat)(c:List (List UInt8)):((List (List UInt8))×Int)→Option (((List (List UInt8))×Int)⊕(((List (List UInt8))×Int×Bool)))
  | (b,a)=>bif decide (a<(c.length:Int))then(ix c a).bind fun d=>(ix b a).bind fun g=>(some (b.set (Int.toNat a) d)).bind fun f=>some (.inl (f,(IntKind.wrap .i64 (a+(1:Int)))))else some (.inr (b,a,false))
def lO(n:Nat)(a:List (List UInt8)):Option ((List (List UInt8))):=
  (ck (decide (0≤(a.length:Int)∧(a.length:Int)≤maxLen∧16*(a.length:Int)≤281474976710656))).bind fun _=>(loopN (kQ n a) n ((List.replicate (Int.toNat (a.length:Int)) ([]:List UInt8)),(0:Int))).bind fun(b,d,c)=>some b
theorem CO{n:Nat}:Et (lO n):=by
 intro s r h; unfold lO at h; refine bF Try.func143 rfl rfl<|cRs<|wAe (Li bZ []) rfl rfl rfl rfl<|goo 4 rfl<|xLn rfl<|oCk h (fun l h=> ?_)
 refine wMk (z:=([]:List UInt8)) (f:=bZ) l rfl rfl rfl rfl rfl rfl rfl<|goc 7 rfl<|cLp h [(3,4),(8,20)] [] (fun(b,d)=>([(3,Li bZ b),(4,I64 d)],[])) (fun(c,g,a)=>(.e 0,[(3,Li bZ c),(4,I64 g),(11,Bo a)],[])) rfl (fun st _ h=> ?_) (fun q h=> ?_)
 obtain⟨b,d⟩:=st; unfold kQ at h; refine gco 5 rfl<|xLn rfl<|goc 2 rfl<|cIf h rfl (fun p h=> ?_) (fun p h=> ?_)
 refine gco 4 rfl<|wAl rfl rfl rfl rfl<|goo 3 rfl<|xIx h mL rfl (fun j h=> ?_)
 refine xLd rfl<|wIp (f:=bZ) h rfl rfl rfl rfl rfl rfl (fun _=>rfl) rfl (fun m ke20_9 h=> ?_)
 refine CX (f:=bZ) (v':=j) h ke20_9 rfl rfl rfl rfl rfl rfl rfl rfl rfl (fun o h=> ?_)
 exact geo; exact gec; obtain⟨c,g,a⟩:=q; exact gec
abbrev Lx(p:(List UInt8)→(List (List UInt8))→Int→Int→(List UInt8)→(List aI)→(List aF)→Option ((List UInt8)×(List (List UInt8))×Int×Int×(List UInt8)×(List aB)×(List aA))):Prop:= ∀ {a:List UInt8} {b:List (List UInt8)} {c d:Int} {f:List UInt8} {g:List aI} {j:List aF} {r:(List UInt8)×(List (List UInt8))×Int×Int×(List UInt8)×(List aB)×(List aA)},p a b c d f g j=some r→Big Try.prog τ An (.fn 116 [.one (.ag [.str a, .sl (b.map bZ), .int .i64 c, .int .i64 d, .str f, .sl (g.map aV), .sl (j.map aP)])] [] (.one (.ag [.str r.1, .sl (r.2.1.map bZ), .int .i64 r.2.2.1, .int .i64 r.2.2.2.1, .str r.2.2.2.2.1, .sl (r.2.2.2.2.2.1.map aE), .sl (r.2.2.2.2.2.2.map aC)])) none [] none)
def rM(n:Nat)(c:List UInt8)(d:List (List UInt8))(f:Int)(g:Int)(j:List UInt8)(l:List aI)(m:List aF):Option ((List UInt8)×(List (List UInt8))×Int×Int×(List UInt8)×(List aB)×(List aA)):=
  (lO n d).bind fun b=>(dG n f g j l m).bind fun a=>some (c,b,a.1,a.2.1,a.2.2.1,a.2.2.2.1,a.2.2.2.2)
theorem Hc{n:Nat}:Lx (rM n):=by
 intro c d f g j l m r h; unfold rM at h; refine bF Try.func116 rfl rfl<|gco 3 rfl<|xAz [.str [], .sl ([].map bZ), .int .i64 0, .int .i64 0, .str [], .sl ([].map aE), .sl ([].map aC)] rfl<|oRs<|xAz [.str [], .sl ([].map bZ), .int .i64 0, .int .i64 0, .str [], .sl ([].map aE), .sl ([].map aC)] rfl<|goo 12 rfl<|xC0 h (CO ·) rfl (fun b h=> ?_)
 refine goo 7 rfl<|xC0 h (Gf ·) rfl (fun a h=> ?_)
 exact geo
abbrev Jz(p:(List aW)→Option ((List aD))):Prop:= ∀ {a:List aW} {r:(List aD)},p a=some r→Big Try.prog τ An (.fn 76 [.one (.c (.sl (a.map iR)))] [] (.one (.c (.sl (r.map aH)))) none [] none)
def oR(n:Nat)(f:List aW):((List aD)×Int)→Option (((List aD)×Int)⊕(((List aD)×Int×Bool)))
  | (d,c)=>bif decide (c<(f.length:Int))then(ix f c).bind fun b=>(rM n b.f0 b.f1 b.f2 b.f3 b.f4 b.f5 b.f6).bind fun a=>(ix d c).bind fun j=>(some (d.set (Int.toNat c) (aD.mk a.1 a.2.1 a.2.2.1 a.2.2.2.1 a.2.2.2.2.1 a.2.2.2.2.2.1 a.2.2.2.2.2.2))).bind fun g=>some (.inl (g,(IntKind.wrap .i64 (c+(1:Int)))))else some (.inr (d,c,false))
def pW(n:Nat)(a:List aW):Option ((List aD)):=
  (ck (decide (0≤(a.length:Int)∧(a.length:Int)≤maxLen∧120*(a.length:Int)≤281474976710656))).bind fun _=>(loopN (oR n a) n ((List.replicate (Int.toNat (a.length:Int)) (aD.mk ([]:List UInt8) ([]:List (List UInt8)) (0:Int) (0:Int) ([]:List UInt8) ([]:List aB) ([]:List aA))),(0:Int))).bind fun(b,d,c)=>some b
theorem Ge{n:Nat}:Jz (pW n):=by
 intro t r h; unfold pW at h; refine bF Try.func76 rfl rfl<|cRs<|wAe (Li aH []) rfl rfl rfl rfl<|goo 4 rfl<|xLn rfl<|oCk h (fun l h=> ?_)
 refine wMk (z:=aD.mk ([]:List UInt8) ([]:List (List UInt8)) (0:Int) (0:Int) ([]:List UInt8) ([]:List aB) ([]:List aA)) (f:=aH) l rfl rfl rfl rfl rfl rfl rfl<|goc 7 rfl<|cLp h [(3,4),(8,21)] [] (fun(c,g)=>([(3,Li aH c),(4,I64 g)],[])) (fun(d,j,b)=>(.e 0,[(3,Li aH d),(4,I64 j),(11,Bo b)],[])) rfl (fun st _ h=> ?_) (fun q h=> ?_)
 obtain⟨c,g⟩:=st; unfold oR at h; refine gco 5 rfl<|xLn rfl<|goc 2 rfl<|cIf h rfl (fun s h=> ?_) (fun s h=> ?_)
 refine gco 4 rfl<|wAl rfl rfl rfl rfl<|goo 3 rfl<|xIx h zV rfl (fun o h=> ?_)
 refine xLd rfl<|xC0 h (Hc ·) rfl (fun a h=> ?_)
 refine wIp (f:=aH) h rfl rfl rfl rfl rfl rfl (fun _=>rfl) rfl (fun m ke21_10 h=> ?_)
 refine CX (f:=aH) (v':=aD.mk a.1 a.2.1 a.2.2.1 a.2.2.2.1 a.2.2.2.2.1 a.2.2.2.2.2.1 a.2.2.2.2.2.2) h ke21_10 rfl rfl rfl rfl rfl rfl rfl rfl rfl (fun p h=> ?_)
 exact geo; exact gec; obtain⟨d,j,b⟩:=q; exact gec
abbrev Gu(p:(List aW)→Option ((List aD))):Prop:= ∀ {a:List aW} {r:(List aD)},p a=some r→Big Try.prog τ An (.fn 34 [.one (.ag [.sl (a.map iR)])] [] (.one (.ag [.sl (r.map aH)])) none [] none)
def eD(n:Nat)(b:List aW):Option ((List aD)):=
  (pW n b).bind fun a=>some a
theorem nS{n:Nat}:Gu (eD n):=by
 intro b r h; unfold eD at h; refine bF Try.func34 rfl rfl<|gco 3 rfl<|xAz [.sl ([].map aH)] rfl<|oRs<|xAz [.sl ([].map aH)] rfl<|goo 5 rfl<|xC0 h (Ge ·) rfl (fun a h=> ?_)
 exact geo
abbrev gW:Type:=Int→Int→(List UInt8)→(List aB)→(List aA)→Option (Int×Int×(List UInt8)×(List aB)×(List aA))
abbrev qK(p:gW):Prop:= ∀ {a b:Int} {c:List UInt8} {d:List aB} {f:List aA} {r:Int×Int×(List UInt8)×(List aB)×(List aA)},p a b c d f=some r→Big Try.prog τ An (.fn 117 [.one (.ag [.int .i64 a, .int .i64 b, .str c, .sl (d.map aE), .sl (f.map aC)])] [] (.one (.ag [.int .i64 r.1, .int .i64 r.2.1, .str r.2.2.1, .sl (r.2.2.2.1.map aE), .sl (r.2.2.2.2.map aC)])) none [] none)
def jB(n:Nat)(c:gW)(f:List aB):(Int×Int×Int×(List UInt8)×(List aB)×(List aA))→Option ((Int×Int×Int×(List UInt8)×(List aB)×(List aA))⊕((Int×Bool×Int×Int×(List UInt8)×(List aB)×(List aA))))
  | (d,j,l,m,o,p)=>bif decide (d<(f.length:Int))then(ix f d).bind fun b=>(c b.f0 b.f1 b.f2 b.f3 b.f4).bind fun a=>(sX 80 o ([aB.mk a.1 a.2.1 a.2.2.1 a.2.2.2.1 a.2.2.2.2]:List aB)).bind fun g=>some (.inl ((IntKind.wrap .i64 (d+(1:Int))),j,l,m,g,p))else some (.inr (d,false,j,l,m,o,p))
def jA(n:Nat)(b:gW)(p:List aA):(Int×Int×Int×(List UInt8)×(List aB)×(List aA))→Option ((Int×Int×Int×(List UInt8)×(List aB)×(List aA))⊕((Int×Bool×Int×Int×(List UInt8)×(List aB)×(List aA))))
  | (f,g,j,l,m,o)=>bif decide (f<(p.length:Int))then(ix p f).bind fun a=>(b a.f0 a.f1 a.f2 a.f3 a.f4).bind fun c=>(b a.f5 a.f6 a.f7 a.f8 a.f9).bind fun d=>(sX 160 o ([aA.mk c.1 c.2.1 c.2.2.1 c.2.2.2.1 c.2.2.2.2 d.1 d.2.1 d.2.2.1 d.2.2.2.1 d.2.2.2.2]:List aA)).bind fun s=>some (.inl ((IntKind.wrap .i64 (f+(1:Int))),g,j,l,m,s))else some (.inr (f,false,g,j,l,m,o))
def mR(n:Nat)(a:gW)(p:Int)(s:Int)(t:List UInt8)(u:List aB)(v:List aA):Option (Int×Int×(List UInt8)×(List aB)×(List aA)):=
  (loopN (jB n a u) n ((0:Int),p,s,t,([]:List aB),([]:List aA))).bind fun(A,B,w,b,c,d,f)=>(loopN (jA n a v) n ((0:Int),w,b,c,d,f)).bind fun(y,z,g,j,l,m,o)=>some (g,j,l,m,o)
theorem CB{n:Nat}{g:gW}(d:qK g):qK (mR n g):=by
 intro U V W a3 a4 r h; unfold mR at h; refine bF Try.func117 rfl rfl<|gco 3 rfl<|xAz [.int .i64 0, .int .i64 0, .str [], .sl ([].map aE), .sl ([].map aC)] rfl<|goo 9 rfl<|wBd [.int .i64 U, .int .i64 V, .str W, .sl ([].map aE), .sl ([].map aC)] rfl rfl rfl rfl rfl rfl<|xAz [.int .i64 0, .int .i64 0, .str [], .sl ([].map aE), .sl ([].map aC)] rfl<|goo 7 rfl<|xLn rfl<|goc 2 rfl<|cLp h [(5,5),(18,29)] [(3,3),(5,5)] (fun(p,K,M,N,Q,R)=>([(18,I64 p)],[(3,[.int .i64 K, .int .i64 M, .str N, .sl (Q.map aE), .sl (R.map aC)])])) (fun(s,t,T,u,v,w,y)=>(.e 0,[(18,I64 s),(19,Bo t)],[(3,[.int .i64 T, .int .i64 u, .str v, .sl (w.map aE), .sl (y.map aC)])])) rfl (fun st _ h=> ?_) (fun q h=> ?_)
 obtain⟨p,K,M,N,Q,R⟩:=st; unfold jB at h; refine gcc 5 rfl<|cIf h rfl (fun Z h=> ?_) (fun Z h=> ?_)
 refine gco 5 rfl<|xIx h aK rfl (fun X h=> ?_)
 refine xLd rfl<|xAz [.int .i64 0, .int .i64 0, .str [], .sl ([].map aE), .sl ([].map aC)] rfl<|goo 6 rfl<|xC0 h (d ·) rfl (fun j h=> ?_)
 refine yQ (L:=([aB.mk j.1 j.2.1 j.2.2.1 j.2.2.2.1 j.2.2.2.2]:List aB)) (f:=aE) rfl rfl rfl rfl (by simp only[List.map,cC]<;>rfl) rfl rfl<|wAp (f:=aE) h rfl rfl rfl rfl rfl rfl rfl rfl rfl (fun a=>by rw[aK]; rfl) rfl (fun a1 h=> ?_)
 exact geo; exact gec; obtain⟨s,t,T,u,v,w,y⟩:=q; refine gco 5 rfl<|xLn rfl<|goc 2 rfl<|cLp h [(7,7),(33,49)] [(3,3),(7,7)] (fun(l,z,A,B,C,D)=>([(33,I64 l)],[(3,[.int .i64 z, .int .i64 A, .str B, .sl (C.map aE), .sl (D.map aC)])])) (fun(m,o,E,G,H,I,J)=>(.e 2,[(33,I64 m),(34,Bo o)],[(3,[.int .i64 E, .int .i64 G, .str H, .sl (I.map aE), .sl (J.map aC)])])) rfl (fun st _ h=> ?_) (fun q h=> ?_)
 obtain⟨l,z,A,B,C,D⟩:=st; unfold jA at h; refine gcc 5 rfl<|cIf h rfl (fun a0 h=> ?_) (fun a0 h=> ?_)
 refine gco 5 rfl<|xIx h aG rfl (fun Y h=> ?_)
 refine xLd rfl<|xAz [.int .i64 0, .int .i64 0, .str [], .sl ([].map aE), .sl ([].map aC), .int .i64 0, .int .i64 0, .str [], .sl ([].map aE), .sl ([].map aC)] rfl<|goo 7 rfl<|xC0 h (d ·) rfl (fun b h=> ?_)
 refine goo 2 rfl<|xC0 h (d ·) rfl (fun c h=> ?_)
 refine wBd [.int .i64 b.1, .int .i64 b.2.1, .str b.2.2.1, .sl (b.2.2.2.1.map aE), .sl (b.2.2.2.2.map aC), .int .i64 c.1, .int .i64 c.2.1, .str c.2.2.1, .sl (c.2.2.2.1.map aE), .sl (c.2.2.2.2.map aC)] rfl rfl rfl rfl rfl rfl<|yQ (L:=([aA.mk b.1 b.2.1 b.2.2.1 b.2.2.2.1 b.2.2.2.2 c.1 c.2.1 c.2.2.1 c.2.2.2.1 c.2.2.2.2]:List aA)) (f:=aC) rfl rfl rfl rfl (by simp only[List.map,aY]<;>rfl) rfl rfl<|wAp (f:=aC) h rfl rfl rfl rfl rfl rfl rfl rfl rfl (fun a=>by rw[aG]; rfl) rfl (fun a2 h=> ?_)
 exact geo; exact gec; obtain⟨m,o,E,G,H,I,J⟩:=q; exact gec
def xX:Nat→(gW)
  | 0=>(fun _ _ _ _ _=>none)
  | n+1=>mR n (xX n)
def bV(n:Nat):gW:=xX n
theorem CN(n:Nat):qK (bV n):=by
  induction n with
  | zero=>exact(fun h=>nomatch h)
  | succ n ih=>exact CB (n:=n) ih
theorem qZ{n:Nat}:qK (bV n):=(CN n)
theorem zN(n:Nat):bV (n+1)=mR n (bV n):=rfl
abbrev Db(p:(List aD)→Option ((List aD))):Prop:= ∀ {a:List aD} {r:(List aD)},p a=some r→Big Try.prog τ An (.fn 77 [.one (.ag [.sl (a.map aH)])] [] (.one (.ag [.sl (r.map aH)])) none [] none)
def gE(n:Nat)(d:List aD):(Int×(List aD))→Option ((Int×(List aD))⊕((Int×Bool×(List aD))))
  | (c,g)=>bif decide (c<(d.length:Int))then(ix d c).bind fun a=>(sX 16 ([]:List (List UInt8)) a.f1).bind fun j=>(bV n a.f2 a.f3 a.f4 a.f5 a.f6).bind fun b=>(sX 120 g ([aD.mk a.f0 j b.1 b.2.1 b.2.2.1 b.2.2.2.1 b.2.2.2.2]:List aD)).bind fun f=>some (.inl ((IntKind.wrap .i64 (c+(1:Int))),f))else some (.inr (c,false,g))
def kB(n:Nat)(a:List aD):Option ((List aD)):=
  (loopN (gE n a) n ((0:Int),([]:List aD))).bind fun(c,d,b)=>some b
theorem Ay{n:Nat}:Db (kB n):=by
 intro s r h; unfold kB at h; refine bF Try.func77 rfl rfl<|gco 3 rfl<|xAz [.sl ([].map aH)] rfl<|oRs<|xAz [.sl ([].map aH)] rfl<|goo 6 rfl<|xLn rfl<|goc 2 rfl<|cLp h [(5,6),(10,29)] [(3,3),(5,5)] (fun(c,l)=>([(10,I64 c)],[(3,[.sl (l.map aH)])])) (fun(d,g,m)=>(.e 0,[(10,I64 d),(11,Bo g)],[(3,[.sl (m.map aH)])])) rfl (fun st _ h=> ?_) (fun q h=> ?_)
 obtain⟨c,l⟩:=st; unfold gE at h; refine gcc 5 rfl<|cIf h rfl (fun p h=> ?_) (fun p h=> ?_)
 refine gco 5 rfl<|xIx h bC rfl (fun b h=> ?_)
 refine xLd rfl<|xAz [.str [], .sl ([].map bZ), .int .i64 0, .int .i64 0, .str [], .sl ([].map aE), .sl ([].map aC)] rfl<|goo 6 rfl<|wAp (f:=bZ) h rfl rfl rfl rfl rfl rfl rfl rfl rfl (fun _=>rfl) rfl (fun j h=> ?_)
 refine goo 10 rfl<|xC0 h (qZ ·) rfl (fun a h=> ?_)
 refine wBd [.str b.f0, .sl (j.map bZ), .int .i64 a.1, .int .i64 a.2.1, .str a.2.2.1, .sl (a.2.2.2.1.map aE), .sl (a.2.2.2.2.map aC)] rfl rfl rfl rfl rfl rfl<|yQ (L:=([aD.mk b.f0 j a.1 a.2.1 a.2.2.1 a.2.2.2.1 a.2.2.2.2]:List aD)) (f:=aH) rfl rfl rfl rfl rfl rfl rfl<|wAp (f:=aH) h rfl rfl rfl rfl rfl rfl rfl rfl rfl (fun _=>rfl) rfl (fun o h=> ?_)
 exact geo; exact gec; obtain⟨d,g,m⟩:=q; exact gec
abbrev Hu(p:(List UInt8)→(List (List UInt8))→Int→Int→(List UInt8)→(List aB)→(List aA)→(List UInt8)→Option (Bool×(List UInt8))):Prop:= ∀ {b:List UInt8} {d:List (List UInt8)} {f g:Int} {j:List UInt8} {l:List aB} {m:List aA} {a:List UInt8} {r:Bool×(List UInt8)},p b d f g j l m a=some r→Big Try.prog τ An (.fn 119 [.one (.ag [.str b, .sl (d.map bZ), .int .i64 f, .int .i64 g, .str j, .sl (l.map aE), .sl (m.map aC)]), .one (.ptr 1000000 0)] [[.str a]] (.one (.c (.bool r.1))) none [[.str r.2]] none)
def rF(n:Nat)(b:List UInt8)(c:List (List UInt8))(d:Int)(f:Int)(g:List UInt8)(j:List aB)(l:List aA)(a:List UInt8):Option (Bool×(List UInt8)):=
  some ((decide (b=a)),a)
theorem Es{n:Nat}:Hu (rF n):=by
 intro b c d f g j l a r h; unfold rF at h; exact bF Try.func119 rfl rfl<|gec
abbrev wF(p:(List aD)→(List UInt8)→Option (Int×(List UInt8))):Prop:= ∀ {b:List aD} {a:List UInt8} {r:Int×(List UInt8)},p b a=some r→Big Try.prog τ An (.fn 118 [.one (.c (.sl (b.map aH))), .one (.fn 119 [(1000000,0)])] [[.str a]] (.one (.c (.int .i64 r.1))) none [[.str r.2]] none)
def cJ(n:Nat)(f:List aD):(Int×(List UInt8))→Option ((Int×(List UInt8))⊕((Int×(List UInt8))⊕(Int×Bool×(List UInt8))))
  | (d,b)=>bif decide (d<(f.length:Int))then(ix f d).bind fun a=>(rF n a.f0 a.f1 a.f2 a.f3 a.f4 a.f5 a.f6 b).bind fun c=>bif c.1 then some (.inr (.inl (d,c.2)))else some (.inl ((IntKind.wrap .i64 (d+(1:Int))),c.2))else some (.inr (.inr (d,false,b)))
def gN(n:Nat)(d:List aD)(c:List UInt8):Option (Int×(List UInt8)):=
  (loopN (cJ n d) n ((0:Int),c)).bind fun q=>(match q with | .inl (f,a)=>some (f,a) | .inr (g,j,b)=>some (((-1):Int),b))
theorem uS{n:Nat}:wF (gN n):=by
 intro t p r h; unfold gN at h; refine bF Try.func118 rfl rfl<|gco 8 rfl<|xLn rfl<|goc 2 rfl<|cLp h [(4,5),(8,18)] [(1000000,1000000)] (fun(f,a)=>([(8,I64 f)],[(1000000,[.str a])])) (fun q=>match q with | .inl (d,b)=>(.r,[(4,I64 d)],[(1000000,[.str b])]) | .inr (g,j,c)=>(.e 0,[(8,I64 g),(9,Bo j)],[(1000000,[.str c])])) rfl (fun st _ h=> ?_) (fun q h=> ?_)
 obtain⟨f,a⟩:=st; unfold cJ at h; refine gcc 5 rfl<|cIf h rfl (fun s h=> ?_) (fun s h=> ?_)
 refine gco 13 rfl<|xIx h bC rfl (fun o h=> ?_)
 refine xLd rfl<|xC1 h (Es ·) rfl (fun l h=> ?_)
 refine oNl<|cIf h rfl (fun m h=> ?_) (fun m h=> ?_)
 exact gec; exact gec; exact gec; rcases q with⟨d,b⟩ | ⟨g,j,c⟩; exact en; exact gec
abbrev MD(p:(List aD)→(List UInt8)→Option (Int)):Prop:= ∀ {a:List aD} {b:List UInt8} {r:Int},p a b=some r→Big Try.prog τ An (.fn 78 [.one (.ag [.sl (a.map aH)]), .one (.c (.str b))] [] (.one (.c (.int .i64 r))) none [] none)
def kH(n:Nat)(b:List aD)(c:List UInt8):Option (Int):=
  (gN n b c).bind fun a=>some a.1
theorem rI{n:Nat}:MD (kH n):=by
 intro b c r h; unfold kH at h; refine bF Try.func78 rfl rfl<|gco 10 rfl<|wFn rfl rfl rfl<|xC1 h (uS ·) rfl (fun a h=> ?_)
 exact geo
abbrev Hp(p:Int→Option (Bool)):Prop:= ∀ {a:Int} {r:Bool},p a=some r→Big Try.prog τ An (.fn 144 [.one (.c (.int .u8 a))] [] (.one (.c (.bool r))) none [] none)
def jH(n:Nat)(a:Int):Option (Bool):=
  (bif decide ((97:Int)≤a)then some (decide (a≤(122:Int)))else some false).bind fun b=>some b
theorem wJ{n:Nat}:Hp (jH n):=by
 intro c r h; unfold jH at h; refine bF Try.func144 rfl rfl<|gco 6 rfl<|oJn h [(2,8)] [] (fun a=>(.n,[(2,Bo a)],[])) (fun _ h=> ?_) (fun a h=> ?_)
 refine goo 3 rfl<|oIf 5 h rfl (fun b h=> ?_) (fun b h=> ?_)
 exact geo; exact geo; exact gec
abbrev HA(p:Int→Option (Bool)):Prop:= ∀ {a:Int} {r:Bool},p a=some r→Big Try.prog τ An (.fn 145 [.one (.c (.int .u8 a))] [] (.one (.c (.bool r))) none [] none)
def gV(n:Nat)(a:Int):Option (Bool):=
  (bif decide ((48:Int)≤a)then some (decide (a≤(57:Int)))else some false).bind fun b=>some b
theorem vQ{n:Nat}:HA (gV n):=by
 intro c r h; unfold gV at h; refine bF Try.func145 rfl rfl<|gco 6 rfl<|oJn h [(2,8)] [] (fun a=>(.n,[(2,Bo a)],[])) (fun _ h=> ?_) (fun a h=> ?_)
 refine goo 3 rfl<|oIf 5 h rfl (fun b h=> ?_) (fun b h=> ?_)
 exact geo; exact geo; exact gec
abbrev Hr(p:Int→Int→Int→Option (Bool)):Prop:= ∀ {a b d:Int} {r:Bool},p a b d=some r→Big Try.prog τ An (.fn 146 [.one (.c (.int .i64 a)), .one (.c (.int .i64 b)), .one (.c (.int .i64 d))] [] (.one (.c (.bool r))) none [] none)
def gM(n:Nat)(a:Int)(b:Int)(c:Int):Option (Bool):=
  (bif decide (b≤a)then some (decide (a≤c))else some false).bind fun d=>some d
theorem oZ{n:Nat}:Hr (gM n):=by
 intro c d f r h; unfold gM at h; refine bF Try.func146 rfl rfl<|gco 6 rfl<|oJn h [(6,14)] [] (fun a=>(.n,[(6,Bo a)],[])) (fun _ h=> ?_) (fun a h=> ?_)
 refine goo 4 rfl<|oIf 10 h rfl (fun b h=> ?_) (fun b h=> ?_)
 exact geo; exact geo; exact gec
abbrev KE(p:(List UInt8)→Option (Bool)):Prop:= ∀ {a:List UInt8} {r:Bool},p a=some r→Big Try.prog τ An (.fn 120 [.one (.c (.str a))] [] (.one (.c (.bool r))) none [] none)
def oU(n:Nat)(b:List UInt8):(Int)→Option ((Int)⊕((Bool)⊕(Int×Bool)))
  | a=>bif decide (a<(b.length:Int))then((ixs b a).bind fun j=>(jH n j).bind fun g=>bif !g then bif decide (a=(0:Int))then some true else(ixs b a).bind fun d=>(gV n d).bind fun c=>bif !c then(ixs b a).bind fun f=>some (!decide (f=(95:Int)))else some false else some false).bind fun l=>bif l then some (.inr (.inl false))else some (.inl (IntKind.wrap .i64 (a+(1:Int))))else some (.inr (.inr (a,false)))
def pZ(n:Nat)(b:List UInt8):Option (Bool):=
  (loopN (oU n b) n (0:Int)).bind fun q=>(match q with | .inl c=>some c | .inr (d,f)=>(gM n (b.length:Int) (1:Int) (20:Int)).bind fun a=>some a)
theorem Gn{n:Nat}:KE (pZ n):=by
 intro y r h; unfold pZ at h; refine bF Try.func120 rfl rfl<|gcc 9 rfl<|cLp h [(2,31)] [] (fun c=>([(3,I64 c)],[])) (fun q=>match q with | .inl b=>(.r,[(2,Bo b)],[]) | .inr (d,f)=>(.e 0,[(3,I64 d),(7,Bo f)],[])) rfl (fun c _ h=> ?_) (fun q h=> ?_)
 unfold oU at h; refine gco 5 rfl<|xLs rfl<|goc 2 rfl<|cIf h rfl (fun v h=> ?_) (fun v h=> ?_)
 refine gco 5 rfl<|oJn h [(10,31)] [] (fun a=>(.n,[(31,Bo a)],[])) (fun _ h=> ?_) (fun a h=> ?_)
 refine goo 2 rfl<|PY h rfl rfl rfl rfl rfl (fun u h=> ?_)
 refine xC0 h (wJ ·) rfl (fun t h=> ?_)
 refine goo 2 rfl<|oIf 15 h rfl (fun w h=> ?_) (fun w h=> ?_)
 refine goo 3 rfl<|oIf 18 h rfl (fun o h=> ?_) (fun o h=> ?_)
 exact geo; refine goo 2 rfl<|PY h rfl rfl rfl rfl rfl (fun l h=> ?_)
 refine xC0 h (vQ ·) rfl (fun g h=> ?_)
 refine goo 2 rfl<|oIf 24 h rfl (fun p h=> ?_) (fun p h=> ?_)
 refine goo 2 rfl<|PY h rfl rfl rfl rfl rfl (fun m h=> ?_)
 exact geo; exact geo; exact geo; refine cIf h rfl (fun s h=> ?_) (fun s h=> ?_)
 exact gec; exact gec; exact gec; rcases q with b | ⟨d,f⟩; exact en; refine gco 3 rfl<|xLs rfl<|xC0 h (oZ ·) rfl (fun j h=> ?_)
 exact geo
abbrev Hn(p:(List UInt8)→Option (Bool)):Prop:= ∀ {a:List UInt8} {r:Bool},p a=some r→Big Try.prog τ An (.fn 79 [.one (.c (.str a))] [] (.one (.c (.bool r))) none [] none)
def gL(n:Nat)(a:List UInt8):Option (Bool):=
  ((pZ n a).bind fun b=>bif b then bif !decide (a=([99,97,115,101]:List UInt8))then bif !decide (a=([111,102]:List UInt8))then some (!decide (a=([101,110,100]:List UInt8)))else some false else some false else some false).bind fun c=>some c
theorem oY{n:Nat}:Hn (gL n):=by
 intro g r h; unfold gL at h; refine bF Try.func79 rfl rfl<|gco 6 rfl<|oJn h [(2,16)] [] (fun a=>(.n,[(2,Bo a)],[])) (fun _ h=> ?_) (fun a h=> ?_)
 refine xMv rfl<|xC0 h (Gn ·) rfl (fun b h=> ?_)
 refine xMv rfl<|oIf 5 h rfl (fun c h=> ?_) (fun c h=> ?_)
 refine goo 4 rfl<|oIf 9 h rfl (fun d h=> ?_) (fun d h=> ?_)
 refine goo 4 rfl<|oIf 13 h rfl (fun f h=> ?_) (fun f h=> ?_)
 exact geo; exact geo; exact geo; exact geo; exact gec
abbrev Hq(p:Int→Option (Bool)):Prop:= ∀ {a:Int} {r:Bool},p a=some r→Big Try.prog τ An (.fn 168 [.one (.c (.int .u8 a))] [] (.one (.c (.bool r))) none [] none)
def lX(n:Nat)(a:Int):Option (Bool):=
  (bif decide ((65:Int)≤a)then bif decide (a≤(90:Int))then some true else some (decide (a=(95:Int)))else some (decide (a=(95:Int)))).bind fun b=>some b
theorem wK{n:Nat}:Hq (lX n):=by
 intro d r h; unfold lX at h; refine bF Try.func168 rfl rfl<|gco 6 rfl<|oJn h [(2,12)] [] (fun a=>(.n,[(2,Bo a)],[])) (fun _ h=> ?_) (fun a h=> ?_)
 refine goo 3 rfl<|oIf 5 h rfl (fun b h=> ?_) (fun b h=> ?_)
 refine goo 4 rfl<|oIf 9 h rfl (fun c h=> ?_) (fun c h=> ?_)
 exact geo; exact geo; exact geo; exact gec
abbrev Da(p:Int→Option (Bool)):Prop:= ∀ {a:Int} {r:Bool},p a=some r→Big Try.prog τ An (.fn 167 [.one (.c (.int .u8 a))] [] (.one (.c (.bool r))) none [] none)
def kA(n:Nat)(a:Int):Option (Bool):=
  ((jH n a).bind fun c=>bif c then some true else(lX n a).bind fun d=>bif d then some true else(gV n a).bind fun b=>some b).bind fun f=>some f
theorem Ax{n:Nat}:Da (kA n):=by
 intro j r h; unfold kA at h; refine bF Try.func167 rfl rfl<|gco 6 rfl<|oJn h [(2,12)] [] (fun a=>(.n,[(2,Bo a)],[])) (fun _ h=> ?_) (fun a h=> ?_)
 refine xMv rfl<|xC0 h (wJ ·) rfl (fun c h=> ?_)
 refine xMv rfl<|oIf 5 h rfl (fun f h=> ?_) (fun f h=> ?_)
 exact geo; refine xMv rfl<|xC0 h (wK ·) rfl (fun d h=> ?_)
 refine goo 2 rfl<|oIf 9 h rfl (fun g h=> ?_) (fun g h=> ?_)
 exact geo; refine xMv rfl<|xC0 h (vQ ·) rfl (fun b h=> ?_)
 exact geo; exact gec
abbrev MA(p:(List UInt8)→Option (Bool)):Prop:= ∀ {a:List UInt8} {r:Bool},p a=some r→Big Try.prog τ An (.fn 156 [.one (.c (.str a))] [] (.one (.c (.bool r))) none [] none)
def qD(n:Nat)(b:List UInt8):(Int)→Option ((Int)⊕((Bool)⊕(Int×Bool)))
  | a=>bif decide (a<(b.length:Int))then(ixs b a).bind fun d=>(kA n d).bind fun c=>bif !c then some (.inr (.inl false))else some (.inl (IntKind.wrap .i64 (a+(1:Int))))else some (.inr (.inr (a,false)))
def pC(n:Nat)(a:List UInt8):Option (Bool):=
  (loopN (qD n a) n (0:Int)).bind fun q=>(match q with | .inl f=>some f | .inr (j,l)=>((gM n (a.length:Int) (1:Int) (20:Int)).bind fun b=>bif b then(ixs a (0:Int)).bind fun d=>(lX n d).bind fun c=>some c else some false).bind fun g=>some g)
theorem AB{n:Nat}:MA (pC n):=by
 intro u r h; unfold pC at h; refine bF Try.func156 rfl rfl<|gcc 9 rfl<|cLp h [(2,14)] [] (fun c=>([(3,I64 c)],[])) (fun q=>match q with | .inl a=>(.r,[(2,Bo a)],[]) | .inr (d,f)=>(.e 0,[(3,I64 d),(7,Bo f)],[])) rfl (fun c _ h=> ?_) (fun q h=> ?_)
 unfold qD at h; refine gco 5 rfl<|xLs rfl<|goc 2 rfl<|cIf h rfl (fun s h=> ?_) (fun s h=> ?_)
 refine gco 7 rfl<|PY h rfl rfl rfl rfl rfl (fun p h=> ?_)
 refine xC0 h (Ax ·) rfl (fun o h=> ?_)
 refine goc 2 rfl<|cIf h rfl (fun t h=> ?_) (fun t h=> ?_)
 exact gec; exact gec; exact gec; rcases q with a | ⟨d,f⟩; exact en; refine cRs<|oJn h [(2,2),(15,22)] [] (fun b=>(.n,[(2,Bo b)],[])) (fun _ h=> ?_) (fun b h=> ?_)
 refine xMv rfl<|xLs rfl<|xC0 h (oZ ·) rfl (fun g h=> ?_)
 refine xMv rfl<|oIf 18 h rfl (fun m h=> ?_) (fun m h=> ?_)
 refine xMv rfl<|PY h rfl rfl rfl rfl rfl (fun l h=> ?_)
 refine xC0 h (wK ·) rfl (fun j h=> ?_)
 exact geo; exact geo; exact gec
abbrev NT(p:(List UInt8)→Option (Bool)):Prop:= ∀ {a:List UInt8} {r:Bool},p a=some r→Big Try.prog τ An (.fn 157 [.one (.c (.str a))] [] (.one (.c (.bool r))) none [] none)
def tE(n:Nat)(a:List UInt8):Option (Bool):=
  bif decide (a=([43]:List UInt8))then some true else bif decide (a=([45]:List UInt8))then some true else bif decide (a=([42]:List UInt8))then some true else bif decide (a=([61,61]:List UInt8))then some true else bif decide (a=([60]:List UInt8))then some true else some false
theorem Js{n:Nat}:NT (tE n):=by
 intro g r h; unfold tE at h; refine bF Try.func157 rfl rfl<|gcc 16 rfl<|cIf h rfl (fun a h=> ?_) (fun a h=> ?_)
 exact gec; refine gcc 5 rfl<|cIf h rfl (fun b h=> ?_) (fun b h=> ?_)
 exact gec; refine gcc 5 rfl<|cIf h rfl (fun c h=> ?_) (fun c h=> ?_)
 exact gec; refine gcc 5 rfl<|cIf h rfl (fun d h=> ?_) (fun d h=> ?_)
 exact gec; refine gcc 4 rfl<|cIf h rfl (fun f h=> ?_) (fun f h=> ?_)
 exact gec; exact gec
abbrev Ho(p:Int→Int→(List UInt8)→Int→Option (Bool)):Prop:= ∀ {a b:Int} {d:List UInt8} {f:Int} {r:Bool},p a b d f=some r→Big Try.prog τ An (.fn 135 [.one (.c (.int .i64 a)), .one (.c (.int .i64 b)), .one (.c (.str d)), .one (.c (.int .i64 f))] [] (.one (.c (.bool r))) none [] none)
def lW(n:Nat)(a:Int)(b:Int)(c:List UInt8)(d:Int):Option (Bool):=
  bif decide (a=(1:Int))then((gM n b (0:Int) (1000000000000:Int)).bind fun m=>bif m then bif decide (c=([]:List UInt8))then some (decide (d=(0:Int)))else some false else some false).bind fun z=>some z else bif decide (a=(2:Int))then(bif decide (b=(0:Int))then(gL n c).bind fun o=>bif o then some (decide (d=(0:Int)))else some false else some false).bind fun A=>some A else bif decide (a=(3:Int))then(bif decide (b=(0:Int))then(pC n c).bind fun f=>bif f then some (decide (d=(0:Int)))else some false else some false).bind fun p=>some p else bif decide (a=(4:Int))then(bif decide (b=(0:Int))then bif decide (c=([]:List UInt8))then some (decide (d≤(20:Int)))else some false else some false).bind fun s=>some s else bif decide (a=(5:Int))then(bif decide (b=(0:Int))then bif decide (c=([]:List UInt8))then some (decide (d≤(20:Int)))else some false else some false).bind fun t=>some t else bif decide (a=(6:Int))then(bif decide (b=(0:Int))then bif decide (c=([]:List UInt8))then(gM n d (2:Int) (6:Int)).bind fun g=>some g else some false else some false).bind fun u=>some u else bif decide (a=(7:Int))then(bif decide (b=(0:Int))then(tE n c).bind fun j=>bif j then some (decide (d=(2:Int)))else some false else some false).bind fun v=>some v else bif decide (a=(8:Int))then(bif decide (b=(0:Int))then(gL n c).bind fun l=>bif l then some (decide (d≤(4:Int)))else some false else some false).bind fun w=>some w else bif decide (a=(9:Int))then(bif decide (b=(0:Int))then bif decide (c=([]:List UInt8))then some (decide (d=(1:Int)))else some false else some false).bind fun y=>some y else some false
theorem wI{n:Nat}:Ho (lW n):=by
 intro a2 a3 a4 a5 r h; unfold lW at h; refine bF Try.func135 rfl rfl<|gcc 15 rfl<|cIf h rfl (fun X h=> ?_) (fun X h=> ?_)
 refine cRs<|oJn h [(8,8),(12,21)] [] (fun l=>(.n,[(8,Bo l)],[])) (fun _ h=> ?_) (fun l h=> ?_)
 refine xMv rfl<|xC0 h (oZ ·) rfl (fun V h=> ?_)
 refine xMv rfl<|oIf 14 h rfl (fun Y h=> ?_) (fun Y h=> ?_)
 refine goo 4 rfl<|oIf 18 h rfl (fun Z h=> ?_) (fun Z h=> ?_)
 exact geo; exact geo; exact geo; exact gec; refine gcc 5 rfl<|cIf h rfl (fun q6 h=> ?_) (fun q6 h=> ?_)
 refine cRs<|oJn h [(8,8),(24,33)] [] (fun m=>(.n,[(8,Bo m)],[])) (fun _ h=> ?_) (fun m h=> ?_)
 refine goo 3 rfl<|oIf 26 h rfl (fun q8 h=> ?_) (fun q8 h=> ?_)
 refine xMv rfl<|xC0 h (oY ·) rfl (fun W h=> ?_)
 refine goo 2 rfl<|oIf 30 h rfl (fun u h=> ?_) (fun u h=> ?_)
 exact geo; exact geo; exact geo; exact gec; refine gcc 5 rfl<|cIf h rfl (fun v h=> ?_) (fun v h=> ?_)
 refine cRs<|oJn h [(8,8),(36,45)] [] (fun a=>(.n,[(8,Bo a)],[])) (fun _ h=> ?_) (fun a h=> ?_)
 refine goo 3 rfl<|oIf 38 h rfl (fun w h=> ?_) (fun w h=> ?_)
 refine xMv rfl<|xC0 h (AB ·) rfl (fun o h=> ?_)
 refine goo 2 rfl<|oIf 42 h rfl (fun y h=> ?_) (fun y h=> ?_)
 exact geo; exact geo; exact geo; exact gec; refine gcc 6 rfl<|cIf h rfl (fun z h=> ?_) (fun z h=> ?_)
 refine gco 4 rfl<|oJn h [(8,8),(49,58)] [] (fun b=>(.n,[(8,Bo b)],[])) (fun _ h=> ?_) (fun b h=> ?_)
 refine goo 3 rfl<|oIf 51 h rfl (fun A h=> ?_) (fun A h=> ?_)
 refine goo 4 rfl<|oIf 55 h rfl (fun B h=> ?_) (fun B h=> ?_)
 exact geo; exact geo; exact geo; exact gec; refine gcc 4 rfl<|cIf h rfl (fun C h=> ?_) (fun C h=> ?_)
 refine cRs<|oJn h [(8,8),(49,58)] [] (fun c=>(.n,[(8,Bo c)],[])) (fun _ h=> ?_) (fun c h=> ?_)
 refine goo 3 rfl<|oIf 51 h rfl (fun D h=> ?_) (fun D h=> ?_)
 refine goo 4 rfl<|oIf 55 h rfl (fun E h=> ?_) (fun E h=> ?_)
 exact geo; exact geo; exact geo; exact gec; refine gcc 5 rfl<|cIf h rfl (fun G h=> ?_) (fun G h=> ?_)
 refine cRs<|oJn h [(8,8),(61,70)] [] (fun d=>(.n,[(8,Bo d)],[])) (fun _ h=> ?_) (fun d h=> ?_)
 refine goo 3 rfl<|oIf 63 h rfl (fun H h=> ?_) (fun H h=> ?_)
 refine goo 4 rfl<|oIf 67 h rfl (fun I h=> ?_) (fun I h=> ?_)
 refine xMv rfl<|xC0 h (oZ ·) rfl (fun p h=> ?_)
 exact geo; exact geo; exact geo; exact gec; refine gcc 5 rfl<|cIf h rfl (fun J h=> ?_) (fun J h=> ?_)
 refine cRs<|oJn h [(8,8),(73,82)] [] (fun f=>(.n,[(8,Bo f)],[])) (fun _ h=> ?_) (fun f h=> ?_)
 refine goo 3 rfl<|oIf 75 h rfl (fun K h=> ?_) (fun K h=> ?_)
 refine xMv rfl<|xC0 h (Js ·) rfl (fun s h=> ?_)
 refine goo 2 rfl<|oIf 79 h rfl (fun L h=> ?_) (fun L h=> ?_)
 exact geo; exact geo; exact geo; exact gec; refine gcc 5 rfl<|cIf h rfl (fun M h=> ?_) (fun M h=> ?_)
 refine cRs<|oJn h [(8,8),(85,94)] [] (fun g=>(.n,[(8,Bo g)],[])) (fun _ h=> ?_) (fun g h=> ?_)
 refine goo 3 rfl<|oIf 87 h rfl (fun N h=> ?_) (fun N h=> ?_)
 refine xMv rfl<|xC0 h (oY ·) rfl (fun t h=> ?_)
 refine goo 2 rfl<|oIf 91 h rfl (fun Q h=> ?_) (fun Q h=> ?_)
 exact geo; exact geo; exact geo; exact gec; refine gcc 5 rfl<|cIf h rfl (fun R h=> ?_) (fun R h=> ?_)
 refine cRs<|oJn h [(8,8),(97,106)] [] (fun j=>(.n,[(8,Bo j)],[])) (fun _ h=> ?_) (fun j h=> ?_)
 refine goo 3 rfl<|oIf 99 h rfl (fun T h=> ?_) (fun T h=> ?_)
 refine goo 4 rfl<|oIf 103 h rfl (fun U h=> ?_) (fun U h=> ?_)
 exact geo; exact geo; exact geo; exact gec; exact gec
abbrev BA(p:(List (List UInt8))→(List UInt8)→Option (Int)):Prop:= ∀ {a:List (List UInt8)} {b:List UInt8} {r:Int},p a b=some r→Big Try.prog τ An (.fn 148 [.one (.c (.sl (a.map bZ))), .one (.c (.str b))] [] (.one (.c (.int .i64 r))) none [] none)
def eQ(n:Nat)(b:List (List UInt8))(d:List UInt8):(Int)→Option ((Int)⊕((Int)⊕(Int×Bool)))
  | a=>bif decide (a<(b.length:Int))then(ix b a).bind fun c=>bif decide (d=c)then some (.inr (.inl a))else some (.inl (IntKind.wrap .i64 (a+(1:Int))))else some (.inr (.inr (a,false)))
def eV(n:Nat)(a:List (List UInt8))(b:List UInt8):Option (Int):=
  (loopN (eQ n a b) n (0:Int)).bind fun q=>(match q with | .inl c=>some c | .inr (d,f)=>some ((-1):Int))
theorem rY{n:Nat}:BA (eV n):=by
 intro l m r h; unfold eV at h; refine bF Try.func148 rfl rfl<|gco 8 rfl<|xLn rfl<|goc 2 rfl<|cLp h [(4,5),(8,18)] [] (fun b=>([(8,I64 b)],[])) (fun q=>match q with | .inl a=>(.r,[(4,I64 a)],[]) | .inr (c,d)=>(.e 0,[(8,I64 c),(9,Bo d)],[])) rfl (fun b _ h=> ?_) (fun q h=> ?_)
 unfold eQ at h; refine gcc 5 rfl<|cIf h rfl (fun g h=> ?_) (fun g h=> ?_)
 refine gco 13 rfl<|xIx h mL rfl (fun f h=> ?_)
 refine goc 3 rfl<|cIf h rfl (fun j h=> ?_) (fun j h=> ?_)
 exact gec; exact gec; exact gec; rcases q with a | ⟨c,d⟩; exact en; exact gec
abbrev wR(p:(List (List UInt8))→(List UInt8)→Option (Bool)):Prop:= ∀ {a:List (List UInt8)} {b:List UInt8} {r:Bool},p a b=some r→Big Try.prog τ An (.fn 136 [.one (.c (.sl (a.map bZ))), .one (.c (.str b))] [] (.one (.c (.bool r))) none [] none)
def cB(n:Nat)(b:List (List UInt8))(c:List UInt8):Option (Bool):=
  (eV n b c).bind fun a=>some (decide ((0:Int)≤a))
theorem gA{n:Nat}:wR (cB n):=by
 intro b c r h; unfold cB at h; refine bF Try.func136 rfl rfl<|gco 8 rfl<|xC0 h (rY ·) rfl (fun a h=> ?_)
 exact geo
abbrev fW:Type:=Int→Int→(List UInt8)→(List aB)→(List aA)→Int→Int→(List (List UInt8))→Option (Bool×Int×(List (List UInt8)))
abbrev pA(p:fW):Prop:= ∀ {d f:Int} {g:List UInt8} {j:List aB} {l:List aA} {m a:Int} {b:List (List UInt8)} {r:Bool×Int×(List (List UInt8))},p d f g j l m a b=some r→Big Try.prog τ An (.fn 102 [.one (.ptr 1000000 0), .one (.ag [.int .i64 d, .int .i64 f, .str g, .sl (j.map aE), .sl (l.map aC)]), .one (.c (.int .i64 m))] [[.int .i64 a, .sl (b.map bZ)]] (.one (.c (.bool r.1))) none [[.int .i64 r.2.1, .sl (r.2.2.map bZ)]] none)
def iA(n:Nat)(f:fW)(l:Int)(j:List aB):(Int×Int×(List (List UInt8)))→Option ((Int×Int×(List (List UInt8)))⊕((Bool×Int×(List (List UInt8)))⊕(Int×Bool×Int×(List (List UInt8)))))
  | (g,c,d)=>bif decide (g<(j.length:Int))then(ix j g).bind fun b=>(f b.f0 b.f1 b.f2 b.f3 b.f4 (IntKind.wrap .i64 (l+(1:Int))) c d).bind fun a=>bif !a.1 then some (.inr (.inl (false,a.2.1,a.2.2)))else some (.inl ((IntKind.wrap .i64 (g+(1:Int))),a.2.1,a.2.2))else some (.inr (.inr (g,false,c,d)))
def dC(n:Nat)(f:fW)(l:Int)(j:List aB):(Int×Int×(List (List UInt8)))→Option ((Int×Int×(List (List UInt8)))⊕((Bool×Int×(List (List UInt8)))⊕(Int×Bool×Int×(List (List UInt8)))))
  | (g,c,d)=>bif decide (g<(j.length:Int))then(ix j g).bind fun b=>(f b.f0 b.f1 b.f2 b.f3 b.f4 (IntKind.wrap .i64 (l+(1:Int))) c d).bind fun a=>bif !a.1 then some (.inr (.inl (false,a.2.1,a.2.2)))else some (.inl ((IntKind.wrap .i64 (g+(1:Int))),a.2.1,a.2.2))else some (.inr (.inr (g,false,c,d)))
def lJ(n:Nat)(a:fW)(t:Int)(E:Int)(s:List UInt8)(u:List aB)(G:List aA)(v:Int)(b:Int)(c:List (List UInt8)):Option (Bool×Int×(List (List UInt8))):=
  (bif decide ((10:Int)<v)then some true else bif decide ((300:Int)<(IntKind.wrap .i64 (b+(1:Int))))then some true else bif decide ((6:Int)<t)then some true else bif decide ((0:Int)<(G.length:Int))then some true else(lW n t E s (u.length:Int)).bind fun z=>some (!z)).bind fun A=>bif A then some (false,(IntKind.wrap .i64 (b+(1:Int))),c)else(bif decide (t=(3:Int))then some (!decide (s=([95]:List UInt8)))else some false).bind fun B=>bif B then(cB n c s).bind fun w=>bif w then some (false,(IntKind.wrap .i64 (b+(1:Int))),c)else(sX 16 c ([s]:List (List UInt8))).bind fun y=>(loopN (iA n a v u) n ((0:Int),(IntKind.wrap .i64 (b+(1:Int))),y)).bind fun q=>(match q with | .inl (C,d,f)=>some (C,d,f) | .inr (H,J,g,j)=>some (true,g,j))else(loopN (dC n a v u) n ((0:Int),(IntKind.wrap .i64 (b+(1:Int))),c)).bind fun q=>(match q with | .inl (D,l,m)=>some (D,l,m) | .inr (I,K,o,p)=>some (true,o,p))
theorem Am{n:Nat}{b:fW}(a:pA b):pA (lJ n b):=by
 intro a8 a9 I b0 b1 b2 a0 a1 r h; unfold lJ at h; refine bF Try.func102 rfl rfl<|gco 19 rfl<|oJn h [(16,48)] [] (fun D=>(.n,[(48,Bo D)],[])) (fun _ h=> ?_) (fun D h=> ?_)
 refine goo 3 rfl<|oIf 18 h rfl (fun q2 h=> ?_) (fun q2 h=> ?_)
 exact geo; refine goo 7 rfl<|oIf 25 h rfl (fun q3 h=> ?_) (fun q3 h=> ?_)
 exact geo; refine goo 5 rfl<|oIf 30 h rfl (fun q4 h=> ?_) (fun q4 h=> ?_)
 exact geo; refine goo 2 rfl<|xLn rfl<|goo 3 rfl<|oIf 36 h rfl (fun q5 h=> ?_) (fun q5 h=> ?_)
 exact geo; refine goo 8 rfl<|xLn rfl<|xC0 h (wI ·) rfl (fun Z h=> ?_)
 exact geo; refine cIf h rfl (fun q7 h=> ?_) (fun q7 h=> ?_)
 exact gec; refine gco 4 rfl<|oJn h [(49,56)] [] (fun E=>(.n,[(56,Bo E)],[])) (fun _ h=> ?_) (fun E h=> ?_)
 refine goo 4 rfl<|oIf 52 h rfl (fun q9 h=> ?_) (fun q9 h=> ?_)
 exact geo; exact geo; refine cIf h rfl (fun R h=> ?_) (fun R h=> ?_)
 refine gco 9 rfl<|xC0 h (gA ·) rfl (fun J h=> ?_)
 refine oNl<|cIf h rfl (fun T h=> ?_) (fun T h=> ?_)
 exact gec; refine gco 9 rfl<|yQ (L:=([I]:List (List UInt8))) (f:=bZ) rfl rfl rfl rfl rfl rfl rfl<|wAp (f:=bZ) h rfl rfl rfl rfl rfl rfl rfl rfl rfl (fun _=>rfl) rfl (fun Y h=> ?_)
 refine goo 9 rfl<|xLn rfl<|goc 2 rfl<|cLp h [(6,6),(8,8),(78,88)] [(8,8),(1000000,1000000)] (fun(w,c,d)=>([(78,I64 w)],[(1000000,[.int .i64 c, .sl (d.map bZ)])])) (fun q=>match q with | .inl (G,g,j)=>(.r,[(6,Bo G)],[(1000000,[.int .i64 g, .sl (j.map bZ)])]) | .inr (y,B,l,m)=>(.e 0,[(78,I64 y),(79,Bo B)],[(1000000,[.int .i64 l, .sl (m.map bZ)])])) rfl (fun st _ h=> ?_) (fun q h=> ?_)
 obtain⟨w,c,d⟩:=st; unfold iA at h; refine gcc 5 rfl<|cIf h rfl (fun U h=> ?_) (fun U h=> ?_)
 refine gco 5 rfl<|xIx h aK rfl (fun N h=> ?_)
 refine xLd rfl<|xAz [.int .i64 0, .int .i64 0, .str [], .sl ([].map aE), .sl ([].map aC)] rfl<|goo 8 rfl<|xC1 h (a ·) rfl (fun K h=> ?_)
 refine goc 2 rfl<|cIf h rfl (fun V h=> ?_) (fun V h=> ?_)
 exact gec; exact gec; exact gec; rcases q with⟨G,g,j⟩ | ⟨y,B,l,m⟩; exact en; exact gec; refine gco 6 rfl<|xLn rfl<|goc 2 rfl<|cLp h [(6,6),(8,8),(78,88)] [(8,8),(1000000,1000000)] (fun(z,o,p)=>([(78,I64 z)],[(1000000,[.int .i64 o, .sl (p.map bZ)])])) (fun q=>match q with | .inl (H,s,t)=>(.r,[(6,Bo H)],[(1000000,[.int .i64 s, .sl (t.map bZ)])]) | .inr (A,C,u,v)=>(.e 0,[(78,I64 A),(79,Bo C)],[(1000000,[.int .i64 u, .sl (v.map bZ)])])) rfl (fun st _ h=> ?_) (fun q h=> ?_)
 obtain⟨z,o,p⟩:=st; unfold dC at h; refine gcc 5 rfl<|cIf h rfl (fun W h=> ?_) (fun W h=> ?_)
 refine gco 5 rfl<|xIx h aK rfl (fun Q h=> ?_)
 refine xLd rfl<|xAz [.int .i64 0, .int .i64 0, .str [], .sl ([].map aE), .sl ([].map aC)] rfl<|goo 8 rfl<|xC1 h (a ·) rfl (fun M h=> ?_)
 refine goc 2 rfl<|cIf h rfl (fun X h=> ?_) (fun X h=> ?_)
 exact gec; exact gec; exact gec; rcases q with⟨H,s,t⟩ | ⟨A,C,u,v⟩; exact en; exact gec
def wG:Nat→(fW)
  | 0=>(fun _ _ _ _ _ _ _ _=>none)
  | n+1=>lJ n (wG n)
def cQ(n:Nat):fW:=wG n
theorem At(n:Nat):pA (cQ n):=by
  induction n with
  | zero=>exact(fun h=>nomatch h)
  | succ n ih=>exact Am (n:=n) ih
theorem CU{n:Nat}:pA (cQ n):=(At n)
theorem yO(n:Nat):cQ (n+1)=lJ n (cQ n):=rfl
abbrev eT:Type:=Int→Int→(List UInt8)→(List aB)→(List aA)→Int→Int→(List (List UInt8))→Option (Bool×Int×(List (List UInt8)))
abbrev nU(p:eT):Prop:= ∀ {d f:Int} {g:List UInt8} {j:List aB} {l:List aA} {m a:Int} {b:List (List UInt8)} {r:Bool×Int×(List (List UInt8))},p d f g j l m a b=some r→Big Try.prog τ An (.fn 169 [.one (.ptr 1000000 0), .one (.ag [.int .i64 d, .int .i64 f, .str g, .sl (j.map aE), .sl (l.map aC)]), .one (.c (.int .i64 m))] [[.int .i64 a, .sl (b.map bZ)]] (.one (.c (.bool r.1))) none [[.int .i64 r.2.1, .sl (r.2.2.map bZ)]] none)
def eI(n:Nat)(c:eT)(l:Int)(j:List aB):(Int×Int×(List (List UInt8)))→Option ((Int×Int×(List (List UInt8)))⊕((Bool×Int×(List (List UInt8)))⊕(Int×Bool×Int×(List (List UInt8)))))
  | (g,d,f)=>bif decide (g<(j.length:Int))then(ix j g).bind fun b=>(c b.f0 b.f1 b.f2 b.f3 b.f4 (IntKind.wrap .i64 (l+(1:Int))) d f).bind fun a=>bif !a.1 then some (.inr (.inl (false,a.2.1,a.2.2)))else some (.inl ((IntKind.wrap .i64 (g+(1:Int))),a.2.1,a.2.2))else some (.inr (.inr (g,false,d,f)))
def eH(n:Nat)(c:eT)(s:Int)(p:List aA):(Int×Int×(List (List UInt8)))→Option ((Int×Int×(List (List UInt8)))⊕((Bool×Int×(List (List UInt8)))⊕(Int×Bool×Int×(List (List UInt8)))))
  | (j,d,m)=>bif decide (j<(p.length:Int))then(ix p j).bind fun a=>((cQ n a.f0 a.f1 a.f2 a.f3 a.f4 (IntKind.wrap .i64 (s+(1:Int))) d ([]:List (List UInt8))).bind fun b=>bif !b.1 then some (true,b.2.1,b.2.2)else(c a.f5 a.f6 a.f7 a.f8 a.f9 (IntKind.wrap .i64 (s+(1:Int))) b.2.1 b.2.2).bind fun l=>some ((!l.1),l.2.1,l.2.2)).bind fun(o,f,g)=>bif o then some (.inr (.inl (false,f,g)))else some (.inl ((IntKind.wrap .i64 (j+(1:Int))),f,g))else some (.inr (.inr (j,false,d,m)))
def jT(n:Nat)(a:eT)(s:Int)(D:Int)(v:List UInt8)(w:List aB)(t:List aA)(u:Int)(o:Int)(p:List (List UInt8)):Option (Bool×Int×(List (List UInt8))):=
  (bif decide ((10:Int)<u)then some true else bif decide ((300:Int)<(IntKind.wrap .i64 (o+(1:Int))))then some true else(lW n s D v (w.length:Int)).bind fun y=>bif !y then some true else bif decide (s=(3:Int))then some (decide (v=([95]:List UInt8)))else some false).bind fun z=>bif z then some (false,(IntKind.wrap .i64 (o+(1:Int))),p)else(bif !((decide (s=(9:Int))) == (decide ((0:Int)<(t.length:Int))))then some true else some (decide ((6:Int)<(t.length:Int)))).bind fun A=>bif A then some (false,(IntKind.wrap .i64 (o+(1:Int))),p)else(loopN (eI n a u w) n ((0:Int),(IntKind.wrap .i64 (o+(1:Int))),p)).bind fun q=>(match q with | .inl (B,b,c)=>some (B,b,c) | .inr (E,G,d,f)=>(loopN (eH n a u t) n ((0:Int),d,f)).bind fun q=>(match q with | .inl (C,g,j)=>some (C,g,j) | .inr (H,I,l,m)=>some (true,l,m)))
theorem zH{n:Nat}{b:eT}(a:nU b):nU (jT n b):=by
 intro K a9 b0 b1 L b2 a1 a2 r h; unfold jT at h; refine bF Try.func169 rfl rfl<|gco 19 rfl<|oJn h [(18,49)] [] (fun G=>(.n,[(49,Bo G)],[])) (fun _ h=> ?_) (fun G h=> ?_)
 refine goo 3 rfl<|oIf 20 h rfl (fun q2 h=> ?_) (fun q2 h=> ?_)
 exact geo; refine goo 7 rfl<|oIf 27 h rfl (fun q3 h=> ?_) (fun q3 h=> ?_)
 exact geo; refine goo 8 rfl<|xLn rfl<|xC0 h (wI ·) rfl (fun a0 h=> ?_)
 refine goo 3 rfl<|oIf 40 h rfl (fun q5 h=> ?_) (fun q5 h=> ?_)
 exact geo; refine goo 4 rfl<|oIf 44 h rfl (fun q6 h=> ?_) (fun q6 h=> ?_)
 exact geo; exact geo; refine cIf h rfl (fun q7 h=> ?_) (fun q7 h=> ?_)
 exact gec; refine gco 4 rfl<|oJn h [(50,63)] [] (fun H=>(.n,[(63,Bo H)],[])) (fun _ h=> ?_) (fun H h=> ?_)
 refine goo 5 rfl<|xLn rfl<|xGt rfl<|wBi (.bool (!((decide (K=(9:Int))) == (decide ((0:Int)<(L.length:Int)))))) rfl rfl rfl rfl rfl<|xMv rfl<|oIf 58 h rfl (fun q9 h=> ?_) (fun q9 h=> ?_)
 exact geo; exact goo 2 rfl<|xLn rfl<|geo
 refine cIf h rfl (fun U h=> ?_) (fun U h=> ?_)
 exact gec; refine gco 6 rfl<|xLn rfl<|goc 2 rfl<|cLp h [(6,6),(8,8),(67,77)] [(8,8),(1000000,1000000)] (fun(z,c,d)=>([(67,I64 z)],[(1000000,[.int .i64 c, .sl (d.map bZ)])])) (fun q=>match q with | .inl (I,f,g)=>(.r,[(6,Bo I)],[(1000000,[.int .i64 f, .sl (g.map bZ)])]) | .inr (A,B,j,l)=>(.e 0,[(67,I64 A),(68,Bo B)],[(1000000,[.int .i64 j, .sl (l.map bZ)])])) rfl (fun st _ h=> ?_) (fun q h=> ?_)
 obtain⟨z,c,d⟩:=st; unfold eI at h; refine gcc 5 rfl<|cIf h rfl (fun V h=> ?_) (fun V h=> ?_)
 refine gco 5 rfl<|xIx h aK rfl (fun R h=> ?_)
 refine xLd rfl<|xAz [.int .i64 0, .int .i64 0, .str [], .sl ([].map aE), .sl ([].map aC)] rfl<|goo 8 rfl<|xC1 h (a ·) rfl (fun N h=> ?_)
 refine goc 2 rfl<|cIf h rfl (fun W h=> ?_) (fun W h=> ?_)
 exact gec; exact gec; exact gec; rcases q with⟨I,f,g⟩ | ⟨A,B,j,l⟩; exact en; refine gco 5 rfl<|xLn rfl<|goc 2 rfl<|cLp h [(6,6),(10,10),(81,104)] [(10,10),(1000000,1000000)] (fun(C,m,o)=>([(81,I64 C)],[(1000000,[.int .i64 m, .sl (o.map bZ)])])) (fun q=>match q with | .inl (J,p,s)=>(.r,[(6,Bo J)],[(1000000,[.int .i64 p, .sl (s.map bZ)])]) | .inr (D,E,t,u)=>(.e 2,[(81,I64 D),(82,Bo E)],[(1000000,[.int .i64 t, .sl (u.map bZ)])])) rfl (fun st _ h=> ?_) (fun q h=> ?_)
 obtain⟨C,m,o⟩:=st; unfold eH at h; refine gcc 5 rfl<|cIf h rfl (fun X h=> ?_) (fun X h=> ?_)
 refine gco 5 rfl<|xIx h aG rfl (fun T h=> ?_)
 refine xLd rfl<|xAz [.int .i64 0, .int .i64 0, .str [], .sl ([].map aE), .sl ([].map aC), .int .i64 0, .int .i64 0, .str [], .sl ([].map aE), .sl ([].map aC)] rfl<|goo 11 rfl<|oJn h [(88,103)] [(1000000,1000000)] (fun(y,v,w)=>(.n,[(103,Bo y)],[(1000000,[.int .i64 v, .sl (w.map bZ)])])) (fun _ h=> ?_) (fun q h=> ?_)
 refine goo 5 rfl<|xC1 h (CU ·) rfl (fun Q h=> ?_)
 refine goo 2 rfl<|oIf 95 h rfl (fun Y h=> ?_) (fun Y h=> ?_)
 exact geo; refine goo 5 rfl<|xC1 h (a ·) rfl (fun M h=> ?_)
 exact geo; obtain⟨y,v,w⟩:=q; refine cIf h rfl (fun Z h=> ?_) (fun Z h=> ?_)
 exact gec; exact gec; exact gec; rcases q with⟨J,p,s⟩ | ⟨D,E,t,u⟩; exact en; exact gec
def vK:Nat→(eT)
  | 0=>(fun _ _ _ _ _ _ _ _=>none)
  | n+1=>jT n (vK n)
def bR(n:Nat):eT:=vK n
theorem zO(n:Nat):nU (bR n):=by
  induction n with
  | zero=>exact(fun h=>nomatch h)
  | succ n ih=>exact zH (n:=n) ih
theorem Aw{n:Nat}:nU (bR n):=(zO n)
theorem wP(n:Nat):bR (n+1)=jT n (bR n):=rfl
abbrev KD(p:Int→Int→(List UInt8)→(List aB)→(List aA)→Option (Bool)):Prop:= ∀ {a b:Int} {d:List UInt8} {f:List aB} {g:List aA} {r:Bool},p a b d f g=some r→Big Try.prog τ An (.fn 160 [.one (.ag [.int .i64 a, .int .i64 b, .str d, .sl (f.map aE), .sl (g.map aC)])] [] (.one (.c (.bool r))) none [] none)
def nH(n:Nat)(b:Int)(c:Int)(d:List UInt8)(f:List aB)(g:List aA):Option (Bool):=
  (bR n b c d f g (1:Int) (0:Int) ([]:List (List UInt8))).bind fun a=>some a.1
theorem Gm{n:Nat}:KD (nH n):=by
 intro b c d f g r h; unfold nH at h; refine bF Try.func160 rfl rfl<|gco 7 rfl<|xAz [.int .i64 0, .sl ([].map bZ)] rfl<|goo 4 rfl<|xC1 h (Aw ·) rfl (fun a h=> ?_)
 exact geo
abbrev MB(p:(List UInt8)→(List (List UInt8))→Int→Int→(List UInt8)→(List aB)→(List aA)→Option (Bool)):Prop:= ∀ {a:List UInt8} {b:List (List UInt8)} {d f:Int} {g:List UInt8} {j:List aB} {l:List aA} {r:Bool},p a b d f g j l=some r→Big Try.prog τ An (.fn 147 [.one (.ag [.str a, .sl (b.map bZ), .int .i64 d, .int .i64 f, .str g, .sl (j.map aE), .sl (l.map aC)])] [] (.one (.c (.bool r))) none [] none)
def qE(n:Nat)(c:List (List UInt8)):(Int)→Option ((Int)⊕((Bool)⊕(Int×Bool)))
  | a=>bif decide (a<(c.length:Int))then(ix c a).bind fun b=>((pC n b).bind fun d=>bif !d then some true else some (decide (b=([95]:List UInt8)))).bind fun f=>bif f then some (.inr (.inl false))else some (.inl (IntKind.wrap .i64 (a+(1:Int))))else some (.inr (.inr (a,false)))
def rQ(n:Nat)(f:List UInt8)(c:List (List UInt8))(g:Int)(j:Int)(l:List UInt8)(m:List aB)(o:List aA):Option (Bool):=
  (loopN (qE n c) n (0:Int)).bind fun q=>(match q with | .inl p=>some p | .inr (s,t)=>((gL n f).bind fun a=>bif a then bif decide ((c.length:Int)≤(4:Int))then(nH n g j l m o).bind fun b=>some b else some false else some false).bind fun d=>some d)
theorem Hf{n:Nat}:MB (rQ n):=by
 intro w y z A B C D r h; unfold rQ at h; refine bF Try.func147 rfl rfl<|gco 10 rfl<|xLn rfl<|goc 2 rfl<|cLp h [(2,2),(4,4),(8,19)] [] (fun d=>([(8,I64 d)],[])) (fun q=>match q with | .inl c=>(.r,[(2,Bo c)],[]) | .inr (f,g)=>(.e 0,[(8,I64 f),(9,Bo g)],[])) rfl (fun d _ h=> ?_) (fun q h=> ?_)
 unfold qE at h; refine gcc 5 rfl<|cIf h rfl (fun u h=> ?_) (fun u h=> ?_)
 refine gco 5 rfl<|xIx h mL rfl (fun t h=> ?_)
 refine goo 5 rfl<|oJn h [(12,18)] [] (fun a=>(.n,[(18,Bo a)],[])) (fun _ h=> ?_) (fun a h=> ?_)
 refine xMv rfl<|xC0 h (AB ·) rfl (fun s h=> ?_)
 refine goo 2 rfl<|oIf 15 h rfl (fun v h=> ?_) (fun v h=> ?_)
 exact geo; exact geo; refine cIf h rfl (fun m h=> ?_) (fun m h=> ?_)
 exact gec; exact gec; exact gec; rcases q with c | ⟨f,g⟩; exact en; refine cRs<|oJn h [(2,2),(20,33)] [] (fun b=>(.n,[(2,Bo b)],[])) (fun _ h=> ?_) (fun b h=> ?_)
 refine goo 2 rfl<|xC0 h (oY ·) rfl (fun j h=> ?_)
 refine xMv rfl<|oIf 23 h rfl (fun o h=> ?_) (fun o h=> ?_)
 refine goo 2 rfl<|xLn rfl<|goo 3 rfl<|oIf 29 h rfl (fun p h=> ?_) (fun p h=> ?_)
 refine goo 2 rfl<|xC0 h (Gm ·) rfl (fun l h=> ?_)
 exact geo; exact geo; exact geo; exact gec
abbrev HB(p:(List aD)→Option (Bool)):Prop:= ∀ {a:List aD} {r:Bool},p a=some r→Big Try.prog τ An (.fn 121 [.one (.ag [.sl (a.map aH)])] [] (.one (.c (.bool r))) none [] none)
def mG(n:Nat)(c:List aD):(Int)→Option ((Int)⊕((Bool)⊕(Int×Bool)))
  | b=>bif decide (b<(c.length:Int))then(ix c b).bind fun a=>(rQ n a.f0 a.f1 a.f2 a.f3 a.f4 a.f5 a.f6).bind fun d=>bif !d then some (.inr (.inl false))else some (.inl (IntKind.wrap .i64 (b+(1:Int))))else some (.inr (.inr (b,false)))
def mZ(n:Nat)(a:List aD):Option (Bool):=
  (loopN (mG n a) n (0:Int)).bind fun q=>(match q with | .inl b=>some b | .inr (c,d)=>some (decide ((a.length:Int)≤(12:Int))))
theorem DV{n:Nat}:HB (mZ n):=by
 intro m r h; unfold mZ at h; refine bF Try.func121 rfl rfl<|gco 10 rfl<|xLn rfl<|goc 2 rfl<|cLp h [(2,2),(4,4),(8,15)] [(4,4)] (fun b=>([(8,I64 b)],[])) (fun q=>match q with | .inl a=>(.r,[(2,Bo a)],[]) | .inr (c,d)=>(.e 0,[(8,I64 c),(9,Bo d)],[])) rfl (fun b _ h=> ?_) (fun q h=> ?_)
 unfold mG at h; refine gcc 5 rfl<|cIf h rfl (fun j h=> ?_) (fun j h=> ?_)
 refine gco 5 rfl<|xIx h bC rfl (fun g h=> ?_)
 refine xLd rfl<|xAz [.str [], .sl ([].map bZ), .int .i64 0, .int .i64 0, .str [], .sl ([].map aE), .sl ([].map aC)] rfl<|goo 5 rfl<|xC0 h (Hf ·) rfl (fun f h=> ?_)
 refine goc 2 rfl<|cIf h rfl (fun l h=> ?_) (fun l h=> ?_)
 exact gec; exact gec; exact gec; rcases q with a | ⟨c,d⟩; exact en; exact gco 4 rfl<|xLn rfl<|geo
abbrev Ht(p:(List (List UInt8))→(List (List UInt8))→Option ((List (List UInt8)))):Prop:= ∀ {a b:List (List UInt8)} {r:(List (List UInt8))},p a b=some r→Big Try.prog τ An (.fn 161 [.one (.c (.sl (a.map bZ))), .one (.c (.sl (b.map bZ)))] [] (.one (.c (.sl (r.map bZ)))) none [] none)
def kC(n:Nat)(d:List (List UInt8)):((List (List UInt8))×Int)→Option (((List (List UInt8))×Int)⊕(((List (List UInt8))×Int×Bool)))
  | (a,b)=>bif decide (b<(d.length:Int))then(((ix d b).bind fun c=>(cB n a c).bind fun g=>bif !g then(sX 16 a ([c]:List (List UInt8))).bind fun f=>some f else some a:Option (((List (List UInt8)))))).bind fun j=>some (.inl (j,(IntKind.wrap .i64 (b+(1:Int)))))else some (.inr (a,b,false))
def lY(n:Nat)(a:List (List UInt8))(b:List (List UInt8)):Option ((List (List UInt8))):=
  (loopN (kC n b) n (a,(0:Int))).bind fun(c,f,d)=>some c
theorem wL{n:Nat}:Ht (lY n):=by
 intro t u r h; unfold lY at h; refine bF Try.func161 rfl rfl<|cRs<|wAe (Li bZ []) rfl rfl rfl rfl<|goo 5 rfl<|xLn rfl<|goc 2 rfl<|cLp h [(0,0),(6,6),(9,21)] [] (fun(b,g)=>([(0,Li bZ b),(9,I64 g)],[])) (fun(c,j,a)=>(.e 0,[(0,Li bZ c),(9,I64 j),(10,Bo a)],[])) rfl (fun st _ h=> ?_) (fun q h=> ?_)
 obtain⟨b,g⟩:=st; unfold kC at h; refine gcc 5 rfl<|cIf h rfl (fun s h=> ?_) (fun s h=> ?_)
 refine gcc 2 rfl<|cJn h [(0,0),(6,6),(11,20)] [] (fun d=>(.n,[(0,Li bZ d)],[])) (fun _ h=> ?_) (fun d h=> ?_)
 refine gco 3 rfl<|xIx h mL rfl (fun l h=> ?_)
 refine goo 7 rfl<|xC0 h (gA ·) rfl (fun p h=> ?_)
 refine goc 2 rfl<|cIf h rfl (fun m h=> ?_) (fun m h=> ?_)
 refine gco 3 rfl<|yQ (L:=([l]:List (List UInt8))) (f:=bZ) rfl rfl rfl rfl rfl rfl rfl<|wAp (f:=bZ) h rfl rfl rfl rfl rfl rfl rfl rfl rfl (fun _=>rfl) rfl (fun o h=> ?_)
 exact geo; exact gec; exact gec; exact gec; obtain⟨c,j,a⟩:=q; exact gec
abbrev nJ:Type:=Int→Int→(List UInt8)→(List aB)→(List aA)→Option ((List (List UInt8)))
abbrev sS(p:nJ):Prop:= ∀ {a b:Int} {d:List UInt8} {f:List aB} {g:List aA} {r:(List (List UInt8))},p a b d f g=some r→Big Try.prog τ An (.fn 162 [.one (.ag [.int .i64 a, .int .i64 b, .str d, .sl (f.map aE), .sl (g.map aC)])] [] (.one (.c (.sl (r.map bZ)))) none [] none)
def lR(n:Nat)(b:nJ)(f:List aB):((List (List UInt8))×Int)→Option (((List (List UInt8))×Int)⊕(((List (List UInt8))×Int×Bool)))
  | (j,c)=>bif decide (c<(f.length:Int))then(ix f c).bind fun a=>(b a.f0 a.f1 a.f2 a.f3 a.f4).bind fun d=>(sX 16 j d).bind fun g=>some (.inl (g,(IntKind.wrap .i64 (c+(1:Int)))))else some (.inr (j,c,false))
def pR(n:Nat)(a:nJ)(b:Int)(m:Int)(c:List UInt8)(f:List aB)(o:List aA):Option ((List (List UInt8))):=
  (bif decide (b=(3:Int))then some (!decide (c=([95]:List UInt8)))else some false).bind fun d=>bif d then some ([c]:List (List UInt8))else bif decide (b=(3:Int))then some ([]:List (List UInt8))else(loopN (lR n a f) n (([]:List (List UInt8)),(0:Int))).bind fun(g,j,l)=>some g
theorem EY{n:Nat}{a:nJ}(b:sS a):sS (pR n a):=by
 intro z A o B C r h; unfold pR at h; refine bF Try.func162 rfl rfl<|gco 3 rfl<|wAe (Li bZ []) rfl rfl rfl rfl<|goo 4 rfl<|oJn h [(6,13)] [] (fun c=>(.n,[(13,Bo c)],[])) (fun _ h=> ?_) (fun c h=> ?_)
 refine goo 4 rfl<|oIf 9 h rfl (fun v h=> ?_) (fun v h=> ?_)
 exact geo; exact geo; refine cIf h rfl (fun w h=> ?_) (fun w h=> ?_)
 exact gco 4 rfl<|yQ (L:=([o]:List (List UInt8))) (f:=bZ) rfl rfl rfl rfl rfl rfl rfl<|geo
 refine gcc 8 rfl<|cIf h rfl (fun y h=> ?_) (fun y h=> ?_)
 exact cRs<|wAe (Li bZ []) rfl rfl rfl rfl<|geo
 refine gco 3 rfl<|wAe (Li bZ []) rfl rfl rfl rfl<|goo 6 rfl<|xLn rfl<|goc 2 rfl<|cLp h [(3,3),(5,5),(23,31)] [(5,5)] (fun(l,d)=>([(3,Li bZ l),(23,I64 d)],[])) (fun(m,g,j)=>(.e 0,[(3,Li bZ m),(23,I64 g),(24,Bo j)],[])) rfl (fun st _ h=> ?_) (fun q h=> ?_)
 obtain⟨l,d⟩:=st; unfold lR at h; refine gcc 5 rfl<|cIf h rfl (fun t h=> ?_) (fun t h=> ?_)
 refine gco 5 rfl<|xIx h aK rfl (fun s h=> ?_)
 refine xLd rfl<|xAz [.int .i64 0, .int .i64 0, .str [], .sl ([].map aE), .sl ([].map aC)] rfl<|goo 5 rfl<|xC0 h (b ·) rfl (fun p h=> ?_)
 refine wAp (f:=bZ) h rfl rfl rfl rfl rfl rfl rfl rfl rfl (fun _=>rfl) rfl (fun u h=> ?_)
 exact geo; exact gec; obtain⟨m,g,j⟩:=q; exact gec
def Bc:Nat→(nJ)
  | 0=>(fun _ _ _ _ _=>none)
  | n+1=>pR n (Bc n)
def iO(n:Nat):nJ:=Bc n
theorem Eg(n:Nat):sS (iO n):=by
  induction n with
  | zero=>exact(fun h=>nomatch h)
  | succ n ih=>exact EY (n:=n) ih
theorem Gk{n:Nat}:sS (iO n):=(Eg n)
theorem CJ(n:Nat):iO (n+1)=pR n (iO n):=rfl
abbrev kM:Type:=Int→Int→(List UInt8)→(List aB)→(List aA)→Option ((List (List UInt8)))
abbrev sT(p:kM):Prop:= ∀ {a b:Int} {d:List UInt8} {f:List aB} {g:List aA} {r:(List (List UInt8))},p a b d f g=some r→Big Try.prog τ An (.fn 149 [.one (.ag [.int .i64 a, .int .i64 b, .str d, .sl (f.map aE), .sl (g.map aC)])] [] (.one (.c (.sl (r.map bZ)))) none [] none)
def iM(n:Nat)(b:kM)(f:List aB):((List (List UInt8))×Int)→Option (((List (List UInt8))×Int)⊕(((List (List UInt8))×Int×Bool)))
  | (g,c)=>bif decide (c<(f.length:Int))then(ix f c).bind fun a=>(b a.f0 a.f1 a.f2 a.f3 a.f4).bind fun j=>(lY n g j).bind fun d=>some (.inl (d,(IntKind.wrap .i64 (c+(1:Int)))))else some (.inr (g,c,false))
def iK(n:Nat)(f:(List (List UInt8)))(c:(List (List UInt8))):((List (List UInt8))×Int)→Option (((List (List UInt8))×Int)⊕(((List (List UInt8))×Int×Bool)))
  | (b,a)=>bif decide (a<(c.length:Int))then(((ix c a).bind fun d=>(cB n f d).bind fun g=>bif !g then(lY n b ([d]:List (List UInt8))).bind fun j=>some j else some b:Option (((List (List UInt8)))))).bind fun l=>some (.inl (l,(IntKind.wrap .i64 (a+(1:Int)))))else some (.inr (b,a,false))
def iL(n:Nat)(c:kM)(j:List aA):((List (List UInt8))×Int)→Option (((List (List UInt8))×Int)⊕(((List (List UInt8))×Int×Bool)))
  | (d,b)=>bif decide (b<(j.length:Int))then(ix j b).bind fun a=>(iO n a.f0 a.f1 a.f2 a.f3 a.f4).bind fun f=>(c a.f5 a.f6 a.f7 a.f8 a.f9).bind fun g=>(loopN (iK n f g) n (d,(0:Int))).bind fun(l,m,o)=>some (.inl (l,(IntKind.wrap .i64 (b+(1:Int)))))else some (.inr (d,b,false))
def pS(n:Nat)(a:kM)(c:Int)(s:Int)(d:List UInt8)(f:List aB)(g:List aA):Option ((List (List UInt8))):=
  bif decide (c=(3:Int))then some ([d]:List (List UInt8))else(loopN (iM n a f) n (([]:List (List UInt8)),(0:Int))).bind fun(j,o,p)=>(loopN (iL n a g) n (j,(0:Int))).bind fun(b,l,m)=>some b
theorem EZ{n:Nat}{b:kM}(a:sT b):sT (pS n b):=by
 intro V W C X Y r h; unfold pS at h; refine bF Try.func149 rfl rfl<|gco 3 rfl<|wAe (Li bZ []) rfl rfl rfl rfl<|goc 8 rfl<|cIf h rfl (fun T h=> ?_) (fun T h=> ?_)
 exact gco 4 rfl<|yQ (L:=([C]:List (List UInt8))) (f:=bZ) rfl rfl rfl rfl rfl rfl rfl<|geo
 refine gco 3 rfl<|wAe (Li bZ []) rfl rfl rfl rfl<|goo 6 rfl<|xLn rfl<|goc 2 rfl<|cLp h [(3,3),(5,5),(20,28)] [(5,5)] (fun(A,o)=>([(3,Li bZ A),(20,I64 o)],[])) (fun(B,p,s)=>(.e 0,[(3,Li bZ B),(20,I64 p),(21,Bo s)],[])) rfl (fun st _ h=> ?_) (fun q h=> ?_)
 obtain⟨A,o⟩:=st; unfold iM at h; refine gcc 5 rfl<|cIf h rfl (fun U h=> ?_) (fun U h=> ?_)
 refine gco 5 rfl<|xIx h aK rfl (fun R h=> ?_)
 refine xLd rfl<|xAz [.int .i64 0, .int .i64 0, .str [], .sl ([].map aE), .sl ([].map aC)] rfl<|goo 5 rfl<|xC0 h (a ·) rfl (fun Q h=> ?_)
 refine xC0 h (wL ·) rfl (fun D h=> ?_)
 exact geo; exact gec; obtain⟨B,p,s⟩:=q; refine gco 5 rfl<|xLn rfl<|goc 2 rfl<|cLp h [(3,3),(7,8),(10,10),(32,56)] [(7,7)] (fun(t,c)=>([(3,Li bZ t),(32,I64 c)],[])) (fun(u,d,g)=>(.e 2,[(3,Li bZ u),(32,I64 d),(33,Bo g)],[])) rfl (fun st _ h=> ?_) (fun q h=> ?_)
 obtain⟨t,c⟩:=st; unfold iL at h; refine gcc 5 rfl<|cIf h rfl (fun K h=> ?_) (fun K h=> ?_)
 refine gco 5 rfl<|xIx h aG rfl (fun J h=> ?_)
 refine xLd rfl<|xAz [.int .i64 0, .int .i64 0, .str [], .sl ([].map aE), .sl ([].map aC), .int .i64 0, .int .i64 0, .str [], .sl ([].map aE), .sl ([].map aC)] rfl<|goo 6 rfl<|xC0 h (Gk ·) rfl (fun E h=> ?_)
 refine goo 6 rfl<|xC0 h (a ·) rfl (fun G h=> ?_)
 refine xLn rfl<|goc 2 rfl<|cLp h [(3,3),(10,10),(43,55)] [] (fun(v,j)=>([(3,Li bZ v),(43,I64 j)],[])) (fun(w,l,m)=>(.e 4,[(3,Li bZ w),(43,I64 l),(44,Bo m)],[])) rfl (fun st _ h=> ?_) (fun q h=> ?_)
 obtain⟨v,j⟩:=st; unfold iK at h; refine gcc 5 rfl<|cIf h rfl (fun M h=> ?_) (fun M h=> ?_)
 refine gcc 2 rfl<|cJn h [(3,3),(10,10),(45,54)] [] (fun y=>(.n,[(3,Li bZ y)],[])) (fun _ h=> ?_) (fun y h=> ?_)
 refine gco 3 rfl<|xIx h mL rfl (fun z h=> ?_)
 refine goo 7 rfl<|xC0 h (gA ·) rfl (fun H h=> ?_)
 refine goc 2 rfl<|cIf h rfl (fun N h=> ?_) (fun N h=> ?_)
 refine gco 3 rfl<|yQ (L:=([z]:List (List UInt8))) (f:=bZ) rfl rfl rfl rfl rfl rfl rfl<|xC0 h (wL ·) rfl (fun I h=> ?_)
 exact geo; exact gec; exact gec; exact gec; obtain⟨w,l,m⟩:=q; exact gec; exact gec; obtain⟨u,d,g⟩:=q; exact gec
def Be:Nat→(kM)
  | 0=>(fun _ _ _ _ _=>none)
  | n+1=>pS n (Be n)
def dN(n:Nat):kM:=Be n
theorem Eh(n:Nat):sT (dN n):=by
  induction n with
  | zero=>exact(fun h=>nomatch h)
  | succ n ih=>exact EZ (n:=n) ih
theorem Gl{n:Nat}:sT (dN n):=(Eh n)
theorem CK(n:Nat):dN (n+1)=pS n (dN n):=rfl
abbrev Hs(p:Int→Int→(List UInt8)→(List aB)→(List aA)→(List aD)→Bool→Option ((List aD)×Bool)):Prop:= ∀ {c d:Int} {f:List UInt8} {g:List aB} {j:List aA} {a:List aD} {b:Bool} {r:(List aD)×Bool},p c d f g j a b=some r→Big Try.prog τ An (.fn 151 [.one (.ag [.int .i64 c, .int .i64 d, .str f, .sl (g.map aE), .sl (j.map aC)]), .one (.ptr 1000000 0), .one (.ptr 1000001 0)] [[.sl (a.map aH)],[.bool b]] (.tup []) none [[.sl (r.1.map aH)],[.bool r.2]] none)
def oN(n:Nat)(l:Int)(m:Int)(g:List UInt8)(j:List aB)(o:List aA)(b:List aD)(f:Bool):Option ((List aD)×Bool):=
  (kH n b g).bind fun c=>(bif f then bif decide ((0:Int)≤c)then(ix b c).bind fun d=>some (decide ((d.f1.length:Int)=(j.length:Int)))else some false else some false).bind fun a=>some (b,a)
theorem Er{n:Nat}:Hs (oN n):=by
 intro l m o p s d f r h; unfold oN at h; refine bF Try.func151 rfl rfl<|gco 9 rfl<|xC0 h (rI ·) rfl (fun c h=> ?_)
 refine goo 3 rfl<|oJn h [(9,26)] [(1000001,1000001)] (fun a=>(.n,[],[(1000001,[.bool a])])) (fun _ h=> ?_) (fun a h=> ?_)
 refine goo 2 rfl<|oIf 10 h rfl (fun g h=> ?_) (fun g h=> ?_)
 refine goo 4 rfl<|oIf 14 h rfl (fun j h=> ?_) (fun j h=> ?_)
 refine goo 3 rfl<|xIx h bC rfl (fun b h=> ?_)
 exact goo 2 rfl<|xLn rfl<|goo 2 rfl<|xLn rfl<|geo
 exact geo; exact geo; exact en
abbrev eF:Type:=Int→Int→(List UInt8)→(List aB)→(List aA)→(List aD)→Bool→Option ((List aD)×Bool)
abbrev qJ(p:eF):Prop:= ∀ {c d:Int} {f:List UInt8} {g:List aB} {j:List aA} {a:List aD} {b:Bool} {r:(List aD)×Bool},p c d f g j a b=some r→Big Try.prog τ An (.fn 150 [.one (.ag [.int .i64 c, .int .i64 d, .str f, .sl (g.map aE), .sl (j.map aC)]), .one (.fn 151 [(1000000,0),(1000001,0)])] [[.sl (a.map aH)],[.bool b]] (.tup []) none [[.sl (r.1.map aH)],[.bool r.2]] none)
def iZ(n:Nat)(b:eF)(j:List aB):(Int×(List aD)×Bool)→Option ((Int×(List aD)×Bool)⊕((Int×Bool×(List aD)×Bool)))
  | (f,c,d)=>bif decide (f<(j.length:Int))then(ix j f).bind fun a=>(b a.f0 a.f1 a.f2 a.f3 a.f4 c d).bind fun g=>some (.inl ((IntKind.wrap .i64 (f+(1:Int))),g.1,g.2))else some (.inr (f,false,c,d))
def iY(n:Nat)(d:eF)(j:List aA):(Int×(List aD)×Bool)→Option ((Int×(List aD)×Bool)⊕((Int×Bool×(List aD)×Bool)))
  | (f,b,c)=>bif decide (f<(j.length:Int))then(ix j f).bind fun a=>(d a.f5 a.f6 a.f7 a.f8 a.f9 b c).bind fun g=>some (.inl ((IntKind.wrap .i64 (f+(1:Int))),g.1,g.2))else some (.inr (f,false,b,c))
def iX(n:Nat)(d:eF)(j:List aB):(Int×(List aD)×Bool)→Option ((Int×(List aD)×Bool)⊕((Int×Bool×(List aD)×Bool)))
  | (f,b,c)=>bif decide (f<(j.length:Int))then(ix j f).bind fun a=>(d a.f0 a.f1 a.f2 a.f3 a.f4 b c).bind fun g=>some (.inl ((IntKind.wrap .i64 (f+(1:Int))),g.1,g.2))else some (.inr (f,false,b,c))
def iW(n:Nat)(d:eF)(j:List aA):(Int×(List aD)×Bool)→Option ((Int×(List aD)×Bool)⊕((Int×Bool×(List aD)×Bool)))
  | (f,b,c)=>bif decide (f<(j.length:Int))then(ix j f).bind fun a=>(d a.f5 a.f6 a.f7 a.f8 a.f9 b c).bind fun g=>some (.inl ((IntKind.wrap .i64 (f+(1:Int))),g.1,g.2))else some (.inr (f,false,b,c))
def mQ(n:Nat)(a:eF)(v:Int)(w:Int)(y:List UInt8)(o:List aB)(p:List aA)(t:List aD)(u:Bool):Option ((List aD)×Bool):=
  bif decide (v=(8:Int))then(oN n v w y o p t u).bind fun s=>(loopN (iZ n a o) n ((0:Int),s.1,s.2)).bind fun(G,H,l,m)=>(loopN (iY n a p) n ((0:Int),l,m)).bind fun(B,D,b,f)=>some (b,f)else(loopN (iX n a o) n ((0:Int),t,u)).bind fun(z,A,c,g)=>(loopN (iW n a p) n ((0:Int),c,g)).bind fun(C,E,d,j)=>some (d,j)
theorem CA{n:Nat}{b:eF}(a:qJ b):qJ (mQ n b):=by
 intro a6 a7 a8 a9 b0 a3 a4 r h; unfold mQ at h; refine bF Try.func150 rfl rfl<|gcc 11 rfl<|cIf h rfl (fun q1 h=> ?_) (fun q1 h=> ?_)
 refine gco 3 rfl<|xCk h (Er ·) rfl (fun a2 h=> ?_)
 refine goo 6 rfl<|xLn rfl<|goc 2 rfl<|cLp h [(5,5),(17,24)] [(5,5),(1000000,1000001)] (fun(K,v,y)=>([(17,I64 K)],[(1000000,[.sl (v.map aH)]),(1000001,[.bool y])])) (fun(L,M,w,z)=>(.e 0,[(17,I64 L),(18,Bo M)],[(1000000,[.sl (w.map aH)]),(1000001,[.bool z])])) rfl (fun st _ h=> ?_) (fun q h=> ?_)
 obtain⟨K,v,y⟩:=st; unfold iZ at h; refine gcc 5 rfl<|cIf h rfl (fun Y h=> ?_) (fun Y h=> ?_)
 refine gco 5 rfl<|xIx h aK rfl (fun U h=> ?_)
 refine xLd rfl<|xAz [.int .i64 0, .int .i64 0, .str [], .sl ([].map aE), .sl ([].map aC)] rfl<|goo 5 rfl<|xCk h (a ·) rfl (fun N h=> ?_)
 exact geo; exact gec; obtain⟨L,M,w,z⟩:=q; refine gco 4 rfl<|xLn rfl<|goc 2 rfl<|cLp h [(7,7),(28,36)] [(7,7),(1000000,1000001)] (fun(D,c,m)=>([(28,I64 D)],[(1000000,[.sl (c.map aH)]),(1000001,[.bool m])])) (fun(E,I,d,o)=>(.e 2,[(28,I64 E),(29,Bo I)],[(1000000,[.sl (d.map aH)]),(1000001,[.bool o])])) rfl (fun st _ h=> ?_) (fun q h=> ?_)
 obtain⟨D,c,m⟩:=st; unfold iY at h; refine gcc 5 rfl<|cIf h rfl (fun Z h=> ?_) (fun Z h=> ?_)
 refine gco 5 rfl<|xIx h aG rfl (fun W h=> ?_)
 refine xLd rfl<|xAz [.int .i64 0, .int .i64 0, .str [], .sl ([].map aE), .sl ([].map aC), .int .i64 0, .int .i64 0, .str [], .sl ([].map aE), .sl ([].map aC)] rfl<|goo 6 rfl<|xCk h (a ·) rfl (fun R h=> ?_)
 exact geo; exact gec; obtain⟨E,I,d,o⟩:=q; exact en; refine gco 6 rfl<|xLn rfl<|goc 2 rfl<|cLp h [(5,5),(17,24)] [(5,5),(1000000,1000001)] (fun(A,f,p)=>([(17,I64 A)],[(1000000,[.sl (f.map aH)]),(1000001,[.bool p])])) (fun(B,C,g,s)=>(.e 0,[(17,I64 B),(18,Bo C)],[(1000000,[.sl (g.map aH)]),(1000001,[.bool s])])) rfl (fun st _ h=> ?_) (fun q h=> ?_)
 obtain⟨A,f,p⟩:=st; unfold iX at h; refine gcc 5 rfl<|cIf h rfl (fun a0 h=> ?_) (fun a0 h=> ?_)
 refine gco 5 rfl<|xIx h aK rfl (fun V h=> ?_)
 refine xLd rfl<|xAz [.int .i64 0, .int .i64 0, .str [], .sl ([].map aE), .sl ([].map aC)] rfl<|goo 5 rfl<|xCk h (a ·) rfl (fun Q h=> ?_)
 exact geo; exact gec; obtain⟨B,C,g,s⟩:=q; refine gco 4 rfl<|xLn rfl<|goc 2 rfl<|cLp h [(7,7),(28,36)] [(7,7),(1000000,1000001)] (fun(G,j,t)=>([(28,I64 G)],[(1000000,[.sl (j.map aH)]),(1000001,[.bool t])])) (fun(H,J,l,u)=>(.e 2,[(28,I64 H),(29,Bo J)],[(1000000,[.sl (l.map aH)]),(1000001,[.bool u])])) rfl (fun st _ h=> ?_) (fun q h=> ?_)
 obtain⟨G,j,t⟩:=st; unfold iW at h; refine gcc 5 rfl<|cIf h rfl (fun a1 h=> ?_) (fun a1 h=> ?_)
 refine gco 5 rfl<|xIx h aG rfl (fun X h=> ?_)
 refine xLd rfl<|xAz [.int .i64 0, .int .i64 0, .str [], .sl ([].map aE), .sl ([].map aC), .int .i64 0, .int .i64 0, .str [], .sl ([].map aE), .sl ([].map aC)] rfl<|goo 6 rfl<|xCk h (a ·) rfl (fun T h=> ?_)
 exact geo; exact gec; obtain⟨H,J,l,u⟩:=q; exact en
def xW:Nat→(eF)
  | 0=>(fun _ _ _ _ _ _ _=>none)
  | n+1=>mQ n (xW n)
def bU(n:Nat):eF:=xW n
theorem CM(n:Nat):qJ (bU n):=by
  induction n with
  | zero=>exact(fun h=>nomatch h)
  | succ n ih=>exact CA (n:=n) ih
theorem DU{n:Nat}:qJ (bU n):=(CM n)
theorem zM(n:Nat):bU (n+1)=mQ n (bU n):=rfl
abbrev MC(p:(List aD)→(List UInt8)→(List (List UInt8))→Int→Int→(List UInt8)→(List aB)→(List aA)→Option (Bool)):Prop:= ∀ {a:List aD} {b:List UInt8} {d:List (List UInt8)} {f g:Int} {j:List UInt8} {l:List aB} {m:List aA} {r:Bool},p a b d f g j l m=some r→Big Try.prog τ An (.fn 122 [.one (.ag [.sl (a.map aH)]), .one (.ag [.str b, .sl (d.map bZ), .int .i64 f, .int .i64 g, .str j, .sl (l.map aE), .sl (m.map aC)])] [] (.one (.c (.bool r))) none [] none)
def qG(n:Nat)(b:List (List UInt8)):(Int)→Option ((Int)⊕((Bool)⊕(Int×Bool)))
  | a=>bif decide (a<(b.length:Int))then(ix b a).bind fun d=>(eV n b d).bind fun c=>bif !decide (c=a)then some (.inr (.inl false))else some (.inl (IntKind.wrap .i64 (a+(1:Int))))else some (.inr (.inr (a,false)))
def qF(n:Nat)(f:List (List UInt8))(b:(List (List UInt8))):(Int)→Option ((Int)⊕((Bool)⊕(Int×Bool)))
  | a=>bif decide (a<(b.length:Int))then(ix b a).bind fun d=>(cB n f d).bind fun c=>bif !c then some (.inr (.inl false))else some (.inl (IntKind.wrap .i64 (a+(1:Int))))else some (.inr (.inr (a,false)))
def rR(n:Nat)(o:List aD)(w:List UInt8)(b:List (List UInt8))(c:Int)(d:Int)(f:List UInt8)(g:List aB)(j:List aA):Option (Bool):=
  (loopN (qG n b) n (0:Int)).bind fun q=>(match q with | .inl p=>some p | .inr (u,v)=>(dN n c d f g j).bind fun l=>(loopN (qF n b l) n (0:Int)).bind fun q=>(match q with | .inl m=>some m | .inr (s,t)=>(bU n c d f g j o true).bind fun a=>some a.2))
theorem Hg{n:Nat}:MC (rR n):=by
 intro A B C D E G H I r h; unfold rR at h; refine bF Try.func122 rfl rfl<|gco 11 rfl<|xLn rfl<|goc 2 rfl<|cLp h [(4,6),(13,24)] [] (fun d=>([(13,I64 d)],[])) (fun q=>match q with | .inl l=>(.r,[(4,Bo l)],[]) | .inr (f,g)=>(.e 0,[(13,I64 f),(14,Bo g)],[])) rfl (fun d _ h=> ?_) (fun q h=> ?_)
 unfold qG at h; refine gcc 5 rfl<|cIf h rfl (fun y h=> ?_) (fun y h=> ?_)
 refine gco 6 rfl<|xIx h mL rfl (fun w h=> ?_)
 refine goo 9 rfl<|xC0 h (rY ·) rfl (fun u h=> ?_)
 refine goc 3 rfl<|cIf h rfl (fun z h=> ?_) (fun z h=> ?_)
 exact gec; exact gec; exact gec; rcases q with l | ⟨f,g⟩; exact en; refine gco 5 rfl<|xC0 h (Gl ·) rfl (fun v h=> ?_)
 refine xLn rfl<|goc 2 rfl<|cLp h [(4,4),(8,8),(29,38)] [] (fun a=>([(29,I64 a)],[])) (fun q=>match q with | .inl j=>(.r,[(4,Bo j)],[]) | .inr (b,c)=>(.e 2,[(29,I64 b),(30,Bo c)],[])) rfl (fun a _ h=> ?_) (fun q h=> ?_)
 unfold qF at h; refine gcc 5 rfl<|cIf h rfl (fun s h=> ?_) (fun s h=> ?_)
 refine gco 5 rfl<|xIx h mL rfl (fun p h=> ?_)
 refine goo 8 rfl<|xC0 h (gA ·) rfl (fun m h=> ?_)
 refine goc 2 rfl<|cIf h rfl (fun t h=> ?_) (fun t h=> ?_)
 exact gec; exact gec; exact gec; rcases q with j | ⟨b,c⟩; exact en; refine cRs<|xAc rfl<|goo 6 rfl<|wFn rfl rfl rfl<|xCk h (DU ·) rfl (fun o h=> ?_)
 exact geo
abbrev HC(p:(List aD)→Option (Bool)):Prop:= ∀ {a:List aD} {r:Bool},p a=some r→Big Try.prog τ An (.fn 80 [.one (.ag [.sl (a.map aH)])] [] (.one (.c (.bool r))) none [] none)
def mH(n:Nat)(c:List aD):(Int)→Option ((Int)⊕((Bool)⊕(Int×Bool)))
  | b=>bif decide (b<(c.length:Int))then(ix c b).bind fun a=>((kH n c a.f0).bind fun d=>bif !decide (d=b)then some true else(rR n c a.f0 a.f1 a.f2 a.f3 a.f4 a.f5 a.f6).bind fun f=>some (!f)).bind fun g=>bif g then some (.inr (.inl false))else some (.inl (IntKind.wrap .i64 (b+(1:Int))))else some (.inr (.inr (b,false)))
def nA(n:Nat)(a:List aD):Option (Bool):=
  (mZ n a).bind fun b=>bif !b then some false else(loopN (mH n a) n (0:Int)).bind fun q=>(match q with | .inl c=>some c | .inr (d,f)=>some true)
theorem DW{n:Nat}:HC (nA n):=by
 intro u r h; unfold nA at h; refine bF Try.func80 rfl rfl<|gco 9 rfl<|xC0 h (DV ·) rfl (fun p h=> ?_)
 refine goc 2 rfl<|cIf h rfl (fun s h=> ?_) (fun s h=> ?_)
 exact gec; refine gco 6 rfl<|xLn rfl<|goc 2 rfl<|cLp h [(2,4),(11,28)] [(4,4)] (fun a=>([(11,I64 a)],[])) (fun q=>match q with | .inl f=>(.r,[(2,Bo f)],[]) | .inr (b,c)=>(.e 0,[(11,I64 b),(12,Bo c)],[])) rfl (fun a _ h=> ?_) (fun q h=> ?_)
 unfold mH at h; refine gcc 5 rfl<|cIf h rfl (fun t h=> ?_) (fun t h=> ?_)
 refine gco 6 rfl<|xIx h bC rfl (fun o h=> ?_)
 refine xLd rfl<|xAz [.str [], .sl ([].map bZ), .int .i64 0, .int .i64 0, .str [], .sl ([].map aE), .sl ([].map aC)] rfl<|goo 5 rfl<|oJn h [(16,27)] [] (fun d=>(.n,[(27,Bo d)],[])) (fun _ h=> ?_) (fun d h=> ?_)
 refine goo 3 rfl<|xC0 h (rI ·) rfl (fun g h=> ?_)
 refine goo 3 rfl<|oIf 22 h rfl (fun l h=> ?_) (fun l h=> ?_)
 exact geo; refine goo 2 rfl<|xC0 h (Hg ·) rfl (fun j h=> ?_)
 exact geo; refine cIf h rfl (fun m h=> ?_) (fun m h=> ?_)
 exact gec; exact gec; exact gec; rcases q with f | ⟨b,c⟩; exact en; exact gec
end Go.Own
