/- A part of the proof. No conditions. -/
import Derived.Test.YtloebajamceclaaW42A
set_option linter.unusedVariables false
set_option linter.unusedSimpArgs false
set_option linter.unnecessarySimpa false
namespace Go.Own
open Go Go.Proofs
def VX(a:Int):List T:=[.int .u8 a]
theorem RN(a:Int):VX a=[.int .u8 a]:=rfl
def wV(a:List UInt8):List T:=[.str a]
theorem KK(a:List UInt8):wV a=[.str a]:=rfl
def WZ(a:Int):List T:=[.int .i64 a]
theorem Xe(a:Int):WZ a=[.int .i64 a]:=rfl
mutual
inductive aH where
  | mk (f0:Int) (f1:Int) (f2:List UInt8) (f3:List aH) (f4:List aE)
inductive aE where
  | two (p x:aH)
end
def aE.p:aE→aH
  | .two a _=>a
def aE.x:aE→aH
  | .two _ a=>a
def aH.f0:aH→Int
  | .mk a _ _ _ _=>a
def aH.f1:aH→Int
  | .mk _ a _ _ _=>a
def aH.f2:aH→List UInt8
  | .mk _ _ a _ _=>a
def aH.f3:aH→List aH
  | .mk _ _ _ a _=>a
def aH.f4:aH→List aE
  | .mk _ _ _ _ a=>a
def aE.f0(c:aE):Int:=aH.f0 (aE.p c)
def aE.f1(c:aE):Int:=aH.f1 (aE.p c)
def aE.f2(c:aE):List UInt8:=aH.f2 (aE.p c)
def aE.f3(c:aE):List aH:=aH.f3 (aE.p c)
def aE.f4(c:aE):List aE:=aH.f4 (aE.p c)
def aE.f5(c:aE):Int:=aH.f0 (aE.x c)
def aE.f6(c:aE):Int:=aH.f1 (aE.x c)
def aE.f7(c:aE):List UInt8:=aH.f2 (aE.x c)
def aE.f8(c:aE):List aH:=aH.f3 (aE.x c)
def aE.f9(c:aE):List aE:=aH.f4 (aE.x c)
def aE.mk(a0:Int)(a1:Int)(a2:List UInt8)(a3:List aH)(a4:List aE)(a5:Int)(a6:Int)(a7:List UInt8)(a8:List aH)(a9:List aE):aE:= .two (.mk a0 a1 a2 a3 a4) (.mk a5 a6 a7 a8 a9)
mutual
def rS_laws_Expr:aH→List T
  | .mk a0 a1 a2 a3 a4=> [.int .i64 a0, .int .i64 a1, .str a2, .sl (oI a3), .sl (lC a4)]
def oI:List aH→List (List T)
  | []=> []
  | x::r=>rS_laws_Expr x::oI r
def aR:aE→List T
  | .two p x=>rS_laws_Expr p++rS_laws_Expr x
def lC:List aE→List (List T)
  | []=> []
  | x::r=>aR x::lC r
end
theorem tJ: ∀l:List aH,oI l=l.map rS_laws_Expr
  | []=>by simp [oI]
  | x::r=>by simp [oI,tJ r]
theorem rP: ∀l:List aE,lC l=l.map aR
  | []=>by simp [lC]
  | x::r=>by simp [lC,rP r]
theorem EY(a0:Int)(a1:Int)(a2:List UInt8)(a3:List aH)(a4:List aE):rS_laws_Expr (.mk a0 a1 a2 a3 a4)=[.int .i64 a0, .int .i64 a1, .str a2, .sl (a3.map rS_laws_Expr), .sl (a4.map aR)]:=by simp only[rS_laws_Expr,tJ,rP]
theorem cY(a:aH):rS_laws_Expr a=[.int .i64 a.f0, .int .i64 a.f1, .str a.f2, .sl (a.f3.map rS_laws_Expr), .sl (a.f4.map aR)]:=by
  cases a; exact EY _ _ _ _ _
theorem jA(a:aE):aR a=[.int .i64 a.f0, .int .i64 a.f1, .str a.f2, .sl (a.f3.map rS_laws_Expr), .sl (a.f4.map aR), .int .i64 a.f5, .int .i64 a.f6, .str a.f7, .sl (a.f8.map rS_laws_Expr), .sl (a.f9.map aR)]:=by
  cases a with
  | two p x=>
    simp only[aR]; rw[cY p,cY x]; rfl
theorem NL(a0:Int)(a1:Int)(a2:List UInt8)(a3:List aH)(a4:List aE)(a5:Int)(a6:Int)(a7:List UInt8)(a8:List aH)(a9:List aE):aR (.mk a0 a1 a2 a3 a4 a5 a6 a7 a8 a9)=[.int .i64 a0, .int .i64 a1, .str a2, .sl (a3.map rS_laws_Expr), .sl (a4.map aR), .int .i64 a5, .int .i64 a6, .str a7, .sl (a8.map rS_laws_Expr), .sl (a9.map aR)]:=jA _
mutual
inductive aC where
  | mk (f0:Int) (f1:Int) (f2:List UInt8) (f3:List aC) (f4:List aB)
inductive aB where
  | two (p x:aC)
end
def aB.p:aB→aC
  | .two a _=>a
def aB.x:aB→aC
  | .two _ a=>a
def aC.f0:aC→Int
  | .mk a _ _ _ _=>a
def aC.f1:aC→Int
  | .mk _ a _ _ _=>a
def aC.f2:aC→List UInt8
  | .mk _ _ a _ _=>a
def aC.f3:aC→List aC
  | .mk _ _ _ a _=>a
def aC.f4:aC→List aB
  | .mk _ _ _ _ a=>a
def aB.f0(c:aB):Int:=aC.f0 (aB.p c)
def aB.f1(c:aB):Int:=aC.f1 (aB.p c)
def aB.f2(c:aB):List UInt8:=aC.f2 (aB.p c)
def aB.f3(c:aB):List aC:=aC.f3 (aB.p c)
def aB.f4(c:aB):List aB:=aC.f4 (aB.p c)
def aB.f5(c:aB):Int:=aC.f0 (aB.x c)
def aB.f6(c:aB):Int:=aC.f1 (aB.x c)
def aB.f7(c:aB):List UInt8:=aC.f2 (aB.x c)
def aB.f8(c:aB):List aC:=aC.f3 (aB.x c)
def aB.f9(c:aB):List aB:=aC.f4 (aB.x c)
def aB.mk(a0:Int)(a1:Int)(a2:List UInt8)(a3:List aC)(a4:List aB)(a5:Int)(a6:Int)(a7:List UInt8)(a8:List aC)(a9:List aB):aB:= .two (.mk a0 a1 a2 a3 a4) (.mk a5 a6 a7 a8 a9)
mutual
def aL:aC→List T
  | .mk a0 a1 a2 a3 a4=> [.int .i64 a0, .int .i64 a1, .str a2, .sl (oK a3), .sl (lD a4)]
def oK:List aC→List (List T)
  | []=> []
  | x::r=>aL x::oK r
def aF:aB→List T
  | .two p x=>aL p++aL x
def lD:List aB→List (List T)
  | []=> []
  | x::r=>aF x::lD r
end
theorem tK: ∀l:List aC,oK l=l.map aL
  | []=>by simp [oK]
  | x::r=>by simp [oK,tK r]
theorem rQ: ∀l:List aB,lD l=l.map aF
  | []=>by simp [lD]
  | x::r=>by simp [lD,rQ r]
theorem fX(a0:Int)(a1:Int)(a2:List UInt8)(a3:List aC)(a4:List aB):aL (.mk a0 a1 a2 a3 a4)=[.int .i64 a0, .int .i64 a1, .str a2, .sl (a3.map aL), .sl (a4.map aF)]:=by simp only[aL,tK,rQ]
theorem aO(a:aC):aL a=[.int .i64 a.f0, .int .i64 a.f1, .str a.f2, .sl (a.f3.map aL), .sl (a.f4.map aF)]:=by
  cases a; exact fX _ _ _ _ _
theorem aJ(a:aB):aF a=[.int .i64 a.f0, .int .i64 a.f1, .str a.f2, .sl (a.f3.map aL), .sl (a.f4.map aF), .int .i64 a.f5, .int .i64 a.f6, .str a.f7, .sl (a.f8.map aL), .sl (a.f9.map aF)]:=by
  cases a with
  | two p x=>
    simp only[aF]; rw[aO p,aO x]; rfl
theorem bU(a0:Int)(a1:Int)(a2:List UInt8)(a3:List aC)(a4:List aB)(a5:Int)(a6:Int)(a7:List UInt8)(a8:List aC)(a9:List aB):aF (.mk a0 a1 a2 a3 a4 a5 a6 a7 a8 a9)=[.int .i64 a0, .int .i64 a1, .str a2, .sl (a3.map aL), .sl (a4.map aF), .int .i64 a5, .int .i64 a6, .str a7, .sl (a8.map aL), .sl (a9.map aF)]:=aJ _
inductive aA where
  | mk (f0:Int) (f1:Int) (f2:List UInt8) (f3:List aA)
def aA.f0:aA→Int
  | .mk a _ _ _=>a
def aA.f1:aA→Int
  | .mk _ a _ _=>a
def aA.f2:aA→List UInt8
  | .mk _ _ a _=>a
def aA.f3:aA→List aA
  | .mk _ _ _ a=>a
mutual
def aD:aA→List T
  | .mk a0 a1 a2 a3=> [.int .i64 a0, .int .i64 a1, .str a2, .sl (oJ a3)]
def oJ:List aA→List (List T)
  | []=> []
  | x::r=>aD x::oJ r
end
theorem pR: ∀l:List aA,oJ l=l.map aD
  | []=>by simp [oJ]
  | x::r=>by simp [oJ,pR r]
theorem aN(a:aA):aD a=[.int .i64 a.f0, .int .i64 a.f1, .str a.f2, .sl (a.f3.map aD)]:=by
  cases a; simp [aD,pR,aA.f0,aA.f1,aA.f2,aA.f3]
theorem cZ(a0:Int)(a1:Int)(a2:List UInt8)(a3:List aA):aD (.mk a0 a1 a2 a3)=[.int .i64 a0, .int .i64 a1, .str a2, .sl (a3.map aD)]:=by simp [aD,pR]
inductive aM where
  | mk (f0:Int) (f1:Int) (f2:List UInt8) (f3:List aM)
def aM.f0:aM→Int
  | .mk a _ _ _=>a
def aM.f1:aM→Int
  | .mk _ a _ _=>a
def aM.f2:aM→List UInt8
  | .mk _ _ a _=>a
def aM.f3:aM→List aM
  | .mk _ _ _ a=>a
mutual
def bG:aM→List T
  | .mk a0 a1 a2 a3=> [.int .i64 a0, .int .i64 a1, .str a2, .sl (oH a3)]
def oH:List aM→List (List T)
  | []=> []
  | x::r=>bG x::oH r
end
theorem pQ: ∀l:List aM,oH l=l.map bG
  | []=>by simp [oH]
  | x::r=>by simp [oH,pQ r]
theorem lB(a:aM):bG a=[.int .i64 a.f0, .int .i64 a.f1, .str a.f2, .sl (a.f3.map bG)]:=by
  cases a; simp [bG,pQ,aM.f0,aM.f1,aM.f2,aM.f3]
theorem QY(a0:Int)(a1:Int)(a2:List UInt8)(a3:List aM):bG (.mk a0 a1 a2 a3)=[.int .i64 a0, .int .i64 a1, .str a2, .sl (a3.map bG)]:=by simp [bG,pQ]
structure S_laws_Bind where
  f0:List UInt8
  f1:Int
  f2:Int
  f3:List UInt8
  f4:List aM
def rS_laws_Bind(a:S_laws_Bind):List T:=[.str a.f0, .int .i64 a.f1, .int .i64 a.f2, .str a.f3, .sl (a.f4.map bG)]
theorem vU(a:S_laws_Bind):rS_laws_Bind a=[.str a.f0, .int .i64 a.f1, .int .i64 a.f2, .str a.f3, .sl (a.f4.map bG)]:=rfl
structure aG where
  f0:List UInt8
  f1:Int
  f2:Int
  f3:List UInt8
  f4:List aA
def aP(a:aG):List T:=[.str a.f0, .int .i64 a.f1, .int .i64 a.f2, .str a.f3, .sl (a.f4.map aD)]
theorem lE(a:aG):aP a=[.str a.f0, .int .i64 a.f1, .int .i64 a.f2, .str a.f3, .sl (a.f4.map aD)]:=rfl
def iO(a:List aA):List T:=[.sl (a.map aD)]
theorem Bm(a:List aA):iO a=[.sl (a.map aD)]:=rfl
theorem Rb:tT Try.prog 16 true 5 [(3,53),(4,54)]:=by
  refine tT.of (S:=37) Try.func16 rfl rfl (by decide) (by decide) (fun cs k w Bx R a hl hsz hdf h0 h1 hbs hq=> ?_)
  refine Lx rfl hsz hdf h0 h1 hbs hq (fun a w b Bx hst hq=> ?_)
  refine KO IN [(4,54)] rfl rfl rfl (fun _=>rfl) (tT.slice _ 53) (by rw[hl]; decide) rfl rfl rfl hst hq (fun k a w hst hq=> ?_)
  refine KO IN [] rfl rfl rfl (fun _=>rfl) (tT.slice _ 54) (by rw[hl]; decide) rfl rfl rfl hst hq (fun k a w hst hq=> ?_)
  exact Oc rfl rfl hst hq
theorem Ra:tT Try.prog 18 true 4 [(3,17)]:=by
  refine tT.of (S:=31) Try.func18 rfl rfl (by decide) (by decide) (fun cs k w Bx R a hl hsz hdf h0 h1 hbs hq=> ?_)
  refine Lx rfl hsz hdf h0 h1 hbs hq (fun a w b Bx hst hq=> ?_)
  refine KO IN [] rfl rfl rfl (fun _=>rfl) (tT.slice _ 17) (by rw[hl]; decide) rfl rfl rfl hst hq (fun k a w hst hq=> ?_)
  exact Oc rfl rfl hst hq
abbrev cA:Type:=Int→Int→(List UInt8)→(List aH)→(List aE)→Int→Int→(List UInt8)→(List aH)→(List aE)→Int→Option (Int)
abbrev gA(p:cA):Prop:= ∀ {a b:Int} {d:List UInt8} {f:List aH} {g:List aE} {j l:Int} {m:List UInt8} {o:List aH} {s:List aE} {t:Int} {r:Int},p a b d f g j l m o s t=some r→Big Try.prog τ An (.fn 85 [.one (.ag [.int .i64 a, .int .i64 b, .str d, .sl (f.map rS_laws_Expr), .sl (g.map aR), .int .i64 j, .int .i64 l, .str m, .sl (o.map rS_laws_Expr), .sl (s.map aR)]), .one (.c (.int .i64 t))] [] (.one (.c (.int .i64 r))) none [] none)
abbrev cE:Type:=(List aE)→Int→Option (Int)
abbrev fD(p:cE):Prop:= ∀ {a:List aE} {b:Int} {r:Int},p a b=some r→Big Try.prog τ An (.fn 40 [.one (.c (.sl (a.map aR))), .one (.c (.int .i64 b))] [] (.one (.c (.int .i64 r))) none [] none)
abbrev cW:Type:=(List aH)→Int→Option (Int)
abbrev iV(p:cW):Prop:= ∀ {a:List aH} {b:Int} {r:Int},p a b=some r→Big Try.prog τ An (.fn 39 [.one (.c (.sl (a.map rS_laws_Expr))), .one (.c (.int .i64 b))] [] (.one (.c (.int .i64 r))) none [] none)
abbrev dG:Type:=Int→Int→(List UInt8)→(List aH)→(List aE)→Int→Option (Int)
abbrev jJ(p:dG):Prop:= ∀ {a b:Int} {d:List UInt8} {f:List aH} {g:List aE} {j:Int} {r:Int},p a b d f g j=some r→Big Try.prog τ An (.fn 7 [.one (.ag [.int .i64 a, .int .i64 b, .str d, .sl (f.map rS_laws_Expr), .sl (g.map aR)]), .one (.c (.int .i64 j))] [] (.one (.c (.int .i64 r))) none [] none)
def kY(n:Nat)(a:dG)(f:cW)(b:cE)(d:cA)(j:Int)(l:Int)(m:List UInt8)(o:List aH)(p:List aE)(s:Int)(t:Int)(u:List UInt8)(v:List aH)(w:List aE)(y:Int):Option (Int):=
  (a j l m o p y).bind fun g=>bif decide (g<(0:Int))then some ((-1):Int)else(a s t u v w g).bind fun c=>bif decide (c<(0:Int))then some ((-1):Int)else some c
theorem Ah{n:Nat}{f:dG}(c:jJ f){d:cW}(l:iV d){a:cE}(g:fD a){b:cA}(j:gA b):gA (kY n f d a b):=by
 intro t u v w y z A B C D E r h; unfold kY at h; refine bF Try.func85 rfl rfl<|gco 10 rfl<|xC0 h (c ·) rfl (fun o h=> ?_)
 refine goc 8 rfl<|cIf h rfl (fun p h=> ?_) (fun p h=> ?_)
 exact gec; refine gco 6 rfl<|xC0 h (c ·) rfl (fun m h=> ?_)
 refine goc 8 rfl<|cIf h rfl (fun s h=> ?_) (fun s h=> ?_)
 exact gec; exact gec
def jM(n:Nat)(b:cA)(f:List aE):(Int×Int)→Option ((Int×Int)⊕((Int)⊕(Int×Int×Bool)))
  | (g,c)=>bif decide (c<(f.length:Int))then(ix f c).bind fun a=>(b a.f0 a.f1 a.f2 a.f3 a.f4 a.f5 a.f6 a.f7 a.f8 a.f9 g).bind fun d=>bif decide (d<(0:Int))then some (.inr (.inl ((-1):Int)))else some (.inl (d,(IntKind.wrap .i64 (c+(1:Int)))))else some (.inr (.inr (g,c,false)))
def jW(n:Nat)(f:dG)(d:cW)(b:cE)(a:cA)(c:List aE)(g:Int):Option (Int):=
  bif decide ((IntKind.wrap .i64 (g - (c.length:Int)))<(0:Int))then some ((-1):Int)else(loopN (jM n a c) n ((IntKind.wrap .i64 (g - (c.length:Int))),(0:Int))).bind fun q=>(match q with | .inl l=>some l | .inr (j,o,m)=>some j)
theorem yT{n:Nat}{d:dG}(m:jJ d){c:cW}(j:iV c){a:cE}(g:fD a){b:cA}(f:gA b):fD (jW n d c a b):=by
 intro B C r h; unfold jW at h; refine bF Try.func40 rfl rfl<|gco 8 rfl<|xLn rfl<|goc 9 rfl<|cIf h rfl (fun z h=> ?_) (fun z h=> ?_)
 exact gec; refine gcc 6 rfl<|cLp h [(1,1),(4,5),(12,25)] [] (fun(o,t)=>([(1,I64 o),(5,I64 t)],[])) (fun q=>match q with | .inl s=>(.r,[(4,I64 s)],[]) | .inr (p,u,l)=>(.e 0,[(1,I64 p),(5,I64 u),(15,Bo l)],[])) rfl (fun st _ h=> ?_) (fun q h=> ?_)
 obtain⟨o,t⟩:=st; unfold jM at h; refine gco 5 rfl<|xLn rfl<|goc 2 rfl<|cIf h rfl (fun A h=> ?_) (fun A h=> ?_)
 refine gco 7 rfl<|xIx h jA rfl (fun y h=> ?_)
 refine goo 2 rfl<|xC0 h (f ·) rfl (fun v h=> ?_)
 refine goc 7 rfl<|cIf h rfl (fun w h=> ?_) (fun w h=> ?_)
 exact gec; exact gec; exact gec; rcases q with s | ⟨p,u,l⟩; exact en; exact gec
def lY(n:Nat)(b:dG)(f:List aH):(Int×Int)→Option ((Int×Int)⊕((Int)⊕(Int×Int×Bool)))
  | (g,c)=>bif decide (c<(f.length:Int))then(ix f c).bind fun a=>(b a.f0 a.f1 a.f2 a.f3 a.f4 g).bind fun d=>bif decide (d<(0:Int))then some (.inr (.inl ((-1):Int)))else some (.inl (d,(IntKind.wrap .i64 (c+(1:Int)))))else some (.inr (.inr (g,c,false)))
def mL(n:Nat)(a:dG)(f:cW)(b:cE)(d:cA)(c:List aH)(g:Int):Option (Int):=
  bif decide ((IntKind.wrap .i64 (g - (c.length:Int)))<(0:Int))then some ((-1):Int)else(loopN (lY n a c) n ((IntKind.wrap .i64 (g - (c.length:Int))),(0:Int))).bind fun q=>(match q with | .inl l=>some l | .inr (j,o,m)=>some j)
theorem Bj{n:Nat}{d:dG}(f:jJ d){c:cW}(l:iV c){a:cE}(g:fD a){b:cA}(j:gA b):iV (mL n d c a b):=by
 intro B C r h; unfold mL at h; refine bF Try.func39 rfl rfl<|gco 8 rfl<|xLn rfl<|goc 9 rfl<|cIf h rfl (fun z h=> ?_) (fun z h=> ?_)
 exact gec; refine gcc 6 rfl<|cLp h [(1,1),(4,5),(12,25)] [] (fun(o,t)=>([(1,I64 o),(5,I64 t)],[])) (fun q=>match q with | .inl s=>(.r,[(4,I64 s)],[]) | .inr (p,u,m)=>(.e 0,[(1,I64 p),(5,I64 u),(15,Bo m)],[])) rfl (fun st _ h=> ?_) (fun q h=> ?_)
 obtain⟨o,t⟩:=st; unfold lY at h; refine gco 5 rfl<|xLn rfl<|goc 2 rfl<|cIf h rfl (fun A h=> ?_) (fun A h=> ?_)
 refine gco 7 rfl<|xIx h cY rfl (fun y h=> ?_)
 refine goo 2 rfl<|xC0 h (f ·) rfl (fun v h=> ?_)
 refine goc 7 rfl<|cIf h rfl (fun w h=> ?_) (fun w h=> ?_)
 exact gec; exact gec; exact gec; rcases q with s | ⟨p,u,m⟩; exact en; exact gec
def oE(n:Nat)(g:dG)(b:cW)(a:cE)(f:cA)(p:Int)(s:Int)(j:List UInt8)(m:List aH)(o:List aE)(l:Int):Option (Int):=
  bif decide ((IntKind.wrap .i64 (l - (j.length:Int)))<(0:Int))then some ((-1):Int)else(b m (IntKind.wrap .i64 (l - (j.length:Int)))).bind fun c=>bif decide (c<(0:Int))then some ((-1):Int)else(a o c).bind fun d=>bif decide (d<(0:Int))then some ((-1):Int)else some d
theorem Cm{n:Nat}{d:dG}(l:jJ d){c:cW}(g:iV c){a:cE}(f:fD a){b:cA}(j:gA b):jJ (oE n d c a b):=by
 intro u v w y z A r h; unfold oE at h; refine bF Try.func7 rfl rfl<|gco 10 rfl<|xLs rfl<|goc 9 rfl<|cIf h rfl (fun p h=> ?_) (fun p h=> ?_)
 exact gec; refine gco 6 rfl<|xC0 h (g ·) rfl (fun m h=> ?_)
 refine goc 8 rfl<|cIf h rfl (fun s h=> ?_) (fun s h=> ?_)
 exact gec; refine gco 6 rfl<|xC0 h (f ·) rfl (fun o h=> ?_)
 refine goc 8 rfl<|cIf h rfl (fun t h=> ?_) (fun t h=> ?_)
 exact gec; exact gec
def aZ:Nat→(dG)×(cW)×(cE)×(cA)
  | 0=>((fun _ _ _ _ _ _=>none),(fun _ _=>none),(fun _ _=>none),(fun _ _ _ _ _ _ _ _ _ _ _=>none))
  | n+1=>(oE n ((aZ n).1) ((aZ n).2.1) ((aZ n).2.2.1) ((aZ n).2.2.2),mL n ((aZ n).1) ((aZ n).2.1) ((aZ n).2.2.1) ((aZ n).2.2.2),jW n ((aZ n).1) ((aZ n).2.1) ((aZ n).2.2.1) ((aZ n).2.2.2),kY n ((aZ n).1) ((aZ n).2.1) ((aZ n).2.2.1) ((aZ n).2.2.2))
def dC(n:Nat):dG:=(aZ n).1
def fO(n:Nat):cW:=(aZ n).2.1
def eB(n:Nat):cE:=(aZ n).2.2.1
def eK(n:Nat):cA:=(aZ n).2.2.2
theorem nG(n:Nat):jJ (dC n)∧iV (fO n)∧fD (eB n)∧gA (eK n):=by
  induction n with
  | zero=>exact⟨(fun h=>nomatch h),(fun h=>nomatch h),(fun h=>nomatch h),(fun h=>nomatch h)⟩
  | succ n ih=>exact⟨Cm (n:=n) (ih.1) (ih.2.1) (ih.2.2.1) (ih.2.2.2),Bj (n:=n) (ih.1) (ih.2.1) (ih.2.2.1) (ih.2.2.2),yT (n:=n) (ih.1) (ih.2.1) (ih.2.2.1) (ih.2.2.2),Ah (n:=n) (ih.1) (ih.2.1) (ih.2.2.1) (ih.2.2.2)⟩
theorem Ej{n:Nat}:jJ (dC n):=(nG n).1
theorem OK{n:Nat}:iV (fO n):=(nG n).2.1
theorem MZ{n:Nat}:fD (eB n):=(nG n).2.2.1
theorem NN{n:Nat}:gA (eK n):=(nG n).2.2.2
theorem At(n:Nat):dC (n+1)=oE n (dC n) (fO n) (eB n) (eK n):=rfl
theorem zD(n:Nat):fO (n+1)=mL n (dC n) (fO n) (eB n) (eK n):=rfl
theorem wM(n:Nat):eB (n+1)=jW n (dC n) (fO n) (eB n) (eK n):=rfl
theorem xK(n:Nat):eK (n+1)=kY n (dC n) (fO n) (eB n) (eK n):=rfl
abbrev bZ:Type:=Int→Int→(List UInt8)→(List aH)→(List aE)→Int→Int→(List UInt8)→(List aH)→(List aE)→Option (Int×Int×(List UInt8)×(List aC)×(List aB)×Int×Int×(List UInt8)×(List aC)×(List aB))
abbrev fZ(p:bZ):Prop:= ∀ {a b:Int} {c:List UInt8} {d:List aH} {f:List aE} {g j:Int} {l:List UInt8} {m:List aH} {o:List aE} {r:Int×Int×(List UInt8)×(List aC)×(List aB)×Int×Int×(List UInt8)×(List aC)×(List aB)},p a b c d f g j l m o=some r→Big Try.prog τ An (.fn 92 [.one (.ag [.int .i64 a, .int .i64 b, .str c, .sl (d.map rS_laws_Expr), .sl (f.map aR), .int .i64 g, .int .i64 j, .str l, .sl (m.map rS_laws_Expr), .sl (o.map aR)])] [] (.one (.ag [.int .i64 r.1, .int .i64 r.2.1, .str r.2.2.1, .sl (r.2.2.2.1.map aL), .sl (r.2.2.2.2.1.map aF), .int .i64 r.2.2.2.2.2.1, .int .i64 r.2.2.2.2.2.2.1, .str r.2.2.2.2.2.2.2.1, .sl (r.2.2.2.2.2.2.2.2.1.map aL), .sl (r.2.2.2.2.2.2.2.2.2.map aF)])) none [] none)
abbrev cD:Type:=(List aE)→Option ((List aB))
abbrev fC(p:cD):Prop:= ∀ {a:List aE} {r:(List aB)},p a=some r→Big Try.prog τ An (.fn 47 [.one (.c (.sl (a.map aR)))] [] (.one (.c (.sl (r.map aF)))) none [] none)
abbrev cV:Type:=(List aH)→Option ((List aC))
abbrev iU(p:cV):Prop:= ∀ {a:List aH} {r:(List aC)},p a=some r→Big Try.prog τ An (.fn 46 [.one (.c (.sl (a.map rS_laws_Expr)))] [] (.one (.c (.sl (r.map aL)))) none [] none)
abbrev dF:Type:=Int→Int→(List UInt8)→(List aH)→(List aE)→Option (Int×Int×(List UInt8)×(List aC)×(List aB))
abbrev jI(p:dF):Prop:= ∀ {a b:Int} {c:List UInt8} {d:List aH} {f:List aE} {r:Int×Int×(List UInt8)×(List aC)×(List aB)},p a b c d f=some r→Big Try.prog τ An (.fn 10 [.one (.ag [.int .i64 a, .int .i64 b, .str c, .sl (d.map rS_laws_Expr), .sl (f.map aR)])] [] (.one (.ag [.int .i64 r.1, .int .i64 r.2.1, .str r.2.2.1, .sl (r.2.2.2.1.map aL), .sl (r.2.2.2.2.map aF)])) none [] none)
def kX(n:Nat)(a:dF)(g:cV)(d:cD)(f:bZ)(j:Int)(l:Int)(m:List UInt8)(o:List aH)(p:List aE)(s:Int)(t:Int)(u:List UInt8)(v:List aH)(w:List aE):Option (Int×Int×(List UInt8)×(List aC)×(List aB)×Int×Int×(List UInt8)×(List aC)×(List aB)):=
  (a j l m o p).bind fun c=>(a s t u v w).bind fun b=>some (c.1,c.2.1,c.2.2.1,c.2.2.2.1,c.2.2.2.2,b.1,b.2.1,b.2.2.1,b.2.2.2.1,b.2.2.2.2)
theorem Af{n:Nat}{f:dF}(c:jI f){d:cV}(l:iU d){a:cD}(g:fC a){b:bZ}(j:fZ b):fZ (kX n f d a b):=by
 intro p s t u v w y z A B r h; unfold kX at h; refine bF Try.func92 rfl rfl<|gco 3 rfl<|xAz [.int .i64 0, .int .i64 0, .str [], .sl ([].map aL), .sl ([].map aF), .int .i64 0, .int .i64 0, .str [], .sl ([].map aL), .sl ([].map aF)] rfl<|oRs<|xAz [.int .i64 0, .int .i64 0, .str [], .sl ([].map aL), .sl ([].map aF), .int .i64 0, .int .i64 0, .str [], .sl ([].map aL), .sl ([].map aF)] rfl<|goo 5 rfl<|xC0 h (c ·) rfl (fun o h=> ?_)
 refine goo 7 rfl<|xC0 h (c ·) rfl (fun m h=> ?_)
 exact geo
def jL(n:Nat)(c:bZ)(g:List aE):((List aB)×Int)→Option (((List aB)×Int)⊕(((List aB)×Int×Bool)))
  | (f,d)=>bif decide (d<(g.length:Int))then(ix g d).bind fun b=>(c b.f0 b.f1 b.f2 b.f3 b.f4 b.f5 b.f6 b.f7 b.f8 b.f9).bind fun a=>(ix f d).bind fun l=>(some (f.set (Int.toNat d) (aB.mk a.1 a.2.1 a.2.2.1 a.2.2.2.1 a.2.2.2.2.1 a.2.2.2.2.2.1 a.2.2.2.2.2.2.1 a.2.2.2.2.2.2.2.1 a.2.2.2.2.2.2.2.2.1 a.2.2.2.2.2.2.2.2.2))).bind fun j=>some (.inl (j,(IntKind.wrap .i64 (d+(1:Int)))))else some (.inr (f,d,false))
def jV(n:Nat)(f:dF)(d:cV)(c:cD)(a:bZ)(b:List aE):Option ((List aB)):=
  (ck (decide (0≤(b.length:Int)∧(b.length:Int)≤maxLen∧160*(b.length:Int)≤281474976710656))).bind fun _=>(loopN (jL n a b) n ((List.replicate (Int.toNat (b.length:Int)) (aB.mk (0:Int) (0:Int) ([]:List UInt8) ([]:List aC) ([]:List aB) (0:Int) (0:Int) ([]:List UInt8) ([]:List aC) ([]:List aB))),(0:Int))).bind fun(g,l,j)=>some g
theorem yS{n:Nat}{j:dF}(s:jI j){g:cV}(o:iU g){c:cD}(m:fC c){d:bZ}(l:fZ d):fC (jV n j g c d):=by
 intro E r h; unfold jV at h; refine bF Try.func47 rfl rfl<|cRs<|wAe (Li aF []) rfl rfl rfl rfl<|goo 4 rfl<|xLn rfl<|oCk h (fun y h=> ?_)
 refine wMk (z:=aB.mk (0:Int) (0:Int) ([]:List UInt8) ([]:List aC) ([]:List aB) (0:Int) (0:Int) ([]:List UInt8) ([]:List aC) ([]:List aB)) (f:=aF) y rfl rfl rfl rfl rfl rfl rfl<|goc 7 rfl<|cLp h [(3,4),(8,21)] [] (fun(t,v)=>([(3,Li aF t),(4,I64 v)],[])) (fun(u,w,p)=>(.e 0,[(3,Li aF u),(4,I64 w),(11,Bo p)],[])) rfl (fun st _ h=> ?_) (fun q h=> ?_)
 obtain⟨t,v⟩:=st; unfold jL at h; refine gco 5 rfl<|xLn rfl<|goc 2 rfl<|cIf h rfl (fun D h=> ?_) (fun D h=> ?_)
 refine gco 4 rfl<|wAl rfl rfl rfl rfl<|goo 3 rfl<|xIx h jA rfl (fun B h=> ?_)
 refine xLd rfl<|xC0 h (l ·) rfl (fun b h=> ?_)
 refine wIp (f:=aF) h rfl rfl rfl rfl rfl rfl (fun a=>by rw[aJ]; rfl) rfl (fun A ke21_10 h=> ?_)
 refine Bc (f:=aF) (v':=aB.mk b.1 b.2.1 b.2.2.1 b.2.2.2.1 b.2.2.2.2.1 b.2.2.2.2.2.1 b.2.2.2.2.2.2.1 b.2.2.2.2.2.2.2.1 b.2.2.2.2.2.2.2.2.1 b.2.2.2.2.2.2.2.2.2) h ke21_10 rfl rfl rfl rfl rfl rfl rfl (by rw[aJ]; rfl) (by rw[aJ,bU]; rfl) (fun C h=> ?_)
 exact geo; exact gec; obtain⟨u,w,p⟩:=q; exact gec
def lV(n:Nat)(d:dF)(g:List aH):((List aC)×Int)→Option (((List aC)×Int)⊕(((List aC)×Int×Bool)))
  | (f,c)=>bif decide (c<(g.length:Int))then(ix g c).bind fun b=>(d b.f0 b.f1 b.f2 b.f3 b.f4).bind fun a=>(ix f c).bind fun l=>(some (f.set (Int.toNat c) (aC.mk a.1 a.2.1 a.2.2.1 a.2.2.2.1 a.2.2.2.2))).bind fun j=>some (.inl (j,(IntKind.wrap .i64 (c+(1:Int)))))else some (.inr (f,c,false))
def mJ(n:Nat)(a:dF)(f:cV)(c:cD)(d:bZ)(b:List aH):Option ((List aC)):=
  (ck (decide (0≤(b.length:Int)∧(b.length:Int)≤maxLen∧80*(b.length:Int)≤281474976710656))).bind fun _=>(loopN (lV n a b) n ((List.replicate (Int.toNat (b.length:Int)) (aC.mk (0:Int) (0:Int) ([]:List UInt8) ([]:List aC) ([]:List aB))),(0:Int))).bind fun(g,l,j)=>some g
theorem Bh{n:Nat}{g:dF}(l:jI g){d:cV}(p:iU d){b:cD}(m:fC b){c:bZ}(o:fZ c):iU (mJ n g d b c):=by
 intro E r h; unfold mJ at h; refine bF Try.func46 rfl rfl<|cRs<|wAe (Li aL []) rfl rfl rfl rfl<|goo 4 rfl<|xLn rfl<|oCk h (fun y h=> ?_)
 refine wMk (z:=aC.mk (0:Int) (0:Int) ([]:List UInt8) ([]:List aC) ([]:List aB)) (f:=aL) y rfl rfl rfl rfl rfl rfl rfl<|goc 7 rfl<|cLp h [(3,4),(8,21)] [] (fun(t,v)=>([(3,Li aL t),(4,I64 v)],[])) (fun(u,w,s)=>(.e 0,[(3,Li aL u),(4,I64 w),(11,Bo s)],[])) rfl (fun st _ h=> ?_) (fun q h=> ?_)
 obtain⟨t,v⟩:=st; unfold lV at h; refine gco 5 rfl<|xLn rfl<|goc 2 rfl<|cIf h rfl (fun D h=> ?_) (fun D h=> ?_)
 refine gco 4 rfl<|wAl rfl rfl rfl rfl<|goo 3 rfl<|xIx h cY rfl (fun B h=> ?_)
 refine xLd rfl<|xC0 h (l ·) rfl (fun j h=> ?_)
 refine wIp (f:=aL) h rfl rfl rfl rfl rfl rfl (fun a=>by rw[aO]; rfl) rfl (fun A ke21_10 h=> ?_)
 refine Bc (f:=aL) (v':=aC.mk j.1 j.2.1 j.2.2.1 j.2.2.2.1 j.2.2.2.2) h ke21_10 rfl rfl rfl rfl rfl rfl rfl (by rw[aO]; rfl) (by rw[aO,fX]; rfl) (fun C h=> ?_)
 exact geo; exact gec; obtain⟨u,w,s⟩:=q; exact gec
def oC(n:Nat)(d:dF)(b:cV)(a:cD)(c:bZ)(j:Int)(l:Int)(m:List UInt8)(o:List aH)(p:List aE):Option (Int×Int×(List UInt8)×(List aC)×(List aB)):=
  (b o).bind fun f=>(a p).bind fun g=>some (j,l,m,f,g)
theorem Ck{n:Nat}{d:dF}(l:jI d){c:cV}(g:iU c){a:cD}(f:fC a){b:bZ}(j:fZ b):jI (oC n d c a b):=by
 intro p s t u v r h; unfold oC at h; refine bF Try.func10 rfl rfl<|gco 3 rfl<|xAz [.int .i64 0, .int .i64 0, .str [], .sl ([].map aL), .sl ([].map aF)] rfl<|oRs<|xAz [.int .i64 0, .int .i64 0, .str [], .sl ([].map aL), .sl ([].map aF)] rfl<|goo 26 rfl<|xC0 h (g ·) rfl (fun m h=> ?_)
 refine goo 7 rfl<|xC0 h (f ·) rfl (fun o h=> ?_)
 exact geo
def aY:Nat→(dF)×(cV)×(cD)×(bZ)
  | 0=>((fun _ _ _ _ _=>none),(fun _=>none),(fun _=>none),(fun _ _ _ _ _ _ _ _ _ _=>none))
  | n+1=>(oC n ((aY n).1) ((aY n).2.1) ((aY n).2.2.1) ((aY n).2.2.2),mJ n ((aY n).1) ((aY n).2.1) ((aY n).2.2.1) ((aY n).2.2.2),jV n ((aY n).1) ((aY n).2.1) ((aY n).2.2.1) ((aY n).2.2.2),kX n ((aY n).1) ((aY n).2.1) ((aY n).2.2.1) ((aY n).2.2.2))
def bR(n:Nat):dF:=(aY n).1
def fM(n:Nat):cV:=(aY n).2.1
def eA(n:Nat):cD:=(aY n).2.2.1
def eI(n:Nat):bZ:=(aY n).2.2.2
theorem nF(n:Nat):jI (bR n)∧iU (fM n)∧fC (eA n)∧fZ (eI n):=by
  induction n with
  | zero=>exact⟨(fun h=>nomatch h),(fun h=>nomatch h),(fun h=>nomatch h),(fun h=>nomatch h)⟩
  | succ n ih=>exact⟨Ck (n:=n) (ih.1) (ih.2.1) (ih.2.2.1) (ih.2.2.2),Bh (n:=n) (ih.1) (ih.2.1) (ih.2.2.1) (ih.2.2.2),yS (n:=n) (ih.1) (ih.2.1) (ih.2.2.1) (ih.2.2.2),Af (n:=n) (ih.1) (ih.2.1) (ih.2.2.1) (ih.2.2.2)⟩
theorem oZ{n:Nat}:jI (bR n):=(nF n).1
theorem OI{n:Nat}:iU (fM n):=(nF n).2.1
theorem MY{n:Nat}:fC (eA n):=(nF n).2.2.1
theorem NM{n:Nat}:fZ (eI n):=(nF n).2.2.2
theorem Ar(n:Nat):bR (n+1)=oC n (bR n) (fM n) (eA n) (eI n):=rfl
theorem zB(n:Nat):fM (n+1)=mJ n (bR n) (fM n) (eA n) (eI n):=rfl
theorem wL(n:Nat):eA (n+1)=jV n (bR n) (fM n) (eA n) (eI n):=rfl
theorem xJ(n:Nat):eI (n+1)=kX n (bR n) (fM n) (eA n) (eI n):=rfl
abbrev iT:Type:=(List aA)→(List aA)→Option (Bool)
abbrev mZ(p:iT):Prop:= ∀ {a b:List aA} {r:Bool},p a b=some r→Big Try.prog τ An (.fn 14 [.one (.c (.sl (a.map aD))), .one (.c (.sl (b.map aD)))] [] (.one (.c (.bool r))) none [] none)
abbrev iF:Type:=Int→Int→(List UInt8)→(List aA)→Int→Int→(List UInt8)→(List aA)→Option (Bool)
abbrev oX(p:iF):Prop:= ∀ {a b:Int} {d:List UInt8} {f:List aA} {g j:Int} {l:List UInt8} {m:List aA} {r:Bool},p a b d f g j l m=some r→Big Try.prog τ An (.fn 13 [.one (.ag [.int .i64 a, .int .i64 b, .str d, .sl (f.map aD)]), .one (.ag [.int .i64 g, .int .i64 j, .str l, .sl (m.map aD)])] [] (.one (.c (.bool r))) none [] none)
def mA(n:Nat)(a:iF)(f:List aA)(j:List aA):(Int)→Option ((Int)⊕((Bool)⊕(Int×Bool)))
  | d=>bif decide (d<(f.length:Int))then(ix f d).bind fun b=>(ix j d).bind fun c=>(a b.f0 b.f1 b.f2 b.f3 c.f0 c.f1 c.f2 c.f3).bind fun g=>bif !g then some (.inr (.inl false))else some (.inl (IntKind.wrap .i64 (d+(1:Int))))else some (.inr (.inr (d,false)))
def mM(n:Nat)(a:iF)(b:iT)(c:List aA)(d:List aA):Option (Bool):=
  bif !decide ((c.length:Int)=(d.length:Int))then some false else(loopN (mA n a c d) n (0:Int)).bind fun q=>(match q with | .inl f=>some f | .inr (j,g)=>some true)
theorem Bk{n:Nat}{b:iF}(c:oX b){a:iT}(d:mZ a):mZ (mM n b a):=by
 intro v w r h; unfold mM at h; refine bF Try.func14 rfl rfl<|gco 8 rfl<|xLn rfl<|xMv rfl<|xLn rfl<|goc 2 rfl<|cIf h rfl (fun t h=> ?_) (fun t h=> ?_)
 exact gec; refine gcc 6 rfl<|cLp h [(4,5),(11,26)] [] (fun j=>([(5,I64 j)],[])) (fun q=>match q with | .inl g=>(.r,[(4,Bo g)],[]) | .inr (l,f)=>(.e 0,[(5,I64 l),(14,Bo f)],[])) rfl (fun j _ h=> ?_) (fun q h=> ?_)
 unfold mA at h; refine gco 5 rfl<|xLn rfl<|goc 2 rfl<|cIf h rfl (fun u h=> ?_) (fun u h=> ?_)
 refine gco 7 rfl<|xIx h aN rfl (fun p h=> ?_)
 refine goo 3 rfl<|xIx h aN rfl (fun s h=> ?_)
 refine xLd rfl<|xC0 h (c ·) rfl (fun o h=> ?_)
 refine goc 2 rfl<|cIf h rfl (fun m h=> ?_) (fun m h=> ?_)
 exact gec; exact gec; exact gec; rcases q with g | ⟨l,f⟩; exact en; exact gec
def oF(n:Nat)(b:iF)(a:iT)(d:Int)(f:Int)(g:List UInt8)(j:List aA)(l:Int)(m:Int)(o:List UInt8)(p:List aA):Option (Bool):=
  bif !decide (d=l)then some false else bif !decide (f=m)then some false else bif !decide (g=o)then some false else(a j p).bind fun c=>bif !c then some false else some true
theorem Cn{n:Nat}{b:iF}(d:oX b){a:iT}(c:mZ a):oX (oF n b a):=by
 intro o p s t u v w y r h; unfold oF at h; refine bF Try.func13 rfl rfl<|gcc 15 rfl<|cIf h rfl (fun g h=> ?_) (fun g h=> ?_)
 exact gec; refine gcc 10 rfl<|cIf h rfl (fun j h=> ?_) (fun j h=> ?_)
 exact gec; refine gcc 10 rfl<|cIf h rfl (fun l h=> ?_) (fun l h=> ?_)
 exact gec; refine gco 8 rfl<|xC0 h (c ·) rfl (fun f h=> ?_)
 refine goc 2 rfl<|cIf h rfl (fun m h=> ?_) (fun m h=> ?_)
 exact gec; exact gec
def lJ:Nat→(iF)×(iT)
  | 0=>((fun _ _ _ _ _ _ _ _=>none),(fun _ _=>none))
  | n+1=>(oF n ((lJ n).1) ((lJ n).2),mM n ((lJ n).1) ((lJ n).2))
def dV(n:Nat):iF:=(lJ n).1
def kL(n:Nat):iT:=(lJ n).2
theorem uI(n:Nat):oX (dV n)∧mZ (kL n):=by
  induction n with
  | zero=>exact⟨(fun h=>nomatch h),(fun h=>nomatch h)⟩
  | succ n ih=>exact⟨Cn (n:=n) (ih.1) (ih.2),Bk (n:=n) (ih.1) (ih.2)⟩
theorem pA{n:Nat}:oX (dV n):=(uI n).1
theorem OL{n:Nat}:mZ (kL n):=(uI n).2
theorem Au(n:Nat):dV (n+1)=oF n (dV n) (kL n):=rfl
theorem zE(n:Nat):kL (n+1)=mM n (dV n) (kL n):=rfl
abbrev cB:Type:=Int→Int→(List UInt8)→(List aC)→(List aB)→Int→Int→(List UInt8)→(List aC)→(List aB)→Int→Int→(List UInt8)→(List aC)→(List aB)→Int→Int→(List UInt8)→(List aC)→(List aB)→Option (Bool)
abbrev gB(p:cB):Prop:= ∀ {a b:Int} {d:List UInt8} {f:List aC} {g:List aB} {j l:Int} {m:List UInt8} {o:List aC} {s:List aB} {t u:Int} {v:List UInt8} {w:List aC} {y:List aB} {z A:Int} {B:List UInt8} {C:List aC} {D:List aB} {r:Bool},p a b d f g j l m o s t u v w y z A B C D=some r→Big Try.prog τ An (.fn 94 [.one (.ag [.int .i64 a, .int .i64 b, .str d, .sl (f.map aL), .sl (g.map aF), .int .i64 j, .int .i64 l, .str m, .sl (o.map aL), .sl (s.map aF)]), .one (.ag [.int .i64 t, .int .i64 u, .str v, .sl (w.map aL), .sl (y.map aF), .int .i64 z, .int .i64 A, .str B, .sl (C.map aL), .sl (D.map aF)])] [] (.one (.c (.bool r))) none [] none)
abbrev cG:Type:=(List aB)→(List aB)→Option (Bool)
abbrev fE(p:cG):Prop:= ∀ {a b:List aB} {r:Bool},p a b=some r→Big Try.prog τ An (.fn 52 [.one (.c (.sl (a.map aF))), .one (.c (.sl (b.map aF)))] [] (.one (.c (.bool r))) none [] none)
abbrev cX:Type:=(List aC)→(List aC)→Option (Bool)
abbrev iW(p:cX):Prop:= ∀ {a b:List aC} {r:Bool},p a b=some r→Big Try.prog τ An (.fn 51 [.one (.c (.sl (a.map aL))), .one (.c (.sl (b.map aL)))] [] (.one (.c (.bool r))) none [] none)
abbrev dH:Type:=Int→Int→(List UInt8)→(List aC)→(List aB)→Int→Int→(List UInt8)→(List aC)→(List aB)→Option (Bool)
abbrev jK(p:dH):Prop:= ∀ {a b:Int} {d:List UInt8} {f:List aC} {g:List aB} {j l:Int} {m:List UInt8} {o:List aC} {s:List aB} {r:Bool},p a b d f g j l m o s=some r→Big Try.prog τ An (.fn 15 [.one (.ag [.int .i64 a, .int .i64 b, .str d, .sl (f.map aL), .sl (g.map aF)]), .one (.ag [.int .i64 j, .int .i64 l, .str m, .sl (o.map aL), .sl (s.map aF)])] [] (.one (.c (.bool r))) none [] none)
def kZ(n:Nat)(a:dH)(d:cX)(b:cG)(c:cB)(j:Int)(l:Int)(m:List UInt8)(o:List aC)(p:List aB)(s:Int)(t:Int)(u:List UInt8)(v:List aC)(w:List aB)(y:Int)(z:Int)(A:List UInt8)(B:List aC)(C:List aB)(D:Int)(E:Int)(G:List UInt8)(H:List aC)(I:List aB):Option (Bool):=
  (a j l m o p y z A B C).bind fun g=>bif !g then some false else(a s t u v w D E G H I).bind fun f=>bif !f then some false else some true
theorem Ai{n:Nat}{f:dH}(c:jK f){d:cX}(l:iW d){a:cG}(g:fE a){b:cB}(j:gB b):gB (kZ n f d a b):=by
 intro t u v w y z A B C D E G H I J K L M N Q r h; unfold kZ at h; refine bF Try.func94 rfl rfl<|gco 13 rfl<|xC0 h (c ·) rfl (fun o h=> ?_)
 refine goc 2 rfl<|cIf h rfl (fun p h=> ?_) (fun p h=> ?_)
 exact gec; refine gco 8 rfl<|xC0 h (c ·) rfl (fun m h=> ?_)
 refine goc 2 rfl<|cIf h rfl (fun s h=> ?_) (fun s h=> ?_)
 exact gec; exact gec
def jN(n:Nat)(c:cB)(f:List aB)(j:List aB):(Int)→Option ((Int)⊕((Bool)⊕(Int×Bool)))
  | d=>bif decide (d<(f.length:Int))then(ix f d).bind fun a=>(ix j d).bind fun b=>(c a.f0 a.f1 a.f2 a.f3 a.f4 a.f5 a.f6 a.f7 a.f8 a.f9 b.f0 b.f1 b.f2 b.f3 b.f4 b.f5 b.f6 b.f7 b.f8 b.f9).bind fun g=>bif !g then some (.inr (.inl false))else some (.inl (IntKind.wrap .i64 (d+(1:Int))))else some (.inr (.inr (d,false)))
def jY(n:Nat)(d:dH)(c:cX)(b:cG)(a:cB)(f:List aB)(g:List aB):Option (Bool):=
  bif !decide ((f.length:Int)=(g.length:Int))then some false else(loopN (jN n a f g) n (0:Int)).bind fun q=>(match q with | .inl j=>some j | .inr (m,l)=>some true)
theorem yX{n:Nat}{d:dH}(m:jK d){c:cX}(j:iW c){a:cG}(g:fE a){b:cB}(f:gB b):fE (jY n d c a b):=by
 intro A B r h; unfold jY at h; refine bF Try.func52 rfl rfl<|gco 8 rfl<|xLn rfl<|xMv rfl<|xLn rfl<|goc 2 rfl<|cIf h rfl (fun y h=> ?_) (fun y h=> ?_)
 exact gec; refine gcc 6 rfl<|cLp h [(4,5),(11,26)] [] (fun p=>([(5,I64 p)],[])) (fun q=>match q with | .inl o=>(.r,[(4,Bo o)],[]) | .inr (s,l)=>(.e 0,[(5,I64 s),(14,Bo l)],[])) rfl (fun p _ h=> ?_) (fun q h=> ?_)
 unfold jN at h; refine gco 5 rfl<|xLn rfl<|goc 2 rfl<|cIf h rfl (fun z h=> ?_) (fun z h=> ?_)
 refine gco 7 rfl<|xIx h aJ rfl (fun v h=> ?_)
 refine goo 3 rfl<|xIx h aJ rfl (fun w h=> ?_)
 refine xLd rfl<|xC0 h (f ·) rfl (fun u h=> ?_)
 refine goc 2 rfl<|cIf h rfl (fun t h=> ?_) (fun t h=> ?_)
 exact gec; exact gec; exact gec; rcases q with o | ⟨s,l⟩; exact en; exact gec
def mB(n:Nat)(c:dH)(f:List aC)(j:List aC):(Int)→Option ((Int)⊕((Bool)⊕(Int×Bool)))
  | d=>bif decide (d<(f.length:Int))then(ix f d).bind fun a=>(ix j d).bind fun b=>(c a.f0 a.f1 a.f2 a.f3 a.f4 b.f0 b.f1 b.f2 b.f3 b.f4).bind fun g=>bif !g then some (.inr (.inl false))else some (.inl (IntKind.wrap .i64 (d+(1:Int))))else some (.inr (.inr (d,false)))
def mN(n:Nat)(a:dH)(d:cX)(b:cG)(c:cB)(f:List aC)(g:List aC):Option (Bool):=
  bif !decide ((f.length:Int)=(g.length:Int))then some false else(loopN (mB n a f g) n (0:Int)).bind fun q=>(match q with | .inl j=>some j | .inr (m,l)=>some true)
theorem Bl{n:Nat}{d:dH}(f:jK d){c:cX}(l:iW c){a:cG}(g:fE a){b:cB}(j:gB b):iW (mN n d c a b):=by
 intro A B r h; unfold mN at h; refine bF Try.func51 rfl rfl<|gco 8 rfl<|xLn rfl<|xMv rfl<|xLn rfl<|goc 2 rfl<|cIf h rfl (fun y h=> ?_) (fun y h=> ?_)
 exact gec; refine gcc 6 rfl<|cLp h [(4,5),(11,26)] [] (fun p=>([(5,I64 p)],[])) (fun q=>match q with | .inl o=>(.r,[(4,Bo o)],[]) | .inr (s,m)=>(.e 0,[(5,I64 s),(14,Bo m)],[])) rfl (fun p _ h=> ?_) (fun q h=> ?_)
 unfold mB at h; refine gco 5 rfl<|xLn rfl<|goc 2 rfl<|cIf h rfl (fun z h=> ?_) (fun z h=> ?_)
 refine gco 7 rfl<|xIx h aO rfl (fun v h=> ?_)
 refine goo 3 rfl<|xIx h aO rfl (fun w h=> ?_)
 refine xLd rfl<|xC0 h (f ·) rfl (fun u h=> ?_)
 refine goc 2 rfl<|cIf h rfl (fun t h=> ?_) (fun t h=> ?_)
 exact gec; exact gec; exact gec; rcases q with o | ⟨s,m⟩; exact en; exact gec
def oG(n:Nat)(d:dH)(b:cX)(a:cG)(c:cB)(j:Int)(l:Int)(m:List UInt8)(o:List aC)(p:List aB)(s:Int)(t:Int)(u:List UInt8)(v:List aC)(w:List aB):Option (Bool):=
  bif !decide (j=s)then some false else bif !decide (l=t)then some false else bif !decide (m=u)then some false else(b o v).bind fun f=>bif !f then some false else(a p w).bind fun g=>bif !g then some false else some true
theorem Co{n:Nat}{d:dH}(l:jK d){c:cX}(g:iW c){a:cG}(f:fE a){b:cB}(j:gB b):jK (oG n d c a b):=by
 intro w y z A B C D E G H r h; unfold oG at h; refine bF Try.func15 rfl rfl<|gcc 15 rfl<|cIf h rfl (fun p h=> ?_) (fun p h=> ?_)
 exact gec; refine gcc 10 rfl<|cIf h rfl (fun s h=> ?_) (fun s h=> ?_)
 exact gec; refine gcc 10 rfl<|cIf h rfl (fun t h=> ?_) (fun t h=> ?_)
 exact gec; refine gco 8 rfl<|xC0 h (g ·) rfl (fun m h=> ?_)
 refine goc 2 rfl<|cIf h rfl (fun u h=> ?_) (fun u h=> ?_)
 exact gec; refine gco 8 rfl<|xC0 h (f ·) rfl (fun o h=> ?_)
 refine goc 2 rfl<|cIf h rfl (fun v h=> ?_) (fun v h=> ?_)
 exact gec; exact gec
def bB:Nat→(dH)×(cX)×(cG)×(cB)
  | 0=>((fun _ _ _ _ _ _ _ _ _ _=>none),(fun _ _=>none),(fun _ _=>none),(fun _ _ _ _ _ _ _ _ _ _ _ _ _ _ _ _ _ _ _ _=>none))
  | n+1=>(oG n ((bB n).1) ((bB n).2.1) ((bB n).2.2.1) ((bB n).2.2.2),mN n ((bB n).1) ((bB n).2.1) ((bB n).2.2.1) ((bB n).2.2.2),jY n ((bB n).1) ((bB n).2.1) ((bB n).2.2.1) ((bB n).2.2.2),kZ n ((bB n).1) ((bB n).2.1) ((bB n).2.2.1) ((bB n).2.2.2))
def dD(n:Nat):dH:=(bB n).1
def fP(n:Nat):cX:=(bB n).2.1
def eC(n:Nat):cG:=(bB n).2.2.1
def eM(n:Nat):cB:=(bB n).2.2.2
theorem nH(n:Nat):jK (dD n)∧iW (fP n)∧fE (eC n)∧gB (eM n):=by
  induction n with
  | zero=>exact⟨(fun h=>nomatch h),(fun h=>nomatch h),(fun h=>nomatch h),(fun h=>nomatch h)⟩
  | succ n ih=>exact⟨Co (n:=n) (ih.1) (ih.2.1) (ih.2.2.1) (ih.2.2.2),Bl (n:=n) (ih.1) (ih.2.1) (ih.2.2.1) (ih.2.2.2),yX (n:=n) (ih.1) (ih.2.1) (ih.2.2.1) (ih.2.2.2),Ai (n:=n) (ih.1) (ih.2.1) (ih.2.2.1) (ih.2.2.2)⟩
theorem Em{n:Nat}:jK (dD n):=(nH n).1
theorem OM{n:Nat}:iW (fP n):=(nH n).2.1
theorem Ma{n:Nat}:fE (eC n):=(nH n).2.2.1
theorem NO{n:Nat}:gB (eM n):=(nH n).2.2.2
theorem Av(n:Nat):dD (n+1)=oG n (dD n) (fP n) (eC n) (eM n):=rfl
theorem zF(n:Nat):fP (n+1)=mN n (dD n) (fP n) (eC n) (eM n):=rfl
theorem wP(n:Nat):eC (n+1)=jY n (dD n) (fP n) (eC n) (eM n):=rfl
theorem xL(n:Nat):eM (n+1)=kZ n (dD n) (fP n) (eC n) (eM n):=rfl
abbrev Ex(p:Int→Option ((List UInt8))):Prop:= ∀ {a:Int} {r:(List UInt8)},p a=some r→Big Try.prog τ An (.fn 55 [.one (.c (.int .i64 a))] [] (.one (.c (.str r))) none [] none)
def kQ(n:Nat):(Int×(List UInt8))→Option ((Int×(List UInt8))⊕((Int×(List UInt8)×Bool)))
  | (a,b)=>bif decide ((0:Int)<a)then(JY ([(IntKind.wrap .u8 (IntKind.wrap .i64 ((48:Int)+(Int.tmod a (10:Int)))))]:List Int)).bind fun c=>(ck (decide (c.length+b.length≤9223372036854775807))).bind fun _=>some (.inl ((IntKind.wrap .i64 (Int.tdiv a (10:Int))),(c++b)))else some (.inr (a,b,false))
def cN(n:Nat)(a:Int):Option ((List UInt8)):=
  bif decide (a≤(0:Int))then some ([109,48]:List UInt8)else(loopN (kQ n) n (a,([]:List UInt8))).bind fun(c,b,d)=>(ck (decide (([109]:List UInt8).length+b.length≤9223372036854775807))).bind fun _=>some (([109]:List UInt8)++b)
theorem eG{n:Nat}:Ex (cN n):=by
 intro s r h; unfold cN at h; refine bF Try.func55 rfl rfl<|gcc 10 rfl<|cIf h rfl (fun o h=> ?_) (fun o h=> ?_)
 exact gec; refine gcc 6 rfl<|cLp h [(0,0),(3,3),(6,17)] [] (fun(a,c)=>([(0,I64 a),(3,St' c)],[])) (fun(b,d,g)=>(.e 0,[(0,I64 b),(3,St' d),(7,Bo g)],[])) rfl (fun st _ h=> ?_) (fun q h=> ?_)
 obtain⟨a,c⟩:=st; unfold kQ at h; refine gcc 6 rfl<|cIf h rfl (fun p h=> ?_) (fun p h=> ?_)
 refine gco 5 rfl<|wBi (.int .i64 (Int.tmod a (10:Int))) rfl rfl rfl rfl rfl<|goo 2 rfl<|LW (L:=([(IntKind.wrap .u8 (IntKind.wrap .i64 ((48:Int)+(Int.tmod a (10:Int)))))]:List Int)) (f:=VX) rfl rfl rfl rfl rfl rfl rfl<|wTs h rfl rfl ⟨rfl,rfl⟩ rfl RN rfl (fun m h=> ?_)
 refine xMv rfl<|oCk h (fun j h=> ?_)
 exact wCat j rfl rfl rfl rfl<|goo 4 rfl<|wBi (.int .i64 (IntKind.wrap .i64 (Int.tdiv a (10:Int)))) rfl rfl rfl rfl rfl<|geo
 exact gec; obtain⟨b,d,g⟩:=q; refine gco 3 rfl<|oCk h (fun l h=> ?_)
 exact wCat l rfl rfl rfl rfl<|geo
abbrev hJ:Type:=(List aA)→Int→Option (Int×(List aA))
abbrev nJ(p:hJ):Prop:= ∀ {a:List aA} {b:Int} {r:Int×(List aA)},p a b=some r→Big Try.prog τ An (.fn 17 [.one (.c (.sl (a.map aD))), .one (.c (.int .i64 b))] [] (.one (.c (.int .i64 r.1))) (some (.sl (r.2.map aD))) [] none)
def gF(n:Nat)(b:hJ):((List aA)×Int×Int)→Option (((List aA)×Int×Int)⊕(((List aA)×Int×Int×Bool)))
  | (l,g,a)=>bif decide (a<(l.length:Int))then(ix l a).bind fun j=>(some (l.set (Int.toNat a) (aA.mk g j.f1 j.f2 j.f3))).bind fun o=>(ix o a).bind fun d=>(some (o.set (Int.toNat a) (aA.mk d.f0 (IntKind.wrap .i64 (g+(1:Int))) d.f2 d.f3))).bind fun p=>(cN n (IntKind.wrap .i64 ((IntKind.wrap .i64 (g+(1:Int)))+(1:Int)))).bind fun t=>(ix p a).bind fun f=>(some (p.set (Int.toNat a) (aA.mk f.f0 f.f1 t f.f3))).bind fun s=>(ix s a).bind fun c=>(b c.f3 (IntKind.wrap .i64 ((IntKind.wrap .i64 ((IntKind.wrap .i64 (g+(1:Int)))+(1:Int)))+(1:Int)))).bind fun m=>(some (s.set (Int.toNat a) (aA.mk c.f0 c.f1 c.f2 m.2))).bind fun u=>some (.inl (u,m.1,(IntKind.wrap .i64 (a+(1:Int)))))else some (.inr (l,g,a,false))
def gT(n:Nat)(a:hJ)(b:List aA)(c:Int):Option (Int×(List aA)):=
  (loopN (gF n a) n (b,c,(0:Int))).bind fun(d,f,g,j)=>some (f,d)
theorem yU{n:Nat}{b:hJ}(c:nJ b):nJ (gT n b):=by
 intro E G r h; unfold gT at h; refine bFi Try.func17 rfl rfl<|gcc 9 rfl<|cLp h [(0,1),(5,40)] [] (fun(t,m,p)=>([(0,Li aD t),(1,I64 m),(5,I64 p)],[])) (fun(u,v,w,y)=>(.e 0,[(0,Li aD u),(1,I64 v),(5,I64 w),(9,Bo y)],[])) rfl (fun st _ h=> ?_) (fun q h=> ?_)
 obtain⟨t,m,p⟩:=st; unfold gF at h; refine gco 5 rfl<|xLn rfl<|goc 2 rfl<|cIf h rfl (fun D h=> ?_) (fun D h=> ?_)
 refine gco 5 rfl<|wAl rfl rfl rfl rfl<|goo 2 rfl<|wIp (f:=aD) h rfl rfl rfl rfl rfl rfl (fun a=>by rw[aN]; rfl) rfl (fun l ke15_9 h=> ?_)
 refine xFd rfl<|Bc (f:=aD) (v':=aA.mk m l.f1 l.f2 l.f3) h ke15_9 rfl rfl rfl rfl rfl rfl rfl (by rw[aN]; rfl) (by rw[aN,cZ]; rfl) (fun A h=> ?_)
 refine goo 9 rfl<|wAl rfl rfl rfl rfl<|goo 2 rfl<|wIp (f:=aD) h rfl rfl rfl rfl rfl rfl (fun a=>by rw[aN]; rfl) rfl (fun d ke22_11 h=> ?_)
 refine xFd rfl<|Bc (f:=aD) (v':=aA.mk d.f0 (IntKind.wrap .i64 (m+(1:Int))) d.f2 d.f3) h ke22_11 rfl rfl rfl rfl rfl rfl rfl (by rw[aN]; rfl) (by rw[aN,cZ]; rfl) (fun B h=> ?_)
 refine goo 9 rfl<|wAl rfl rfl rfl rfl<|goo 2 rfl<|xC0 h (eG ·) rfl (fun s h=> ?_)
 refine wIp (f:=aD) h rfl rfl rfl rfl rfl rfl (fun a=>by rw[aN]; rfl) rfl (fun g ke30_14 h=> ?_)
 refine xFd rfl<|Bc (f:=aD) (v':=aA.mk g.f0 g.f1 s g.f3) h ke30_14 rfl rfl rfl rfl rfl rfl rfl (by rw[aN]; rfl) (by rw[aN,cZ]; rfl) (fun z h=> ?_)
 refine goo 8 rfl<|wAl rfl rfl rfl rfl<|xMv rfl<|wIp (f:=aD) h rfl rfl rfl rfl rfl rfl (fun a=>by rw[aN]; rfl) rfl (fun j ke36_16 h=> ?_)
 refine xFd rfl<|wLq (f:=aD) ke36_16 rfl rfl rfl rfl rfl rfl rfl (by rw[aN]) rfl rfl<|xMv rfl<|QQ aD (fun o=>z.set (Int.toNat p) (aA.mk j.f0 j.f1 j.f2 o.2)) h (c ·) rfl (QU ke36_16 (by rw[aN]; rfl)) (fun _=>BF ke36_16 (by rw[aN]; rfl) (by rw[aN,cZ]; rfl)) (fun o C h=> ?_)
 exact geo; exact gec; obtain⟨u,v,w,y⟩:=q; exact gec
def uF:Nat→(hJ)
  | 0=>(fun _ _=>none)
  | n+1=>gT n (uF n)
def cP(n:Nat):hJ:=uF n
theorem zG(n:Nat):nJ (cP n):=by
  induction n with
  | zero=>exact(fun h=>nomatch h)
  | succ n ih=>exact yU (n:=n) ih
theorem sL{n:Nat}:nJ (cP n):=(zG n)
theorem p_laws_markTermS_succ(n:Nat):cP (n+1)=gT n (cP n):=rfl
abbrev hY:Type:=(List aA)→Int→Option (Int)
abbrev nK(p:hY):Prop:= ∀ {a:List aA} {b:Int} {r:Int},p a b=some r→Big Try.prog τ An (.fn 20 [.one (.c (.sl (a.map aD))), .one (.c (.int .i64 b))] [] (.one (.c (.int .i64 r))) none [] none)
def gI(n:Nat)(a:hY)(c:List aA):(Int×Int)→Option ((Int×Int)⊕((Int)⊕(Int×Int×Bool)))
  | (d,b)=>bif decide (b<(c.length:Int))then(ix c b).bind fun o=>bif !decide (o.f0=d)then some (.inr (.inl ((-1):Int)))else(ix c b).bind fun j=>bif !decide (j.f1=(IntKind.wrap .i64 (d+(1:Int))))then some (.inr (.inl ((-1):Int)))else(ix c b).bind fun l=>(cN n (IntKind.wrap .i64 ((IntKind.wrap .i64 (d+(1:Int)))+(1:Int)))).bind fun g=>bif !decide (l.f2=g)then some (.inr (.inl ((-1):Int)))else(ix c b).bind fun m=>(a m.f3 (IntKind.wrap .i64 ((IntKind.wrap .i64 ((IntKind.wrap .i64 (d+(1:Int)))+(1:Int)))+(1:Int)))).bind fun f=>bif decide (f<(0:Int))then some (.inr (.inl ((-1):Int)))else some (.inl (f,(IntKind.wrap .i64 (b+(1:Int)))))else some (.inr (.inr (d,b,false)))
def gU(n:Nat)(a:hY)(b:List aA)(c:Int):Option (Int):=
  (loopN (gI n a b) n (c,(0:Int))).bind fun q=>(match q with | .inl f=>some f | .inr (d,g,j)=>some d)
theorem yW{n:Nat}{a:hY}(b:nK a):nK (gU n a):=by
 intro B C r h; unfold gU at h; refine bF Try.func20 rfl rfl<|gcc 9 rfl<|cLp h [(1,1),(4,48)] [] (fun(c,g)=>([(1,I64 c),(5,I64 g)],[])) (fun q=>match q with | .inl f=>(.r,[(4,I64 f)],[]) | .inr (d,j,l)=>(.e 0,[(1,I64 d),(5,I64 j),(9,Bo l)],[])) rfl (fun st _ h=> ?_) (fun q h=> ?_)
 obtain⟨c,g⟩:=st; unfold gI at h; refine gco 5 rfl<|xLn rfl<|goc 2 rfl<|cIf h rfl (fun z h=> ?_) (fun z h=> ?_)
 refine gco 8 rfl<|xIx h aN rfl (fun y h=> ?_)
 refine goc 5 rfl<|cIf h rfl (fun A h=> ?_) (fun A h=> ?_)
 exact gec; refine gco 12 rfl<|xIx h aN rfl (fun p h=> ?_)
 refine goc 5 rfl<|cIf h rfl (fun u h=> ?_) (fun u h=> ?_)
 exact gec; refine gco 12 rfl<|xIx h aN rfl (fun s h=> ?_)
 refine goo 3 rfl<|xC0 h (eG ·) rfl (fun m h=> ?_)
 refine goc 2 rfl<|cIf h rfl (fun v h=> ?_) (fun v h=> ?_)
 exact gec; refine gco 11 rfl<|xIx h aN rfl (fun t h=> ?_)
 refine goo 3 rfl<|xC0 h (b ·) rfl (fun o h=> ?_)
 refine goc 7 rfl<|cIf h rfl (fun w h=> ?_) (fun w h=> ?_)
 exact gec; exact gec; exact gec; rcases q with f | ⟨d,j,l⟩; exact en; exact gec
def uG:Nat→(hY)
  | 0=>(fun _ _=>none)
  | n+1=>gU n (uG n)
def dJ(n:Nat):hY:=uG n
theorem zH(n:Nat):nK (dJ n):=by
  induction n with
  | zero=>exact(fun h=>nomatch h)
  | succ n ih=>exact yW (n:=n) ih
theorem Ay{n:Nat}:nK (dJ n):=(zH n)
theorem p_laws_heldTermS_succ(n:Nat):dJ (n+1)=gU n (dJ n):=rfl
abbrev Ey(p:Int→Int→(List UInt8)→(List aA)→Int→Option (Int)):Prop:= ∀ {a b:Int} {d:List UInt8} {f:List aA} {g:Int} {r:Int},p a b d f g=some r→Big Try.prog τ An (.fn 19 [.one (.ag [.int .i64 a, .int .i64 b, .str d, .sl (f.map aD)]), .one (.c (.int .i64 g))] [] (.one (.c (.int .i64 r))) none [] none)
def iY(n:Nat)(d:Int)(f:Int)(g:List UInt8)(b:List aA)(c:Int):Option (Int):=
  (dJ n b c).bind fun a=>bif decide (a<(0:Int))then some ((-1):Int)else some a
theorem tO{n:Nat}:Ey (iY n):=by
 intro c d f g j r h; unfold iY at h; refine bF Try.func19 rfl rfl<|gco 10 rfl<|xC0 h (Ay ·) rfl (fun a h=> ?_)
 refine goc 8 rfl<|cIf h rfl (fun b h=> ?_) (fun b h=> ?_)
 exact gec; exact gec
abbrev iS:Type:=(List aM)→Int→Option (Int)
abbrev mY(p:iS):Prop:= ∀ {a:List aM} {b:Int} {r:Int},p a b=some r→Big Try.prog τ An (.fn 8 [.one (.c (.sl (a.map bG))), .one (.c (.int .i64 b))] [] (.one (.c (.int .i64 r))) none [] none)
abbrev iE:Type:=Int→Int→(List UInt8)→(List aM)→Int→Option (Int)
abbrev oW(p:iE):Prop:= ∀ {a b:Int} {d:List UInt8} {f:List aM} {g:Int} {r:Int},p a b d f g=some r→Big Try.prog τ An (.fn 41 [.one (.ag [.int .i64 a, .int .i64 b, .str d, .sl (f.map bG)]), .one (.c (.int .i64 g))] [] (.one (.c (.int .i64 r))) none [] none)
def lX(n:Nat)(a:iE)(f:List aM):(Int×Int)→Option ((Int×Int)⊕((Int)⊕(Int×Int×Bool)))
  | (g,c)=>bif decide (c<(f.length:Int))then(ix f c).bind fun b=>(a b.f0 b.f1 b.f2 b.f3 g).bind fun d=>bif decide (d<(0:Int))then some (.inr (.inl ((-1):Int)))else some (.inl (d,(IntKind.wrap .i64 (c+(1:Int)))))else some (.inr (.inr (g,c,false)))
def mK(n:Nat)(c:iS)(a:iE)(b:List aM)(d:Int):Option (Int):=
  bif decide ((IntKind.wrap .i64 (d - (b.length:Int)))<(0:Int))then some ((-1):Int)else(loopN (lX n a b) n ((IntKind.wrap .i64 (d - (b.length:Int))),(0:Int))).bind fun q=>(match q with | .inl g=>some g | .inr (f,l,j)=>some f)
theorem Bi{n:Nat}{a:iS}(d:mY a){b:iE}(c:oW b):mY (mK n a b):=by
 intro w y r h; unfold mK at h; refine bF Try.func8 rfl rfl<|gco 8 rfl<|xLn rfl<|goc 9 rfl<|cIf h rfl (fun u h=> ?_) (fun u h=> ?_)
 exact gec; refine gcc 6 rfl<|cLp h [(1,1),(4,5),(12,25)] [] (fun(g,m)=>([(1,I64 g),(5,I64 m)],[])) (fun q=>match q with | .inl l=>(.r,[(4,I64 l)],[]) | .inr (j,o,f)=>(.e 0,[(1,I64 j),(5,I64 o),(15,Bo f)],[])) rfl (fun st _ h=> ?_) (fun q h=> ?_)
 obtain⟨g,m⟩:=st; unfold lX at h; refine gco 5 rfl<|xLn rfl<|goc 2 rfl<|cIf h rfl (fun v h=> ?_) (fun v h=> ?_)
 refine gco 7 rfl<|xIx h lB rfl (fun t h=> ?_)
 refine goo 2 rfl<|xC0 h (c ·) rfl (fun p h=> ?_)
 refine goc 7 rfl<|cIf h rfl (fun s h=> ?_) (fun s h=> ?_)
 exact gec; exact gec; exact gec; rcases q with l | ⟨j,o,f⟩; exact en; exact gec
def oD(n:Nat)(a:iS)(c:iE)(j:Int)(l:Int)(d:List UInt8)(g:List aM)(f:Int):Option (Int):=
  bif decide ((IntKind.wrap .i64 (f - (d.length:Int)))<(0:Int))then some ((-1):Int)else(a g (IntKind.wrap .i64 (f - (d.length:Int)))).bind fun b=>bif decide (b<(0:Int))then some ((-1):Int)else some b
theorem Cl{n:Nat}{a:iS}(c:mY a){b:iE}(d:oW b):oW (oD n a b):=by
 intro l m o p s r h; unfold oD at h; refine bF Try.func41 rfl rfl<|gco 10 rfl<|xLs rfl<|goc 9 rfl<|cIf h rfl (fun g h=> ?_) (fun g h=> ?_)
 exact gec; refine gco 6 rfl<|xC0 h (c ·) rfl (fun f h=> ?_)
 refine goc 8 rfl<|cIf h rfl (fun j h=> ?_) (fun j h=> ?_)
 exact gec; exact gec
def kI:Nat→(iS)×(iE)
  | 0=>((fun _ _=>none),(fun _ _ _ _ _=>none))
  | n+1=>(mK n ((kI n).1) ((kI n).2),oD n ((kI n).1) ((kI n).2))
def kK(n:Nat):iS:=(kI n).1
def iC(n:Nat):iE:=(kI n).2
theorem tN(n:Nat):mY (kK n)∧oW (iC n):=by
  induction n with
  | zero=>exact⟨(fun h=>nomatch h),(fun h=>nomatch h)⟩
  | succ n ih=>exact⟨Bi (n:=n) (ih.1) (ih.2),Cl (n:=n) (ih.1) (ih.2)⟩
theorem OJ{n:Nat}:mY (kK n):=(tN n).1
theorem Ei{n:Nat}:oW (iC n):=(tN n).2
theorem zC(n:Nat):kK (n+1)=mK n (kK n) (iC n):=rfl
theorem As(n:Nat):iC (n+1)=oD n (kK n) (iC n):=rfl
abbrev IG(p:(List UInt8)→Int→Int→(List UInt8)→(List aM)→Int→Option (Int)):Prop:= ∀ {a:List UInt8} {b d:Int} {f:List UInt8} {g:List aM} {j:Int} {r:Int},p a b d f g j=some r→Big Try.prog τ An (.fn 65 [.one (.ag [.str a, .int .i64 b, .int .i64 d, .str f, .sl (g.map bG)]), .one (.c (.int .i64 j))] [] (.one (.c (.int .i64 r))) none [] none)
def oO(n:Nat)(b:List UInt8)(d:Int)(f:Int)(g:List UInt8)(j:List aM)(c:Int):Option (Int):=
  bif decide ((IntKind.wrap .i64 (c - (b.length:Int)))<(0:Int))then some ((-1):Int)else(iC n d f g j (IntKind.wrap .i64 (c - (b.length:Int)))).bind fun a=>bif decide (a<(0:Int))then some ((-1):Int)else some a
theorem El{n:Nat}:IG (oO n):=by
 intro d f g j l m r h; unfold oO at h; refine bF Try.func65 rfl rfl<|gco 10 rfl<|xLs rfl<|goc 9 rfl<|cIf h rfl (fun b h=> ?_) (fun b h=> ?_)
 exact gec; refine gco 6 rfl<|xC0 h (Ei ·) rfl (fun a h=> ?_)
 refine goc 8 rfl<|cIf h rfl (fun c h=> ?_) (fun c h=> ?_)
 exact gec; exact gec
abbrev Fr(p:(List S_laws_Bind)→Int→Option (Int)):Prop:= ∀ {a:List S_laws_Bind} {b:Int} {r:Int},p a b=some r→Big Try.prog τ An (.fn 26 [.one (.c (.sl (a.map rS_laws_Bind))), .one (.c (.int .i64 b))] [] (.one (.c (.int .i64 r))) none [] none)
def lZ(n:Nat)(d:List S_laws_Bind):(Int×Int)→Option ((Int×Int)⊕((Int)⊕(Int×Int×Bool)))
  | (f,b)=>bif decide (b<(d.length:Int))then(ix d b).bind fun a=>(oO n a.f0 a.f1 a.f2 a.f3 a.f4 f).bind fun c=>bif decide (c<(0:Int))then some (.inr (.inl ((-1):Int)))else some (.inl (c,(IntKind.wrap .i64 (b+(1:Int)))))else some (.inr (.inr (f,b,false)))
def mU(n:Nat)(a:List S_laws_Bind)(b:Int):Option (Int):=
  bif decide ((IntKind.wrap .i64 (b - (a.length:Int)))<(0:Int))then some ((-1):Int)else(loopN (lZ n a) n ((IntKind.wrap .i64 (b - (a.length:Int))),(0:Int))).bind fun q=>(match q with | .inl d=>some d | .inr (c,g,f)=>some c)
theorem DD{n:Nat}:Fr (mU n):=by
 intro s t r h; unfold mU at h; refine bF Try.func26 rfl rfl<|gco 8 rfl<|xLn rfl<|goc 9 rfl<|cIf h rfl (fun o h=> ?_) (fun o h=> ?_)
 exact gec; refine gcc 6 rfl<|cLp h [(1,1),(4,5),(12,25)] [] (fun(b,f)=>([(1,I64 b),(5,I64 f)],[])) (fun q=>match q with | .inl d=>(.r,[(4,I64 d)],[]) | .inr (c,g,a)=>(.e 0,[(1,I64 c),(5,I64 g),(15,Bo a)],[])) rfl (fun st _ h=> ?_) (fun q h=> ?_)
 obtain⟨b,f⟩:=st; unfold lZ at h; refine gco 5 rfl<|xLn rfl<|goc 2 rfl<|cIf h rfl (fun p h=> ?_) (fun p h=> ?_)
 refine gco 7 rfl<|xIx h vU rfl (fun m h=> ?_)
 refine goo 2 rfl<|xC0 h (El ·) rfl (fun j h=> ?_)
 refine goc 7 rfl<|cIf h rfl (fun l h=> ?_) (fun l h=> ?_)
 exact gec; exact gec; exact gec; rcases q with d | ⟨c,g,a⟩; exact en; exact gec
abbrev Jw(p:(List (List UInt8))→(List UInt8)→Option (Bool)):Prop:= ∀ {a:List (List UInt8)} {b:List UInt8} {r:Bool},p a b=some r→Big Try.prog τ An (.fn 112 [.one (.c (.sl (a.map wV))), .one (.c (.str b))] [] (.one (.c (.bool r))) none [] none)
def lF(n:Nat)(b:List (List UInt8))(d:List UInt8):(Int)→Option ((Int)⊕((Bool)⊕(Int×Bool)))
  | a=>bif decide (a<(b.length:Int))then(ix b a).bind fun c=>bif decide (c=d)then some (.inr (.inl true))else some (.inl (IntKind.wrap .i64 (a+(1:Int))))else some (.inr (.inr (a,false)))
def pX(n:Nat)(a:List (List UInt8))(b:List UInt8):Option (Bool):=
  (loopN (lF n a b) n (0:Int)).bind fun q=>(match q with | .inl c=>some c | .inr (d,f)=>some false)
theorem Ff{n:Nat}:Jw (pX n):=by
 intro l m r h; unfold pX at h; refine bF Try.func112 rfl rfl<|gcc 9 rfl<|cLp h [(4,17)] [] (fun b=>([(5,I64 b)],[])) (fun q=>match q with | .inl a=>(.r,[(4,Bo a)],[]) | .inr (c,d)=>(.e 0,[(5,I64 c),(9,Bo d)],[])) rfl (fun b _ h=> ?_) (fun q h=> ?_)
 unfold lF at h; refine gco 5 rfl<|xLn rfl<|goc 2 rfl<|cIf h rfl (fun g h=> ?_) (fun g h=> ?_)
 refine gco 7 rfl<|xIx h KK rfl (fun f h=> ?_)
 refine goc 4 rfl<|cIf h rfl (fun j h=> ?_) (fun j h=> ?_)
 exact gec; exact gec; exact gec; rcases q with a | ⟨c,d⟩; exact en; exact gec
abbrev Hz(p:(List (List UInt8))→Option (Bool)):Prop:= ∀ {a:List (List UInt8)} {r:Bool},p a=some r→Big Try.prog τ An (.fn 88 [.one (.c (.sl (a.map wV)))] [] (.one (.c (.bool r))) none [] none)
def nC(n:Nat)(b:List (List UInt8)):(Int)→Option ((Int)⊕((Bool)⊕(Int×Bool)))
  | a=>bif decide (a<(b.length:Int))then(sub b none (some a)).bind fun f=>(ix b a).bind fun d=>(pX n f d).bind fun c=>bif c then some (.inr (.inl false))else some (.inl (IntKind.wrap .i64 (a+(1:Int))))else some (.inr (.inr (a,false)))
def lK(n:Nat)(a:List (List UInt8)):Option (Bool):=
  (loopN (nC n a) n (0:Int)).bind fun q=>(match q with | .inl b=>some b | .inr (c,d)=>some true)
theorem vV{n:Nat}:Hz (lK n):=by
 intro o r h; unfold lK at h; refine bF Try.func88 rfl rfl<|gcc 9 rfl<|cLp h [(2,17)] [] (fun b=>([(3,I64 b)],[])) (fun q=>match q with | .inl a=>(.r,[(2,Bo a)],[]) | .inr (c,d)=>(.e 0,[(3,I64 c),(7,Bo d)],[])) rfl (fun b _ h=> ?_) (fun q h=> ?_)
 unfold nC at h; refine gco 5 rfl<|xLn rfl<|goc 2 rfl<|cIf h rfl (fun l h=> ?_) (fun l h=> ?_)
 refine gco 7 rfl<|wSl (rf:=wV) h rfl rfl rfl rfl .no (.so rfl) (fun _=>rfl) rfl (fun j h=> ?_)
 refine goo 2 rfl<|xIx h KK rfl (fun g h=> ?_)
 refine xLd rfl<|xC0 h (Ff ·) rfl (fun f h=> ?_)
 refine oNl<|cIf h rfl (fun m h=> ?_) (fun m h=> ?_)
 exact gec; exact gec; exact gec; rcases q with a | ⟨c,d⟩; exact en; exact gec
abbrev lQ:Type:=Int→Int→(List UInt8)→(List aC)→(List aB)→Option ((List (List UInt8)))
abbrev qY(p:lQ):Prop:= ∀ {a b:Int} {d:List UInt8} {f:List aC} {g:List aB} {r:(List (List UInt8))},p a b d f g=some r→Big Try.prog τ An (.fn 89 [.one (.ag [.int .i64 a, .int .i64 b, .str d, .sl (f.map aL), .sl (g.map aF)])] [] (.one (.c (.sl (r.map wV)))) none [] none)
def kD(n:Nat)(b:lQ)(f:List aC):((List (List UInt8))×Int)→Option (((List (List UInt8))×Int)⊕(((List (List UInt8))×Int×Bool)))
  | (j,c)=>bif decide (c<(f.length:Int))then(ix f c).bind fun a=>(b a.f0 a.f1 a.f2 a.f3 a.f4).bind fun d=>(wX 16 j d).bind fun g=>some (.inl (g,(IntKind.wrap .i64 (c+(1:Int)))))else some (.inr (j,c,false))
def oA(n:Nat)(a:lQ)(d:Int)(l:Int)(b:List UInt8)(f:List aC)(m:List aB):Option ((List (List UInt8))):=
  bif decide (d=(3:Int))then bif !decide (b=([95]:List UInt8))then(wX 16 ([]:List (List UInt8)) ([b]:List (List UInt8))).bind fun c=>some c else some ([]:List (List UInt8))else(loopN (kD n a f) n (([]:List (List UInt8)),(0:Int))).bind fun(g,o,j)=>some g
theorem Ci{n:Nat}{a:lQ}(b:qY a):qY (oA n a):=by
 intro y z m A B r h; unfold oA at h; refine bF Try.func89 rfl rfl<|gco 3 rfl<|wAe (Li wV []) rfl rfl rfl rfl<|oRs<|LW (L:=([]:List (List UInt8))) (f:=wV) rfl rfl rfl rfl rfl rfl rfl<|goc 9 rfl<|cIf h rfl (fun u h=> ?_) (fun u h=> ?_)
 refine gcc 7 rfl<|cIf h rfl (fun v h=> ?_) (fun v h=> ?_)
 refine gco 4 rfl<|LW (L:=([m]:List (List UInt8))) (f:=wV) rfl rfl rfl rfl rfl rfl rfl<|wAp (f:=wV) h rfl rfl rfl rfl rfl rfl rfl rfl rfl (fun _=>rfl) rfl (fun t h=> ?_)
 exact geo; exact gec; refine gcc 6 rfl<|cLp h [(3,4),(18,32)] [] (fun(d,j)=>([(3,Li wV d),(4,I64 j)],[])) (fun(g,l,c)=>(.e 0,[(3,Li wV g),(4,I64 l),(22,Bo c)],[])) rfl (fun st _ h=> ?_) (fun q h=> ?_)
 obtain⟨d,j⟩:=st; unfold kD at h; refine gco 6 rfl<|xLn rfl<|goc 2 rfl<|cIf h rfl (fun w h=> ?_) (fun w h=> ?_)
 refine gco 8 rfl<|xIx h aO rfl (fun p h=> ?_)
 refine xLd rfl<|xC0 h (b ·) rfl (fun o h=> ?_)
 refine wAp (f:=wV) h rfl rfl rfl rfl rfl rfl rfl rfl rfl (fun _=>rfl) rfl (fun s h=> ?_)
 exact geo; exact gec; obtain⟨g,l,c⟩:=q; exact gec
def AR:Nat→(lQ)
  | 0=>(fun _ _ _ _ _=>none)
  | n+1=>oA n (AR n)
def fJ(n:Nat):lQ:=AR n
theorem Cu(n:Nat):qY (fJ n):=by
  induction n with
  | zero=>exact(fun h=>nomatch h)
  | succ n ih=>exact Ci (n:=n) ih
theorem vX{n:Nat}:qY (fJ n):=(Cu n)
theorem Ap(n:Nat):fJ (n+1)=oA n (fJ n):=rfl
abbrev LR(p:Int→Int→Int→Option (Bool)):Prop:= ∀ {a b d:Int} {r:Bool},p a b d=some r→Big Try.prog τ An (.fn 142 [.one (.c (.int .i64 a)), .one (.c (.int .i64 b)), .one (.c (.int .i64 d))] [] (.one (.c (.bool r))) none [] none)
def cU(n:Nat)(a:Int)(b:Int)(c:Int):Option (Bool):=
  (bif decide (b≤a)then some (decide (a≤c))else some false).bind fun d=>some d
theorem dE{n:Nat}:LR (cU n):=by
 intro c d f r h; unfold cU at h; refine bF Try.func142 rfl rfl<|gco 6 rfl<|oJn h [(6,14)] [] (fun a=>(.n,[(6,Bo a)],[])) (fun _ h=> ?_) (fun a h=> ?_)
 refine goo 4 rfl<|oIf 10 h rfl (fun b h=> ?_) (fun b h=> ?_)
 exact geo; exact geo; exact gec
abbrev ID(p:(List UInt8)→Option (Bool)):Prop:= ∀ {a:List UInt8} {r:Bool},p a=some r→Big Try.prog τ An (.fn 114 [.one (.c (.str a))] [] (.one (.c (.bool r))) none [] none)
def nD(n:Nat)(d:List UInt8):(Int)→Option ((Int)⊕((Bool)⊕(Int×Bool)))
  | a=>bif decide (a<(d.length:Int))then(ixs d a).bind fun b=>(cU n (IntKind.wrap .i64 b) (97:Int) (122:Int)).bind fun f=>(bif !f then bif decide (a=(0:Int))then some true else(cU n (IntKind.wrap .i64 b) (48:Int) (57:Int)).bind fun c=>bif !c then some (!decide ((IntKind.wrap .i64 b)=(95:Int)))else some false else some false).bind fun g=>bif g then some (.inr (.inl false))else some (.inl (IntKind.wrap .i64 (a+(1:Int))))else some (.inr (.inr (a,false)))
def lM(n:Nat)(b:List UInt8):Option (Bool):=
  (loopN (nD n b) n (0:Int)).bind fun q=>(match q with | .inl c=>some c | .inr (d,f)=>(cU n (b.length:Int) (1:Int) (20:Int)).bind fun a=>some a)
theorem vY{n:Nat}:ID (lM n):=by
 intro v r h; unfold lM at h; refine bF Try.func114 rfl rfl<|gcc 9 rfl<|cLp h [(2,32)] [] (fun c=>([(3,I64 c)],[])) (fun q=>match q with | .inl b=>(.r,[(2,Bo b)],[]) | .inr (d,f)=>(.e 0,[(3,I64 d),(9,Bo f)],[])) rfl (fun c _ h=> ?_) (fun q h=> ?_)
 unfold nD at h; refine gco 5 rfl<|xLs rfl<|goc 2 rfl<|cIf h rfl (fun t h=> ?_) (fun t h=> ?_)
 refine gco 7 rfl<|Nf h rfl rfl rfl rfl rfl (fun s h=> ?_)
 refine goo 6 rfl<|xC0 h (dE ·) rfl (fun p h=> ?_)
 refine goo 4 rfl<|oJn h [(18,32)] [] (fun a=>(.n,[(32,Bo a)],[])) (fun _ h=> ?_) (fun a h=> ?_)
 refine goo 3 rfl<|oIf 20 h rfl (fun u h=> ?_) (fun u h=> ?_)
 refine goo 3 rfl<|oIf 23 h rfl (fun l h=> ?_) (fun l h=> ?_)
 exact geo; refine xMv rfl<|xC0 h (dE ·) rfl (fun g h=> ?_)
 refine goo 2 rfl<|oIf 27 h rfl (fun m h=> ?_) (fun m h=> ?_)
 exact geo; exact geo; exact geo; refine cIf h rfl (fun o h=> ?_) (fun o h=> ?_)
 exact gec; exact gec; exact gec; rcases q with b | ⟨d,f⟩; exact en; refine gco 3 rfl<|xLs rfl<|xC0 h (dE ·) rfl (fun j h=> ?_)
 exact geo
abbrev Br(p:(List UInt8)→Option (Bool)):Prop:= ∀ {a:List UInt8} {r:Bool},p a=some r→Big Try.prog τ An (.fn 115 [.one (.c (.str a))] [] (.one (.c (.bool r))) none [] none)
def lS(n:Nat)(a:List UInt8):Option (Bool):=
  (bif decide (a=([99,97,115,101]:List UInt8))then some true else bif decide (a=([111,102]:List UInt8))then some true else some (decide (a=([101,110,100]:List UInt8)))).bind fun b=>some b
theorem zJ{n:Nat}:Br (lS n):=by
 intro d r h; unfold lS at h; refine bF Try.func115 rfl rfl<|gco 6 rfl<|oJn h [(2,12)] [] (fun a=>(.n,[(2,Bo a)],[])) (fun _ h=> ?_) (fun a h=> ?_)
 refine goo 3 rfl<|oIf 5 h rfl (fun b h=> ?_) (fun b h=> ?_)
 exact geo; refine goo 4 rfl<|oIf 9 h rfl (fun c h=> ?_) (fun c h=> ?_)
 exact geo; exact geo; exact gec
abbrev IA(p:(List UInt8)→Option (Bool)):Prop:= ∀ {a:List UInt8} {r:Bool},p a=some r→Big Try.prog τ An (.fn 74 [.one (.c (.str a))] [] (.one (.c (.bool r))) none [] none)
def lL(n:Nat)(a:List UInt8):Option (Bool):=
  ((lM n a).bind fun b=>bif b then(lS n a).bind fun c=>some (!c)else some false).bind fun d=>some d
theorem vW{n:Nat}:IA (lL n):=by
 intro f r h; unfold lL at h; refine bF Try.func74 rfl rfl<|gco 6 rfl<|oJn h [(2,9)] [] (fun a=>(.n,[(2,Bo a)],[])) (fun _ h=> ?_) (fun a h=> ?_)
 refine xMv rfl<|xC0 h (vY ·) rfl (fun b h=> ?_)
 refine xMv rfl<|oIf 5 h rfl (fun d h=> ?_) (fun d h=> ?_)
 refine xMv rfl<|xC0 h (zJ ·) rfl (fun c h=> ?_)
 exact geo; exact geo; exact gec
abbrev Fm(p:Int→Option (Bool)):Prop:= ∀ {a:Int} {r:Bool},p a=some r→Big Try.prog τ An (.fn 163 [.one (.c (.int .u8 a))] [] (.one (.c (.bool r))) none [] none)
def mR(n:Nat)(a:Int):Option (Bool):=
  ((cU n (IntKind.wrap .i64 a) (65:Int) (90:Int)).bind fun b=>bif b then some true else some (decide (a=(95:Int)))).bind fun c=>some c
theorem Cz{n:Nat}:Fm (mR n):=by
 intro d r h; unfold mR at h; refine bF Try.func163 rfl rfl<|gco 6 rfl<|oJn h [(2,9)] [] (fun a=>(.n,[(2,Bo a)],[])) (fun _ h=> ?_) (fun a h=> ?_)
 refine goo 2 rfl<|xC0 h (dE ·) rfl (fun b h=> ?_)
 refine xMv rfl<|oIf 6 h rfl (fun c h=> ?_) (fun c h=> ?_)
 exact geo; exact geo; exact gec
abbrev Fl(p:Int→Option (Bool)):Prop:= ∀ {a:Int} {r:Bool},p a=some r→Big Try.prog τ An (.fn 164 [.one (.c (.int .u8 a))] [] (.one (.c (.bool r))) none [] none)
def mQ(n:Nat)(b:Int):Option (Bool):=
  (cU n (IntKind.wrap .i64 b) (97:Int) (122:Int)).bind fun a=>some a
theorem Cy{n:Nat}:Fl (mQ n):=by
 intro b r h; unfold mQ at h; refine bF Try.func164 rfl rfl<|gco 8 rfl<|xC0 h (dE ·) rfl (fun a h=> ?_)
 exact geo
abbrev Fn(p:Int→Option (Bool)):Prop:= ∀ {a:Int} {r:Bool},p a=some r→Big Try.prog τ An (.fn 165 [.one (.c (.int .u8 a))] [] (.one (.c (.bool r))) none [] none)
def mS(n:Nat)(b:Int):Option (Bool):=
  (cU n (IntKind.wrap .i64 b) (48:Int) (57:Int)).bind fun a=>some a
theorem DB{n:Nat}:Fn (mS n):=by
 intro b r h; unfold mS at h; refine bF Try.func165 rfl rfl<|gco 8 rfl<|xC0 h (dE ·) rfl (fun a h=> ?_)
 exact geo
abbrev Fk(p:(List UInt8)→Option (Bool)):Prop:= ∀ {a:List UInt8} {r:Bool},p a=some r→Big Try.prog τ An (.fn 153 [.one (.c (.str a))] [] (.one (.c (.bool r))) none [] none)
def lT(n:Nat)(b:List UInt8):(Int)→Option ((Int)⊕((Bool)⊕(Int×Bool)))
  | a=>bif decide (a<(b.length:Int))then((ixs b a).bind fun l=>(mR n l).bind fun j=>bif !j then bif decide (a=(0:Int))then some true else(ixs b a).bind fun f=>(mQ n f).bind fun c=>bif !c then(ixs b a).bind fun g=>(mS n g).bind fun d=>some (!d)else some false else some false).bind fun m=>bif m then some (.inr (.inl false))else some (.inl (IntKind.wrap .i64 (a+(1:Int))))else some (.inr (.inr (a,false)))
def mP(n:Nat)(b:List UInt8):Option (Bool):=
  (loopN (lT n b) n (0:Int)).bind fun q=>(match q with | .inl c=>some c | .inr (d,f)=>(cU n (b.length:Int) (1:Int) (20:Int)).bind fun a=>some a)
theorem Cx{n:Nat}:Fk (mP n):=by
 intro z r h; unfold mP at h; refine bF Try.func153 rfl rfl<|gcc 9 rfl<|cLp h [(2,32)] [] (fun c=>([(3,I64 c)],[])) (fun q=>match q with | .inl b=>(.r,[(2,Bo b)],[]) | .inr (d,f)=>(.e 0,[(3,I64 d),(7,Bo f)],[])) rfl (fun c _ h=> ?_) (fun q h=> ?_)
 unfold lT at h; refine gco 5 rfl<|xLs rfl<|goc 2 rfl<|cIf h rfl (fun w h=> ?_) (fun w h=> ?_)
 refine gco 5 rfl<|oJn h [(10,32)] [] (fun a=>(.n,[(32,Bo a)],[])) (fun _ h=> ?_) (fun a h=> ?_)
 refine goo 2 rfl<|Nf h rfl rfl rfl rfl rfl (fun v h=> ?_)
 refine xC0 h (Cz ·) rfl (fun u h=> ?_)
 refine goo 2 rfl<|oIf 15 h rfl (fun y h=> ?_) (fun y h=> ?_)
 refine goo 3 rfl<|oIf 18 h rfl (fun p h=> ?_) (fun p h=> ?_)
 exact geo; refine goo 2 rfl<|Nf h rfl rfl rfl rfl rfl (fun m h=> ?_)
 refine xC0 h (Cy ·) rfl (fun g h=> ?_)
 refine goo 2 rfl<|oIf 24 h rfl (fun s h=> ?_) (fun s h=> ?_)
 refine goo 2 rfl<|Nf h rfl rfl rfl rfl rfl (fun o h=> ?_)
 refine xC0 h (DB ·) rfl (fun j h=> ?_)
 exact geo; exact geo; exact geo; refine cIf h rfl (fun t h=> ?_) (fun t h=> ?_)
 exact gec; exact gec; exact gec; rcases q with b | ⟨d,f⟩; exact en; refine gco 3 rfl<|xLs rfl<|xC0 h (dE ·) rfl (fun l h=> ?_)
 exact geo
abbrev LP(p:(List UInt8)→Option (Bool)):Prop:= ∀ {a:List UInt8} {r:Bool},p a=some r→Big Try.prog τ An (.fn 154 [.one (.c (.str a))] [] (.one (.c (.bool r))) none [] none)
def rF(n:Nat)(a:List UInt8):Option (Bool):=
  (bif decide (a=([43]:List UInt8))then some true else bif decide (a=([45]:List UInt8))then some true else bif decide (a=([42]:List UInt8))then some true else bif decide (a=([61,61]:List UInt8))then some true else some (decide (a=([60]:List UInt8)))).bind fun b=>some b
theorem Hv{n:Nat}:LP (rF n):=by
 intro g r h; unfold rF at h; refine bF Try.func154 rfl rfl<|gco 6 rfl<|oJn h [(2,20)] [] (fun a=>(.n,[(2,Bo a)],[])) (fun _ h=> ?_) (fun a h=> ?_)
 refine goo 3 rfl<|oIf 5 h rfl (fun b h=> ?_) (fun b h=> ?_)
 exact geo; refine goo 4 rfl<|oIf 9 h rfl (fun c h=> ?_) (fun c h=> ?_)
 exact geo; refine goo 4 rfl<|oIf 13 h rfl (fun d h=> ?_) (fun d h=> ?_)
 exact geo; refine goo 4 rfl<|oIf 17 h rfl (fun f h=> ?_) (fun f h=> ?_)
 exact geo; exact geo; exact gec
abbrev Fj(p:Int→Int→(List UInt8)→(List aC)→(List aB)→Bool→Option (Bool)):Prop:= ∀ {a b:Int} {d:List UInt8} {f:List aC} {g:List aB} {j:Bool} {r:Bool},p a b d f g j=some r→Big Try.prog τ An (.fn 128 [.one (.ag [.int .i64 a, .int .i64 b, .str d, .sl (f.map aL), .sl (g.map aF)]), .one (.c (.bool j))] [] (.one (.c (.bool r))) none [] none)
def mO(n:Nat)(a:Int)(f:Int)(b:List UInt8)(c:List aC)(s:List aB)(d:Bool):Option (Bool):=
  (bif !decide (a=(9:Int))then bif decide ((0:Int)<(s.length:Int))then some true else bif !decide (a=(1:Int))then some (!decide (f=(0:Int)))else some false else bif !decide (a=(1:Int))then some (!decide (f=(0:Int)))else some false).bind fun u=>bif u then some false else bif decide (a=(1:Int))then((cU n f (0:Int) (1000000000000:Int)).bind fun t=>bif t then bif decide (b=([]:List UInt8))then some (decide ((c.length:Int)=(0:Int)))else some false else some false).bind fun E=>some E else bif decide (a=(2:Int))then((lL n b).bind fun l=>bif l then some (decide ((c.length:Int)=(0:Int)))else some false).bind fun v=>some v else bif decide (a=(3:Int))then((mP n b).bind fun m=>bif m then bif decide ((c.length:Int)=(0:Int))then bif d then some true else some (!decide (b=([95]:List UInt8)))else some false else some false).bind fun w=>some w else bif decide (a=(4:Int))then(bif decide (b=([]:List UInt8))then some (decide ((c.length:Int)≤(20:Int)))else some false).bind fun y=>some y else bif decide (a=(5:Int))then(bif decide (b=([]:List UInt8))then some (decide ((c.length:Int)≤(20:Int)))else some false).bind fun z=>some z else bif decide (a=(6:Int))then(bif decide (b=([]:List UInt8))then(cU n (c.length:Int) (2:Int) (6:Int)).bind fun o=>some o else some false).bind fun A=>some A else bif decide (a=(7:Int))then(bif !d then(rF n b).bind fun p=>bif p then some (decide ((c.length:Int)=(2:Int)))else some false else some false).bind fun B=>some B else bif decide (a=(8:Int))then(bif !d then(lL n b).bind fun g=>bif g then some (decide ((c.length:Int)≤(4:Int)))else some false else some false).bind fun C=>some C else bif decide (a=(9:Int))then(bif !d then bif decide (b=([]:List UInt8))then bif decide ((c.length:Int)=(1:Int))then(cU n (s.length:Int) (1:Int) (6:Int)).bind fun j=>some j else some false else some false else some false).bind fun D=>some D else some false
theorem Cw{n:Nat}:Fj (mO n):=by
 intro a7 a8 a9 b0 b1 b2 r h; unfold mO at h; refine bF Try.func128 rfl rfl<|gco 9 rfl<|xLn rfl<|goo 5 rfl<|oJn h [(9,27)] [] (fun a=>(.n,[(27,Bo a)],[])) (fun _ h=> ?_) (fun a h=> ?_)
 refine goo 4 rfl<|oIf 12 h rfl (fun q2 h=> ?_) (fun q2 h=> ?_)
 refine goo 2 rfl<|xLn rfl<|goo 3 rfl<|oIf 18 h rfl (fun q3 h=> ?_) (fun q3 h=> ?_)
 exact geo; refine goo 4 rfl<|oIf 22 h rfl (fun q4 h=> ?_) (fun q4 h=> ?_)
 exact geo; exact geo; refine goo 10 rfl<|oIf 22 h rfl (fun q5 h=> ?_) (fun q5 h=> ?_)
 exact geo; exact geo; refine cIf h rfl (fun q6 h=> ?_) (fun q6 h=> ?_)
 exact gec; refine gcc 13 rfl<|cIf h rfl (fun q7 h=> ?_) (fun q7 h=> ?_)
 refine cRs<|oJn h [(4,4),(32,43)] [] (fun o=>(.n,[(4,Bo o)],[])) (fun _ h=> ?_) (fun o h=> ?_)
 refine goo 2 rfl<|xC0 h (dE ·) rfl (fun a0 h=> ?_)
 refine xMv rfl<|oIf 35 h rfl (fun y h=> ?_) (fun y h=> ?_)
 refine goo 5 rfl<|oIf 40 h rfl (fun z h=> ?_) (fun z h=> ?_)
 exact geo; exact geo; exact geo; exact gec; refine gcc 5 rfl<|cIf h rfl (fun A h=> ?_) (fun A h=> ?_)
 refine cRs<|oJn h [(4,4),(46,52)] [] (fun b=>(.n,[(4,Bo b)],[])) (fun _ h=> ?_) (fun b h=> ?_)
 refine goo 2 rfl<|xC0 h (vW ·) rfl (fun t h=> ?_)
 refine xMv rfl<|oIf 49 h rfl (fun B h=> ?_) (fun B h=> ?_)
 exact geo; exact geo; exact gec; refine gcc 5 rfl<|cIf h rfl (fun C h=> ?_) (fun C h=> ?_)
 refine cRs<|oJn h [(4,4),(55,69)] [] (fun c=>(.n,[(4,Bo c)],[])) (fun _ h=> ?_) (fun c h=> ?_)
 refine goo 2 rfl<|xC0 h (Cx ·) rfl (fun u h=> ?_)
 refine xMv rfl<|oIf 58 h rfl (fun D h=> ?_) (fun D h=> ?_)
 refine goo 4 rfl<|oIf 62 h rfl (fun E h=> ?_) (fun E h=> ?_)
 refine goo 2 rfl<|oIf 64 h rfl (fun G h=> ?_) (fun G h=> ?_)
 exact geo; exact geo; exact geo; exact geo; exact gec; refine gcc 6 rfl<|cIf h rfl (fun H h=> ?_) (fun H h=> ?_)
 refine gco 4 rfl<|oJn h [(4,4),(73,79)] [] (fun d=>(.n,[(4,Bo d)],[])) (fun _ h=> ?_) (fun d h=> ?_)
 refine goo 4 rfl<|oIf 76 h rfl (fun I h=> ?_) (fun I h=> ?_)
 exact geo; exact geo; exact gec; refine gcc 4 rfl<|cIf h rfl (fun J h=> ?_) (fun J h=> ?_)
 refine cRs<|oJn h [(4,4),(73,79)] [] (fun f=>(.n,[(4,Bo f)],[])) (fun _ h=> ?_) (fun f h=> ?_)
 refine goo 4 rfl<|oIf 76 h rfl (fun K h=> ?_) (fun K h=> ?_)
 exact geo; exact geo; exact gec; refine gcc 5 rfl<|cIf h rfl (fun L h=> ?_) (fun L h=> ?_)
 refine cRs<|oJn h [(4,4),(82,88)] [] (fun g=>(.n,[(4,Bo g)],[])) (fun _ h=> ?_) (fun g h=> ?_)
 refine goo 4 rfl<|oIf 85 h rfl (fun M h=> ?_) (fun M h=> ?_)
 refine xMv rfl<|xC0 h (dE ·) rfl (fun v h=> ?_)
 exact geo; exact geo; exact gec; refine gcc 5 rfl<|cIf h rfl (fun N h=> ?_) (fun N h=> ?_)
 refine cRs<|oJn h [(4,4),(91,101)] [] (fun j=>(.n,[(4,Bo j)],[])) (fun _ h=> ?_) (fun j h=> ?_)
 refine goo 3 rfl<|oIf 93 h rfl (fun Q h=> ?_) (fun Q h=> ?_)
 refine goo 2 rfl<|xC0 h (Hv ·) rfl (fun w h=> ?_)
 refine goo 2 rfl<|oIf 98 h rfl (fun R h=> ?_) (fun R h=> ?_)
 exact geo; exact geo; exact geo; exact gec; refine gcc 5 rfl<|cIf h rfl (fun T h=> ?_) (fun T h=> ?_)
 refine cRs<|oJn h [(4,4),(104,114)] [] (fun l=>(.n,[(4,Bo l)],[])) (fun _ h=> ?_) (fun l h=> ?_)
 refine goo 3 rfl<|oIf 106 h rfl (fun U h=> ?_) (fun U h=> ?_)
 refine goo 2 rfl<|xC0 h (vW ·) rfl (fun p h=> ?_)
 refine goo 2 rfl<|oIf 111 h rfl (fun V h=> ?_) (fun V h=> ?_)
 exact geo; exact geo; exact geo; exact gec; refine gcc 5 rfl<|cIf h rfl (fun W h=> ?_) (fun W h=> ?_)
 refine cRs<|oJn h [(4,4),(117,133)] [] (fun m=>(.n,[(4,Bo m)],[])) (fun _ h=> ?_) (fun m h=> ?_)
 refine goo 3 rfl<|oIf 119 h rfl (fun X h=> ?_) (fun X h=> ?_)
 refine goo 5 rfl<|oIf 124 h rfl (fun Y h=> ?_) (fun Y h=> ?_)
 refine goo 4 rfl<|oIf 128 h rfl (fun Z h=> ?_) (fun Z h=> ?_)
 refine goo 2 rfl<|xLn rfl<|xC0 h (dE ·) rfl (fun s h=> ?_)
 exact geo; exact geo; exact geo; exact geo; exact gec; exact gec
abbrev jH:Type:=Int→Int→(List UInt8)→(List aC)→(List aB)→Bool→Int→Int→Option (Int)
abbrev qV(p:jH):Prop:= ∀ {a b:Int} {d:List UInt8} {f:List aC} {g:List aB} {j:Bool} {l m:Int} {r:Int},p a b d f g j l m=some r→Big Try.prog τ An (.fn 87 [.one (.ag [.int .i64 a, .int .i64 b, .str d, .sl (f.map aL), .sl (g.map aF)]), .one (.c (.bool j)), .one (.c (.int .i64 l)), .one (.c (.int .i64 m))] [] (.one (.c (.int .i64 r))) none [] none)
def eY(n:Nat)(b:jH)(l:Bool)(m:Int)(g:List aC):(Int×Int)→Option ((Int×Int)⊕((Int×Int×Bool)))
  | (d,c)=>(bif decide (c<(g.length:Int))then some (decide ((0:Int)≤d))else some false).bind fun j=>bif j then(ix g c).bind fun a=>(b a.f0 a.f1 a.f2 a.f3 a.f4 l (IntKind.wrap .i64 (m - (1:Int))) d).bind fun f=>some (.inl (f,(IntKind.wrap .i64 (c+(1:Int)))))else some (.inr (d,c,false))
def eW(n:Nat)(b:jH)(s:Int)(j:List aB):(Int×Int)→Option ((Int×Int)⊕((Int)⊕(Int×Int×Bool)))
  | (l,a)=>(bif decide (a<(j.length:Int))then some (decide ((0:Int)≤l))else some false).bind fun t=>bif t then(((ix j a).bind fun c=>(fJ n c.f0 c.f1 c.f2 c.f3 c.f4).bind fun m=>(lK n m).bind fun o=>bif !o then some (.inl ((-1):Int))else(ix j a).bind fun d=>(b d.f0 d.f1 d.f2 d.f3 d.f4 true (IntKind.wrap .i64 (s - (1:Int))) l).bind fun g=>bif decide ((0:Int)≤g)then(ix j a).bind fun f=>(b f.f5 f.f6 f.f7 f.f8 f.f9 false (IntKind.wrap .i64 (s - (1:Int))) g).bind fun p=>some (.inr p)else some (.inr g):Option ((Int)⊕(Int)))).bind fun q=>(match q with | .inl v=>some (.inr (.inl v)) | .inr u=>some (.inl (u,(IntKind.wrap .i64 (a+(1:Int))))))else some (.inr (.inr (l,a,false)))
def nX(n:Nat)(a:jH)(p:Int)(s:Int)(t:List UInt8)(c:List aC)(d:List aB)(f:Bool)(b:Int)(g:Int):Option (Int):=
  (bif decide (b<(1:Int))then some true else bif decide (g<(1:Int))then some true else(mO n p s t c d f).bind fun j=>some (!j)).bind fun l=>bif l then some ((-1):Int)else(loopN (eY n a f b c) n ((IntKind.wrap .i64 (g - (1:Int))),(0:Int))).bind fun(u,z,w)=>(loopN (eW n a b d) n (u,(0:Int))).bind fun q=>(match q with | .inl o=>some o | .inr (m,v,y)=>some m)
theorem Ce{n:Nat}{b:jH}(a:qV b):qV (nX n b):=by
 intro X Y Z a0 a1 a2 a3 a4 r h; unfold nX at h; refine bF Try.func87 rfl rfl<|gco 8 rfl<|oJn h [(11,22)] [] (fun m=>(.n,[(22,Bo m)],[])) (fun _ h=> ?_) (fun m h=> ?_)
 refine goo 3 rfl<|oIf 13 h rfl (fun U h=> ?_) (fun U h=> ?_)
 exact geo; refine goo 4 rfl<|oIf 17 h rfl (fun V h=> ?_) (fun V h=> ?_)
 exact geo; refine goo 2 rfl<|xC0 h (Cw ·) rfl (fun T h=> ?_)
 exact geo; refine cIf h rfl (fun W h=> ?_) (fun W h=> ?_)
 exact gec; refine gcc 12 rfl<|cLp h [(3,3),(9,9),(25,45)] [] (fun(v,y)=>([(3,I64 v),(9,I64 y)],[])) (fun(w,z,f)=>(.e 0,[(3,I64 w),(9,I64 z),(33,Bo f)],[])) rfl (fun st _ h=> ?_) (fun q h=> ?_)
 obtain⟨v,y⟩:=st; unfold eY at h; refine gco 3 rfl<|oJn h [(25,33)] [] (fun g=>(.n,[(33,Bo g)],[])) (fun _ h=> ?_) (fun g h=> ?_)
 refine goo 3 rfl<|xLn rfl<|goo 2 rfl<|oIf 30 h rfl (fun K h=> ?_) (fun K h=> ?_)
 exact geo; exact geo; refine cIf h rfl (fun L h=> ?_) (fun L h=> ?_)
 refine gco 7 rfl<|xIx h aO rfl (fun G h=> ?_)
 refine goo 5 rfl<|xC0 h (a ·) rfl (fun A h=> ?_)
 exact geo; exact gec; obtain⟨w,z,f⟩:=q; refine gcc 5 rfl<|cLp h [(3,3),(8,8),(10,10),(46,87)] [] (fun(o,c)=>([(3,I64 o),(10,I64 c)],[])) (fun q=>match q with | .inl t=>(.r,[(8,I64 t)],[]) | .inr (p,d,j)=>(.e 2,[(3,I64 p),(10,I64 d),(54,Bo j)],[])) rfl (fun st _ h=> ?_) (fun q h=> ?_)
 obtain⟨o,c⟩:=st; unfold eW at h; refine gco 3 rfl<|oJn h [(46,54)] [] (fun l=>(.n,[(54,Bo l)],[])) (fun _ h=> ?_) (fun l h=> ?_)
 refine goo 3 rfl<|xLn rfl<|goo 2 rfl<|oIf 51 h rfl (fun M h=> ?_) (fun M h=> ?_)
 exact geo; exact geo; refine cIf h rfl (fun N h=> ?_) (fun N h=> ?_)
 refine gcc 2 rfl<|cJn h [(3,3),(8,8),(57,87)] [] (fun q=>match q with | .inl u=>(.r,[(8,I64 u)],[]) | .inr s=>(.n,[(3,I64 s)],[])) (fun _ h=> ?_) (fun q h=> ?_)
 refine gco 7 rfl<|xIx h aJ rfl (fun H h=> ?_)
 refine goo 2 rfl<|xC0 h (vX ·) rfl (fun B h=> ?_)
 refine xC0 h (vV ·) rfl (fun C h=> ?_)
 refine goc 2 rfl<|cIf h rfl (fun Q h=> ?_) (fun Q h=> ?_)
 exact gec; refine gco 6 rfl<|xIx h aJ rfl (fun I h=> ?_)
 refine goo 5 rfl<|xC0 h (a ·) rfl (fun D h=> ?_)
 refine goc 7 rfl<|cIf h rfl (fun R h=> ?_) (fun R h=> ?_)
 refine gco 4 rfl<|xIx h aJ rfl (fun J h=> ?_)
 refine goo 5 rfl<|xC0 h (a ·) rfl (fun E h=> ?_)
 exact geo; exact gec; rcases q with u | s; exact en; exact gec; exact gec; rcases q with t | ⟨p,d,j⟩; exact en; exact gec
def AO:Nat→(jH)
  | 0=>(fun _ _ _ _ _ _ _ _=>none)
  | n+1=>nX n (AO n)
def cS(n:Nat):jH:=AO n
theorem Cr(n:Nat):qV (cS n):=by
  induction n with
  | zero=>exact(fun h=>nomatch h)
  | succ n ih=>exact Ce (n:=n) ih
theorem Eb{n:Nat}:qV (cS n):=(Cr n)
theorem Al(n:Nat):cS (n+1)=nX n (cS n):=rfl
abbrev Jx(p:Int→Int→(List UInt8)→(List aC)→(List aB)→Option (Bool)):Prop:= ∀ {a b:Int} {d:List UInt8} {f:List aC} {g:List aB} {r:Bool},p a b d f g=some r→Big Try.prog τ An (.fn 43 [.one (.ag [.int .i64 a, .int .i64 b, .str d, .sl (f.map aL), .sl (g.map aF)])] [] (.one (.c (.bool r))) none [] none)
def pY(n:Nat)(a:Int)(b:Int)(c:List UInt8)(d:List aC)(f:List aB):Option (Bool):=
  ((cS n a b c d f true (10:Int) (300:Int)).bind fun g=>bif decide ((0:Int)≤g)then(fJ n a b c d f).bind fun j=>(lK n j).bind fun l=>some l else some false).bind fun m=>some m
theorem Fg{n:Nat}:Jx (pY n):=by
 intro g j l m o r h; unfold pY at h; refine bF Try.func43 rfl rfl<|gco 7 rfl<|oJn h [(2,10)] [] (fun a=>(.n,[(2,Bo a)],[])) (fun _ h=> ?_) (fun a h=> ?_)
 refine xLd rfl<|xC0 h (Eb ·) rfl (fun b h=> ?_)
 refine goo 2 rfl<|oIf 6 h rfl (fun f h=> ?_) (fun f h=> ?_)
 refine xLd rfl<|xC0 h (vX ·) rfl (fun c h=> ?_)
 refine xC0 h (vV ·) rfl (fun d h=> ?_)
 exact geo; exact geo; exact gec
abbrev Fo(p:Int→Int→(List UInt8)→(List aA)→Option (Bool)):Prop:= ∀ {a b:Int} {d:List UInt8} {f:List aA} {r:Bool},p a b d f=some r→Big Try.prog τ An (.fn 129 [.one (.ag [.int .i64 a, .int .i64 b, .str d, .sl (f.map aD)])] [] (.one (.c (.bool r))) none [] none)
def mT(n:Nat)(a:Int)(b:Int)(c:List UInt8)(d:List aA):Option (Bool):=
  bif decide (a=(1:Int))then((cU n b ((-1000000000000):Int) (1000000000000:Int)).bind fun o=>bif o then bif decide (c=([]:List UInt8))then some (decide ((d.length:Int)=(0:Int)))else some false else some false).bind fun p=>some p else bif decide (a=(2:Int))then((lM n c).bind fun g=>bif g then bif decide (b=(0:Int))then some (decide ((d.length:Int)=(0:Int)))else some false else some false).bind fun s=>some s else bif decide (a=(3:Int))then((cU n b (0:Int) (1000000:Int)).bind fun f=>bif f then bif decide (c=([]:List UInt8))then some (decide ((d.length:Int)=(0:Int)))else some false else some false).bind fun j=>some j else bif decide (a=(4:Int))then(bif decide (b=(0:Int))then bif decide (c=([]:List UInt8))then some (decide ((d.length:Int)≤(20:Int)))else some false else some false).bind fun l=>some l else bif decide (a=(5:Int))then(bif decide (b=(0:Int))then bif decide (c=([]:List UInt8))then some (decide ((d.length:Int)≤(60:Int)))else some false else some false).bind fun m=>some m else some false
theorem DC{n:Nat}:Fo (mT n):=by
 intro G H I J r h; unfold mT at h; refine bF Try.func129 rfl rfl<|gcc 17 rfl<|cIf h rfl (fun A h=> ?_) (fun A h=> ?_)
 refine cRs<|oJn h [(2,2),(7,20)] [] (fun d=>(.n,[(2,Bo d)],[])) (fun _ h=> ?_) (fun d h=> ?_)
 refine goo 2 rfl<|xC0 h (dE ·) rfl (fun z h=> ?_)
 refine xMv rfl<|oIf 10 h rfl (fun B h=> ?_) (fun B h=> ?_)
 refine goo 5 rfl<|oIf 15 h rfl (fun C h=> ?_) (fun C h=> ?_)
 exact goo 2 rfl<|xLn rfl<|geo
 exact geo; exact geo; exact gec; refine gcc 5 rfl<|cIf h rfl (fun D h=> ?_) (fun D h=> ?_)
 refine cRs<|oJn h [(2,2),(23,36)] [] (fun f=>(.n,[(2,Bo f)],[])) (fun _ h=> ?_) (fun f h=> ?_)
 refine goo 2 rfl<|xC0 h (vY ·) rfl (fun y h=> ?_)
 refine xMv rfl<|oIf 26 h rfl (fun E h=> ?_) (fun E h=> ?_)
 refine goo 5 rfl<|oIf 31 h rfl (fun j h=> ?_) (fun j h=> ?_)
 exact goo 2 rfl<|xLn rfl<|geo
 exact geo; exact geo; exact gec; refine gcc 5 rfl<|cIf h rfl (fun l h=> ?_) (fun l h=> ?_)
 refine cRs<|oJn h [(2,2),(39,52)] [] (fun a=>(.n,[(2,Bo a)],[])) (fun _ h=> ?_) (fun a h=> ?_)
 refine goo 2 rfl<|xC0 h (dE ·) rfl (fun g h=> ?_)
 refine xMv rfl<|oIf 42 h rfl (fun m h=> ?_) (fun m h=> ?_)
 refine goo 5 rfl<|oIf 47 h rfl (fun o h=> ?_) (fun o h=> ?_)
 exact goo 2 rfl<|xLn rfl<|geo
 exact geo; exact geo; exact gec; refine gcc 5 rfl<|cIf h rfl (fun p h=> ?_) (fun p h=> ?_)
 refine cRs<|oJn h [(2,2),(55,68)] [] (fun b=>(.n,[(2,Bo b)],[])) (fun _ h=> ?_) (fun b h=> ?_)
 refine goo 4 rfl<|oIf 58 h rfl (fun s h=> ?_) (fun s h=> ?_)
 refine goo 5 rfl<|oIf 63 h rfl (fun t h=> ?_) (fun t h=> ?_)
 exact goo 2 rfl<|xLn rfl<|geo
 exact geo; exact geo; exact gec; refine gcc 5 rfl<|cIf h rfl (fun u h=> ?_) (fun u h=> ?_)
 refine cRs<|oJn h [(2,2),(71,84)] [] (fun c=>(.n,[(2,Bo c)],[])) (fun _ h=> ?_) (fun c h=> ?_)
 refine goo 4 rfl<|oIf 74 h rfl (fun v h=> ?_) (fun v h=> ?_)
 refine goo 5 rfl<|oIf 79 h rfl (fun w h=> ?_) (fun w h=> ?_)
 exact goo 2 rfl<|xLn rfl<|geo
 exact geo; exact geo; exact gec; exact gec
abbrev lO:Type:=Int→Int→(List UInt8)→(List aA)→Int→Int→Option (Int)
abbrev qW(p:lO):Prop:= ∀ {a b:Int} {d:List UInt8} {f:List aA} {g j:Int} {r:Int},p a b d f g j=some r→Big Try.prog τ An (.fn 90 [.one (.ag [.int .i64 a, .int .i64 b, .str d, .sl (f.map aD)]), .one (.c (.int .i64 g)), .one (.c (.int .i64 j))] [] (.one (.c (.int .i64 r))) none [] none)
def gX(n:Nat)(b:lO)(l:Int)(g:List aA):(Int×Int)→Option ((Int×Int)⊕((Int×Int×Bool)))
  | (d,c)=>(bif decide (c<(g.length:Int))then some (decide ((0:Int)≤d))else some false).bind fun j=>bif j then(ix g c).bind fun a=>(b a.f0 a.f1 a.f2 a.f3 (IntKind.wrap .i64 (l - (1:Int))) d).bind fun f=>some (.inl (f,(IntKind.wrap .i64 (c+(1:Int)))))else some (.inr (d,c,false))
def nY(n:Nat)(a:lO)(j:Int)(l:Int)(m:List UInt8)(b:List aA)(c:Int)(d:Int):Option (Int):=
  (bif decide (c<(1:Int))then some true else bif decide (d<(1:Int))then some true else(mT n j l m b).bind fun f=>some (!f)).bind fun g=>bif g then some ((-1):Int)else(loopN (gX n a c b) n ((IntKind.wrap .i64 (d - (1:Int))),(0:Int))).bind fun(o,s,p)=>some o
theorem Cg{n:Nat}{a:lO}(b:qW a):qW (nY n a):=by
 intro z A B C D E r h; unfold nY at h; refine bF Try.func90 rfl rfl<|gco 8 rfl<|oJn h [(8,18)] [] (fun f=>(.n,[(18,Bo f)],[])) (fun _ h=> ?_) (fun f h=> ?_)
 refine goo 3 rfl<|oIf 10 h rfl (fun v h=> ?_) (fun v h=> ?_)
 exact geo; refine goo 4 rfl<|oIf 14 h rfl (fun w h=> ?_) (fun w h=> ?_)
 exact geo; refine xLd rfl<|xC0 h (DC ·) rfl (fun u h=> ?_)
 exact geo; refine cIf h rfl (fun y h=> ?_) (fun y h=> ?_)
 exact gec; refine gcc 12 rfl<|cLp h [(2,2),(7,7),(21,40)] [] (fun(g,l)=>([(2,I64 g),(7,I64 l)],[])) (fun(j,m,c)=>(.e 0,[(2,I64 j),(7,I64 m),(29,Bo c)],[])) rfl (fun st _ h=> ?_) (fun q h=> ?_)
 obtain⟨g,l⟩:=st; unfold gX at h; refine gco 3 rfl<|oJn h [(21,29)] [] (fun d=>(.n,[(29,Bo d)],[])) (fun _ h=> ?_) (fun d h=> ?_)
 refine goo 3 rfl<|xLn rfl<|goo 2 rfl<|oIf 26 h rfl (fun s h=> ?_) (fun s h=> ?_)
 exact geo; exact geo; refine cIf h rfl (fun t h=> ?_) (fun t h=> ?_)
 refine gco 7 rfl<|xIx h aN rfl (fun p h=> ?_)
 refine goo 4 rfl<|xC0 h (b ·) rfl (fun o h=> ?_)
 exact geo; exact gec; obtain⟨j,m,c⟩:=q; exact gec
def AP:Nat→(lO)
  | 0=>(fun _ _ _ _ _ _=>none)
  | n+1=>nY n (AP n)
def fG(n:Nat):lO:=AP n
theorem Cs(n:Nat):qW (fG n):=by
  induction n with
  | zero=>exact(fun h=>nomatch h)
  | succ n ih=>exact Cg (n:=n) ih
theorem Ec{n:Nat}:qW (fG n):=(Cs n)
theorem Am(n:Nat):fG (n+1)=nY n (fG n):=rfl
abbrev IB(p:Int→Int→(List UInt8)→(List aA)→Option (Bool)):Prop:= ∀ {a b:Int} {d:List UInt8} {f:List aA} {r:Bool},p a b d f=some r→Big Try.prog τ An (.fn 44 [.one (.ag [.int .i64 a, .int .i64 b, .str d, .sl (f.map aD)])] [] (.one (.c (.bool r))) none [] none)
def oL(n:Nat)(b:Int)(c:Int)(d:List UInt8)(f:List aA):Option (Bool):=
  (fG n b c d f (8:Int) (300:Int)).bind fun a=>some (decide ((0:Int)≤a))
theorem Ee{n:Nat}:IB (oL n):=by
 intro b c d f r h; unfold oL at h; refine bF Try.func44 rfl rfl<|gco 8 rfl<|xC0 h (Ec ·) rfl (fun a h=> ?_)
 exact geo
abbrev lP:Type:=Int→Int→(List UInt8)→(List aA)→Option (Int×Int×(List UInt8)×(List aA))
abbrev qX(p:lP):Prop:= ∀ {a b:Int} {c:List UInt8} {d:List aA} {r:Int×Int×(List UInt8)×(List aA)},p a b c d=some r→Big Try.prog τ An (.fn 86 [.one (.ag [.int .i64 a, .int .i64 b, .str c, .sl (d.map aD)])] [] (.one (.ag [.int .i64 r.1, .int .i64 r.2.1, .str r.2.2.1, .sl (r.2.2.2.map aD)])) none [] none)
def kC(n:Nat)(c:lP)(f:List aA):(Int×Int×Int×(List UInt8)×(List aA))→Option ((Int×Int×Int×(List UInt8)×(List aA))⊕((Int×Bool×Int×Int×(List UInt8)×(List aA))))
  | (d,j,l,m,o)=>bif decide (d<(f.length:Int))then(ix f d).bind fun b=>(c b.f0 b.f1 b.f2 b.f3).bind fun a=>(wX 56 o ([aA.mk a.1 a.2.1 a.2.2.1 a.2.2.2]:List aA)).bind fun g=>some (.inl ((IntKind.wrap .i64 (d+(1:Int))),j,l,m,g))else some (.inr (d,false,j,l,m,o))
def nZ(n:Nat)(a:lP)(d:Int)(f:Int)(g:List UInt8)(j:List aA):Option (Int×Int×(List UInt8)×(List aA)):=
  (loopN (kC n a j) n ((0:Int),d,f,g,([]:List aA))).bind fun(p,o,l,m,b,c)=>some (l,m,b,c)
theorem Ch{n:Nat}{b:lP}(d:qX b):qX (nZ n b):=by
 intro B C D E r h; unfold nZ at h; refine bF Try.func86 rfl rfl<|gco 3 rfl<|xAz [.int .i64 0, .int .i64 0, .str [], .sl ([].map aD)] rfl<|goo 4 rfl<|xAz [.int .i64 0, .int .i64 0, .str [], .sl ([].map aD)] rfl<|goo 4 rfl<|LW (L:=([]:List aA)) (f:=aD) rfl rfl rfl rfl rfl rfl rfl<|goc 8 rfl<|cLp h [(4,4),(8,25)] [(3,3)] (fun(m,p,s,t,u)=>([(4,I64 m)],[(3,[.int .i64 p, .int .i64 s, .str t, .sl (u.map aD)])])) (fun(o,g,v,w,j,l)=>(.e 0,[(4,I64 o),(12,Bo g)],[(3,[.int .i64 v, .int .i64 w, .str j, .sl (l.map aD)])])) rfl (fun st _ h=> ?_) (fun q h=> ?_)
 obtain⟨m,p,s,t,u⟩:=st; unfold kC at h; refine gco 6 rfl<|xLn rfl<|goc 2 rfl<|cIf h rfl (fun z h=> ?_) (fun z h=> ?_)
 refine gco 9 rfl<|xIx h aN rfl (fun y h=> ?_)
 refine xLd rfl<|xC0 h (d ·) rfl (fun c h=> ?_)
 refine LW (L:=([aA.mk c.1 c.2.1 c.2.2.1 c.2.2.2]:List aA)) (f:=aD) rfl rfl rfl rfl (by simp only[List.map,cZ]<;>rfl) rfl rfl<|wAp (f:=aD) h rfl rfl rfl rfl rfl rfl rfl rfl rfl (fun a=>by rw[aN]; rfl) rfl (fun A h=> ?_)
 exact geo; exact gec; obtain⟨o,g,v,w,j,l⟩:=q; exact gec
def AQ:Nat→(lP)
  | 0=>(fun _ _ _ _=>none)
  | n+1=>nZ n (AQ n)
def fH(n:Nat):lP:=AQ n
theorem Ct(n:Nat):qX (fH n):=by
  induction n with
  | zero=>exact(fun h=>nomatch h)
  | succ n ih=>exact Ch (n:=n) ih
theorem Ed{n:Nat}:qX (fH n):=(Ct n)
theorem Ao(n:Nat):fH (n+1)=nZ n (fH n):=rfl
abbrev IC(p:(List aG)→(List UInt8)→Option (Int×Int×(List UInt8)×(List aA)×Bool)):Prop:= ∀ {a:List aG} {b:List UInt8} {r:Int×Int×(List UInt8)×(List aA)×Bool},p a b=some r→Big Try.prog τ An (.fn 105 [.one (.c (.sl (a.map aP))), .one (.c (.str b))] [] (.tup [.ag [.int .i64 r.1, .int .i64 r.2.1, .str r.2.2.1, .sl (r.2.2.2.1.map aD)], .c (.bool r.2.2.2.2)]) none [] none)
def gY(n:Nat)(d:List aG)(o:List UInt8):(Int×Int×Int×(List UInt8)×(List aA))→Option ((Int×Int×Int×(List UInt8)×(List aA))⊕((Bool×Int×Int×(List UInt8)×(List aA))⊕(Int×Bool×Int×Int×(List UInt8)×(List aA))))
  | (c,g,j,l,m)=>bif decide (c<(d.length:Int))then(ix d c).bind fun f=>bif decide (f.f0=o)then(ix d c).bind fun b=>(fH n b.f1 b.f2 b.f3 b.f4).bind fun a=>some (.inr (.inl (true,a.1,a.2.1,a.2.2.1,a.2.2.2)))else some (.inl ((IntKind.wrap .i64 (c+(1:Int))),g,j,l,m))else some (.inr (.inr (c,false,g,j,l,m)))
def oM(n:Nat)(b:List aG)(c:List UInt8):Option (Int×Int×(List UInt8)×(List aA)×Bool):=
  (loopN (gY n b c) n ((0:Int),(0:Int),(0:Int),([]:List UInt8),([]:List aA))).bind fun q=>(match q with | .inl (d,f,g,j,a)=>some (f,g,j,a,d) | .inr (m,l,o,p,s,t)=>some ((0:Int),(0:Int),([]:List UInt8),([]:List aA),false))
theorem Ef{n:Nat}:IC (oM n):=by
 intro D E r h; unfold oM at h; refine bF Try.func105 rfl rfl<|cRs<|xAz [.int .i64 0, .int .i64 0, .str [], .sl ([].map aD)] rfl<|goc 7 rfl<|cLp h [(4,25)] [(4,4)] (fun(m,o,p,s,t)=>([(4,Pt 4),(6,I64 m)],[(4,[.int .i64 o, .int .i64 p, .str s, .sl (t.map aD)])])) (fun q=>match q with | .inl (l,u,v,w,c)=>(.r,[(4,Pt 4),(5,Bo l)],[(4,[.int .i64 u, .int .i64 v, .str w, .sl (c.map aD)])]) | .inr (b,a,d,f,g,j)=>(.e 0,[(4,Pt 4),(6,I64 b),(10,Bo a)],[(4,[.int .i64 d, .int .i64 f, .str g, .sl (j.map aD)])])) rfl (fun st _ h=> ?_) (fun q h=> ?_)
 obtain⟨m,o,p,s,t⟩:=st; unfold gY at h; refine gco 5 rfl<|xLn rfl<|goc 2 rfl<|cIf h rfl (fun B h=> ?_) (fun B h=> ?_)
 refine gco 7 rfl<|xIx h lE rfl (fun z h=> ?_)
 refine goc 5 rfl<|cIf h rfl (fun C h=> ?_) (fun C h=> ?_)
 refine gco 4 rfl<|xIx h lE rfl (fun A h=> ?_)
 refine goo 2 rfl<|xC0 h (Ed ·) rfl (fun y h=> ?_)
 exact geo; exact gec; exact gec; rcases q with⟨l,u,v,w,c⟩ | ⟨b,a,d,f,g,j⟩; exact en; exact cRs<|wBd [.int .i64 0, .int .i64 0, .str [], .sl ([].map aD)] rfl rfl rfl rfl rfl rfl<|geo
abbrev jG:Type:=Int→Int→(List UInt8)→(List aC)→(List aB)→(List aG)→Option (Int×Int×(List UInt8)×(List aA)×Bool)
abbrev qU(p:jG):Prop:= ∀ {a b:Int} {d:List UInt8} {f:List aC} {g:List aB} {j:List aG} {r:Int×Int×(List UInt8)×(List aA)×Bool},p a b d f g j=some r→Big Try.prog τ An (.fn 66 [.one (.ag [.int .i64 a, .int .i64 b, .str d, .sl (f.map aL), .sl (g.map aF)]), .one (.c (.sl (j.map aP)))] [] (.tup [.ag [.int .i64 r.1, .int .i64 r.2.1, .str r.2.2.1, .sl (r.2.2.2.1.map aD)], .c (.bool r.2.2.2.2)]) none [] none)
def kB(n:Nat)(c:jG)(y:Int)(z:List aG)(m:List aC):(Int×Int×Int×(List UInt8)×(List aA)×Int×Int×(List UInt8)×(List aA))→Option ((Int×Int×Int×(List UInt8)×(List aA)×Int×Int×(List UInt8)×(List aA))⊕((Bool×Int×Int×(List UInt8)×(List aA))⊕(Int×Bool×Int×Int×(List UInt8)×(List aA)×Int×Int×(List UInt8)×(List aA))))
  | (l,u,v,w,o,d,f,g,j)=>bif decide (l<(m.length:Int))then(ix m l).bind fun b=>(c b.f0 b.f1 b.f2 b.f3 b.f4 z).bind fun a=>bif !a.2.2.2.2 then some (.inr (.inl (false,d,f,g,j)))else(bif decide (y=(6:Int))then some (decide (l=(IntKind.wrap .i64 ((m.length:Int) - (1:Int)))))else some false).bind fun p=>bif p then(wX 56 j a.2.2.2.1).bind fun s=>some (.inr (.inl ((decide (a.1=(5:Int))),d,f,g,s)))else(wX 56 j ([aA.mk a.1 a.2.1 a.2.2.1 a.2.2.2.1]:List aA)).bind fun t=>some (.inl ((IntKind.wrap .i64 (l+(1:Int))),u,v,w,o,d,f,g,t))else some (.inr (.inr (l,false,u,v,w,o,d,f,g,j)))
def qN(n:Nat)(d:jG)(y:Int)(z:List aG)(m:List aC):(Int×Int×Int×(List UInt8)×(List aA)×Int×Int×(List UInt8)×(List aA))→Option ((Int×Int×Int×(List UInt8)×(List aA)×Int×Int×(List UInt8)×(List aA))⊕((Bool×Int×Int×(List UInt8)×(List aA))⊕(Int×Bool×Int×Int×(List UInt8)×(List aA)×Int×Int×(List UInt8)×(List aA))))
  | (c,o,p,s,t,f,g,j,l)=>bif decide (c<(m.length:Int))then(ix m c).bind fun b=>(d b.f0 b.f1 b.f2 b.f3 b.f4 z).bind fun a=>bif !a.2.2.2.2 then some (.inr (.inl (false,f,g,j,l)))else(bif decide (y=(6:Int))then some (decide (c=(IntKind.wrap .i64 ((m.length:Int) - (1:Int)))))else some false).bind fun u=>bif u then(wX 56 l a.2.2.2.1).bind fun v=>some (.inr (.inl ((decide (a.1=(5:Int))),f,g,j,v)))else(wX 56 l ([aA.mk a.1 a.2.1 a.2.2.1 a.2.2.2.1]:List aA)).bind fun w=>some (.inl ((IntKind.wrap .i64 (c+(1:Int))),o,p,s,t,f,g,j,w))else some (.inr (.inr (c,false,o,p,s,t,f,g,j,l)))
def nW(n:Nat)(a:jG)(c:Int)(H:Int)(f:List UInt8)(g:List aC)(X:List aB)(d:List aG):Option (Int×Int×(List UInt8)×(List aA)×Bool):=
  bif decide (c=(1:Int))then some ((1:Int),H,([]:List UInt8),([]:List aA),true)else bif decide (c=(2:Int))then some ((2:Int),(0:Int),f,([]:List aA),true)else bif decide (c=(3:Int))then(oM n d f).bind fun b=>some (b.1,b.2.1,b.2.2.1,b.2.2.2.1,b.2.2.2.2)else bif decide (c=(4:Int))then(loopN (kB n a c d g) n ((0:Int),(0:Int),(0:Int),([]:List UInt8),([]:List aA),(4:Int),(0:Int),([]:List UInt8),([]:List aA))).bind fun q=>(match q with | .inl (j,m,o,p,s)=>some (m,o,p,s,j) | .inr (K,I,M,N,Q,R,y,z,A,B)=>some (y,z,A,B,true))else(loopN (qN n a c d g) n ((0:Int),(0:Int),(0:Int),([]:List UInt8),([]:List aA),(5:Int),(0:Int),([]:List UInt8),([]:List aA))).bind fun q=>(match q with | .inl (l,t,u,v,w)=>some (t,u,v,w,l) | .inr (L,J,T,U,V,W,C,D,E,G)=>some (C,D,E,G,true))
theorem Cd{n:Nat}{c:jG}(b:qU c):qU (nW n c):=by
 intro d8 b7 b8 d9 e0 e1 r h; unfold nW at h; refine bF Try.func66 rfl rfl<|gco 3 rfl<|xAz [.int .i64 0, .int .i64 0, .str [], .sl ([].map aD)] rfl<|goc 14 rfl<|cIf h rfl (fun q1 h=> ?_) (fun q1 h=> ?_)
 exact gco 4 rfl<|wBd [.int .i64 1, .int .i64 b7, .str [], .sl ([].map aD)] rfl rfl rfl rfl rfl rfl<|geo
 refine gcc 5 rfl<|cIf h rfl (fun q2 h=> ?_) (fun q2 h=> ?_)
 exact gco 4 rfl<|wBd [.int .i64 2, .int .i64 0, .str b8, .sl ([].map aD)] rfl rfl rfl rfl rfl rfl<|geo
 refine gcc 5 rfl<|cIf h rfl (fun q3 h=> ?_) (fun q3 h=> ?_)
 refine gco 5 rfl<|xC0 h (Ef ·) rfl (fun d3 h=> ?_)
 exact geo; refine gco 3 rfl<|wBd [.int .i64 5, .int .i64 0, .str [], .sl ([].map aD)] rfl rfl rfl rfl rfl rfl<|xAz [.int .i64 0, .int .i64 0, .str [], .sl ([].map aD)] rfl<|goc 9 rfl<|cIf h rfl (fun q5 h=> ?_) (fun q5 h=> ?_)
 refine gcc 9 rfl<|cLp h [(4,5),(7,9),(35,81)] [(4,4),(6,6),(8,8)] (fun(b3,b4,b5,b6,w,X,Y,Z,a0)=>([(4,Pt 4),(7,I64 b3)],[(4,[.int .i64 b4, .int .i64 b5, .str b6, .sl (w.map aD)]),(6,[.int .i64 X, .int .i64 Y, .str Z, .sl (a0.map aD)])])) (fun q=>match q with | .inl (p,y,z,A,B)=>(.r,[(4,Pt 4),(5,Bo p)],[(4,[.int .i64 y, .int .i64 z, .str A, .sl (B.map aD)])]) | .inr (t,j,C,D,E,G,a1,a2,a3,a4)=>(.e 1,[(4,Pt 4),(7,I64 t),(39,Bo j)],[(4,[.int .i64 C, .int .i64 D, .str E, .sl (G.map aD)]),(6,[.int .i64 a1, .int .i64 a2, .str a3, .sl (a4.map aD)])])) rfl (fun st _ h=> ?_) (fun q h=> ?_)
 obtain⟨b3,b4,b5,b6,w,X,Y,Z,a0⟩:=st; unfold kB at h; refine gco 6 rfl<|xLn rfl<|goc 2 rfl<|cIf h rfl (fun c1 h=> ?_) (fun c1 h=> ?_)
 refine gco 8 rfl<|xIx h aO rfl (fun b9 h=> ?_)
 refine goo 2 rfl<|xC0 h (b ·) rfl (fun d h=> ?_)
 refine goo 3 rfl<|xAz [.int .i64 0, .int .i64 0, .str [], .sl ([].map aD)] rfl<|goc 9 rfl<|cIf h rfl (fun c2 h=> ?_) (fun c2 h=> ?_)
 exact gec; refine gco 4 rfl<|oJn h [(55,65)] [] (fun m=>(.n,[(65,Bo m)],[])) (fun _ h=> ?_) (fun m h=> ?_)
 refine goo 4 rfl<|oIf 58 h rfl (fun c3 h=> ?_) (fun c3 h=> ?_)
 exact goo 3 rfl<|xLn rfl<|geo
 exact geo; refine cIf h rfl (fun c4 h=> ?_) (fun c4 h=> ?_)
 refine gco 6 rfl<|wAp (f:=aD) h rfl rfl rfl rfl rfl rfl rfl rfl rfl (fun a=>by rw[aN]; rfl) rfl (fun c9 h=> ?_)
 exact geo; refine gco 5 rfl<|LW (L:=([aA.mk d.1 d.2.1 d.2.2.1 d.2.2.2.1]:List aA)) (f:=aD) rfl rfl rfl rfl (by simp only[List.map,cZ]<;>rfl) rfl rfl<|wAp (f:=aD) h rfl rfl rfl rfl rfl rfl rfl rfl rfl (fun a=>by rw[aN]; rfl) rfl (fun d1 h=> ?_)
 exact geo; exact gec; rcases q with⟨p,y,z,A,B⟩ | ⟨t,j,C,D,E,G,a1,a2,a3,a4⟩; exact en; exact gec; refine gcc 6 rfl<|cLp h [(4,5),(7,9),(35,81)] [(4,4),(6,6),(8,8)] (fun(u,H,I,J,K,a5,a6,a7,a8)=>([(4,Pt 4),(7,I64 u)],[(4,[.int .i64 H, .int .i64 I, .str J, .sl (K.map aD)]),(6,[.int .i64 a5, .int .i64 a6, .str a7, .sl (a8.map aD)])])) (fun q=>match q with | .inl (s,M,N,Q,R)=>(.r,[(4,Pt 4),(5,Bo s)],[(4,[.int .i64 M, .int .i64 N, .str Q, .sl (R.map aD)])]) | .inr (v,l,T,U,V,W,a9,b0,b1,b2)=>(.e 1,[(4,Pt 4),(7,I64 v),(39,Bo l)],[(4,[.int .i64 T, .int .i64 U, .str V, .sl (W.map aD)]),(6,[.int .i64 a9, .int .i64 b0, .str b1, .sl (b2.map aD)])])) rfl (fun st _ h=> ?_) (fun q h=> ?_)
 obtain⟨u,H,I,J,K,a5,a6,a7,a8⟩:=st; unfold qN at h; refine gco 6 rfl<|xLn rfl<|goc 2 rfl<|cIf h rfl (fun c5 h=> ?_) (fun c5 h=> ?_)
 refine gco 8 rfl<|xIx h aO rfl (fun c0 h=> ?_)
 refine goo 2 rfl<|xC0 h (b ·) rfl (fun g h=> ?_)
 refine goo 3 rfl<|xAz [.int .i64 0, .int .i64 0, .str [], .sl ([].map aD)] rfl<|goc 9 rfl<|cIf h rfl (fun c6 h=> ?_) (fun c6 h=> ?_)
 exact gec; refine gco 4 rfl<|oJn h [(55,65)] [] (fun o=>(.n,[(65,Bo o)],[])) (fun _ h=> ?_) (fun o h=> ?_)
 refine goo 4 rfl<|oIf 58 h rfl (fun c7 h=> ?_) (fun c7 h=> ?_)
 exact goo 3 rfl<|xLn rfl<|geo
 exact geo; refine cIf h rfl (fun c8 h=> ?_) (fun c8 h=> ?_)
 refine gco 6 rfl<|wAp (f:=aD) h rfl rfl rfl rfl rfl rfl rfl rfl rfl (fun a=>by rw[aN]; rfl) rfl (fun d0 h=> ?_)
 exact geo; refine gco 5 rfl<|LW (L:=([aA.mk g.1 g.2.1 g.2.2.1 g.2.2.2.1]:List aA)) (f:=aD) rfl rfl rfl rfl (by simp only[List.map,cZ]<;>rfl) rfl rfl<|wAp (f:=aD) h rfl rfl rfl rfl rfl rfl rfl rfl rfl (fun a=>by rw[aN]; rfl) rfl (fun d2 h=> ?_)
 exact geo; exact gec; rcases q with⟨s,M,N,Q,R⟩ | ⟨v,l,T,U,V,W,a9,b0,b1,b2⟩; exact en; exact gec
def AN:Nat→(jG)
  | 0=>(fun _ _ _ _ _ _=>none)
  | n+1=>nW n (AN n)
def iA(n:Nat):jG:=AN n
theorem Cq(n:Nat):qU (iA n):=by
  induction n with
  | zero=>exact(fun h=>nomatch h)
  | succ n ih=>exact Cd (n:=n) ih
theorem Ea{n:Nat}:qU (iA n):=(Cq n)
theorem Ak(n:Nat):iA (n+1)=nW n (iA n):=rfl
abbrev LS(p:Int→Int→(List UInt8)→(List aC)→(List aB)→(List aG)→Option (Int×Int×(List UInt8)×(List aA)×Bool)):Prop:= ∀ {a b:Int} {d:List UInt8} {f:List aC} {g:List aB} {j:List aG} {r:Int×Int×(List UInt8)×(List aA)×Bool},p a b d f g j=some r→Big Try.prog τ An (.fn 27 [.one (.ag [.int .i64 a, .int .i64 b, .str d, .sl (f.map aL), .sl (g.map aF)]), .one (.c (.sl (j.map aP)))] [] (.tup [.ag [.int .i64 r.1, .int .i64 r.2.1, .str r.2.2.1, .sl (r.2.2.2.1.map aD)], .c (.bool r.2.2.2.2)]) none [] none)
def rG(n:Nat)(b:Int)(c:Int)(d:List UInt8)(f:List aC)(g:List aB)(o:List aG):Option (Int×Int×(List UInt8)×(List aA)×Bool):=
  (pY n b c d f g).bind fun m=>bif !m then some ((0:Int),(0:Int),([]:List UInt8),([]:List aA),false)else(iA n b c d f g o).bind fun a=>(bif !a.2.2.2.2 then some true else(oL n a.1 a.2.1 a.2.2.1 a.2.2.2.1).bind fun j=>some (!j)).bind fun l=>bif l then some ((0:Int),(0:Int),([]:List UInt8),([]:List aA),false)else some (a.1,a.2.1,a.2.2.1,a.2.2.2.1,true)
theorem Hw{n:Nat}:LS (rG n):=by
 intro l m o p s t r h; unfold rG at h; refine bF Try.func27 rfl rfl<|gco 3 rfl<|xAz [.int .i64 0, .int .i64 0, .str [], .sl ([].map aD)] rfl<|goo 6 rfl<|xC0 h (Fg ·) rfl (fun d h=> ?_)
 refine goc 2 rfl<|cIf h rfl (fun f h=> ?_) (fun f h=> ?_)
 exact cRs<|wBd [.int .i64 0, .int .i64 0, .str [], .sl ([].map aD)] rfl rfl rfl rfl rfl rfl<|geo
 refine gco 5 rfl<|xC0 h (Ea ·) rfl (fun b h=> ?_)
 refine goo 3 rfl<|xAz [.int .i64 0, .int .i64 0, .str [], .sl ([].map aD)] rfl<|goo 6 rfl<|oJn h [(18,24)] [] (fun a=>(.n,[(24,Bo a)],[])) (fun _ h=> ?_) (fun a h=> ?_)
 refine goo 3 rfl<|oIf 20 h rfl (fun g h=> ?_) (fun g h=> ?_)
 exact geo; refine xLd rfl<|xC0 h (Ee ·) rfl (fun c h=> ?_)
 exact geo; refine cIf h rfl (fun j h=> ?_) (fun j h=> ?_)
 exact cRs<|wBd [.int .i64 0, .int .i64 0, .str [], .sl ([].map aD)] rfl rfl rfl rfl rfl rfl<|geo
 exact gec
abbrev iR:Type:=(List aM)→Option ((List aA))
abbrev mX(p:iR):Prop:= ∀ {a:List aM} {r:(List aA)},p a=some r→Big Try.prog τ An (.fn 11 [.one (.c (.sl (a.map bG)))] [] (.one (.c (.sl (r.map aD)))) none [] none)
abbrev iD:Type:=Int→Int→(List UInt8)→(List aM)→Option (Int×Int×(List UInt8)×(List aA))
abbrev oV(p:iD):Prop:= ∀ {a b:Int} {c:List UInt8} {d:List aM} {r:Int×Int×(List UInt8)×(List aA)},p a b c d=some r→Big Try.prog τ An (.fn 48 [.one (.ag [.int .i64 a, .int .i64 b, .str c, .sl (d.map bG)])] [] (.one (.ag [.int .i64 r.1, .int .i64 r.2.1, .str r.2.2.1, .sl (r.2.2.2.map aD)])) none [] none)
def lU(n:Nat)(b:iD)(g:List aM):((List aA)×Int)→Option (((List aA)×Int)⊕(((List aA)×Int×Bool)))
  | (f,a)=>bif decide (a<(g.length:Int))then(ix g a).bind fun d=>(b d.f0 d.f1 d.f2 d.f3).bind fun c=>(ix f a).bind fun l=>(some (f.set (Int.toNat a) (aA.mk c.1 c.2.1 c.2.2.1 c.2.2.2))).bind fun j=>some (.inl (j,(IntKind.wrap .i64 (a+(1:Int)))))else some (.inr (f,a,false))
def mI(n:Nat)(c:iR)(a:iD)(b:List aM):Option ((List aA)):=
  (ck (decide (0≤(b.length:Int)∧(b.length:Int)≤maxLen∧56*(b.length:Int)≤281474976710656))).bind fun _=>(loopN (lU n a b) n ((List.replicate (Int.toNat (b.length:Int)) (aA.mk (0:Int) (0:Int) ([]:List UInt8) ([]:List aA))),(0:Int))).bind fun(d,g,f)=>some d
theorem Bg{n:Nat}{b:iR}(j:mX b){c:iD}(d:oV c):mX (mI n b c):=by
 intro A r h; unfold mI at h; refine bF Try.func11 rfl rfl<|cRs<|wAe (Li aD []) rfl rfl rfl rfl<|goo 4 rfl<|xLn rfl<|oCk h (fun t h=> ?_)
 refine wMk (z:=aA.mk (0:Int) (0:Int) ([]:List UInt8) ([]:List aA)) (f:=aD) t rfl rfl rfl rfl rfl rfl rfl<|goc 7 rfl<|cLp h [(3,4),(8,21)] [] (fun(m,p)=>([(3,Li aD m),(4,I64 p)],[])) (fun(o,s,l)=>(.e 0,[(3,Li aD o),(4,I64 s),(11,Bo l)],[])) rfl (fun st _ h=> ?_) (fun q h=> ?_)
 obtain⟨m,p⟩:=st; unfold lU at h; refine gco 5 rfl<|xLn rfl<|goc 2 rfl<|cIf h rfl (fun y h=> ?_) (fun y h=> ?_)
 refine gco 4 rfl<|wAl rfl rfl rfl rfl<|goo 3 rfl<|xIx h lB rfl (fun v h=> ?_)
 refine xLd rfl<|xC0 h (d ·) rfl (fun g h=> ?_)
 refine wIp (f:=aD) h rfl rfl rfl rfl rfl rfl (fun a=>by rw[aN]; rfl) rfl (fun u ke21_10 h=> ?_)
 refine Bc (f:=aD) (v':=aA.mk g.1 g.2.1 g.2.2.1 g.2.2.2) h ke21_10 rfl rfl rfl rfl rfl rfl rfl (by rw[aN]; rfl) (by rw[aN,cZ]; rfl) (fun w h=> ?_)
 exact geo; exact gec; obtain⟨o,s,l⟩:=q; exact gec
def oB(n:Nat)(a:iR)(b:iD)(d:Int)(f:Int)(g:List UInt8)(j:List aM):Option (Int×Int×(List UInt8)×(List aA)):=
  (a j).bind fun c=>some (d,f,g,c)
theorem Cj{n:Nat}{a:iR}(c:mX a){b:iD}(d:oV b):oV (oB n a b):=by
 intro g j l m r h; unfold oB at h; refine bF Try.func48 rfl rfl<|gco 3 rfl<|xAz [.int .i64 0, .int .i64 0, .str [], .sl ([].map aD)] rfl<|oRs<|xAz [.int .i64 0, .int .i64 0, .str [], .sl ([].map aD)] rfl<|goo 26 rfl<|xC0 h (c ·) rfl (fun f h=> ?_)
 exact geo
def kH:Nat→(iR)×(iD)
  | 0=>((fun _=>none),(fun _ _ _ _=>none))
  | n+1=>(mI n ((kH n).1) ((kH n).2),oB n ((kH n).1) ((kH n).2))
def kJ(n:Nat):iR:=(kH n).1
def iB(n:Nat):iD:=(kH n).2
theorem tM(n:Nat):mX (kJ n)∧oV (iB n):=by
  induction n with
  | zero=>exact⟨(fun h=>nomatch h),(fun h=>nomatch h)⟩
  | succ n ih=>exact⟨Bg (n:=n) (ih.1) (ih.2),Cj (n:=n) (ih.1) (ih.2)⟩
theorem OH{n:Nat}:mX (kJ n):=(tM n).1
theorem Eg{n:Nat}:oV (iB n):=(tM n).2
theorem zA(n:Nat):kJ (n+1)=mI n (kJ n) (iB n):=rfl
theorem Aq(n:Nat):iB (n+1)=oB n (kJ n) (iB n):=rfl
abbrev IE(p:(List UInt8)→Int→Int→(List UInt8)→(List aM)→Option ((List UInt8)×Int×Int×(List UInt8)×(List aA))):Prop:= ∀ {a:List UInt8} {b c:Int} {d:List UInt8} {f:List aM} {r:(List UInt8)×Int×Int×(List UInt8)×(List aA)},p a b c d f=some r→Big Try.prog τ An (.fn 67 [.one (.ag [.str a, .int .i64 b, .int .i64 c, .str d, .sl (f.map bG)])] [] (.one (.ag [.str r.1, .int .i64 r.2.1, .int .i64 r.2.2.1, .str r.2.2.2.1, .sl (r.2.2.2.2.map aD)])) none [] none)
def oN(n:Nat)(b:List UInt8)(c:Int)(d:Int)(f:List UInt8)(g:List aM):Option ((List UInt8)×Int×Int×(List UInt8)×(List aA)):=
  (iB n c d f g).bind fun a=>some (b,a.1,a.2.1,a.2.2.1,a.2.2.2)
theorem Eh{n:Nat}:IE (oN n):=by
 intro b c d f g r h; unfold oN at h; refine bF Try.func67 rfl rfl<|gco 3 rfl<|xAz [.str [], .int .i64 0, .int .i64 0, .str [], .sl ([].map aD)] rfl<|oRs<|xAz [.str [], .int .i64 0, .int .i64 0, .str [], .sl ([].map aD)] rfl<|goo 12 rfl<|xC0 h (Eg ·) rfl (fun a h=> ?_)
 exact geo
abbrev Fq(p:(List S_laws_Bind)→Option ((List aG))):Prop:= ∀ {a:List S_laws_Bind} {r:(List aG)},p a=some r→Big Try.prog τ An (.fn 28 [.one (.c (.sl (a.map rS_laws_Bind)))] [] (.one (.c (.sl (r.map aP)))) none [] none)
def lW(n:Nat)(f:List S_laws_Bind):((List aG)×Int)→Option (((List aG)×Int)⊕(((List aG)×Int×Bool)))
  | (d,c)=>bif decide (c<(f.length:Int))then(ix f c).bind fun b=>(oN n b.f0 b.f1 b.f2 b.f3 b.f4).bind fun a=>(ix d c).bind fun j=>(some (d.set (Int.toNat c) (aG.mk a.1 a.2.1 a.2.2.1 a.2.2.2.1 a.2.2.2.2))).bind fun g=>some (.inl (g,(IntKind.wrap .i64 (c+(1:Int)))))else some (.inr (d,c,false))
def fN(n:Nat)(a:List S_laws_Bind):Option ((List aG)):=
  (ck (decide (0≤(a.length:Int)∧(a.length:Int)≤maxLen∧72*(a.length:Int)≤281474976710656))).bind fun _=>(loopN (lW n a) n ((List.replicate (Int.toNat (a.length:Int)) (aG.mk ([]:List UInt8) (0:Int) (0:Int) ([]:List UInt8) ([]:List aA))),(0:Int))).bind fun(b,d,c)=>some b
theorem nI{n:Nat}:Fq (fN n):=by
 intro t r h; unfold fN at h; refine bF Try.func28 rfl rfl<|cRs<|wAe (Li aP []) rfl rfl rfl rfl<|goo 4 rfl<|xLn rfl<|oCk h (fun l h=> ?_)
 refine wMk (z:=aG.mk ([]:List UInt8) (0:Int) (0:Int) ([]:List UInt8) ([]:List aA)) (f:=aP) l rfl rfl rfl rfl rfl rfl rfl<|goc 7 rfl<|cLp h [(3,4),(8,21)] [] (fun(c,g)=>([(3,Li aP c),(4,I64 g)],[])) (fun(d,j,b)=>(.e 0,[(3,Li aP d),(4,I64 j),(11,Bo b)],[])) rfl (fun st _ h=> ?_) (fun q h=> ?_)
 obtain⟨c,g⟩:=st; unfold lW at h; refine gco 5 rfl<|xLn rfl<|goc 2 rfl<|cIf h rfl (fun s h=> ?_) (fun s h=> ?_)
 refine gco 4 rfl<|wAl rfl rfl rfl rfl<|goo 3 rfl<|xIx h vU rfl (fun o h=> ?_)
 refine xLd rfl<|xC0 h (Eh ·) rfl (fun a h=> ?_)
 refine wIp (f:=aP) h rfl rfl rfl rfl rfl rfl (fun _=>rfl) rfl (fun m ke21_10 h=> ?_)
 refine Bc (f:=aP) (v':=aG.mk a.1 a.2.1 a.2.2.1 a.2.2.2.1 a.2.2.2.2) h ke21_10 rfl rfl rfl rfl rfl rfl rfl rfl rfl (fun p h=> ?_)
 exact geo; exact gec; obtain⟨d,j,b⟩:=q; exact gec
abbrev Fw(p:Int→Option (Bool)):Prop:= ∀ {a:Int} {r:Bool},p a=some r→Big Try.prog τ An (.fn 144 [.one (.c (.int .u8 a))] [] (.one (.c (.bool r))) none [] none)
def iP(n:Nat)(a:Int):Option (Bool):=
  (bif decide ((97:Int)≤a)then some (decide (a≤(122:Int)))else some false).bind fun b=>some b
theorem uK{n:Nat}:Fw (iP n):=by
 intro c r h; unfold iP at h; refine bF Try.func144 rfl rfl<|gco 6 rfl<|oJn h [(2,8)] [] (fun a=>(.n,[(2,Bo a)],[])) (fun _ h=> ?_) (fun a h=> ?_)
 refine goo 3 rfl<|oIf 5 h rfl (fun b h=> ?_) (fun b h=> ?_)
 exact geo; exact geo; exact gec
abbrev Ez(p:Int→Option (Bool)):Prop:= ∀ {a:Int} {r:Bool},p a=some r→Big Try.prog τ An (.fn 145 [.one (.c (.int .u8 a))] [] (.one (.c (.bool r))) none [] none)
def fY(n:Nat)(a:Int):Option (Bool):=
  (bif decide ((48:Int)≤a)then some (decide (a≤(57:Int)))else some false).bind fun b=>some b
theorem tP{n:Nat}:Ez (fY n):=by
 intro c r h; unfold fY at h; refine bF Try.func145 rfl rfl<|gco 6 rfl<|oJn h [(2,8)] [] (fun a=>(.n,[(2,Bo a)],[])) (fun _ h=> ?_) (fun a h=> ?_)
 refine goo 3 rfl<|oIf 5 h rfl (fun b h=> ?_) (fun b h=> ?_)
 exact geo; exact geo; exact gec
abbrev Fy(p:Int→Int→Int→Option (Bool)):Prop:= ∀ {a b d:Int} {r:Bool},p a b d=some r→Big Try.prog τ An (.fn 146 [.one (.c (.int .i64 a)), .one (.c (.int .i64 b)), .one (.c (.int .i64 d))] [] (.one (.c (.bool r))) none [] none)
def dU(n:Nat)(a:Int)(b:Int)(c:Int):Option (Bool):=
  (bif decide (b≤a)then some (decide (a≤c))else some false).bind fun d=>some d
theorem hI{n:Nat}:Fy (dU n):=by
 intro c d f r h; unfold dU at h; refine bF Try.func146 rfl rfl<|gco 6 rfl<|oJn h [(6,14)] [] (fun a=>(.n,[(6,Bo a)],[])) (fun _ h=> ?_) (fun a h=> ?_)
 refine goo 4 rfl<|oIf 10 h rfl (fun b h=> ?_) (fun b h=> ?_)
 exact geo; exact geo; exact gec
abbrev IL(p:(List UInt8)→Option (Bool)):Prop:= ∀ {a:List UInt8} {r:Bool},p a=some r→Big Try.prog τ An (.fn 120 [.one (.c (.str a))] [] (.one (.c (.bool r))) none [] none)
def nE(n:Nat)(b:List UInt8):(Int)→Option ((Int)⊕((Bool)⊕(Int×Bool)))
  | a=>bif decide (a<(b.length:Int))then((ixs b a).bind fun j=>(iP n j).bind fun g=>bif !g then bif decide (a=(0:Int))then some true else(ixs b a).bind fun d=>(fY n d).bind fun c=>bif !c then(ixs b a).bind fun f=>some (!decide (f=(95:Int)))else some false else some false).bind fun l=>bif l then some (.inr (.inl false))else some (.inl (IntKind.wrap .i64 (a+(1:Int))))else some (.inr (.inr (a,false)))
def lN(n:Nat)(b:List UInt8):Option (Bool):=
  (loopN (nE n b) n (0:Int)).bind fun q=>(match q with | .inl c=>some c | .inr (d,f)=>(dU n (b.length:Int) (1:Int) (20:Int)).bind fun a=>some a)
theorem vZ{n:Nat}:IL (lN n):=by
 intro y r h; unfold lN at h; refine bF Try.func120 rfl rfl<|gcc 9 rfl<|cLp h [(2,31)] [] (fun c=>([(3,I64 c)],[])) (fun q=>match q with | .inl b=>(.r,[(2,Bo b)],[]) | .inr (d,f)=>(.e 0,[(3,I64 d),(7,Bo f)],[])) rfl (fun c _ h=> ?_) (fun q h=> ?_)
 unfold nE at h; refine gco 5 rfl<|xLs rfl<|goc 2 rfl<|cIf h rfl (fun v h=> ?_) (fun v h=> ?_)
 refine gco 5 rfl<|oJn h [(10,31)] [] (fun a=>(.n,[(31,Bo a)],[])) (fun _ h=> ?_) (fun a h=> ?_)
 refine goo 2 rfl<|Nf h rfl rfl rfl rfl rfl (fun u h=> ?_)
 refine xC0 h (uK ·) rfl (fun t h=> ?_)
 refine goo 2 rfl<|oIf 15 h rfl (fun w h=> ?_) (fun w h=> ?_)
 refine goo 3 rfl<|oIf 18 h rfl (fun o h=> ?_) (fun o h=> ?_)
 exact geo; refine goo 2 rfl<|Nf h rfl rfl rfl rfl rfl (fun l h=> ?_)
 refine xC0 h (tP ·) rfl (fun g h=> ?_)
 refine goo 2 rfl<|oIf 24 h rfl (fun p h=> ?_) (fun p h=> ?_)
 refine goo 2 rfl<|Nf h rfl rfl rfl rfl rfl (fun m h=> ?_)
 exact geo; exact geo; exact geo; refine cIf h rfl (fun s h=> ?_) (fun s h=> ?_)
 exact gec; exact gec; exact gec; rcases q with b | ⟨d,f⟩; exact en; refine gco 3 rfl<|xLs rfl<|xC0 h (hI ·) rfl (fun j h=> ?_)
 exact geo
abbrev Fu(p:(List UInt8)→Option (Bool)):Prop:= ∀ {a:List UInt8} {r:Bool},p a=some r→Big Try.prog τ An (.fn 79 [.one (.c (.str a))] [] (.one (.c (.bool r))) none [] none)
def kM(n:Nat)(a:List UInt8):Option (Bool):=
  ((lN n a).bind fun b=>bif b then bif !decide (a=([99,97,115,101]:List UInt8))then bif !decide (a=([111,102]:List UInt8))then some (!decide (a=([101,110,100]:List UInt8)))else some false else some false else some false).bind fun c=>some c
theorem uJ{n:Nat}:Fu (kM n):=by
 intro g r h; unfold kM at h; refine bF Try.func79 rfl rfl<|gco 6 rfl<|oJn h [(2,16)] [] (fun a=>(.n,[(2,Bo a)],[])) (fun _ h=> ?_) (fun a h=> ?_)
 refine xMv rfl<|xC0 h (vZ ·) rfl (fun b h=> ?_)
 refine xMv rfl<|oIf 5 h rfl (fun c h=> ?_) (fun c h=> ?_)
 refine goo 4 rfl<|oIf 9 h rfl (fun d h=> ?_) (fun d h=> ?_)
 refine goo 4 rfl<|oIf 13 h rfl (fun f h=> ?_) (fun f h=> ?_)
 exact geo; exact geo; exact geo; exact geo; exact gec
abbrev Fx(p:Int→Option (Bool)):Prop:= ∀ {a:Int} {r:Bool},p a=some r→Big Try.prog τ An (.fn 168 [.one (.c (.int .u8 a))] [] (.one (.c (.bool r))) none [] none)
def kN(n:Nat)(a:Int):Option (Bool):=
  (bif decide ((65:Int)≤a)then bif decide (a≤(90:Int))then some true else some (decide (a=(95:Int)))else some (decide (a=(95:Int)))).bind fun b=>some b
theorem uL{n:Nat}:Fx (kN n):=by
 intro d r h; unfold kN at h; refine bF Try.func168 rfl rfl<|gco 6 rfl<|oJn h [(2,12)] [] (fun a=>(.n,[(2,Bo a)],[])) (fun _ h=> ?_) (fun a h=> ?_)
 refine goo 3 rfl<|oIf 5 h rfl (fun b h=> ?_) (fun b h=> ?_)
 refine goo 4 rfl<|oIf 9 h rfl (fun c h=> ?_) (fun c h=> ?_)
 exact geo; exact geo; exact geo; exact gec
abbrev Bs(p:Int→Option (Bool)):Prop:= ∀ {a:Int} {r:Bool},p a=some r→Big Try.prog τ An (.fn 167 [.one (.c (.int .u8 a))] [] (.one (.c (.bool r))) none [] none)
def jB(n:Nat)(a:Int):Option (Bool):=
  ((iP n a).bind fun c=>bif c then some true else(kN n a).bind fun d=>bif d then some true else(fY n a).bind fun b=>some b).bind fun f=>some f
theorem zK{n:Nat}:Bs (jB n):=by
 intro j r h; unfold jB at h; refine bF Try.func167 rfl rfl<|gco 6 rfl<|oJn h [(2,12)] [] (fun a=>(.n,[(2,Bo a)],[])) (fun _ h=> ?_) (fun a h=> ?_)
 refine xMv rfl<|xC0 h (uK ·) rfl (fun c h=> ?_)
 refine xMv rfl<|oIf 5 h rfl (fun f h=> ?_) (fun f h=> ?_)
 exact geo; refine xMv rfl<|xC0 h (uL ·) rfl (fun d h=> ?_)
 refine goo 2 rfl<|oIf 9 h rfl (fun g h=> ?_) (fun g h=> ?_)
 exact geo; refine xMv rfl<|xC0 h (tP ·) rfl (fun b h=> ?_)
 exact geo; exact gec
abbrev Jy(p:(List UInt8)→Option (Bool)):Prop:= ∀ {a:List UInt8} {r:Bool},p a=some r→Big Try.prog τ An (.fn 156 [.one (.c (.str a))] [] (.one (.c (.bool r))) none [] none)
def oY(n:Nat)(b:List UInt8):(Int)→Option ((Int)⊕((Bool)⊕(Int×Bool)))
  | a=>bif decide (a<(b.length:Int))then(ixs b a).bind fun d=>(jB n d).bind fun c=>bif !c then some (.inr (.inl false))else some (.inl (IntKind.wrap .i64 (a+(1:Int))))else some (.inr (.inr (a,false)))
def pZ(n:Nat)(a:List UInt8):Option (Bool):=
  (loopN (oY n a) n (0:Int)).bind fun q=>(match q with | .inl f=>some f | .inr (j,l)=>((dU n (a.length:Int) (1:Int) (20:Int)).bind fun b=>bif b then(ixs a (0:Int)).bind fun d=>(kN n d).bind fun c=>some c else some false).bind fun g=>some g)
theorem Fh{n:Nat}:Jy (pZ n):=by
 intro u r h; unfold pZ at h; refine bF Try.func156 rfl rfl<|gcc 9 rfl<|cLp h [(2,14)] [] (fun c=>([(3,I64 c)],[])) (fun q=>match q with | .inl a=>(.r,[(2,Bo a)],[]) | .inr (d,f)=>(.e 0,[(3,I64 d),(7,Bo f)],[])) rfl (fun c _ h=> ?_) (fun q h=> ?_)
 unfold oY at h; refine gco 5 rfl<|xLs rfl<|goc 2 rfl<|cIf h rfl (fun s h=> ?_) (fun s h=> ?_)
 refine gco 7 rfl<|Nf h rfl rfl rfl rfl rfl (fun p h=> ?_)
 refine xC0 h (zK ·) rfl (fun o h=> ?_)
 refine goc 2 rfl<|cIf h rfl (fun t h=> ?_) (fun t h=> ?_)
 exact gec; exact gec; exact gec; rcases q with a | ⟨d,f⟩; exact en; refine cRs<|oJn h [(2,2),(15,22)] [] (fun b=>(.n,[(2,Bo b)],[])) (fun _ h=> ?_) (fun b h=> ?_)
 refine xMv rfl<|xLs rfl<|xC0 h (hI ·) rfl (fun g h=> ?_)
 refine xMv rfl<|oIf 18 h rfl (fun m h=> ?_) (fun m h=> ?_)
 refine xMv rfl<|Nf h rfl rfl rfl rfl rfl (fun l h=> ?_)
 refine xC0 h (uL ·) rfl (fun j h=> ?_)
 exact geo; exact geo; exact gec
abbrev LT(p:(List UInt8)→Option (Bool)):Prop:= ∀ {a:List UInt8} {r:Bool},p a=some r→Big Try.prog τ An (.fn 157 [.one (.c (.str a))] [] (.one (.c (.bool r))) none [] none)
def rH(n:Nat)(a:List UInt8):Option (Bool):=
  bif decide (a=([43]:List UInt8))then some true else bif decide (a=([45]:List UInt8))then some true else bif decide (a=([42]:List UInt8))then some true else bif decide (a=([61,61]:List UInt8))then some true else bif decide (a=([60]:List UInt8))then some true else some false
theorem Hx{n:Nat}:LT (rH n):=by
 intro g r h; unfold rH at h; refine bF Try.func157 rfl rfl<|gcc 16 rfl<|cIf h rfl (fun a h=> ?_) (fun a h=> ?_)
 exact gec; refine gcc 5 rfl<|cIf h rfl (fun b h=> ?_) (fun b h=> ?_)
 exact gec; refine gcc 5 rfl<|cIf h rfl (fun c h=> ?_) (fun c h=> ?_)
 exact gec; refine gcc 5 rfl<|cIf h rfl (fun d h=> ?_) (fun d h=> ?_)
 exact gec; refine gcc 4 rfl<|cIf h rfl (fun f h=> ?_) (fun f h=> ?_)
 exact gec; exact gec
abbrev Fv(p:Int→Int→(List UInt8)→Int→Option (Bool)):Prop:= ∀ {a b:Int} {d:List UInt8} {f:Int} {r:Bool},p a b d f=some r→Big Try.prog τ An (.fn 135 [.one (.c (.int .i64 a)), .one (.c (.int .i64 b)), .one (.c (.str d)), .one (.c (.int .i64 f))] [] (.one (.c (.bool r))) none [] none)
def mW(n:Nat)(a:Int)(b:Int)(c:List UInt8)(d:Int):Option (Bool):=
  bif decide (a=(1:Int))then((dU n b (0:Int) (1000000000000:Int)).bind fun m=>bif m then bif decide (c=([]:List UInt8))then some (decide (d=(0:Int)))else some false else some false).bind fun z=>some z else bif decide (a=(2:Int))then(bif decide (b=(0:Int))then(kM n c).bind fun o=>bif o then some (decide (d=(0:Int)))else some false else some false).bind fun A=>some A else bif decide (a=(3:Int))then(bif decide (b=(0:Int))then(pZ n c).bind fun f=>bif f then some (decide (d=(0:Int)))else some false else some false).bind fun p=>some p else bif decide (a=(4:Int))then(bif decide (b=(0:Int))then bif decide (c=([]:List UInt8))then some (decide (d≤(20:Int)))else some false else some false).bind fun s=>some s else bif decide (a=(5:Int))then(bif decide (b=(0:Int))then bif decide (c=([]:List UInt8))then some (decide (d≤(20:Int)))else some false else some false).bind fun t=>some t else bif decide (a=(6:Int))then(bif decide (b=(0:Int))then bif decide (c=([]:List UInt8))then(dU n d (2:Int) (6:Int)).bind fun g=>some g else some false else some false).bind fun u=>some u else bif decide (a=(7:Int))then(bif decide (b=(0:Int))then(rH n c).bind fun j=>bif j then some (decide (d=(2:Int)))else some false else some false).bind fun v=>some v else bif decide (a=(8:Int))then(bif decide (b=(0:Int))then(kM n c).bind fun l=>bif l then some (decide (d≤(4:Int)))else some false else some false).bind fun w=>some w else bif decide (a=(9:Int))then(bif decide (b=(0:Int))then bif decide (c=([]:List UInt8))then some (decide (d=(1:Int)))else some false else some false).bind fun y=>some y else some false
theorem DF{n:Nat}:Fv (mW n):=by
 intro a2 a3 a4 a5 r h; unfold mW at h; refine bF Try.func135 rfl rfl<|gcc 15 rfl<|cIf h rfl (fun X h=> ?_) (fun X h=> ?_)
 refine cRs<|oJn h [(8,8),(12,21)] [] (fun l=>(.n,[(8,Bo l)],[])) (fun _ h=> ?_) (fun l h=> ?_)
 refine xMv rfl<|xC0 h (hI ·) rfl (fun V h=> ?_)
 refine xMv rfl<|oIf 14 h rfl (fun Y h=> ?_) (fun Y h=> ?_)
 refine goo 4 rfl<|oIf 18 h rfl (fun Z h=> ?_) (fun Z h=> ?_)
 exact geo; exact geo; exact geo; exact gec; refine gcc 5 rfl<|cIf h rfl (fun q6 h=> ?_) (fun q6 h=> ?_)
 refine cRs<|oJn h [(8,8),(24,33)] [] (fun m=>(.n,[(8,Bo m)],[])) (fun _ h=> ?_) (fun m h=> ?_)
 refine goo 3 rfl<|oIf 26 h rfl (fun q8 h=> ?_) (fun q8 h=> ?_)
 refine xMv rfl<|xC0 h (uJ ·) rfl (fun W h=> ?_)
 refine goo 2 rfl<|oIf 30 h rfl (fun u h=> ?_) (fun u h=> ?_)
 exact geo; exact geo; exact geo; exact gec; refine gcc 5 rfl<|cIf h rfl (fun v h=> ?_) (fun v h=> ?_)
 refine cRs<|oJn h [(8,8),(36,45)] [] (fun a=>(.n,[(8,Bo a)],[])) (fun _ h=> ?_) (fun a h=> ?_)
 refine goo 3 rfl<|oIf 38 h rfl (fun w h=> ?_) (fun w h=> ?_)
 refine xMv rfl<|xC0 h (Fh ·) rfl (fun o h=> ?_)
 refine goo 2 rfl<|oIf 42 h rfl (fun y h=> ?_) (fun y h=> ?_)
 exact geo; exact geo; exact geo; exact gec; refine gcc 6 rfl<|cIf h rfl (fun z h=> ?_) (fun z h=> ?_)
 refine gco 4 rfl<|oJn h [(8,8),(49,58)] [] (fun b=>(.n,[(8,Bo b)],[])) (fun _ h=> ?_) (fun b h=> ?_)
 refine goo 3 rfl<|oIf 51 h rfl (fun A h=> ?_) (fun A h=> ?_)
 refine goo 4 rfl<|oIf 55 h rfl (fun B h=> ?_) (fun B h=> ?_)
 exact geo; exact geo; exact geo; exact gec; refine gcc 4 rfl<|cIf h rfl (fun C h=> ?_) (fun C h=> ?_)
 refine cRs<|oJn h [(8,8),(49,58)] [] (fun c=>(.n,[(8,Bo c)],[])) (fun _ h=> ?_) (fun c h=> ?_)
 refine goo 3 rfl<|oIf 51 h rfl (fun D h=> ?_) (fun D h=> ?_)
 refine goo 4 rfl<|oIf 55 h rfl (fun E h=> ?_) (fun E h=> ?_)
 exact geo; exact geo; exact geo; exact gec; refine gcc 5 rfl<|cIf h rfl (fun G h=> ?_) (fun G h=> ?_)
 refine cRs<|oJn h [(8,8),(61,70)] [] (fun d=>(.n,[(8,Bo d)],[])) (fun _ h=> ?_) (fun d h=> ?_)
 refine goo 3 rfl<|oIf 63 h rfl (fun H h=> ?_) (fun H h=> ?_)
 refine goo 4 rfl<|oIf 67 h rfl (fun I h=> ?_) (fun I h=> ?_)
 refine xMv rfl<|xC0 h (hI ·) rfl (fun p h=> ?_)
 exact geo; exact geo; exact geo; exact gec; refine gcc 5 rfl<|cIf h rfl (fun J h=> ?_) (fun J h=> ?_)
 refine cRs<|oJn h [(8,8),(73,82)] [] (fun f=>(.n,[(8,Bo f)],[])) (fun _ h=> ?_) (fun f h=> ?_)
 refine goo 3 rfl<|oIf 75 h rfl (fun K h=> ?_) (fun K h=> ?_)
 refine xMv rfl<|xC0 h (Hx ·) rfl (fun s h=> ?_)
 refine goo 2 rfl<|oIf 79 h rfl (fun L h=> ?_) (fun L h=> ?_)
 exact geo; exact geo; exact geo; exact gec; refine gcc 5 rfl<|cIf h rfl (fun M h=> ?_) (fun M h=> ?_)
 refine cRs<|oJn h [(8,8),(85,94)] [] (fun g=>(.n,[(8,Bo g)],[])) (fun _ h=> ?_) (fun g h=> ?_)
 refine goo 3 rfl<|oIf 87 h rfl (fun N h=> ?_) (fun N h=> ?_)
 refine xMv rfl<|xC0 h (uJ ·) rfl (fun t h=> ?_)
 refine goo 2 rfl<|oIf 91 h rfl (fun Q h=> ?_) (fun Q h=> ?_)
 exact geo; exact geo; exact geo; exact gec; refine gcc 5 rfl<|cIf h rfl (fun R h=> ?_) (fun R h=> ?_)
 refine cRs<|oJn h [(8,8),(97,106)] [] (fun j=>(.n,[(8,Bo j)],[])) (fun _ h=> ?_) (fun j h=> ?_)
 refine goo 3 rfl<|oIf 99 h rfl (fun T h=> ?_) (fun T h=> ?_)
 refine goo 4 rfl<|oIf 103 h rfl (fun U h=> ?_) (fun U h=> ?_)
 exact geo; exact geo; exact geo; exact gec; exact gec
abbrev zL(p:(List (List UInt8))→(List UInt8)→Option (Int)):Prop:= ∀ {a:List (List UInt8)} {b:List UInt8} {r:Int},p a b=some r→Big Try.prog τ An (.fn 148 [.one (.c (.sl (a.map wV))), .one (.c (.str b))] [] (.one (.c (.int .i64 r))) none [] none)
def eD(n:Nat)(b:List (List UInt8))(d:List UInt8):(Int)→Option ((Int)⊕((Int)⊕(Int×Bool)))
  | a=>bif decide (a<(b.length:Int))then(ix b a).bind fun c=>bif decide (d=c)then some (.inr (.inl a))else some (.inl (IntKind.wrap .i64 (a+(1:Int))))else some (.inr (.inr (a,false)))
def gE(n:Nat)(a:List (List UInt8))(b:List UInt8):Option (Int):=
  (loopN (eD n a b) n (0:Int)).bind fun q=>(match q with | .inl c=>some c | .inr (d,f)=>some ((-1):Int))
theorem wS{n:Nat}:zL (gE n):=by
 intro l m r h; unfold gE at h; refine bF Try.func148 rfl rfl<|gco 8 rfl<|xLn rfl<|goc 2 rfl<|cLp h [(4,5),(8,18)] [] (fun b=>([(8,I64 b)],[])) (fun q=>match q with | .inl a=>(.r,[(4,I64 a)],[]) | .inr (c,d)=>(.e 0,[(8,I64 c),(9,Bo d)],[])) rfl (fun b _ h=> ?_) (fun q h=> ?_)
 unfold eD at h; refine gcc 5 rfl<|cIf h rfl (fun g h=> ?_) (fun g h=> ?_)
 refine gco 13 rfl<|xIx h KK rfl (fun f h=> ?_)
 refine goc 3 rfl<|cIf h rfl (fun j h=> ?_) (fun j h=> ?_)
 exact gec; exact gec; exact gec; rcases q with a | ⟨c,d⟩; exact en; exact gec
abbrev uS(p:(List (List UInt8))→(List UInt8)→Option (Bool)):Prop:= ∀ {a:List (List UInt8)} {b:List UInt8} {r:Bool},p a b=some r→Big Try.prog τ An (.fn 136 [.one (.c (.sl (a.map wV))), .one (.c (.str b))] [] (.one (.c (.bool r))) none [] none)
def eE(n:Nat)(b:List (List UInt8))(c:List UInt8):Option (Bool):=
  (gE n b c).bind fun a=>some (decide ((0:Int)≤a))
theorem tV{n:Nat}:uS (eE n):=by
 intro b c r h; unfold eE at h; refine bF Try.func136 rfl rfl<|gco 8 rfl<|xC0 h (wS ·) rfl (fun a h=> ?_)
 exact geo
abbrev eZ:Type:=Int→Int→(List UInt8)→(List aC)→(List aB)→Int→Int→(List (List UInt8))→Option (Bool×Int×(List (List UInt8)))
abbrev nL(p:eZ):Prop:= ∀ {d f:Int} {g:List UInt8} {j:List aC} {l:List aB} {m a:Int} {b:List (List UInt8)} {r:Bool×Int×(List (List UInt8))},p d f g j l m a b=some r→Big Try.prog τ An (.fn 102 [.one (.ptr 1000000 0), .one (.ag [.int .i64 d, .int .i64 f, .str g, .sl (j.map aL), .sl (l.map aF)]), .one (.c (.int .i64 m))] [[.int .i64 a, .sl (b.map wV)]] (.one (.c (.bool r.1))) none [[.int .i64 r.2.1, .sl (r.2.2.map wV)]] none)
def gJ(n:Nat)(f:eZ)(l:Int)(j:List aC):(Int×Int×(List (List UInt8)))→Option ((Int×Int×(List (List UInt8)))⊕((Bool×Int×(List (List UInt8)))⊕(Int×Bool×Int×(List (List UInt8)))))
  | (g,c,d)=>bif decide (g<(j.length:Int))then(ix j g).bind fun b=>(f b.f0 b.f1 b.f2 b.f3 b.f4 (IntKind.wrap .i64 (l+(1:Int))) c d).bind fun a=>bif !a.1 then some (.inr (.inl (false,a.2.1,a.2.2)))else some (.inl ((IntKind.wrap .i64 (g+(1:Int))),a.2.1,a.2.2))else some (.inr (.inr (g,false,c,d)))
def cO(n:Nat)(f:eZ)(l:Int)(j:List aC):(Int×Int×(List (List UInt8)))→Option ((Int×Int×(List (List UInt8)))⊕((Bool×Int×(List (List UInt8)))⊕(Int×Bool×Int×(List (List UInt8)))))
  | (g,c,d)=>bif decide (g<(j.length:Int))then(ix j g).bind fun b=>(f b.f0 b.f1 b.f2 b.f3 b.f4 (IntKind.wrap .i64 (l+(1:Int))) c d).bind fun a=>bif !a.1 then some (.inr (.inl (false,a.2.1,a.2.2)))else some (.inl ((IntKind.wrap .i64 (g+(1:Int))),a.2.1,a.2.2))else some (.inr (.inr (g,false,c,d)))
def jZ(n:Nat)(a:eZ)(t:Int)(E:Int)(s:List UInt8)(u:List aC)(G:List aB)(v:Int)(b:Int)(c:List (List UInt8)):Option (Bool×Int×(List (List UInt8))):=
  (bif decide ((10:Int)<v)then some true else bif decide ((300:Int)<(IntKind.wrap .i64 (b+(1:Int))))then some true else bif decide ((6:Int)<t)then some true else bif decide ((0:Int)<(G.length:Int))then some true else(mW n t E s (u.length:Int)).bind fun z=>some (!z)).bind fun A=>bif A then some (false,(IntKind.wrap .i64 (b+(1:Int))),c)else(bif decide (t=(3:Int))then some (!decide (s=([95]:List UInt8)))else some false).bind fun B=>bif B then(eE n c s).bind fun w=>bif w then some (false,(IntKind.wrap .i64 (b+(1:Int))),c)else(wX 16 c ([s]:List (List UInt8))).bind fun y=>(loopN (gJ n a v u) n ((0:Int),(IntKind.wrap .i64 (b+(1:Int))),y)).bind fun q=>(match q with | .inl (C,d,f)=>some (C,d,f) | .inr (H,J,g,j)=>some (true,g,j))else(loopN (cO n a v u) n ((0:Int),(IntKind.wrap .i64 (b+(1:Int))),c)).bind fun q=>(match q with | .inl (D,l,m)=>some (D,l,m) | .inr (I,K,o,p)=>some (true,o,p))
theorem yY{n:Nat}{b:eZ}(a:nL b):nL (jZ n b):=by
 intro a8 a9 I b0 b1 b2 a0 a1 r h; unfold jZ at h; refine bF Try.func102 rfl rfl<|gco 19 rfl<|oJn h [(16,48)] [] (fun D=>(.n,[(48,Bo D)],[])) (fun _ h=> ?_) (fun D h=> ?_)
 refine goo 3 rfl<|oIf 18 h rfl (fun q2 h=> ?_) (fun q2 h=> ?_)
 exact geo; refine goo 7 rfl<|oIf 25 h rfl (fun q3 h=> ?_) (fun q3 h=> ?_)
 exact geo; refine goo 5 rfl<|oIf 30 h rfl (fun q4 h=> ?_) (fun q4 h=> ?_)
 exact geo; refine goo 2 rfl<|xLn rfl<|goo 3 rfl<|oIf 36 h rfl (fun q5 h=> ?_) (fun q5 h=> ?_)
 exact geo; refine goo 8 rfl<|xLn rfl<|xC0 h (DF ·) rfl (fun Z h=> ?_)
 exact geo; refine cIf h rfl (fun q7 h=> ?_) (fun q7 h=> ?_)
 exact gec; refine gco 4 rfl<|oJn h [(49,56)] [] (fun E=>(.n,[(56,Bo E)],[])) (fun _ h=> ?_) (fun E h=> ?_)
 refine goo 4 rfl<|oIf 52 h rfl (fun q9 h=> ?_) (fun q9 h=> ?_)
 exact geo; exact geo; refine cIf h rfl (fun R h=> ?_) (fun R h=> ?_)
 refine gco 9 rfl<|xC0 h (tV ·) rfl (fun J h=> ?_)
 refine oNl<|cIf h rfl (fun T h=> ?_) (fun T h=> ?_)
 exact gec; refine gco 9 rfl<|LW (L:=([I]:List (List UInt8))) (f:=wV) rfl rfl rfl rfl rfl rfl rfl<|wAp (f:=wV) h rfl rfl rfl rfl rfl rfl rfl rfl rfl (fun _=>rfl) rfl (fun Y h=> ?_)
 refine goo 9 rfl<|xLn rfl<|goc 2 rfl<|cLp h [(6,6),(8,8),(78,88)] [(8,8),(1000000,1000000)] (fun(w,c,d)=>([(78,I64 w)],[(1000000,[.int .i64 c, .sl (d.map wV)])])) (fun q=>match q with | .inl (G,g,j)=>(.r,[(6,Bo G)],[(1000000,[.int .i64 g, .sl (j.map wV)])]) | .inr (y,B,l,m)=>(.e 0,[(78,I64 y),(79,Bo B)],[(1000000,[.int .i64 l, .sl (m.map wV)])])) rfl (fun st _ h=> ?_) (fun q h=> ?_)
 obtain⟨w,c,d⟩:=st; unfold gJ at h; refine gcc 5 rfl<|cIf h rfl (fun U h=> ?_) (fun U h=> ?_)
 refine gco 5 rfl<|xIx h aO rfl (fun N h=> ?_)
 refine xLd rfl<|xAz [.int .i64 0, .int .i64 0, .str [], .sl ([].map aL), .sl ([].map aF)] rfl<|goo 8 rfl<|xC1 h (a ·) rfl (fun K h=> ?_)
 refine goc 2 rfl<|cIf h rfl (fun V h=> ?_) (fun V h=> ?_)
 exact gec; exact gec; exact gec; rcases q with⟨G,g,j⟩ | ⟨y,B,l,m⟩; exact en; exact gec; refine gco 6 rfl<|xLn rfl<|goc 2 rfl<|cLp h [(6,6),(8,8),(78,88)] [(8,8),(1000000,1000000)] (fun(z,o,p)=>([(78,I64 z)],[(1000000,[.int .i64 o, .sl (p.map wV)])])) (fun q=>match q with | .inl (H,s,t)=>(.r,[(6,Bo H)],[(1000000,[.int .i64 s, .sl (t.map wV)])]) | .inr (A,C,u,v)=>(.e 0,[(78,I64 A),(79,Bo C)],[(1000000,[.int .i64 u, .sl (v.map wV)])])) rfl (fun st _ h=> ?_) (fun q h=> ?_)
 obtain⟨z,o,p⟩:=st; unfold cO at h; refine gcc 5 rfl<|cIf h rfl (fun W h=> ?_) (fun W h=> ?_)
 refine gco 5 rfl<|xIx h aO rfl (fun Q h=> ?_)
 refine xLd rfl<|xAz [.int .i64 0, .int .i64 0, .str [], .sl ([].map aL), .sl ([].map aF)] rfl<|goo 8 rfl<|xC1 h (a ·) rfl (fun M h=> ?_)
 refine goc 2 rfl<|cIf h rfl (fun X h=> ?_) (fun X h=> ?_)
 exact gec; exact gec; exact gec; rcases q with⟨H,s,t⟩ | ⟨A,C,u,v⟩; exact en; exact gec
def uH:Nat→(eZ)
  | 0=>(fun _ _ _ _ _ _ _ _=>none)
  | n+1=>jZ n (uH n)
def cC(n:Nat):eZ:=uH n
theorem zI(n:Nat):nL (cC n):=by
  induction n with
  | zero=>exact(fun h=>nomatch h)
  | succ n ih=>exact yY (n:=n) ih
theorem Az{n:Nat}:nL (cC n):=(zI n)
theorem wQ(n:Nat):cC (n+1)=jZ n (cC n):=rfl
abbrev Jz(p:Int→Int→(List UInt8)→(List aC)→(List aB)→Option (Bool)):Prop:= ∀ {a b:Int} {d:List UInt8} {f:List aC} {g:List aB} {r:Bool},p a b d f g=some r→Big Try.prog τ An (.fn 62 [.one (.ag [.int .i64 a, .int .i64 b, .str d, .sl (f.map aL), .sl (g.map aF)])] [] (.one (.c (.bool r))) none [] none)
def qA(n:Nat)(b:Int)(c:Int)(d:List UInt8)(f:List aC)(g:List aB):Option (Bool):=
  (cC n b c d f g (1:Int) (0:Int) ([]:List (List UInt8))).bind fun a=>some a.1
theorem Fi{n:Nat}:Jz (qA n):=by
 intro b c d f g r h; unfold qA at h; refine bF Try.func62 rfl rfl<|gco 7 rfl<|xAz [.int .i64 0, .sl ([].map wV)] rfl<|goo 4 rfl<|xC1 h (Az ·) rfl (fun a h=> ?_)
 exact geo
abbrev zM(p:Int→Int→(List UInt8)→(List aA)→Option (Bool)):Prop:= ∀ {a b:Int} {d:List UInt8} {f:List aA} {r:Bool},p a b d f=some r→Big Try.prog τ An (.fn 137 [.one (.ag [.int .i64 a, .int .i64 b, .str d, .sl (f.map aD)])] [] (.one (.c (.bool r))) none [] none)
def gL(n:Nat)(a:Int)(b:Int)(c:List UInt8)(d:List aA):Option (Bool):=
  bif decide (a=(1:Int))then((dU n b ((-1000000000000):Int) (1000000000000:Int)).bind fun o=>bif o then bif decide (c=([]:List UInt8))then some (decide ((d.length:Int)=(0:Int)))else some false else some false).bind fun p=>some p else bif decide (a=(2:Int))then(bif decide (b=(0:Int))then(lN n c).bind fun g=>bif g then some (decide ((d.length:Int)=(0:Int)))else some false else some false).bind fun s=>some s else bif decide (a=(3:Int))then((dU n b (0:Int) (1000000:Int)).bind fun f=>bif f then bif decide (c=([]:List UInt8))then some (decide ((d.length:Int)=(0:Int)))else some false else some false).bind fun j=>some j else bif decide (a=(4:Int))then(bif decide (b=(0:Int))then bif decide (c=([]:List UInt8))then some (decide ((d.length:Int)≤(20:Int)))else some false else some false).bind fun l=>some l else bif decide (a=(5:Int))then(bif decide (b=(0:Int))then bif decide (c=([]:List UInt8))then some (decide ((d.length:Int)≤(60:Int)))else some false else some false).bind fun m=>some m else some false
theorem wT{n:Nat}:zM (gL n):=by
 intro G H I J r h; unfold gL at h; refine bF Try.func137 rfl rfl<|gcc 17 rfl<|cIf h rfl (fun A h=> ?_) (fun A h=> ?_)
 refine cRs<|oJn h [(2,2),(7,20)] [] (fun d=>(.n,[(2,Bo d)],[])) (fun _ h=> ?_) (fun d h=> ?_)
 refine goo 2 rfl<|xC0 h (hI ·) rfl (fun z h=> ?_)
 refine xMv rfl<|oIf 10 h rfl (fun B h=> ?_) (fun B h=> ?_)
 refine goo 5 rfl<|oIf 15 h rfl (fun C h=> ?_) (fun C h=> ?_)
 exact goo 2 rfl<|xLn rfl<|geo
 exact geo; exact geo; exact gec; refine gcc 5 rfl<|cIf h rfl (fun D h=> ?_) (fun D h=> ?_)
 refine cRs<|oJn h [(2,2),(23,36)] [] (fun f=>(.n,[(2,Bo f)],[])) (fun _ h=> ?_) (fun f h=> ?_)
 refine goo 4 rfl<|oIf 26 h rfl (fun E h=> ?_) (fun E h=> ?_)
 refine goo 2 rfl<|xC0 h (vZ ·) rfl (fun y h=> ?_)
 refine goo 2 rfl<|oIf 31 h rfl (fun j h=> ?_) (fun j h=> ?_)
 exact goo 2 rfl<|xLn rfl<|geo
 exact geo; exact geo; exact gec; refine gcc 5 rfl<|cIf h rfl (fun l h=> ?_) (fun l h=> ?_)
 refine cRs<|oJn h [(2,2),(39,52)] [] (fun a=>(.n,[(2,Bo a)],[])) (fun _ h=> ?_) (fun a h=> ?_)
 refine goo 2 rfl<|xC0 h (hI ·) rfl (fun g h=> ?_)
 refine xMv rfl<|oIf 42 h rfl (fun m h=> ?_) (fun m h=> ?_)
 refine goo 5 rfl<|oIf 47 h rfl (fun o h=> ?_) (fun o h=> ?_)
 exact goo 2 rfl<|xLn rfl<|geo
 exact geo; exact geo; exact gec; refine gcc 5 rfl<|cIf h rfl (fun p h=> ?_) (fun p h=> ?_)
 refine cRs<|oJn h [(2,2),(55,68)] [] (fun b=>(.n,[(2,Bo b)],[])) (fun _ h=> ?_) (fun b h=> ?_)
 refine goo 4 rfl<|oIf 58 h rfl (fun s h=> ?_) (fun s h=> ?_)
 refine goo 5 rfl<|oIf 63 h rfl (fun t h=> ?_) (fun t h=> ?_)
 exact goo 2 rfl<|xLn rfl<|geo
 exact geo; exact geo; exact gec; refine gcc 5 rfl<|cIf h rfl (fun u h=> ?_) (fun u h=> ?_)
 refine cRs<|oJn h [(2,2),(71,84)] [] (fun c=>(.n,[(2,Bo c)],[])) (fun _ h=> ?_) (fun c h=> ?_)
 refine goo 4 rfl<|oIf 74 h rfl (fun v h=> ?_) (fun v h=> ?_)
 refine goo 5 rfl<|oIf 79 h rfl (fun w h=> ?_) (fun w h=> ?_)
 exact goo 2 rfl<|xLn rfl<|geo
 exact geo; exact geo; exact gec; exact gec
abbrev eH:Type:=Int→Int→(List UInt8)→(List aA)→Int→Option (Int)
abbrev jO(p:eH):Prop:= ∀ {a b:Int} {d:List UInt8} {f:List aA} {g:Int} {r:Int},p a b d f g=some r→Big Try.prog τ An (.fn 103 [.one (.ag [.int .i64 a, .int .i64 b, .str d, .sl (f.map aD)]), .one (.c (.int .i64 g))] [] (.one (.c (.int .i64 r))) none [] none)
def dB(n:Nat)(a:eH)(j:Int)(g:List aA):(Int×Int)→Option ((Int×Int)⊕((Int)⊕(Int×Int×Bool)))
  | (f,c)=>bif decide (c<(g.length:Int))then(ix g c).bind fun b=>(a b.f0 b.f1 b.f2 b.f3 (IntKind.wrap .i64 (j+(1:Int)))).bind fun d=>bif decide ((300:Int)<(IntKind.wrap .i64 (f+d)))then some (.inr (.inl (301:Int)))else some (.inl ((IntKind.wrap .i64 (f+d)),(IntKind.wrap .i64 (c+(1:Int)))))else some (.inr (.inr (f,c,false)))
def gD(n:Nat)(a:eH)(g:Int)(j:Int)(l:List UInt8)(b:List aA)(c:Int):Option (Int):=
  (bif decide ((8:Int)<c)then some true else(gL n g j l b).bind fun d=>some (!d)).bind fun f=>bif f then some (301:Int)else(loopN (dB n a c b) n ((1:Int),(0:Int))).bind fun q=>(match q with | .inl m=>some m | .inr (o,s,p)=>some o)
theorem uP{n:Nat}{a:eH}(b:jO a):jO (gD n a):=by
 intro y z A B C r h; unfold gD at h; refine bF Try.func103 rfl rfl<|gco 8 rfl<|oJn h [(8,14)] [] (fun d=>(.n,[(14,Bo d)],[])) (fun _ h=> ?_) (fun d h=> ?_)
 refine goo 3 rfl<|oIf 10 h rfl (fun v h=> ?_) (fun v h=> ?_)
 exact geo; refine xLd rfl<|xC0 h (wT ·) rfl (fun u h=> ?_)
 exact geo; refine cIf h rfl (fun w h=> ?_) (fun w h=> ?_)
 exact gec; refine gco 10 rfl<|xLn rfl<|goc 2 rfl<|cLp h [(4,5),(7,7),(18,30)] [(7,7)] (fun(l,f)=>([(5,I64 l),(18,I64 f)],[])) (fun q=>match q with | .inl j=>(.r,[(4,I64 j)],[]) | .inr (m,g,c)=>(.e 0,[(5,I64 m),(18,I64 g),(19,Bo c)],[])) rfl (fun st _ h=> ?_) (fun q h=> ?_)
 obtain⟨l,f⟩:=st; unfold dB at h; refine gcc 5 rfl<|cIf h rfl (fun s h=> ?_) (fun s h=> ?_)
 refine gco 5 rfl<|xIx h aN rfl (fun p h=> ?_)
 refine xLd rfl<|xAz [.int .i64 0, .int .i64 0, .str [], .sl ([].map aD)] rfl<|goo 8 rfl<|xC0 h (b ·) rfl (fun o h=> ?_)
 refine goc 8 rfl<|cIf h rfl (fun t h=> ?_) (fun t h=> ?_)
 exact gec; exact gec; exact gec; rcases q with j | ⟨m,g,c⟩; exact en; exact gec
def rR:Nat→(eH)
  | 0=>(fun _ _ _ _ _=>none)
  | n+1=>gD n (rR n)
def bY(n:Nat):eH:=rR n
theorem uQ(n:Nat):jO (bY n):=by
  induction n with
  | zero=>exact(fun h=>nomatch h)
  | succ n ih=>exact uP (n:=n) ih
theorem wU{n:Nat}:jO (bY n):=(uQ n)
theorem tU(n:Nat):bY (n+1)=gD n (bY n):=rfl
abbrev IJ(p:Int→Int→(List UInt8)→(List aA)→Option (Bool)):Prop:= ∀ {a b:Int} {d:List UInt8} {f:List aA} {r:Bool},p a b d f=some r→Big Try.prog τ An (.fn 63 [.one (.ag [.int .i64 a, .int .i64 b, .str d, .sl (f.map aD)])] [] (.one (.c (.bool r))) none [] none)
def oR(n:Nat)(b:Int)(c:Int)(d:List UInt8)(f:List aA):Option (Bool):=
  (bY n b c d f (1:Int)).bind fun a=>some (decide (a≤(300:Int)))
theorem Ep{n:Nat}:IJ (oR n):=by
 intro b c d f r h; unfold oR at h; refine bF Try.func63 rfl rfl<|gco 8 rfl<|xC0 h (wU ·) rfl (fun a h=> ?_)
 exact geo
abbrev fA:Type:=(List aA)→Option ((List aA))
abbrev kG(p:fA):Prop:= ∀ {a:List aA} {r:(List aA)},p a=some r→Big Try.prog τ An (.fn 49 [.one (.c (.sl (a.map aD)))] [] (.one (.c (.sl (r.map aD)))) none [] none)
abbrev eO:Type:=Int→Int→(List UInt8)→(List aA)→Option (Int×Int×(List UInt8)×(List aA))
abbrev lG(p:eO):Prop:= ∀ {a b:Int} {c:List UInt8} {d:List aA} {r:Int×Int×(List UInt8)×(List aA)},p a b c d=some r→Big Try.prog τ An (.fn 93 [.one (.ag [.int .i64 a, .int .i64 b, .str c, .sl (d.map aD)])] [] (.one (.ag [.int .i64 r.1, .int .i64 r.2.1, .str r.2.2.1, .sl (r.2.2.2.map aD)])) none [] none)
def gK(n:Nat)(a:eO)(f:List aA):((List aA)×Int)→Option (((List aA)×Int)⊕(((List aA)×Int×Bool)))
  | (g,d)=>bif decide (d<(f.length:Int))then(ix f d).bind fun c=>(a c.f0 c.f1 c.f2 c.f3).bind fun b=>(wX 56 g ([aA.mk b.1 b.2.1 b.2.2.1 b.2.2.2]:List aA)).bind fun j=>some (.inl (j,(IntKind.wrap .i64 (d+(1:Int)))))else some (.inr (g,d,false))
def kA(n:Nat)(b:fA)(a:eO)(c:List aA):Option ((List aA)):=
  (loopN (gK n a c) n (([]:List aA),(0:Int))).bind fun(d,f,g)=>some d
theorem yZ{n:Nat}{b:fA}(j:kG b){c:eO}(d:lG c):kG (kA n b c):=by
 intro w r h; unfold kA at h; refine bF Try.func49 rfl rfl<|cRs<|wAe (Li aD []) rfl rfl rfl rfl<|oRs<|wAe (Li aD []) rfl rfl rfl rfl<|goo 5 rfl<|xLn rfl<|goc 2 rfl<|cLp h [(3,3),(5,5),(8,17)] [(5,5)] (fun(l,o)=>([(3,Li aD l),(8,I64 o)],[])) (fun(m,p,s)=>(.e 0,[(3,Li aD m),(8,I64 p),(9,Bo s)],[])) rfl (fun st _ h=> ?_) (fun q h=> ?_)
 obtain⟨l,o⟩:=st; unfold gK at h; refine gcc 5 rfl<|cIf h rfl (fun v h=> ?_) (fun v h=> ?_)
 refine gco 5 rfl<|xIx h aN rfl (fun t h=> ?_)
 refine xLd rfl<|xAz [.int .i64 0, .int .i64 0, .str [], .sl ([].map aD)] rfl<|goo 5 rfl<|xC0 h (d ·) rfl (fun g h=> ?_)
 refine LW (L:=([aA.mk g.1 g.2.1 g.2.2.1 g.2.2.2]:List aA)) (f:=aD) rfl rfl rfl rfl (by simp only[List.map,cZ]<;>rfl) rfl rfl<|wAp (f:=aD) h rfl rfl rfl rfl rfl rfl rfl rfl rfl (fun a=>by rw[aN]; rfl) rfl (fun u h=> ?_)
 exact geo; exact gec; obtain⟨m,p,s⟩:=q; exact gec
def lA(n:Nat)(a:fA)(b:eO)(d:Int)(f:Int)(g:List UInt8)(j:List aA):Option (Int×Int×(List UInt8)×(List aA)):=
  (a j).bind fun c=>some (d,f,g,c)
theorem Aj{n:Nat}{a:fA}(c:kG a){b:eO}(d:lG b):lG (lA n a b):=by
 intro g j l m r h; unfold lA at h; refine bF Try.func93 rfl rfl<|gco 3 rfl<|xAz [.int .i64 0, .int .i64 0, .str [], .sl ([].map aD)] rfl<|goo 5 rfl<|xC0 h (c ·) rfl (fun f h=> ?_)
 exact geo
def gW:Nat→(fA)×(eO)
  | 0=>((fun _=>none),(fun _ _ _ _=>none))
  | n+1=>(kA n ((gW n).1) ((gW n).2),lA n ((gW n).1) ((gW n).2))
def gZ(n:Nat):fA:=(gW n).1
def dA(n:Nat):eO:=(gW n).2
theorem rU(n:Nat):kG (gZ n)∧lG (dA n):=by
  induction n with
  | zero=>exact⟨(fun h=>nomatch h),(fun h=>nomatch h)⟩
  | succ n ih=>exact⟨yZ (n:=n) (ih.1) (ih.2),Aj (n:=n) (ih.1) (ih.2)⟩
theorem Mb{n:Nat}:kG (gZ n):=(rU n).1
theorem Bp{n:Nat}:lG (dA n):=(rU n).2
theorem wR(n:Nat):gZ (n+1)=kA n (gZ n) (dA n):=rfl
theorem xM(n:Nat):dA (n+1)=lA n (gZ n) (dA n):=rfl
abbrev IK(p:(List aG)→(List UInt8)→Option (Int×Int×(List UInt8)×(List aA)×Bool)):Prop:= ∀ {a:List aG} {b:List UInt8} {r:Int×Int×(List UInt8)×(List aA)×Bool},p a b=some r→Big Try.prog τ An (.fn 106 [.one (.c (.sl (a.map aP))), .one (.c (.str b))] [] (.tup [.ag [.int .i64 r.1, .int .i64 r.2.1, .str r.2.2.1, .sl (r.2.2.2.1.map aD)], .c (.bool r.2.2.2.2)]) none [] none)
def hH(n:Nat)(d:List aG)(m:List UInt8):(Int×Int×Int×(List UInt8)×(List aA))→Option ((Int×Int×Int×(List UInt8)×(List aA))⊕((Bool×Int×Int×(List UInt8)×(List aA))⊕(Int×Bool×Int×Int×(List UInt8)×(List aA))))
  | (c,f,g,j,l)=>bif decide (c<(d.length:Int))then(ix d c).bind fun a=>bif decide (a.f0=m)then(dA n a.f1 a.f2 a.f3 a.f4).bind fun b=>some (.inr (.inl (true,b.1,b.2.1,b.2.2.1,b.2.2.2)))else some (.inl ((IntKind.wrap .i64 (c+(1:Int))),f,g,j,l))else some (.inr (.inr (c,false,f,g,j,l)))
def oS(n:Nat)(b:List aG)(c:List UInt8):Option (Int×Int×(List UInt8)×(List aA)×Bool):=
  (loopN (hH n b c) n ((0:Int),(0:Int),(0:Int),([]:List UInt8),([]:List aA))).bind fun q=>(match q with | .inl (d,f,g,j,a)=>some (f,g,j,a,d) | .inr (l,m,o,p,s,t)=>some ((0:Int),(0:Int),([]:List UInt8),([]:List aA),false))
theorem Er{n:Nat}:IK (oS n):=by
 intro C D r h; unfold oS at h; refine bF Try.func106 rfl rfl<|cRs<|xAz [.int .i64 0, .int .i64 0, .str [], .sl ([].map aD)] rfl<|goo 6 rfl<|xLn rfl<|goc 2 rfl<|cLp h [(4,5),(7,7),(10,21)] [(4,4),(7,7)] (fun(c,o,p,s,t)=>([(4,Pt 4),(10,I64 c)],[(4,[.int .i64 o, .int .i64 p, .str s, .sl (t.map aD)])])) (fun q=>match q with | .inl (m,u,v,w,d)=>(.r,[(4,Pt 4),(5,Bo m)],[(4,[.int .i64 u, .int .i64 v, .str w, .sl (d.map aD)])]) | .inr (a,b,f,g,j,l)=>(.e 0,[(4,Pt 4),(10,I64 a),(11,Bo b)],[(4,[.int .i64 f, .int .i64 g, .str j, .sl (l.map aD)])])) rfl (fun st _ h=> ?_) (fun q h=> ?_)
 obtain⟨c,o,p,s,t⟩:=st; unfold hH at h; refine gcc 5 rfl<|cIf h rfl (fun A h=> ?_) (fun A h=> ?_)
 refine gco 5 rfl<|xIx h lE rfl (fun z h=> ?_)
 refine xLd rfl<|xAz [.str [], .int .i64 0, .int .i64 0, .str [], .sl ([].map aD)] rfl<|goc 9 rfl<|cIf h rfl (fun B h=> ?_) (fun B h=> ?_)
 refine gco 4 rfl<|xC0 h (Bp ·) rfl (fun y h=> ?_)
 exact geo; exact gec; exact gec; rcases q with⟨m,u,v,w,d⟩ | ⟨a,b,f,g,j,l⟩; exact en; exact cRs<|wBd [.int .i64 0, .int .i64 0, .str [], .sl ([].map aD)] rfl rfl rfl rfl rfl rfl<|geo
abbrev BA(p:(List aA)→Int→Option ((List aA))):Prop:= ∀ {a:List aA} {b:Int} {r:(List aA)},p a b=some r→Big Try.prog τ An (.fn 158 [.one (.c (.sl (a.map aD))), .one (.c (.int .i64 b))] [] (.one (.c (.sl (r.map aD)))) none [] none)
def iJ(n:Nat)(b:List aA)(a:Int):Option (List aA):=bif b.isEmpty&&(decide (0≤a)&&decide (a*56≤140737488355328))then some []else none
set_option maxRecDepth 100000 in
theorem xN{n:Nat}:BA (iJ n):=by
 intro b a r h; unfold iJ at h; cases hc:(b.isEmpty&&(decide (0≤a)&&decide (a*56≤140737488355328)))with
 | false=>rw[hc]at h; cases h
 | true=>
  rw[hc]at h; cases h; simp only[z7,z153,z36]at hc; obtain⟨rfl,h1,h2⟩:=hc; exact Big.lib Try.func158 rfl rfl (UG IN rfl rfl rfl rfl rfl rfl h1 h2 (by omega))

abbrev xQ(p:(List (List aA))→Option ((List aA))):Prop:= ∀ {a:List (List aA)} {r:(List aA)},p a=some r→Big Try.prog τ An (.fn 138 [.one (.c (.sl (a.map iO)))] [] (.one (.c (.sl (r.map aD)))) none [] none)
def bN(n:Nat)(d:List (List aA)):(Int×Int)→Option ((Int×Int)⊕((Int×Int×Bool)))
  | (b,a)=>bif decide (a<(d.length:Int))then(ix d a).bind fun c=>bif decide ((IntKind.wrap .i64 (b+(c.length:Int)))<(0:Int))then none else some (.inl ((IntKind.wrap .i64 (b+(c.length:Int))),(IntKind.wrap .i64 (a+(1:Int)))))else some (.inr (b,a,false))
def bM(n:Nat)(d:List (List aA)):((List aA)×Int×Nat)→Option (((List aA)×Int×Nat)⊕(((List aA)×Int×Nat×Bool)))
  | (b,a,j)=>bif decide (a<(d.length:Int))then bif decide (a=(j:Int))then(ix d (j:Int)).bind fun c=>(wX 56 b c).bind fun f=>some (.inl (f,(IntKind.wrap .i64 ((j:Int)+(1:Int))),j+1))else none else some (.inr (b,a,j,false))
def fF(n:Nat)(a:List (List aA)):Option ((List aA)):=
  (loopN (bN n a) n ((0:Int),(0:Int))).bind fun(d,j,l)=>(iJ n ([]:List aA) d).bind fun b=>(loopN (bM n a) n (b,(0:Int),0)).bind fun(c,f,_j,g)=>some c
theorem uR{n:Nat}:xQ (fF n):=by
 intro t r h; unfold fF at h; refine bF Try.func138 rfl rfl<|cRs<|wAe (Li aD []) rfl rfl rfl rfl<|goo 9 rfl<|xLn rfl<|goc 2 rfl<|cLp h [(3,3),(5,5),(11,22)] [] (fun(u,l)=>([(3,I64 u),(11,I64 l)],[])) (fun(v,m,o)=>(.e 0,[(3,I64 v),(11,I64 m),(12,Bo o)],[])) rfl (fun st _ h=> ?_) (fun q h=> ?_)
 obtain⟨u,l⟩:=st; unfold bN at h; refine gcc 5 rfl<|cIf h rfl (fun C h=> ?_) (fun C h=> ?_)
 refine gco 5 rfl<|xIx h Bm rfl (fun B h=> ?_)
 refine goo 7 rfl<|xLn rfl<|goc 8 rfl<|cIf h rfl (fun D h=> ?_) (fun D h=> ?_)
 cases h; exact gec; exact gec; obtain⟨v,m,o⟩:=q; refine gco 3 rfl<|xC0 h (xN ·) rfl (fun A h=> ?_)
 refine goo 5 rfl<|wAl rfl rfl rfl rfl<|xLn rfl<|goc 2 rfl<|cLp h [(0,0),(6,6),(8,8),(27,34)] [] (fun(p,b,j)=>([(0, .one (.c (.sl (hol iO j t)))),(6,Li aD p),(27,I64 b)],[])) (fun(s,d,j,g)=>(.e 2,[(0, .one (.c (.sl (hol iO j t)))),(6,Li aD s),(27,I64 d),(28,Bo g)],[])) rfl (fun st _ h=> ?_) (fun q h=> ?_)
 obtain⟨p,b,j⟩:=st; unfold bM at h; refine gcc 5 rfl<|cIf h rfl (fun y h=> ?_) (fun y h=> ?_)
 have hd:decide (b=(j:Int))=true:=by
  cases hd:decide (b=(j:Int))with
  | false=>rw[hd]at h; cases h
  | true=>rfl
 rw[hd,z15]at h; have hh:=h; obtain rfl:=of_decide_eq_true hd; refine gco 5 rfl<|wIpC (f:=iO) hh rfl rfl rfl rfl rfl rfl (fun _=>rfl) rfl (fun w ke29_16 h=> ?_)
 refine wLtkC (f:=iO) ke29_16 rfl rfl rfl rfl rfl rfl rfl rfl rfl rfl<|goo 5 rfl<|wAp (f:=aD) h rfl rfl rfl rfl rfl rfl rfl rfl rfl (fun a=>by rw[aN]; rfl) rfl (fun z h=> ?_)
 exact geo; exact gec; obtain⟨s,d,j,g⟩:=q; exact gec
abbrev II(p:(List aA)→Option (Int×Int×(List UInt8)×(List aA)×Bool)):Prop:= ∀ {a:List aA} {r:Int×Int×(List UInt8)×(List aA)×Bool},p a=some r→Big Try.prog τ An (.fn 107 [.one (.c (.sl (a.map aD)))] [] (.tup [.ag [.int .i64 r.1, .int .i64 r.2.1, .str r.2.2.1, .sl (r.2.2.2.1.map aD)], .c (.bool r.2.2.2.2)]) none [] none)
def oQ(n:Nat)(a:List aA):Option (Int×Int×(List UInt8)×(List aA)×Bool):=
  (ix a (IntKind.wrap .i64 ((a.length:Int) - (1:Int)))).bind fun b=>bif !decide (b.f0=(5:Int))then some ((0:Int),(0:Int),([]:List UInt8),([]:List aA),false)else(sub a none (some (IntKind.wrap .i64 ((a.length:Int) - (1:Int))))).bind fun d=>(fF n ([d,b.f3]:List (List aA))).bind fun c=>some ((5:Int),(0:Int),([]:List UInt8),c,true)
theorem Eo{n:Nat}:II (oQ n):=by
 intro j r h; unfold oQ at h; refine bF Try.func107 rfl rfl<|cRs<|xAz [.int .i64 0, .int .i64 0, .str [], .sl ([].map aD)] rfl<|goo 4 rfl<|wAl rfl rfl rfl rfl<|xMv rfl<|xLn rfl<|xSub rfl<|wIp (f:=aD) h rfl rfl rfl rfl rfl rfl (fun a=>by rw[aN]; rfl) rfl (fun d ke9_1 h=> ?_)
 refine wLtk1 (f:=aD) ke9_1 rfl rfl rfl rfl rfl rfl rfl (by rw[aN]) rfl rfl rfl rfl<|xAz [.int .i64 0, .int .i64 0, .str [], .sl ([].map aD)] rfl<|goc 9 rfl<|cIf h rfl (fun g h=> ?_) (fun g h=> ?_)
 exact cRs<|wBd [.int .i64 0, .int .i64 0, .str [], .sl ([].map aD)] rfl rfl rfl rfl rfl rfl<|geo
 refine gco 5 rfl<|xLnH rfl<|xSub rfl<|wSlH (rf:=aD) h rfl rfl rfl rfl rfl (.so rfl) (fun a=>by rw[aN]; rfl) rfl rfl (fun c h=> ?_)
 refine goo 2 rfl<|LW (L:=([c,d.f3]:List (List aA))) (f:=iO) rfl rfl rfl rfl rfl rfl rfl<|xC0 h (uR ·) rfl (fun b h=> ?_)
 exact wBd [.int .i64 5, .int .i64 0, .str [], .sl (b.map aD)] rfl rfl rfl rfl rfl rfl<|geo
abbrev pM:Type:=Int→Int→(List UInt8)→(List aC)→(List aB)→(List aG)→Option (Int×Int×(List UInt8)×(List aA)×Bool)
abbrev tW(p:pM):Prop:= ∀ {a b:Int} {d:List UInt8} {f:List aC} {g:List aB} {j:List aG} {r:Int×Int×(List UInt8)×(List aA)×Bool},p a b d f g j=some r→Big Try.prog τ An (.fn 68 [.one (.ag [.int .i64 a, .int .i64 b, .str d, .sl (f.map aL), .sl (g.map aF)]), .one (.c (.sl (j.map aP)))] [] (.tup [.ag [.int .i64 r.1, .int .i64 r.2.1, .str r.2.2.1, .sl (r.2.2.2.1.map aD)], .c (.bool r.2.2.2.2)]) none [] none)
def iQ(n:Nat)(d:pM)(s:List aG)(g:List aC):((List aA)×Int×Int×Int×(List UInt8)×(List aA))→Option (((List aA)×Int×Int×Int×(List UInt8)×(List aA))⊕((Bool×Int×Int×(List UInt8)×(List aA))⊕((List aA)×Int×Bool×Int×Int×(List UInt8)×(List aA))))
  | (l,c,m,o,p,f)=>bif decide (c<(g.length:Int))then(ix g c).bind fun b=>(d b.f0 b.f1 b.f2 b.f3 b.f4 s).bind fun a=>bif !a.2.2.2.2 then some (.inr (.inl (false,(0:Int),(0:Int),([]:List UInt8),([]:List aA))))else(wX 56 l ([aA.mk a.1 a.2.1 a.2.2.1 a.2.2.2.1]:List aA)).bind fun j=>some (.inl (j,(IntKind.wrap .i64 (c+(1:Int))),m,o,p,f))else some (.inr (.inr (l,c,false,m,o,p,f)))
def rE(n:Nat)(d:pM)(c:Int)(t:Int)(g:List UInt8)(u:List aC)(C:List aB)(j:List aG):Option (Int×Int×(List UInt8)×(List aA)×Bool):=
  bif decide (c=(1:Int))then some ((1:Int),t,([]:List UInt8),([]:List aA),true)else bif decide (c=(2:Int))then some ((2:Int),(0:Int),g,([]:List aA),true)else bif decide (c=(3:Int))then(oS n j g).bind fun b=>some (b.1,b.2.1,b.2.2.1,b.2.2.2.1,b.2.2.2.2)else(loopN (iQ n d j u) n (([]:List aA),(0:Int),(0:Int),(0:Int),([]:List UInt8),([]:List aA))).bind fun q=>(match q with | .inl (l,m,o,p,s)=>some (m,o,p,s,l) | .inr (f,v,w,y,z,A,B)=>bif decide (c=(4:Int))then some ((4:Int),(0:Int),([]:List UInt8),f,true)else bif decide (c=(5:Int))then some ((5:Int),(0:Int),([]:List UInt8),f,true)else(oQ n f).bind fun a=>some (a.1,a.2.1,a.2.2.1,a.2.2.2.1,a.2.2.2.2))
theorem FW{n:Nat}{b:pM}(g:tW b):tW (rE n b):=by
 intro X G H Y Z a0 r h; unfold rE at h; refine bF Try.func68 rfl rfl<|gco 3 rfl<|xAz [.int .i64 0, .int .i64 0, .str [], .sl ([].map aD)] rfl<|goc 14 rfl<|cIf h rfl (fun U h=> ?_) (fun U h=> ?_)
 exact gco 4 rfl<|wBd [.int .i64 1, .int .i64 G, .str [], .sl ([].map aD)] rfl rfl rfl rfl rfl rfl<|geo
 refine gcc 5 rfl<|cIf h rfl (fun V h=> ?_) (fun V h=> ?_)
 exact gco 4 rfl<|wBd [.int .i64 2, .int .i64 0, .str H, .sl ([].map aD)] rfl rfl rfl rfl rfl rfl<|geo
 refine gcc 5 rfl<|cIf h rfl (fun W h=> ?_) (fun W h=> ?_)
 refine gco 5 rfl<|xC0 h (Er ·) rfl (fun T h=> ?_)
 exact geo; refine gco 3 rfl<|wAe (Li aD []) rfl rfl rfl rfl<|goo 6 rfl<|xLn rfl<|goc 2 rfl<|cLp h [(4,6),(8,10),(34,51)] [(4,4),(8,9)] (fun(B,m,C,D,E,p)=>([(4,Pt 4),(6,Li aD B),(34,I64 m)],[(4,[.int .i64 C, .int .i64 D, .str E, .sl (p.map aD)])])) (fun q=>match q with | .inl (o,s,t,u,v)=>(.r,[(4,Pt 4),(5,Bo o)],[(4,[.int .i64 s, .int .i64 t, .str u, .sl (v.map aD)])]) | .inr (d,j,l,w,y,z,A)=>(.e 1,[(4,Pt 4),(6,Li aD d),(34,I64 j),(35,Bo l)],[(4,[.int .i64 w, .int .i64 y, .str z, .sl (A.map aD)])])) rfl (fun st _ h=> ?_) (fun q h=> ?_)
 obtain⟨B,m,C,D,E,p⟩:=st; unfold iQ at h; refine gcc 5 rfl<|cIf h rfl (fun K h=> ?_) (fun K h=> ?_)
 refine gco 5 rfl<|xIx h aO rfl (fun J h=> ?_)
 refine xLd rfl<|xAz [.int .i64 0, .int .i64 0, .str [], .sl ([].map aL), .sl ([].map aF)] rfl<|goo 6 rfl<|xC0 h (g ·) rfl (fun c h=> ?_)
 refine goo 3 rfl<|xAz [.int .i64 0, .int .i64 0, .str [], .sl ([].map aD)] rfl<|goc 9 rfl<|cIf h rfl (fun M h=> ?_) (fun M h=> ?_)
 exact cRs<|wBd [.int .i64 0, .int .i64 0, .str [], .sl ([].map aD)] rfl rfl rfl rfl rfl rfl<|geo
 refine gco 4 rfl<|LW (L:=([aA.mk c.1 c.2.1 c.2.2.1 c.2.2.2.1]:List aA)) (f:=aD) rfl rfl rfl rfl (by simp only[List.map,cZ]<;>rfl) rfl rfl<|wAp (f:=aD) h rfl rfl rfl rfl rfl rfl rfl rfl rfl (fun a=>by rw[aN]; rfl) rfl (fun R h=> ?_)
 exact geo; exact gec; rcases q with⟨o,s,t,u,v⟩ | ⟨d,j,l,w,y,z,A⟩; exact en; refine gcc 12 rfl<|cIf h rfl (fun N h=> ?_) (fun N h=> ?_)
 exact gco 3 rfl<|wBd [.int .i64 4, .int .i64 0, .str [], .sl (d.map aD)] rfl rfl rfl rfl rfl rfl<|geo
 refine gcc 5 rfl<|cIf h rfl (fun Q h=> ?_) (fun Q h=> ?_)
 exact gco 3 rfl<|wBd [.int .i64 5, .int .i64 0, .str [], .sl (d.map aD)] rfl rfl rfl rfl rfl rfl<|geo
 refine gco 4 rfl<|xC0 h (Eo ·) rfl (fun I h=> ?_)
 exact geo
def EF:Nat→(pM)
  | 0=>(fun _ _ _ _ _ _=>none)
  | n+1=>rE n (EF n)
def jF(n:Nat):pM:=EF n
theorem Fe(n:Nat):tW (jF n):=by
  induction n with
  | zero=>exact(fun h=>nomatch h)
  | succ n ih=>exact FW (n:=n) ih
theorem Hy{n:Nat}:tW (jF n):=(Fe n)
theorem Cp(n:Nat):jF (n+1)=rE n (jF n):=rfl
abbrev LU(p:Int→Int→(List UInt8)→(List aC)→(List aB)→(List aG)→Option (Int×Int×(List UInt8)×(List aA)×Bool)):Prop:= ∀ {a b:Int} {d:List UInt8} {f:List aC} {g:List aB} {j:List aG} {r:Int×Int×(List UInt8)×(List aA)×Bool},p a b d f g j=some r→Big Try.prog τ An (.fn 29 [.one (.ag [.int .i64 a, .int .i64 b, .str d, .sl (f.map aL), .sl (g.map aF)]), .one (.c (.sl (j.map aP)))] [] (.tup [.ag [.int .i64 r.1, .int .i64 r.2.1, .str r.2.2.1, .sl (r.2.2.2.1.map aD)], .c (.bool r.2.2.2.2)]) none [] none)
def pK(n:Nat)(b:Int)(c:Int)(d:List UInt8)(f:List aC)(g:List aB)(o:List aG):Option (Int×Int×(List UInt8)×(List aA)×Bool):=
  (qA n b c d f g).bind fun m=>bif !m then some ((0:Int),(0:Int),([]:List UInt8),([]:List aA),false)else(jF n b c d f g o).bind fun a=>(bif !a.2.2.2.2 then some true else(oR n a.1 a.2.1 a.2.2.1 a.2.2.2.1).bind fun j=>some (!j)).bind fun l=>bif l then some ((0:Int),(0:Int),([]:List UInt8),([]:List aA),false)else some (a.1,a.2.1,a.2.2.1,a.2.2.2.1,true)
theorem AV{n:Nat}:LU (pK n):=by
 intro l m o p s t r h; unfold pK at h; refine bF Try.func29 rfl rfl<|gco 3 rfl<|xAz [.int .i64 0, .int .i64 0, .str [], .sl ([].map aD)] rfl<|goo 6 rfl<|xC0 h (Fi ·) rfl (fun d h=> ?_)
 refine goc 2 rfl<|cIf h rfl (fun f h=> ?_) (fun f h=> ?_)
 exact cRs<|wBd [.int .i64 0, .int .i64 0, .str [], .sl ([].map aD)] rfl rfl rfl rfl rfl rfl<|geo
 refine gco 5 rfl<|xC0 h (Hy ·) rfl (fun b h=> ?_)
 refine goo 3 rfl<|xAz [.int .i64 0, .int .i64 0, .str [], .sl ([].map aD)] rfl<|goo 6 rfl<|oJn h [(18,24)] [] (fun a=>(.n,[(24,Bo a)],[])) (fun _ h=> ?_) (fun a h=> ?_)
 refine goo 3 rfl<|oIf 20 h rfl (fun g h=> ?_) (fun g h=> ?_)
 exact geo; refine xLd rfl<|xC0 h (Ep ·) rfl (fun c h=> ?_)
 exact geo; refine cIf h rfl (fun j h=> ?_) (fun j h=> ?_)
 exact cRs<|wBd [.int .i64 0, .int .i64 0, .str [], .sl ([].map aD)] rfl rfl rfl rfl rfl rfl<|geo
 exact gec
abbrev IH(p:(List UInt8)→Int→Int→(List UInt8)→(List aA)→(List UInt8)→Int→Int→(List UInt8)→(List aA)→Option (Bool)):Prop:= ∀ {a:List UInt8} {b d:Int} {f:List UInt8} {g:List aA} {j:List UInt8} {l m:Int} {o:List UInt8} {s:List aA} {r:Bool},p a b d f g j l m o s=some r→Big Try.prog τ An (.fn 69 [.one (.ag [.str a, .int .i64 b, .int .i64 d, .str f, .sl (g.map aD)]), .one (.ag [.str j, .int .i64 l, .int .i64 m, .str o, .sl (s.map aD)])] [] (.one (.c (.bool r))) none [] none)
def oP(n:Nat)(b:List UInt8)(c:Int)(d:Int)(f:List UInt8)(g:List aA)(j:List UInt8)(l:Int)(m:Int)(o:List UInt8)(p:List aA):Option (Bool):=
  bif !decide (b=j)then some false else(dV n c d f g l m o p).bind fun a=>bif !a then some false else some true
theorem En{n:Nat}:IH (oP n):=by
 intro d f g j l m o p s t r h; unfold oP at h; refine bF Try.func69 rfl rfl<|gcc 15 rfl<|cIf h rfl (fun b h=> ?_) (fun b h=> ?_)
 exact gec; refine gco 8 rfl<|xC0 h (pA ·) rfl (fun a h=> ?_)
 refine goc 2 rfl<|cIf h rfl (fun c h=> ?_) (fun c h=> ?_)
 exact gec; exact gec
abbrev Fs(p:(List aG)→(List aG)→Option (Bool)):Prop:= ∀ {a b:List aG} {r:Bool},p a b=some r→Big Try.prog τ An (.fn 30 [.one (.c (.sl (a.map aP))), .one (.c (.sl (b.map aP)))] [] (.one (.c (.bool r))) none [] none)
def mC(n:Nat)(d:List aG)(g:List aG):(Int)→Option ((Int)⊕((Bool)⊕(Int×Bool)))
  | c=>bif decide (c<(d.length:Int))then(ix d c).bind fun a=>(ix g c).bind fun b=>(oP n a.f0 a.f1 a.f2 a.f3 a.f4 b.f0 b.f1 b.f2 b.f3 b.f4).bind fun f=>bif !f then some (.inr (.inl false))else some (.inl (IntKind.wrap .i64 (c+(1:Int))))else some (.inr (.inr (c,false)))
def mV(n:Nat)(a:List aG)(b:List aG):Option (Bool):=
  bif !decide ((a.length:Int)=(b.length:Int))then some false else(loopN (mC n a b) n (0:Int)).bind fun q=>(match q with | .inl c=>some c | .inr (f,d)=>some true)
theorem DE{n:Nat}:Fs (mV n):=by
 intro p s r h; unfold mV at h; refine bF Try.func30 rfl rfl<|gco 8 rfl<|xLn rfl<|xMv rfl<|xLn rfl<|goc 2 rfl<|cIf h rfl (fun m h=> ?_) (fun m h=> ?_)
 exact gec; refine gcc 6 rfl<|cLp h [(4,5),(11,26)] [] (fun c=>([(5,I64 c)],[])) (fun q=>match q with | .inl b=>(.r,[(4,Bo b)],[]) | .inr (d,a)=>(.e 0,[(5,I64 d),(14,Bo a)],[])) rfl (fun c _ h=> ?_) (fun q h=> ?_)
 unfold mC at h; refine gco 5 rfl<|xLn rfl<|goc 2 rfl<|cIf h rfl (fun o h=> ?_) (fun o h=> ?_)
 refine gco 7 rfl<|xIx h lE rfl (fun j h=> ?_)
 refine goo 3 rfl<|xIx h lE rfl (fun l h=> ?_)
 refine xLd rfl<|xC0 h (En ·) rfl (fun g h=> ?_)
 refine goc 2 rfl<|cIf h rfl (fun f h=> ?_) (fun f h=> ?_)
 exact gec; exact gec; exact gec; rcases q with b | ⟨d,a⟩; exact en; exact gec
abbrev DG(p:(List aG)→Int→Option (Int×(List aG))):Prop:= ∀ {a:List aG} {b:Int} {r:Int×(List aG)},p a b=some r→Big Try.prog τ An (.fn 31 [.one (.c (.sl (a.map aP))), .one (.c (.int .i64 b))] [] (.one (.c (.int .i64 r.1))) (some (.sl (r.2.map aP))) [] none)
def gH(n:Nat):((List aG)×Int×Int)→Option (((List aG)×Int×Int)⊕(((List aG)×Int×Int×Bool)))
  | (l,j,a)=>bif decide (a<(l.length:Int))then(cN n j).bind fun v=>(ix l a).bind fun c=>(some (l.set (Int.toNat a) (aG.mk v c.f1 c.f2 c.f3 c.f4))).bind fun o=>(ix o a).bind fun d=>(some (o.set (Int.toNat a) (aG.mk d.f0 (IntKind.wrap .i64 (j+(1:Int))) d.f2 d.f3 d.f4))).bind fun p=>(ix p a).bind fun f=>(some (p.set (Int.toNat a) (aG.mk f.f0 f.f1 (IntKind.wrap .i64 ((IntKind.wrap .i64 (j+(1:Int)))+(1:Int))) f.f3 f.f4))).bind fun s=>(cN n (IntKind.wrap .i64 ((IntKind.wrap .i64 ((IntKind.wrap .i64 (j+(1:Int)))+(1:Int)))+(1:Int)))).bind fun u=>(ix s a).bind fun g=>(some (s.set (Int.toNat a) (aG.mk g.f0 g.f1 g.f2 u g.f4))).bind fun t=>(ix t a).bind fun b=>(cP n b.f4 (IntKind.wrap .i64 ((IntKind.wrap .i64 ((IntKind.wrap .i64 ((IntKind.wrap .i64 (j+(1:Int)))+(1:Int)))+(1:Int)))+(1:Int)))).bind fun m=>(some (t.set (Int.toNat a) (aG.mk b.f0 b.f1 b.f2 b.f3 m.2))).bind fun w=>some (.inl (w,m.1,(IntKind.wrap .i64 (a+(1:Int)))))else some (.inr (l,j,a,false))
def kE(n:Nat)(a:List aG)(b:Int):Option (Int×(List aG)):=
  (loopN (gH n) n (a,b,(0:Int))).bind fun(c,d,f,g)=>some (d,c)
theorem Ax{n:Nat}:DG (kE n):=by
 intro E G r h; unfold kE at h; refine bFi Try.func31 rfl rfl<|gcc 9 rfl<|cLp h [(0,1),(5,52)] [] (fun(p,j,m)=>([(0,Li aP p),(1,I64 j),(5,I64 m)],[])) (fun(s,t,u,v)=>(.e 0,[(0,Li aP s),(1,I64 t),(5,I64 u),(9,Bo v)],[])) rfl (fun st _ h=> ?_) (fun q h=> ?_)
 obtain⟨p,j,m⟩:=st; unfold gH at h; refine gco 5 rfl<|xLn rfl<|goc 2 rfl<|cIf h rfl (fun D h=> ?_) (fun D h=> ?_)
 refine gco 5 rfl<|wAl rfl rfl rfl rfl<|goo 2 rfl<|xC0 h (eG ·) rfl (fun w h=> ?_)
 refine wIp (f:=aP) h rfl rfl rfl rfl rfl rfl (fun _=>rfl) rfl (fun a ke16_10 h=> ?_)
 refine xFd rfl<|Bc (f:=aP) (v':=aG.mk w a.f1 a.f2 a.f3 a.f4) h ke16_10 rfl rfl rfl rfl rfl rfl rfl rfl rfl (fun z h=> ?_)
 refine goo 9 rfl<|wAl rfl rfl rfl rfl<|goo 2 rfl<|wIp (f:=aP) h rfl rfl rfl rfl rfl rfl (fun _=>rfl) rfl (fun b ke23_12 h=> ?_)
 refine goo 2 rfl<|Bc (f:=aP) (v':=aG.mk b.f0 (IntKind.wrap .i64 (j+(1:Int))) b.f2 b.f3 b.f4) h ke23_12 rfl rfl rfl rfl rfl rfl rfl rfl rfl (fun A h=> ?_)
 refine goo 9 rfl<|wAl rfl rfl rfl rfl<|goo 2 rfl<|wIp (f:=aP) h rfl rfl rfl rfl rfl rfl (fun _=>rfl) rfl (fun c ke31_14 h=> ?_)
 refine goo 2 rfl<|Bc (f:=aP) (v':=aG.mk c.f0 c.f1 (IntKind.wrap .i64 ((IntKind.wrap .i64 (j+(1:Int)))+(1:Int))) c.f3 c.f4) h ke31_14 rfl rfl rfl rfl rfl rfl rfl rfl rfl (fun B h=> ?_)
 refine goo 9 rfl<|wAl rfl rfl rfl rfl<|goo 2 rfl<|xC0 h (eG ·) rfl (fun o h=> ?_)
 refine wIp (f:=aP) h rfl rfl rfl rfl rfl rfl (fun _=>rfl) rfl (fun d ke40_17 h=> ?_)
 refine goo 2 rfl<|Bc (f:=aP) (v':=aG.mk d.f0 d.f1 d.f2 o d.f4) h ke40_17 rfl rfl rfl rfl rfl rfl rfl rfl rfl (fun y h=> ?_)
 refine goo 8 rfl<|wAl rfl rfl rfl rfl<|xMv rfl<|wIp (f:=aP) h rfl rfl rfl rfl rfl rfl (fun _=>rfl) rfl (fun g ke47_19 h=> ?_)
 refine goo 2 rfl<|wLq (f:=aP) ke47_19 rfl rfl rfl rfl rfl rfl rfl rfl rfl rfl<|xMv rfl<|QQ aP (fun l=>y.set (Int.toNat m) (aG.mk g.f0 g.f1 g.f2 g.f3 l.2)) h (sL ·) rfl (QU ke47_19 rfl) (fun _=>BF ke47_19 rfl rfl) (fun l C h=> ?_)
 exact geo; exact gec; obtain⟨s,t,u,v⟩:=q; exact gec
abbrev cL:Type:=(List aB)→Int→Option (Int×(List aB))
abbrev iL(p:cL):Prop:= ∀ {a:List aB} {b:Int} {r:Int×(List aB)},p a b=some r→Big Try.prog τ An (.fn 54 [.one (.c (.sl (a.map aF))), .one (.c (.int .i64 b))] [] (.one (.c (.int .i64 r.1))) (some (.sl (r.2.map aF))) [] none)
abbrev dK:Type:=(List aC)→Int→Option (Int×(List aC))
abbrev kF(p:dK):Prop:= ∀ {a:List aC} {b:Int} {r:Int×(List aC)},p a b=some r→Big Try.prog τ An (.fn 53 [.one (.c (.sl (a.map aL))), .one (.c (.int .i64 b))] [] (.one (.c (.int .i64 r.1))) (some (.sl (r.2.map aL))) [] none)
end Go.Own
