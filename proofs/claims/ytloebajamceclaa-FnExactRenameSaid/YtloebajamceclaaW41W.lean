/- Each function on plain data, and its walk. No conditions. -/
import Derived.Test.YtloebajamceclaaW41V
set_option linter.unusedVariables false
set_option linter.unusedSimpArgs false
set_option linter.unnecessarySimpa false
namespace Go.Own
open Go Go.Proofs
abbrev fA:Type:=Int→Int→(List UInt8)→(List aB)→(List aA)→(List UInt8)→(List UInt8)→Option (Int×Int×(List UInt8)×(List aB)×(List aA))
abbrev rK(p:fA):Prop:= ∀ {a b:Int} {d:List UInt8} {f:List aB} {g:List aA} {j l:List UInt8} {r:Int×Int×(List UInt8)×(List aB)×(List aA)},p a b d f g j l=some r→Big Try.prog τ An (.fn 81 [.one (.ag [.int .i64 a, .int .i64 b, .str d, .sl (f.map aE), .sl (g.map aC)]), .one (.c (.str j)), .one (.c (.str l))] [] (.one (.ag [.int .i64 r.1, .int .i64 r.2.1, .str r.2.2.1, .sl (r.2.2.2.1.map aE), .sl (r.2.2.2.2.map aC)])) none [] none)
def gU(n:Nat)(c:fA)(s:List UInt8)(t:List UInt8)(f:List aB):(Int×Int×Int×(List UInt8)×(List aB)×(List aA))→Option ((Int×Int×Int×(List UInt8)×(List aB)×(List aA))⊕((Int×Bool×Int×Int×(List UInt8)×(List aB)×(List aA))))
  | (d,j,l,m,o,p)=>bif decide (d<(f.length:Int))then(ix f d).bind fun b=>(c b.f0 b.f1 b.f2 b.f3 b.f4 s t).bind fun a=>(sX 80 o ([aB.mk a.1 a.2.1 a.2.2.1 a.2.2.2.1 a.2.2.2.2]:List aB)).bind fun g=>some (.inl ((IntKind.wrap .i64 (d+(1:Int))),j,l,m,g,p))else some (.inr (d,false,j,l,m,o,p))
def gT(n:Nat)(f:fA)(t:List UInt8)(u:List UInt8)(p:List aA):(Int×Int×Int×(List UInt8)×(List aB)×(List aA))→Option ((Int×Int×Int×(List UInt8)×(List aB)×(List aA))⊕((Int×Bool×Int×Int×(List UInt8)×(List aB)×(List aA))))
  | (d,g,j,l,m,o)=>bif decide (d<(p.length:Int))then(ix p d).bind fun a=>(bV n a.f0 a.f1 a.f2 a.f3 a.f4).bind fun b=>(f a.f5 a.f6 a.f7 a.f8 a.f9 t u).bind fun c=>(sX 160 o ([aA.mk b.1 b.2.1 b.2.2.1 b.2.2.2.1 b.2.2.2.2 c.1 c.2.1 c.2.2.1 c.2.2.2.1 c.2.2.2.2]:List aA)).bind fun s=>some (.inl ((IntKind.wrap .i64 (d+(1:Int))),g,j,l,m,s))else some (.inr (d,false,g,j,l,m,o))
def vM(n:Nat)(d:fA)(s:List UInt8)(t:List UInt8)(o:List aB):(Int×Int×Int×(List UInt8)×(List aB)×(List aA))→Option ((Int×Int×Int×(List UInt8)×(List aB)×(List aA))⊕((Int×Bool×Int×Int×(List UInt8)×(List aB)×(List aA))))
  | (c,f,g,j,l,m)=>bif decide (c<(o.length:Int))then(ix o c).bind fun b=>(d b.f0 b.f1 b.f2 b.f3 b.f4 s t).bind fun a=>(sX 80 l ([aB.mk a.1 a.2.1 a.2.2.1 a.2.2.2.1 a.2.2.2.2]:List aB)).bind fun p=>some (.inl ((IntKind.wrap .i64 (c+(1:Int))),f,g,j,p,m))else some (.inr (c,false,f,g,j,l,m))
def vL(n:Nat)(f:fA)(t:List UInt8)(u:List UInt8)(p:List aA):(Int×Int×Int×(List UInt8)×(List aB)×(List aA))→Option ((Int×Int×Int×(List UInt8)×(List aB)×(List aA))⊕((Int×Bool×Int×Int×(List UInt8)×(List aB)×(List aA))))
  | (d,g,j,l,m,o)=>bif decide (d<(p.length:Int))then(ix p d).bind fun a=>(bV n a.f0 a.f1 a.f2 a.f3 a.f4).bind fun b=>(f a.f5 a.f6 a.f7 a.f8 a.f9 t u).bind fun c=>(sX 160 o ([aA.mk b.1 b.2.1 b.2.2.1 b.2.2.2.1 b.2.2.2.2 c.1 c.2.1 c.2.2.1 c.2.2.2.1 c.2.2.2.2]:List aA)).bind fun s=>some (.inl ((IntKind.wrap .i64 (d+(1:Int))),g,j,l,m,s))else some (.inr (d,false,g,j,l,m,o))
def oH(n:Nat)(a:fA)(d:Int)(f:Int)(g:List UInt8)(j:List aB)(l:List aA)(b:List UInt8)(c:List UInt8):Option (Int×Int×(List UInt8)×(List aB)×(List aA)):=
  (bif decide (d=(8:Int))then some (decide (g=b))else some false).bind fun m=>bif m then(loopN (gU n a b c j) n ((0:Int),d,f,c,([]:List aB),([]:List aA))).bind fun(M,Q,o,p,s,t,u)=>(loopN (gT n a b c l) n ((0:Int),o,p,s,t,u)).bind fun(T,V,v,w,y,z,A)=>some (v,w,y,z,A)else(loopN (vM n a b c j) n ((0:Int),d,f,g,([]:List aB),([]:List aA))).bind fun(N,R,B,C,D,E,G)=>(loopN (vL n a b c l) n ((0:Int),B,C,D,E,G)).bind fun(U,W,H,I,J,K,L)=>some (H,I,J,K,L)
theorem DK{n:Nat}{l:fA}(b:rK l):rK (oH n l):=by
 intro c4 c5 c6 e1 e2 e3 e4 r h; unfold oH at h; refine bF Try.func81 rfl rfl<|gco 3 rfl<|xAz [.int .i64 0, .int .i64 0, .str [], .sl ([].map aE), .sl ([].map aC)] rfl<|goo 9 rfl<|wBd [.int .i64 c4, .int .i64 c5, .str c6, .sl ([].map aE), .sl ([].map aC)] rfl rfl rfl rfl rfl rfl<|xAz [.int .i64 0, .int .i64 0, .str [], .sl ([].map aE), .sl ([].map aC)] rfl<|goo 5 rfl<|oJn h [(19,27)] [] (fun D=>(.n,[(27,Bo D)],[])) (fun _ h=> ?_) (fun D h=> ?_)
 refine goo 4 rfl<|oIf 22 h rfl (fun q2 h=> ?_) (fun q2 h=> ?_)
 exact geo; exact geo; refine cIf h rfl (fun q3 h=> ?_) (fun q3 h=> ?_)
 refine gco 10 rfl<|xLn rfl<|goc 2 rfl<|cLp h [(9,9),(33,46)] [(7,7),(9,9)] (fun(E,b9,c0,c1,c2,c3)=>([(33,I64 E)],[(7,[.int .i64 b9, .int .i64 c0, .str c1, .sl (c2.map aE), .sl (c3.map aC)])])) (fun(p,u,G,H,I,J,K)=>(.e 0,[(33,I64 p),(34,Bo u)],[(7,[.int .i64 G, .int .i64 H, .str I, .sl (J.map aE), .sl (K.map aC)])])) rfl (fun st _ h=> ?_) (fun q h=> ?_)
 obtain⟨E,b9,c0,c1,c2,c3⟩:=st; unfold gU at h; refine gcc 5 rfl<|cIf h rfl (fun d1 h=> ?_) (fun d1 h=> ?_)
 refine gco 5 rfl<|xIx h aK rfl (fun c7 h=> ?_)
 refine xLd rfl<|xAz [.int .i64 0, .int .i64 0, .str [], .sl ([].map aE), .sl ([].map aC)] rfl<|goo 8 rfl<|xC0 h (b ·) rfl (fun m h=> ?_)
 refine yQ (L:=([aB.mk m.1 m.2.1 m.2.2.1 m.2.2.2.1 m.2.2.2.2]:List aB)) (f:=aE) rfl rfl rfl rfl (by simp only[List.map,cC]<;>rfl) rfl rfl<|wAp (f:=aE) h rfl rfl rfl rfl rfl rfl rfl rfl rfl (fun a=>by rw[aK]; rfl) rfl (fun d5 h=> ?_)
 exact geo; exact gec; obtain⟨p,u,G,H,I,J,K⟩:=q; refine gco 5 rfl<|xLn rfl<|goc 2 rfl<|cLp h [(11,11),(50,68)] [(7,7),(11,11)] (fun(w,M,N,Q,R,T)=>([(50,I64 w)],[(7,[.int .i64 M, .int .i64 N, .str Q, .sl (R.map aE), .sl (T.map aC)])])) (fun(y,B,U,V,W,X,Y)=>(.e 2,[(50,I64 y),(51,Bo B)],[(7,[.int .i64 U, .int .i64 V, .str W, .sl (X.map aE), .sl (Y.map aC)])])) rfl (fun st _ h=> ?_) (fun q h=> ?_)
 obtain⟨w,M,N,Q,R,T⟩:=st; unfold gT at h; refine gcc 5 rfl<|cIf h rfl (fun d2 h=> ?_) (fun d2 h=> ?_)
 refine gco 5 rfl<|xIx h aG rfl (fun c9 h=> ?_)
 refine xLd rfl<|xAz [.int .i64 0, .int .i64 0, .str [], .sl ([].map aE), .sl ([].map aC), .int .i64 0, .int .i64 0, .str [], .sl ([].map aE), .sl ([].map aC)] rfl<|goo 7 rfl<|xC0 h (qZ ·) rfl (fun c h=> ?_)
 refine goo 4 rfl<|xC0 h (b ·) rfl (fun g h=> ?_)
 refine wBd [.int .i64 c.1, .int .i64 c.2.1, .str c.2.2.1, .sl (c.2.2.2.1.map aE), .sl (c.2.2.2.2.map aC), .int .i64 g.1, .int .i64 g.2.1, .str g.2.2.1, .sl (g.2.2.2.1.map aE), .sl (g.2.2.2.2.map aC)] rfl rfl rfl rfl rfl rfl<|yQ (L:=([aA.mk c.1 c.2.1 c.2.2.1 c.2.2.2.1 c.2.2.2.2 g.1 g.2.1 g.2.2.1 g.2.2.2.1 g.2.2.2.2]:List aA)) (f:=aC) rfl rfl rfl rfl (by simp only[List.map,aY]<;>rfl) rfl rfl<|wAp (f:=aC) h rfl rfl rfl rfl rfl rfl rfl rfl rfl (fun a=>by rw[aG]; rfl) rfl (fun d7 h=> ?_)
 exact geo; exact gec; obtain⟨y,B,U,V,W,X,Y⟩:=q; exact gec; refine gco 6 rfl<|xLn rfl<|goc 2 rfl<|cLp h [(9,9),(33,46)] [(7,7),(9,9)] (fun(s,Z,a0,a1,a2,a3)=>([(33,I64 s)],[(7,[.int .i64 Z, .int .i64 a0, .str a1, .sl (a2.map aE), .sl (a3.map aC)])])) (fun(t,v,a4,a5,a6,a7,a8)=>(.e 0,[(33,I64 t),(34,Bo v)],[(7,[.int .i64 a4, .int .i64 a5, .str a6, .sl (a7.map aE), .sl (a8.map aC)])])) rfl (fun st _ h=> ?_) (fun q h=> ?_)
 obtain⟨s,Z,a0,a1,a2,a3⟩:=st; unfold vM at h; refine gcc 5 rfl<|cIf h rfl (fun d3 h=> ?_) (fun d3 h=> ?_)
 refine gco 5 rfl<|xIx h aK rfl (fun c8 h=> ?_)
 refine xLd rfl<|xAz [.int .i64 0, .int .i64 0, .str [], .sl ([].map aE), .sl ([].map aC)] rfl<|goo 8 rfl<|xC0 h (b ·) rfl (fun o h=> ?_)
 refine yQ (L:=([aB.mk o.1 o.2.1 o.2.2.1 o.2.2.2.1 o.2.2.2.2]:List aB)) (f:=aE) rfl rfl rfl rfl (by simp only[List.map,cC]<;>rfl) rfl rfl<|wAp (f:=aE) h rfl rfl rfl rfl rfl rfl rfl rfl rfl (fun a=>by rw[aK]; rfl) rfl (fun d6 h=> ?_)
 exact geo; exact gec; obtain⟨t,v,a4,a5,a6,a7,a8⟩:=q; refine gco 5 rfl<|xLn rfl<|goc 2 rfl<|cLp h [(11,11),(50,68)] [(7,7),(11,11)] (fun(z,a9,b0,b1,b2,b3)=>([(50,I64 z)],[(7,[.int .i64 a9, .int .i64 b0, .str b1, .sl (b2.map aE), .sl (b3.map aC)])])) (fun(A,C,b4,b5,b6,b7,b8)=>(.e 2,[(50,I64 A),(51,Bo C)],[(7,[.int .i64 b4, .int .i64 b5, .str b6, .sl (b7.map aE), .sl (b8.map aC)])])) rfl (fun st _ h=> ?_) (fun q h=> ?_)
 obtain⟨z,a9,b0,b1,b2,b3⟩:=st; unfold vL at h; refine gcc 5 rfl<|cIf h rfl (fun d4 h=> ?_) (fun d4 h=> ?_)
 refine gco 5 rfl<|xIx h aG rfl (fun d0 h=> ?_)
 refine xLd rfl<|xAz [.int .i64 0, .int .i64 0, .str [], .sl ([].map aE), .sl ([].map aC), .int .i64 0, .int .i64 0, .str [], .sl ([].map aE), .sl ([].map aC)] rfl<|goo 7 rfl<|xC0 h (qZ ·) rfl (fun d h=> ?_)
 refine goo 4 rfl<|xC0 h (b ·) rfl (fun j h=> ?_)
 refine wBd [.int .i64 d.1, .int .i64 d.2.1, .str d.2.2.1, .sl (d.2.2.2.1.map aE), .sl (d.2.2.2.2.map aC), .int .i64 j.1, .int .i64 j.2.1, .str j.2.2.1, .sl (j.2.2.2.1.map aE), .sl (j.2.2.2.2.map aC)] rfl rfl rfl rfl rfl rfl<|yQ (L:=([aA.mk d.1 d.2.1 d.2.2.1 d.2.2.2.1 d.2.2.2.2 j.1 j.2.1 j.2.2.1 j.2.2.2.1 j.2.2.2.2]:List aA)) (f:=aC) rfl rfl rfl rfl (by simp only[List.map,aY]<;>rfl) rfl rfl<|wAp (f:=aC) h rfl rfl rfl rfl rfl rfl rfl rfl rfl (fun a=>by rw[aG]; rfl) rfl (fun d8 h=> ?_)
 exact geo; exact gec; obtain⟨A,C,b4,b5,b6,b7,b8⟩:=q; exact gec
def zX:Nat→(fA)
  | 0=>(fun _ _ _ _ _ _ _=>none)
  | n+1=>oH n (zX n)
def dB(n:Nat):fA:=zX n
theorem DN(n:Nat):rK (dB n):=by
  induction n with
  | zero=>exact(fun h=>nomatch h)
  | succ n ih=>exact DK (n:=n) ih
theorem Ep{n:Nat}:rK (dB n):=(DN n)
theorem As(n:Nat):dB (n+1)=oH n (dB n):=rfl
abbrev KC(p:(List aD)→(List UInt8)→(List UInt8)→Option ((List aD)×Bool)):Prop:= ∀ {a:List aD} {b d:List UInt8} {r:(List aD)×Bool},p a b d=some r→Big Try.prog τ An (.fn 35 [.one (.ag [.sl (a.map aH)]), .one (.c (.str b)), .one (.c (.str d))] [] (.tup [.ag [.sl (r.1.map aH)], .c (.bool r.2)]) none [] none)
def lS(n:Nat)(l:List UInt8)(m:List UInt8)(g:List aD):(Int×(List aD))→Option ((Int×(List aD))⊕((Int×Bool×(List aD))))
  | (a,d)=>bif decide (a<(g.length:Int))then(ix d a).bind fun c=>(dB n c.f2 c.f3 c.f4 c.f5 c.f6 l m).bind fun b=>(ix d a).bind fun f=>(some (d.set (Int.toNat a) (aD.mk f.f0 f.f1 b.1 b.2.1 b.2.2.1 b.2.2.2.1 b.2.2.2.2))).bind fun j=>some (.inl ((IntKind.wrap .i64 (a+(1:Int))),j))else some (.inr (a,false,d))
def kI(n:Nat)(d:List aD)(j:List UInt8)(f:List UInt8):Option ((List aD)×Bool):=
  (kB n d).bind fun b=>(kH n d j).bind fun c=>(bif decide (c<(0:Int))then some true else(gL n f).bind fun l=>bif !l then some true else(kH n d f).bind fun m=>bif decide ((0:Int)≤m)then some true else(nA n d).bind fun o=>some (!o)).bind fun p=>bif p then some (b,false)else(ix b c).bind fun a=>(some (b.set (Int.toNat c) (aD.mk f a.f1 a.f2 a.f3 a.f4 a.f5 a.f6))).bind fun g=>(loopN (lS n j f g) n ((0:Int),g)).bind fun(t,u,s)=>some (s,true)
theorem yA{n:Nat}:KC (kI n):=by
 intro H I p r h; unfold kI at h; refine bF Try.func35 rfl rfl<|gco 3 rfl<|xAz [.sl ([].map aH)] rfl<|goo 5 rfl<|xC0 h (Ay ·) rfl (fun v h=> ?_)
 refine xAz [.sl ([].map aH)] rfl<|goo 6 rfl<|xC0 h (rI ·) rfl (fun w h=> ?_)
 refine goo 5 rfl<|oJn h [(17,34)] [] (fun l=>(.n,[(34,Bo l)],[])) (fun _ h=> ?_) (fun l h=> ?_)
 refine goo 3 rfl<|oIf 19 h rfl (fun D h=> ?_) (fun D h=> ?_)
 exact geo; refine xMv rfl<|xC0 h (oY ·) rfl (fun y h=> ?_)
 refine goo 3 rfl<|oIf 24 h rfl (fun E h=> ?_) (fun E h=> ?_)
 exact geo; refine goo 2 rfl<|xC0 h (rI ·) rfl (fun z h=> ?_)
 refine goo 3 rfl<|oIf 30 h rfl (fun G h=> ?_) (fun G h=> ?_)
 exact geo; refine xLd rfl<|xC0 h (DW ·) rfl (fun A h=> ?_)
 exact geo; refine cIf h rfl (fun t h=> ?_) (fun t h=> ?_)
 exact gec; refine gco 4 rfl<|wLa rfl rfl rfl rfl rfl rfl rfl<|goo 2 rfl<|wIp (f:=aH) h rfl rfl rfl rfl rfl rfl (fun _=>rfl) rfl (fun a ke40_11 h=> ?_)
 refine xFd rfl<|CX (f:=aH) (v':=aD.mk p a.f1 a.f2 a.f3 a.f4 a.f5 a.f6) h ke40_11 rfl rfl rfl rfl rfl rfl rfl rfl rfl (fun B h=> ?_)
 refine goo 5 rfl<|wLa rfl rfl rfl rfl rfl rfl rfl<|xLn rfl<|goc 2 rfl<|cLp h [(10,11),(45,60)] [(8,8),(11,11)] (fun(d,m)=>([(45,I64 d)],[(8,[.sl (m.map aH)])])) (fun(g,j,o)=>(.e 0,[(45,I64 g),(46,Bo j)],[(8,[.sl (o.map aH)])])) rfl (fun st _ h=> ?_) (fun q h=> ?_)
 obtain⟨d,m⟩:=st; unfold lS at h; refine gcc 5 rfl<|cIf h rfl (fun u h=> ?_) (fun u h=> ?_)
 refine gco 6 rfl<|wIp (f:=aH) h rfl rfl rfl rfl rfl rfl (fun _=>rfl) rfl (fun s ke48_19 h=> ?_)
 refine wLp (f:=aH) ke48_19 rfl rfl rfl rfl rfl rfl rfl rfl rfl rfl<|xAz [.str [], .sl ([].map bZ), .int .i64 0, .int .i64 0, .str [], .sl ([].map aE), .sl ([].map aC)] rfl<|goo 5 rfl<|wLa rfl rfl rfl rfl rfl rfl rfl<|goo 5 rfl<|xC0 h (Ep ·) rfl (fun b h=> ?_)
 refine wIp (f:=aH) h rfl rfl rfl rfl rfl rfl (fun _=>rfl) rfl (fun c ke58_21 h=> ?_)
 refine xFd rfl<|CX (f:=aH) (v':=aD.mk c.f0 c.f1 b.1 b.2.1 b.2.2.1 b.2.2.2.1 b.2.2.2.2) h ke58_21 rfl rfl rfl rfl rfl rfl rfl rfl rfl (fun C h=> ?_)
 exact geo; exact gec; obtain⟨g,j,o⟩:=q; exact gec
abbrev cP:Type:=Int→Int→(List UInt8)→(List aB)→(List aA)→Int→Int→(List UInt8)→(List aB)→(List aA)→Int→Int→(List UInt8)→(List aB)→(List aA)→Int→Int→(List UInt8)→(List aB)→(List aA)→Option (Bool)
abbrev gZ(p:cP):Prop:= ∀ {a b:Int} {d:List UInt8} {f:List aB} {g:List aA} {j l:Int} {m:List UInt8} {o:List aB} {s:List aA} {t u:Int} {v:List UInt8} {w:List aB} {y:List aA} {z A:Int} {B:List UInt8} {C:List aB} {D:List aA} {r:Bool},p a b d f g j l m o s t u v w y z A B C D=some r→Big Try.prog τ An (.fn 94 [.one (.ag [.int .i64 a, .int .i64 b, .str d, .sl (f.map aE), .sl (g.map aC), .int .i64 j, .int .i64 l, .str m, .sl (o.map aE), .sl (s.map aC)]), .one (.ag [.int .i64 t, .int .i64 u, .str v, .sl (w.map aE), .sl (y.map aC), .int .i64 z, .int .i64 A, .str B, .sl (C.map aE), .sl (D.map aC)])] [] (.one (.c (.bool r))) none [] none)
abbrev cU:Type:=(List aA)→(List aA)→Option (Bool)
abbrev fZ(p:cU):Prop:= ∀ {a b:List aA} {r:Bool},p a b=some r→Big Try.prog τ An (.fn 52 [.one (.c (.sl (a.map aC))), .one (.c (.sl (b.map aC)))] [] (.one (.c (.bool r))) none [] none)
abbrev dJ:Type:=(List aB)→(List aB)→Option (Bool)
abbrev jK(p:dJ):Prop:= ∀ {a b:List aB} {r:Bool},p a b=some r→Big Try.prog τ An (.fn 51 [.one (.c (.sl (a.map aE))), .one (.c (.sl (b.map aE)))] [] (.one (.c (.bool r))) none [] none)
abbrev dQ:Type:=Int→Int→(List UInt8)→(List aB)→(List aA)→Int→Int→(List UInt8)→(List aB)→(List aA)→Option (Bool)
abbrev kP(p:dQ):Prop:= ∀ {a b:Int} {d:List UInt8} {f:List aB} {g:List aA} {j l:Int} {m:List UInt8} {o:List aB} {s:List aA} {r:Bool},p a b d f g j l m o s=some r→Big Try.prog τ An (.fn 15 [.one (.ag [.int .i64 a, .int .i64 b, .str d, .sl (f.map aE), .sl (g.map aC)]), .one (.ag [.int .i64 j, .int .i64 l, .str m, .sl (o.map aE), .sl (s.map aC)])] [] (.one (.c (.bool r))) none [] none)
def mP(n:Nat)(a:dQ)(d:dJ)(b:cU)(c:cP)(j:Int)(l:Int)(m:List UInt8)(o:List aB)(p:List aA)(s:Int)(t:Int)(u:List UInt8)(v:List aB)(w:List aA)(y:Int)(z:Int)(A:List UInt8)(B:List aB)(C:List aA)(D:Int)(E:Int)(G:List UInt8)(H:List aB)(I:List aA):Option (Bool):=
  (a j l m o p y z A B C).bind fun g=>bif !g then some false else(a s t u v w D E G H I).bind fun f=>bif !f then some false else some true
theorem Bz{n:Nat}{f:dQ}(c:kP f){d:dJ}(l:jK d){a:cU}(g:fZ a){b:cP}(j:gZ b):gZ (mP n f d a b):=by
 intro t u v w y z A B C D E G H I J K L M N Q r h; unfold mP at h; refine bF Try.func94 rfl rfl<|gco 13 rfl<|xC0 h (c ·) rfl (fun o h=> ?_)
 refine goc 2 rfl<|cIf h rfl (fun p h=> ?_) (fun p h=> ?_)
 exact gec; refine gco 8 rfl<|xC0 h (c ·) rfl (fun m h=> ?_)
 refine goc 2 rfl<|cIf h rfl (fun s h=> ?_) (fun s h=> ?_)
 exact gec; exact gec
def kW(n:Nat)(c:cP)(f:List aA)(j:List aA):(Int)→Option ((Int)⊕((Bool)⊕(Int×Bool)))
  | d=>bif decide (d<(f.length:Int))then(ix f d).bind fun a=>(ix j d).bind fun b=>(c a.f0 a.f1 a.f2 a.f3 a.f4 a.f5 a.f6 a.f7 a.f8 a.f9 b.f0 b.f1 b.f2 b.f3 b.f4 b.f5 b.f6 b.f7 b.f8 b.f9).bind fun g=>bif !g then some (.inr (.inl false))else some (.inl (IntKind.wrap .i64 (d+(1:Int))))else some (.inr (.inr (d,false)))
def lI(n:Nat)(d:dQ)(c:dJ)(b:cU)(a:cP)(f:List aA)(g:List aA):Option (Bool):=
  bif !decide ((f.length:Int)=(g.length:Int))then some false else(loopN (kW n a f g) n (0:Int)).bind fun q=>(match q with | .inl j=>some j | .inr (m,l)=>some true)
theorem Al{n:Nat}{d:dQ}(m:kP d){c:dJ}(j:jK c){a:cU}(g:fZ a){b:cP}(f:gZ b):fZ (lI n d c a b):=by
 intro A B r h; unfold lI at h; refine bF Try.func52 rfl rfl<|gco 8 rfl<|xLn rfl<|xMv rfl<|xLn rfl<|goc 2 rfl<|cIf h rfl (fun y h=> ?_) (fun y h=> ?_)
 exact gec; refine gcc 6 rfl<|cLp h [(4,5),(11,26)] [] (fun p=>([(5,I64 p)],[])) (fun q=>match q with | .inl o=>(.r,[(4,Bo o)],[]) | .inr (s,l)=>(.e 0,[(5,I64 s),(14,Bo l)],[])) rfl (fun p _ h=> ?_) (fun q h=> ?_)
 unfold kW at h; refine gco 5 rfl<|xLn rfl<|goc 2 rfl<|cIf h rfl (fun z h=> ?_) (fun z h=> ?_)
 refine gco 7 rfl<|xIx h aG rfl (fun v h=> ?_)
 refine goo 3 rfl<|xIx h aG rfl (fun w h=> ?_)
 refine xLd rfl<|xC0 h (f ·) rfl (fun u h=> ?_)
 refine goc 2 rfl<|cIf h rfl (fun t h=> ?_) (fun t h=> ?_)
 exact gec; exact gec; exact gec; rcases q with o | ⟨s,l⟩; exact en; exact gec
def nQ(n:Nat)(c:dQ)(f:List aB)(j:List aB):(Int)→Option ((Int)⊕((Bool)⊕(Int×Bool)))
  | d=>bif decide (d<(f.length:Int))then(ix f d).bind fun a=>(ix j d).bind fun b=>(c a.f0 a.f1 a.f2 a.f3 a.f4 b.f0 b.f1 b.f2 b.f3 b.f4).bind fun g=>bif !g then some (.inr (.inl false))else some (.inl (IntKind.wrap .i64 (d+(1:Int))))else some (.inr (.inr (d,false)))
def oG(n:Nat)(a:dQ)(d:dJ)(b:cU)(c:cP)(f:List aB)(g:List aB):Option (Bool):=
  bif !decide ((f.length:Int)=(g.length:Int))then some false else(loopN (nQ n a f g) n (0:Int)).bind fun q=>(match q with | .inl j=>some j | .inr (m,l)=>some true)
theorem DJ{n:Nat}{d:dQ}(f:kP d){c:dJ}(l:jK c){a:cU}(g:fZ a){b:cP}(j:gZ b):jK (oG n d c a b):=by
 intro A B r h; unfold oG at h; refine bF Try.func51 rfl rfl<|gco 8 rfl<|xLn rfl<|xMv rfl<|xLn rfl<|goc 2 rfl<|cIf h rfl (fun y h=> ?_) (fun y h=> ?_)
 exact gec; refine gcc 6 rfl<|cLp h [(4,5),(11,26)] [] (fun p=>([(5,I64 p)],[])) (fun q=>match q with | .inl o=>(.r,[(4,Bo o)],[]) | .inr (s,m)=>(.e 0,[(5,I64 s),(14,Bo m)],[])) rfl (fun p _ h=> ?_) (fun q h=> ?_)
 unfold nQ at h; refine gco 5 rfl<|xLn rfl<|goc 2 rfl<|cIf h rfl (fun z h=> ?_) (fun z h=> ?_)
 refine gco 7 rfl<|xIx h aK rfl (fun v h=> ?_)
 refine goo 3 rfl<|xIx h aK rfl (fun w h=> ?_)
 refine xLd rfl<|xC0 h (f ·) rfl (fun u h=> ?_)
 refine goc 2 rfl<|cIf h rfl (fun t h=> ?_) (fun t h=> ?_)
 exact gec; exact gec; exact gec; rcases q with o | ⟨s,m⟩; exact en; exact gec
def pQ(n:Nat)(d:dQ)(b:dJ)(a:cU)(c:cP)(j:Int)(l:Int)(m:List UInt8)(o:List aB)(p:List aA)(s:Int)(t:Int)(u:List UInt8)(v:List aB)(w:List aA):Option (Bool):=
  bif !decide (j=s)then some false else bif !decide (l=t)then some false else bif !decide (m=u)then some false else(b o v).bind fun f=>bif !f then some false else(a p w).bind fun g=>bif !g then some false else some true
theorem EX{n:Nat}{d:dQ}(l:kP d){c:dJ}(g:jK c){a:cU}(f:fZ a){b:cP}(j:gZ b):kP (pQ n d c a b):=by
 intro w y z A B C D E G H r h; unfold pQ at h; refine bF Try.func15 rfl rfl<|gcc 15 rfl<|cIf h rfl (fun p h=> ?_) (fun p h=> ?_)
 exact gec; refine gcc 10 rfl<|cIf h rfl (fun s h=> ?_) (fun s h=> ?_)
 exact gec; refine gcc 10 rfl<|cIf h rfl (fun t h=> ?_) (fun t h=> ?_)
 exact gec; refine gco 8 rfl<|xC0 h (g ·) rfl (fun m h=> ?_)
 refine goc 2 rfl<|cIf h rfl (fun u h=> ?_) (fun u h=> ?_)
 exact gec; refine gco 8 rfl<|xC0 h (f ·) rfl (fun o h=> ?_)
 refine goc 2 rfl<|cIf h rfl (fun v h=> ?_) (fun v h=> ?_)
 exact gec; exact gec
def bL:Nat→(dQ)×(dJ)×(cU)×(cP)
  | 0=>((fun _ _ _ _ _ _ _ _ _ _=>none),(fun _ _=>none),(fun _ _=>none),(fun _ _ _ _ _ _ _ _ _ _ _ _ _ _ _ _ _ _ _ _=>none))
  | n+1=>(pQ n ((bL n).1) ((bL n).2.1) ((bL n).2.2.1) ((bL n).2.2.2),oG n ((bL n).1) ((bL n).2.1) ((bL n).2.2.1) ((bL n).2.2.2),lI n ((bL n).1) ((bL n).2.1) ((bL n).2.2.1) ((bL n).2.2.2),mP n ((bL n).1) ((bL n).2.1) ((bL n).2.2.1) ((bL n).2.2.2))
def dM(n:Nat):dQ:=(bL n).1
def gK(n:Nat):dJ:=(bL n).2.1
def eO(n:Nat):cU:=(bL n).2.2.1
def fG(n:Nat):cP:=(bL n).2.2.2
theorem oX(n:Nat):kP (dM n)∧jK (gK n)∧fZ (eO n)∧gZ (fG n):=by
  induction n with
  | zero=>exact⟨(fun h=>nomatch h),(fun h=>nomatch h),(fun h=>nomatch h),(fun h=>nomatch h)⟩
  | succ n ih=>exact⟨EX (n:=n) (ih.1) (ih.2.1) (ih.2.2.1) (ih.2.2.2),DJ (n:=n) (ih.1) (ih.2.1) (ih.2.2.1) (ih.2.2.2),Al (n:=n) (ih.1) (ih.2.1) (ih.2.2.1) (ih.2.2.2),Bz (n:=n) (ih.1) (ih.2.1) (ih.2.2.1) (ih.2.2.2)⟩
theorem Gj{n:Nat}:kP (dM n):=(oX n).1
theorem QC{n:Nat}:jK (gK n):=(oX n).2.1
theorem OU{n:Nat}:fZ (eO n):=(oX n).2.2.1
theorem PH{n:Nat}:gZ (fG n):=(oX n).2.2.2
theorem CI(n:Nat):dM (n+1)=pQ n (dM n) (gK n) (eO n) (fG n):=rfl
theorem Ar(n:Nat):gK (n+1)=oG n (dM n) (gK n) (eO n) (fG n):=rfl
theorem yN(n:Nat):eO (n+1)=lI n (dM n) (gK n) (eO n) (fG n):=rfl
theorem zL(n:Nat):fG (n+1)=mP n (dM n) (gK n) (eO n) (fG n):=rfl
abbrev Ev(p:(List (List UInt8))→(List (List UInt8))→Option (Bool)):Prop:= ∀ {a b:List (List UInt8)} {r:Bool},p a b=some r→Big Try.prog τ An (.fn 152 [.one (.c (.sl (a.map bZ))), .one (.c (.sl (b.map bZ)))] [] (.one (.c (.bool r))) none [] none)
def kV(n:Nat)(b:List (List UInt8))(f:List (List UInt8)):(Int)→Option ((Int)⊕((Bool)⊕(Int×Bool)))
  | a=>bif decide (a<(b.length:Int))then(ix b a).bind fun c=>(ix f a).bind fun d=>bif !decide (c=d)then some (.inr (.inl false))else some (.inl (IntKind.wrap .i64 (a+(1:Int))))else some (.inr (.inr (a,false)))
def lQ(n:Nat)(a:List (List UInt8))(b:List (List UInt8)):Option (Bool):=
  bif !decide ((a.length:Int)=(b.length:Int))then some false else(loopN (kV n a b) n (0:Int)).bind fun q=>(match q with | .inl c=>some c | .inr (f,d)=>some true)
theorem CT{n:Nat}:Ev (lQ n):=by
 intro o p r h; unfold lQ at h; refine bF Try.func152 rfl rfl<|gco 8 rfl<|xLn rfl<|xMv rfl<|xLn rfl<|goc 2 rfl<|cIf h rfl (fun j h=> ?_) (fun j h=> ?_)
 exact gec; refine gcc 6 rfl<|cLp h [(4,5),(11,25)] [] (fun c=>([(5,I64 c)],[])) (fun q=>match q with | .inl b=>(.r,[(4,Bo b)],[]) | .inr (d,a)=>(.e 0,[(5,I64 d),(14,Bo a)],[])) rfl (fun c _ h=> ?_) (fun q h=> ?_)
 unfold kV at h; refine gco 5 rfl<|xLn rfl<|goc 2 rfl<|cIf h rfl (fun l h=> ?_) (fun l h=> ?_)
 refine gco 7 rfl<|xIx h mL rfl (fun f h=> ?_)
 refine goo 3 rfl<|xIx h mL rfl (fun g h=> ?_)
 refine goc 3 rfl<|cIf h rfl (fun m h=> ?_) (fun m h=> ?_)
 exact gec; exact gec; exact gec; rcases q with b | ⟨d,a⟩; exact en; exact gec
abbrev Lz(p:(List UInt8)→(List (List UInt8))→Int→Int→(List UInt8)→(List aB)→(List aA)→(List UInt8)→(List (List UInt8))→Int→Int→(List UInt8)→(List aB)→(List aA)→Option (Bool)):Prop:= ∀ {a:List UInt8} {b:List (List UInt8)} {d f:Int} {g:List UInt8} {j:List aB} {l:List aA} {m:List UInt8} {o:List (List UInt8)} {s t:Int} {u:List UInt8} {v:List aB} {w:List aA} {r:Bool},p a b d f g j l m o s t u v w=some r→Big Try.prog τ An (.fn 123 [.one (.ag [.str a, .sl (b.map bZ), .int .i64 d, .int .i64 f, .str g, .sl (j.map aE), .sl (l.map aC)]), .one (.ag [.str m, .sl (o.map bZ), .int .i64 s, .int .i64 t, .str u, .sl (v.map aE), .sl (w.map aC)])] [] (.one (.c (.bool r))) none [] none)
def rP(n:Nat)(c:List UInt8)(d:List (List UInt8))(f:Int)(g:Int)(j:List UInt8)(l:List aB)(m:List aA)(o:List UInt8)(p:List (List UInt8))(s:Int)(t:Int)(u:List UInt8)(v:List aB)(w:List aA):Option (Bool):=
  bif !decide (c=o)then some false else(lQ n d p).bind fun a=>bif !a then some false else(dM n f g j l m s t u v w).bind fun b=>bif !b then some false else some true
theorem He{n:Nat}:Lz (rP n):=by
 intro g j l m o p s t u v w y z A r h; unfold rP at h; refine bF Try.func123 rfl rfl<|gcc 15 rfl<|cIf h rfl (fun c h=> ?_) (fun c h=> ?_)
 exact gec; refine gco 8 rfl<|xC0 h (CT ·) rfl (fun a h=> ?_)
 refine goc 2 rfl<|cIf h rfl (fun d h=> ?_) (fun d h=> ?_)
 exact gec; refine gco 8 rfl<|xC0 h (Gj ·) rfl (fun b h=> ?_)
 refine goc 2 rfl<|cIf h rfl (fun f h=> ?_) (fun f h=> ?_)
 exact gec; exact gec
abbrev KB(p:(List aD)→(List aD)→Option (Bool)):Prop:= ∀ {a b:List aD} {r:Bool},p a b=some r→Big Try.prog τ An (.fn 82 [.one (.c (.sl (a.map aH))), .one (.c (.sl (b.map aH)))] [] (.one (.c (.bool r))) none [] none)
def oT(n:Nat)(d:List aD)(g:List aD):(Int)→Option ((Int)⊕((Bool)⊕(Int×Bool)))
  | c=>bif decide (c<(d.length:Int))then(ix d c).bind fun a=>(ix g c).bind fun b=>(rP n a.f0 a.f1 a.f2 a.f3 a.f4 a.f5 a.f6 b.f0 b.f1 b.f2 b.f3 b.f4 b.f5 b.f6).bind fun f=>bif !f then some (.inr (.inl false))else some (.inl (IntKind.wrap .i64 (c+(1:Int))))else some (.inr (.inr (c,false)))
def pY(n:Nat)(a:List aD)(b:List aD):Option (Bool):=
  bif !decide ((a.length:Int)=(b.length:Int))then some false else(loopN (oT n a b) n (0:Int)).bind fun q=>(match q with | .inl c=>some c | .inr (f,d)=>some true)
theorem Gi{n:Nat}:KB (pY n):=by
 intro p s r h; unfold pY at h; refine bF Try.func82 rfl rfl<|gco 8 rfl<|xLn rfl<|xMv rfl<|xLn rfl<|goc 2 rfl<|cIf h rfl (fun m h=> ?_) (fun m h=> ?_)
 exact gec; refine gcc 6 rfl<|cLp h [(4,5),(11,26)] [] (fun c=>([(5,I64 c)],[])) (fun q=>match q with | .inl b=>(.r,[(4,Bo b)],[]) | .inr (d,a)=>(.e 0,[(5,I64 d),(14,Bo a)],[])) rfl (fun c _ h=> ?_) (fun q h=> ?_)
 unfold oT at h; refine gco 5 rfl<|xLn rfl<|goc 2 rfl<|cIf h rfl (fun o h=> ?_) (fun o h=> ?_)
 refine gco 7 rfl<|xIx h bC rfl (fun j h=> ?_)
 refine goo 3 rfl<|xIx h bC rfl (fun l h=> ?_)
 refine xLd rfl<|xC0 h (He ·) rfl (fun g h=> ?_)
 refine goc 2 rfl<|cIf h rfl (fun f h=> ?_) (fun f h=> ?_)
 exact gec; exact gec; exact gec; rcases q with b | ⟨d,a⟩; exact en; exact gec
abbrev Gz(p:(List aD)→(List aD)→Option (Bool)):Prop:= ∀ {a b:List aD} {r:Bool},p a b=some r→Big Try.prog τ An (.fn 36 [.one (.ag [.sl (a.map aH)]), .one (.ag [.sl (b.map aH)])] [] (.one (.c (.bool r))) none [] none)
def fF(n:Nat)(b:List aD)(c:List aD):Option (Bool):=
  (pY n b c).bind fun a=>bif !a then some false else some true
theorem nT{n:Nat}:Gz (fF n):=by
 intro c d r h; unfold fF at h; refine bF Try.func36 rfl rfl<|gco 13 rfl<|xC0 h (Gi ·) rfl (fun a h=> ?_)
 refine goc 2 rfl<|cIf h rfl (fun b h=> ?_) (fun b h=> ?_)
 exact gec; exact gec
abbrev Gw(p:Int→Option ((List UInt8))):Prop:= ∀ {a:Int} {r:(List UInt8)},p a=some r→Big Try.prog τ An (.fn 55 [.one (.c (.int .i64 a))] [] (.one (.c (.str r))) none [] none)
def mF(n:Nat):(Int×(List UInt8))→Option ((Int×(List UInt8))⊕((Int×(List UInt8)×Bool)))
  | (a,b)=>bif decide ((0:Int)<a)then(LY ([(IntKind.wrap .u8 (IntKind.wrap .i64 ((48:Int)+(Int.tmod a (10:Int)))))]:List Int)).bind fun c=>(ck (decide (c.length+b.length≤9223372036854775807))).bind fun _=>some (.inl ((IntKind.wrap .i64 (Int.tdiv a (10:Int))),(c++b)))else some (.inr (a,b,false))
def bM(n:Nat)(a:Int):Option ((List UInt8)):=
  bif decide (a≤(0:Int))then some ([109,48]:List UInt8)else(loopN (mF n) n (a,([]:List UInt8))).bind fun(c,b,d)=>(ck (decide (([109]:List UInt8).length+b.length≤9223372036854775807))).bind fun _=>some (([109]:List UInt8)++b)
theorem bS{n:Nat}:Gw (bM n):=by
 intro s r h; unfold bM at h; refine bF Try.func55 rfl rfl<|gcc 10 rfl<|cIf h rfl (fun o h=> ?_) (fun o h=> ?_)
 exact gec; refine gcc 6 rfl<|cLp h [(0,0),(3,3),(6,17)] [] (fun(a,c)=>([(0,I64 a),(3,St' c)],[])) (fun(b,d,g)=>(.e 0,[(0,I64 b),(3,St' d),(7,Bo g)],[])) rfl (fun st _ h=> ?_) (fun q h=> ?_)
 obtain⟨a,c⟩:=st; unfold mF at h; refine gcc 6 rfl<|cIf h rfl (fun p h=> ?_) (fun p h=> ?_)
 refine gco 5 rfl<|wBi (.int .i64 (Int.tmod a (10:Int))) rfl rfl rfl rfl rfl<|goo 2 rfl<|yQ (L:=([(IntKind.wrap .u8 (IntKind.wrap .i64 ((48:Int)+(Int.tmod a (10:Int)))))]:List Int)) (f:=XS) rfl rfl rfl rfl rfl rfl rfl<|wTs h rfl rfl ⟨rfl,rfl⟩ rfl Sl rfl (fun m h=> ?_)
 refine xMv rfl<|oCk h (fun j h=> ?_)
 exact wCat j rfl rfl rfl rfl<|goo 4 rfl<|wBi (.int .i64 (IntKind.wrap .i64 (Int.tdiv a (10:Int)))) rfl rfl rfl rfl rfl<|geo
 exact gec; obtain⟨b,d,g⟩:=q; refine gco 3 rfl<|oCk h (fun l h=> ?_)
 exact wCat l rfl rfl rfl rfl<|geo
abbrev CW(p:(List (List UInt8))→Int→Option (Int)):Prop:= ∀ {a:List (List UInt8)} {b:Int} {r:Int},p a b=some r→Big Try.prog τ An (.fn 125 [.one (.c (.sl (a.map bZ))), .one (.c (.int .i64 b))] [] (.one (.c (.int .i64 r))) none [] none)
def fK(n:Nat)(c:List (List UInt8)):(Int×Int)→Option ((Int×Int)⊕((Int)⊕(Int×Int×Bool)))
  | (b,a)=>bif decide (a<(c.length:Int))then(ix c a).bind fun f=>(bM n b).bind fun d=>bif !decide (f=d)then some (.inr (.inl ((-1):Int)))else some (.inl ((IntKind.wrap .i64 (b+(1:Int))),(IntKind.wrap .i64 (a+(1:Int)))))else some (.inr (.inr (b,a,false)))
def iU(n:Nat)(a:List (List UInt8))(b:Int):Option (Int):=
  (loopN (fK n a) n (b,(0:Int))).bind fun q=>(match q with | .inl d=>some d | .inr (c,f,g)=>some c)
theorem zR{n:Nat}:CW (iU n):=by
 intro p s r h; unfold iU at h; refine bF Try.func125 rfl rfl<|gcc 9 rfl<|cLp h [(1,1),(4,20)] [] (fun(a,d)=>([(1,I64 a),(5,I64 d)],[])) (fun q=>match q with | .inl c=>(.r,[(4,I64 c)],[]) | .inr (b,f,g)=>(.e 0,[(1,I64 b),(5,I64 f),(9,Bo g)],[])) rfl (fun st _ h=> ?_) (fun q h=> ?_)
 obtain⟨a,d⟩:=st; unfold fK at h; refine gco 5 rfl<|xLn rfl<|goc 2 rfl<|cIf h rfl (fun o h=> ?_) (fun o h=> ?_)
 refine gco 8 rfl<|xIx h mL rfl (fun m h=> ?_)
 refine goo 2 rfl<|xC0 h (bS ·) rfl (fun l h=> ?_)
 refine goc 2 rfl<|cIf h rfl (fun j h=> ?_) (fun j h=> ?_)
 exact gec; exact gec; exact gec; rcases q with c | ⟨b,f,g⟩; exact en; exact gec
abbrev dA:Type:=(List aA)→Int→Option (Int)
abbrev jE(p:dA):Prop:= ∀ {a:List aA} {b:Int} {r:Int},p a b=some r→Big Try.prog τ An (.fn 127 [.one (.c (.sl (a.map aC))), .one (.c (.int .i64 b))] [] (.one (.c (.int .i64 r))) none [] none)
abbrev dS:Type:=(List aB)→Int→Option (Int)
abbrev lU(p:dS):Prop:= ∀ {a:List aB} {b:Int} {r:Int},p a b=some r→Big Try.prog τ An (.fn 126 [.one (.c (.sl (a.map aE))), .one (.c (.int .i64 b))] [] (.one (.c (.int .i64 r))) none [] none)
def fM(n:Nat)(b:dA)(c:dS)(d:List aA):(Int×Int)→Option ((Int×Int)⊕((Int)⊕(Int×Int×Bool)))
  | (g,a)=>bif decide (a<(d.length:Int))then(ix d a).bind fun C=>bif !decide (C.f0=g)then some (.inr (.inl ((-1):Int)))else(ix d a).bind fun t=>bif !decide (t.f1=(IntKind.wrap .i64 (g+(1:Int))))then some (.inr (.inl ((-1):Int)))else(ix d a).bind fun u=>(bM n (IntKind.wrap .i64 ((IntKind.wrap .i64 (g+(1:Int)))+(1:Int)))).bind fun p=>bif !decide (u.f2=p)then some (.inr (.inl ((-1):Int)))else(ix d a).bind fun v=>(c v.f3 (IntKind.wrap .i64 ((IntKind.wrap .i64 ((IntKind.wrap .i64 (g+(1:Int)))+(1:Int)))+(1:Int)))).bind fun m=>bif decide (m<(0:Int))then some (.inr (.inl ((-1):Int)))else(ix d a).bind fun w=>(b w.f4 m).bind fun f=>bif decide (f<(0:Int))then some (.inr (.inl ((-1):Int)))else(ix d a).bind fun y=>bif !decide (y.f5=f)then some (.inr (.inl ((-1):Int)))else(ix d a).bind fun z=>bif !decide (z.f6=(IntKind.wrap .i64 (f+(1:Int))))then some (.inr (.inl ((-1):Int)))else(ix d a).bind fun A=>(bM n (IntKind.wrap .i64 ((IntKind.wrap .i64 (f+(1:Int)))+(1:Int)))).bind fun s=>bif !decide (A.f7=s)then some (.inr (.inl ((-1):Int)))else(ix d a).bind fun B=>(c B.f8 (IntKind.wrap .i64 ((IntKind.wrap .i64 ((IntKind.wrap .i64 (f+(1:Int)))+(1:Int)))+(1:Int)))).bind fun j=>bif decide (j<(0:Int))then some (.inr (.inl ((-1):Int)))else(ix d a).bind fun o=>(b o.f9 j).bind fun l=>bif decide (l<(0:Int))then some (.inr (.inl ((-1):Int)))else some (.inl (l,(IntKind.wrap .i64 (a+(1:Int)))))else some (.inr (.inr (g,a,false)))
def iQ(n:Nat)(b:dS)(a:dA)(c:List aA)(d:Int):Option (Int):=
  (loopN (fM n a b c) n (d,(0:Int))).bind fun q=>(match q with | .inl g=>some g | .inr (f,j,l)=>some f)
theorem yI{n:Nat}{d:dS}(c:lU d){b:dA}(a:jE b):jE (iQ n d b):=by
 intro X Y r h; unfold iQ at h; refine bF Try.func127 rfl rfl<|gcc 9 rfl<|cLp h [(1,1),(4,113)] [] (fun(f,l)=>([(1,I64 f),(5,I64 l)],[])) (fun q=>match q with | .inl j=>(.r,[(4,I64 j)],[]) | .inr (g,m,o)=>(.e 0,[(1,I64 g),(5,I64 m),(9,Bo o)],[])) rfl (fun st _ h=> ?_) (fun q h=> ?_)
 obtain⟨f,l⟩:=st; unfold fM at h; refine gco 5 rfl<|xLn rfl<|goc 2 rfl<|cIf h rfl (fun V h=> ?_) (fun V h=> ?_)
 refine gco 8 rfl<|xIx h aG rfl (fun U h=> ?_)
 refine goc 6 rfl<|cIf h rfl (fun W h=> ?_) (fun W h=> ?_)
 exact gec; refine gco 12 rfl<|xIx h aG rfl (fun z h=> ?_)
 refine goc 6 rfl<|cIf h rfl (fun I h=> ?_) (fun I h=> ?_)
 exact gec; refine gco 12 rfl<|xIx h aG rfl (fun A h=> ?_)
 refine goo 4 rfl<|xC0 h (bS ·) rfl (fun u h=> ?_)
 refine goc 2 rfl<|cIf h rfl (fun J h=> ?_) (fun J h=> ?_)
 exact gec; refine gco 11 rfl<|xIx h aG rfl (fun B h=> ?_)
 refine goo 4 rfl<|xC0 h (c ·) rfl (fun v h=> ?_)
 refine goc 8 rfl<|cIf h rfl (fun K h=> ?_) (fun K h=> ?_)
 exact gec; refine gco 5 rfl<|xIx h aG rfl (fun C h=> ?_)
 refine goo 4 rfl<|xC0 h (a ·) rfl (fun w h=> ?_)
 refine goc 8 rfl<|cIf h rfl (fun L h=> ?_) (fun L h=> ?_)
 exact gec; refine gco 6 rfl<|xIx h aG rfl (fun D h=> ?_)
 refine goc 6 rfl<|cIf h rfl (fun M h=> ?_) (fun M h=> ?_)
 exact gec; refine gco 12 rfl<|xIx h aG rfl (fun E h=> ?_)
 refine goc 6 rfl<|cIf h rfl (fun N h=> ?_) (fun N h=> ?_)
 exact gec; refine gco 12 rfl<|xIx h aG rfl (fun G h=> ?_)
 refine goo 4 rfl<|xC0 h (bS ·) rfl (fun y h=> ?_)
 refine goc 2 rfl<|cIf h rfl (fun Q h=> ?_) (fun Q h=> ?_)
 exact gec; refine gco 11 rfl<|xIx h aG rfl (fun H h=> ?_)
 refine goo 4 rfl<|xC0 h (c ·) rfl (fun p h=> ?_)
 refine goc 8 rfl<|cIf h rfl (fun R h=> ?_) (fun R h=> ?_)
 exact gec; refine gco 5 rfl<|xIx h aG rfl (fun t h=> ?_)
 refine goo 4 rfl<|xC0 h (a ·) rfl (fun s h=> ?_)
 refine goc 7 rfl<|cIf h rfl (fun T h=> ?_) (fun T h=> ?_)
 exact gec; exact gec; exact gec; rcases q with j | ⟨g,m,o⟩; exact en; exact gec
def hY(n:Nat)(a:dA)(c:dS)(d:List aB):(Int×Int)→Option ((Int×Int)⊕((Int)⊕(Int×Int×Bool)))
  | (f,b)=>bif decide (b<(d.length:Int))then(ix d b).bind fun t=>bif !decide (t.f0=f)then some (.inr (.inl ((-1):Int)))else(ix d b).bind fun m=>bif !decide (m.f1=(IntKind.wrap .i64 (f+(1:Int))))then some (.inr (.inl ((-1):Int)))else(ix d b).bind fun o=>(bM n (IntKind.wrap .i64 ((IntKind.wrap .i64 (f+(1:Int)))+(1:Int)))).bind fun l=>bif !decide (o.f2=l)then some (.inr (.inl ((-1):Int)))else(ix d b).bind fun p=>(c p.f3 (IntKind.wrap .i64 ((IntKind.wrap .i64 ((IntKind.wrap .i64 (f+(1:Int)))+(1:Int)))+(1:Int)))).bind fun g=>bif decide (g<(0:Int))then some (.inr (.inl ((-1):Int)))else(ix d b).bind fun s=>(a s.f4 g).bind fun j=>bif decide (j<(0:Int))then some (.inr (.inl ((-1):Int)))else some (.inl (j,(IntKind.wrap .i64 (b+(1:Int)))))else some (.inr (.inr (f,b,false)))
def lH(n:Nat)(b:dS)(a:dA)(c:List aB)(d:Int):Option (Int):=
  (loopN (hY n a b c) n (d,(0:Int))).bind fun q=>(match q with | .inl g=>some g | .inr (f,j,l)=>some f)
theorem Ak{n:Nat}{b:dS}(d:lU b){a:dA}(c:jE a):lU (lH n b a):=by
 intro H I r h; unfold lH at h; refine bF Try.func126 rfl rfl<|gcc 9 rfl<|cLp h [(1,1),(4,57)] [] (fun(f,l)=>([(1,I64 f),(5,I64 l)],[])) (fun q=>match q with | .inl j=>(.r,[(4,I64 j)],[]) | .inr (g,m,o)=>(.e 0,[(1,I64 g),(5,I64 m),(9,Bo o)],[])) rfl (fun st _ h=> ?_) (fun q h=> ?_)
 obtain⟨f,l⟩:=st; unfold hY at h; refine gco 5 rfl<|xLn rfl<|goc 2 rfl<|cIf h rfl (fun E h=> ?_) (fun E h=> ?_)
 refine gco 8 rfl<|xIx h aK rfl (fun D h=> ?_)
 refine goc 5 rfl<|cIf h rfl (fun G h=> ?_) (fun G h=> ?_)
 exact gec; refine gco 12 rfl<|xIx h aK rfl (fun u h=> ?_)
 refine goc 5 rfl<|cIf h rfl (fun z h=> ?_) (fun z h=> ?_)
 exact gec; refine gco 12 rfl<|xIx h aK rfl (fun v h=> ?_)
 refine goo 3 rfl<|xC0 h (bS ·) rfl (fun p h=> ?_)
 refine goc 2 rfl<|cIf h rfl (fun A h=> ?_) (fun A h=> ?_)
 exact gec; refine gco 11 rfl<|xIx h aK rfl (fun w h=> ?_)
 refine goo 3 rfl<|xC0 h (d ·) rfl (fun s h=> ?_)
 refine goc 8 rfl<|cIf h rfl (fun B h=> ?_) (fun B h=> ?_)
 exact gec; refine gco 5 rfl<|xIx h aK rfl (fun y h=> ?_)
 refine goo 3 rfl<|xC0 h (c ·) rfl (fun t h=> ?_)
 refine goc 7 rfl<|cIf h rfl (fun C h=> ?_) (fun C h=> ?_)
 exact gec; exact gec; exact gec; rcases q with j | ⟨g,m,o⟩; exact en; exact gec
def iH:Nat→(dS)×(dA)
  | 0=>((fun _ _=>none),(fun _ _=>none))
  | n+1=>(lH n ((iH n).1) ((iH n).2),iQ n ((iH n).1) ((iH n).2))
def dE(n:Nat):dS:=(iH n).1
def cG(n:Nat):dA:=(iH n).2
theorem tN(n:Nat):lU (dE n)∧jE (cG n):=by
  induction n with
  | zero=>exact⟨(fun h=>nomatch h),(fun h=>nomatch h)⟩
  | succ n ih=>exact⟨Ak (n:=n) (ih.1) (ih.2),yI (n:=n) (ih.1) (ih.2)⟩
theorem CS{n:Nat}:lU (dE n):=(tN n).1
theorem zT{n:Nat}:jE (cG n):=(tN n).2
theorem yM(n:Nat):dE (n+1)=lH n (dE n) (cG n):=rfl
theorem wA(n:Nat):cG (n+1)=iQ n (dE n) (cG n):=rfl
abbrev Gy(p:(List aD)→Int→Option (Int)):Prop:= ∀ {a:List aD} {b:Int} {r:Int},p a b=some r→Big Try.prog τ An (.fn 84 [.one (.c (.sl (a.map aH))), .one (.c (.int .i64 b))] [] (.one (.c (.int .i64 r))) none [] none)
def iV(n:Nat)(c:List aD):(Int×Int)→Option ((Int×Int)⊕((Int)⊕(Int×Int×Bool)))
  | (g,a)=>bif decide (a<(c.length:Int))then(ix c a).bind fun v=>(bM n g).bind fun u=>bif !decide (v.f0=u)then some (.inr (.inl ((-1):Int)))else(ix c a).bind fun l=>(iU n l.f1 (IntKind.wrap .i64 (g+(1:Int)))).bind fun b=>bif decide (b<(0:Int))then some (.inr (.inl ((-1):Int)))else(ix c a).bind fun m=>bif !decide (m.f2=b)then some (.inr (.inl ((-1):Int)))else(ix c a).bind fun o=>bif !decide (o.f3=(IntKind.wrap .i64 (b+(1:Int))))then some (.inr (.inl ((-1):Int)))else(ix c a).bind fun p=>(bM n (IntKind.wrap .i64 ((IntKind.wrap .i64 (b+(1:Int)))+(1:Int)))).bind fun j=>bif !decide (p.f4=j)then some (.inr (.inl ((-1):Int)))else(ix c a).bind fun s=>(dE n s.f5 (IntKind.wrap .i64 ((IntKind.wrap .i64 ((IntKind.wrap .i64 (b+(1:Int)))+(1:Int)))+(1:Int)))).bind fun d=>bif decide (d<(0:Int))then some (.inr (.inl ((-1):Int)))else(ix c a).bind fun t=>(cG n t.f6 d).bind fun f=>bif decide (f<(0:Int))then some (.inr (.inl ((-1):Int)))else some (.inl (f,(IntKind.wrap .i64 (a+(1:Int)))))else some (.inr (.inr (g,a,false)))
def mY(n:Nat)(a:List aD)(b:Int):Option (Int):=
  (loopN (iV n a) n (b,(0:Int))).bind fun q=>(match q with | .inl d=>some d | .inr (c,f,g)=>some c)
theorem DT{n:Nat}:Gy (mY n):=by
 intro J K r h; unfold mY at h; refine bF Try.func84 rfl rfl<|gcc 9 rfl<|cLp h [(1,1),(4,81)] [] (fun(a,d)=>([(1,I64 a),(5,I64 d)],[])) (fun q=>match q with | .inl c=>(.r,[(4,I64 c)],[]) | .inr (b,f,g)=>(.e 0,[(1,I64 b),(5,I64 f),(9,Bo g)],[])) rfl (fun st _ h=> ?_) (fun q h=> ?_)
 obtain⟨a,d⟩:=st; unfold iV at h; refine gco 5 rfl<|xLn rfl<|goc 2 rfl<|cIf h rfl (fun I h=> ?_) (fun I h=> ?_)
 refine gco 8 rfl<|xIx h bC rfl (fun H h=> ?_)
 refine goo 3 rfl<|xC0 h (bS ·) rfl (fun G h=> ?_)
 refine goc 2 rfl<|cIf h rfl (fun y h=> ?_) (fun y h=> ?_)
 exact gec; refine gco 11 rfl<|xIx h bC rfl (fun p h=> ?_)
 refine goo 3 rfl<|xC0 h (zR ·) rfl (fun j h=> ?_)
 refine goc 8 rfl<|cIf h rfl (fun z h=> ?_) (fun z h=> ?_)
 exact gec; refine gco 6 rfl<|xIx h bC rfl (fun s h=> ?_)
 refine goc 6 rfl<|cIf h rfl (fun A h=> ?_) (fun A h=> ?_)
 exact gec; refine gco 12 rfl<|xIx h bC rfl (fun t h=> ?_)
 refine goc 6 rfl<|cIf h rfl (fun B h=> ?_) (fun B h=> ?_)
 exact gec; refine gco 12 rfl<|xIx h bC rfl (fun u h=> ?_)
 refine goo 4 rfl<|xC0 h (bS ·) rfl (fun l h=> ?_)
 refine goc 2 rfl<|cIf h rfl (fun C h=> ?_) (fun C h=> ?_)
 exact gec; refine gco 11 rfl<|xIx h bC rfl (fun v h=> ?_)
 refine goo 4 rfl<|xC0 h (CS ·) rfl (fun m h=> ?_)
 refine goc 8 rfl<|cIf h rfl (fun D h=> ?_) (fun D h=> ?_)
 exact gec; refine gco 5 rfl<|xIx h bC rfl (fun w h=> ?_)
 refine goo 4 rfl<|xC0 h (zT ·) rfl (fun o h=> ?_)
 refine goc 7 rfl<|cIf h rfl (fun E h=> ?_) (fun E h=> ?_)
 exact gec; exact gec; exact gec; rcases q with c | ⟨b,f,g⟩; exact en; exact gec
abbrev DZ(p:(List aD)→Int→Option (Int)):Prop:= ∀ {a:List aD} {b:Int} {r:Int},p a b=some r→Big Try.prog τ An (.fn 38 [.one (.ag [.sl (a.map aH)]), .one (.c (.int .i64 b))] [] (.one (.c (.int .i64 r))) none [] none)
def gR(n:Nat)(b:List aD)(c:Int):Option (Int):=
  (mY n b c).bind fun a=>bif decide (a<(0:Int))then some ((-1):Int)else some a
theorem tO{n:Nat}:DZ (gR n):=by
 intro c d r h; unfold gR at h; refine bF Try.func38 rfl rfl<|gco 10 rfl<|xC0 h (DT ·) rfl (fun a h=> ?_)
 refine goc 8 rfl<|cIf h rfl (fun b h=> ?_) (fun b h=> ?_)
 exact gec; exact gec
abbrev cZ:Type:=(List aA)→Int→Option (Int×(List aA))
abbrev jD(p:cZ):Prop:= ∀ {a:List aA} {b:Int} {r:Int×(List aA)},p a b=some r→Big Try.prog τ An (.fn 54 [.one (.c (.sl (a.map aC))), .one (.c (.int .i64 b))] [] (.one (.c (.int .i64 r.1))) (some (.sl (r.2.map aC))) [] none)
abbrev dR:Type:=(List aB)→Int→Option (Int×(List aB))
abbrev lT(p:dR):Prop:= ∀ {a:List aB} {b:Int} {r:Int×(List aB)},p a b=some r→Big Try.prog τ An (.fn 53 [.one (.c (.sl (a.map aE))), .one (.c (.int .i64 b))] [] (.one (.c (.int .i64 r.1))) (some (.sl (r.2.map aE))) [] none)
def fJ(n:Nat)(p:cZ)(t:dR):((List aA)×Int×Int)→Option (((List aA)×Int×Int)⊕(((List aA)×Int×Int×Bool)))
  | (w,v,a)=>bif decide (a<(w.length:Int))then(ix w a).bind fun s=>(some (w.set (Int.toNat a) (aA.mk v s.f1 s.f2 s.f3 s.f4 s.f5 s.f6 s.f7 s.f8 s.f9))).bind fun B=>(ix B a).bind fun g=>(some (B.set (Int.toNat a) (aA.mk g.f0 (IntKind.wrap .i64 (v+(1:Int))) g.f2 g.f3 g.f4 g.f5 g.f6 g.f7 g.f8 g.f9))).bind fun C=>(bM n (IntKind.wrap .i64 ((IntKind.wrap .i64 (v+(1:Int)))+(1:Int)))).bind fun L=>(ix C a).bind fun j=>(some (C.set (Int.toNat a) (aA.mk j.f0 j.f1 L j.f3 j.f4 j.f5 j.f6 j.f7 j.f8 j.f9))).bind fun D=>(ix D a).bind fun b=>(t b.f3 (IntKind.wrap .i64 ((IntKind.wrap .i64 ((IntKind.wrap .i64 (v+(1:Int)))+(1:Int)))+(1:Int)))).bind fun y=>(some (D.set (Int.toNat a) (aA.mk b.f0 b.f1 b.f2 y.2 b.f4 b.f5 b.f6 b.f7 b.f8 b.f9))).bind fun E=>(ix E a).bind fun c=>(p c.f4 y.1).bind fun u=>(some (E.set (Int.toNat a) (aA.mk c.f0 c.f1 c.f2 c.f3 u.2 c.f5 c.f6 c.f7 c.f8 c.f9))).bind fun G=>(ix G a).bind fun l=>(some (G.set (Int.toNat a) (aA.mk l.f0 l.f1 l.f2 l.f3 l.f4 u.1 l.f6 l.f7 l.f8 l.f9))).bind fun H=>(ix H a).bind fun m=>(some (H.set (Int.toNat a) (aA.mk m.f0 m.f1 m.f2 m.f3 m.f4 m.f5 (IntKind.wrap .i64 (u.1+(1:Int))) m.f7 m.f8 m.f9))).bind fun I=>(bM n (IntKind.wrap .i64 ((IntKind.wrap .i64 (u.1+(1:Int)))+(1:Int)))).bind fun M=>(ix I a).bind fun o=>(some (I.set (Int.toNat a) (aA.mk o.f0 o.f1 o.f2 o.f3 o.f4 o.f5 o.f6 M o.f8 o.f9))).bind fun J=>(ix J a).bind fun d=>(t d.f8 (IntKind.wrap .i64 ((IntKind.wrap .i64 ((IntKind.wrap .i64 (u.1+(1:Int)))+(1:Int)))+(1:Int)))).bind fun z=>(some (J.set (Int.toNat a) (aA.mk d.f0 d.f1 d.f2 d.f3 d.f4 d.f5 d.f6 d.f7 z.2 d.f9))).bind fun K=>(ix K a).bind fun f=>(p f.f9 z.1).bind fun A=>(some (K.set (Int.toNat a) (aA.mk f.f0 f.f1 f.f2 f.f3 f.f4 f.f5 f.f6 f.f7 f.f8 A.2))).bind fun N=>some (.inl (N,A.1,(IntKind.wrap .i64 (a+(1:Int)))))else some (.inr (w,v,a,false))
def iP(n:Nat)(b:dR)(a:cZ)(c:List aA)(d:Int):Option (Int×(List aA)):=
  (loopN (fJ n a b) n (c,d,(0:Int))).bind fun(f,g,j,l)=>some (g,f)
theorem yH{n:Nat}{w:dR}(u:lT w){t:cZ}(s:jD t):jD (iP n w t):=by
 intro a0 a1 r h; unfold iP at h; refine bFi Try.func54 rfl rfl<|gcc 9 rfl<|cLp h [(0,1),(5,93)] [] (fun(H,A,z)=>([(0,Li aC H),(1,I64 A),(5,I64 z)],[])) (fun(I,J,K,L)=>(.e 0,[(0,Li aC I),(1,I64 J),(5,I64 K),(9,Bo L)],[])) rfl (fun st _ h=> ?_) (fun q h=> ?_)
 obtain⟨H,A,z⟩:=st; unfold fJ at h; refine gco 5 rfl<|xLn rfl<|goc 2 rfl<|cIf h rfl (fun Z h=> ?_) (fun Z h=> ?_)
 refine gco 5 rfl<|wAl rfl rfl rfl rfl<|goo 2 rfl<|wIp (f:=aC) h rfl rfl rfl rfl rfl rfl (fun a=>by rw[aG]; rfl) rfl (fun v ke15_9 h=> ?_)
 refine goo 2 rfl<|CX (f:=aC) (v':=aA.mk A v.f1 v.f2 v.f3 v.f4 v.f5 v.f6 v.f7 v.f8 v.f9) h ke15_9 rfl rfl rfl rfl rfl rfl rfl (by rw[aG]; rfl) (by rw[aG,aY]; rfl) (fun T h=> ?_)
 refine goo 9 rfl<|wAl rfl rfl rfl rfl<|goo 2 rfl<|wIp (f:=aC) h rfl rfl rfl rfl rfl rfl (fun a=>by rw[aG]; rfl) rfl (fun b ke23_11 h=> ?_)
 refine goo 2 rfl<|CX (f:=aC) (v':=aA.mk b.f0 (IntKind.wrap .i64 (A+(1:Int))) b.f2 b.f3 b.f4 b.f5 b.f6 b.f7 b.f8 b.f9) h ke23_11 rfl rfl rfl rfl rfl rfl rfl (by rw[aG]; rfl) (by rw[aG,aY]; rfl) (fun U h=> ?_)
 refine goo 9 rfl<|wAl rfl rfl rfl rfl<|goo 2 rfl<|xC0 h (bS ·) rfl (fun E h=> ?_)
 refine wIp (f:=aC) h rfl rfl rfl rfl rfl rfl (fun a=>by rw[aG]; rfl) rfl (fun c ke32_14 h=> ?_)
 refine goo 2 rfl<|CX (f:=aC) (v':=aA.mk c.f0 c.f1 E c.f3 c.f4 c.f5 c.f6 c.f7 c.f8 c.f9) h ke32_14 rfl rfl rfl rfl rfl rfl rfl (by rw[aG]; rfl) (by rw[aG,aY]; rfl) (fun M h=> ?_)
 refine goo 9 rfl<|wAl rfl rfl rfl rfl<|xMv rfl<|wIp (f:=aC) h rfl rfl rfl rfl rfl rfl (fun a=>by rw[aG]; rfl) rfl (fun d ke39_16 h=> ?_)
 refine goo 2 rfl<|wLq (f:=aC) ke39_16 rfl rfl rfl rfl rfl rfl rfl (by rw[aG]) rfl rfl<|xMv rfl<|PX aC (fun B=>M.set (Int.toNat z) (aA.mk d.f0 d.f1 d.f2 B.2 d.f4 d.f5 d.f6 d.f7 d.f8 d.f9)) h (u ·) rfl (Pd ke39_16 (by rw[aG]; rfl)) (fun _=>AG ke39_16 (by rw[aG]; rfl) (by rw[aG,aY]; rfl)) (fun B N h=> ?_)
 refine goo 4 rfl<|wAl rfl rfl rfl rfl<|xMv rfl<|wIp (f:=aC) h rfl rfl rfl rfl rfl rfl (fun a=>by rw[aG]; rfl) rfl (fun g ke47_19 h=> ?_)
 refine goo 2 rfl<|wLq (f:=aC) ke47_19 rfl rfl rfl rfl rfl rfl rfl (by rw[aG]) rfl rfl<|xMv rfl<|PX aC (fun y=>N.set (Int.toNat z) (aA.mk g.f0 g.f1 g.f2 g.f3 y.2 g.f5 g.f6 g.f7 g.f8 g.f9)) h (s ·) rfl (Pd ke47_19 (by rw[aG]; rfl)) (fun _=>AG ke47_19 (by rw[aG]; rfl) (by rw[aG,aY]; rfl)) (fun y V h=> ?_)
 refine goo 4 rfl<|wAl rfl rfl rfl rfl<|goo 2 rfl<|wIp (f:=aC) h rfl rfl rfl rfl rfl rfl (fun a=>by rw[aG]; rfl) rfl (fun j ke56_22 h=> ?_)
 refine goo 2 rfl<|CX (f:=aC) (v':=aA.mk j.f0 j.f1 j.f2 j.f3 j.f4 y.1 j.f6 j.f7 j.f8 j.f9) h ke56_22 rfl rfl rfl rfl rfl rfl rfl (by rw[aG]; rfl) (by rw[aG,aY]; rfl) (fun W h=> ?_)
 refine goo 9 rfl<|wAl rfl rfl rfl rfl<|goo 2 rfl<|wIp (f:=aC) h rfl rfl rfl rfl rfl rfl (fun a=>by rw[aG]; rfl) rfl (fun l ke64_24 h=> ?_)
 refine goo 2 rfl<|CX (f:=aC) (v':=aA.mk l.f0 l.f1 l.f2 l.f3 l.f4 l.f5 (IntKind.wrap .i64 (y.1+(1:Int))) l.f7 l.f8 l.f9) h ke64_24 rfl rfl rfl rfl rfl rfl rfl (by rw[aG]; rfl) (by rw[aG,aY]; rfl) (fun X h=> ?_)
 refine goo 9 rfl<|wAl rfl rfl rfl rfl<|goo 2 rfl<|xC0 h (bS ·) rfl (fun G h=> ?_)
 refine wIp (f:=aC) h rfl rfl rfl rfl rfl rfl (fun a=>by rw[aG]; rfl) rfl (fun m ke73_27 h=> ?_)
 refine goo 2 rfl<|CX (f:=aC) (v':=aA.mk m.f0 m.f1 m.f2 m.f3 m.f4 m.f5 m.f6 G m.f8 m.f9) h ke73_27 rfl rfl rfl rfl rfl rfl rfl (by rw[aG]; rfl) (by rw[aG,aY]; rfl) (fun Q h=> ?_)
 refine goo 9 rfl<|wAl rfl rfl rfl rfl<|xMv rfl<|wIp (f:=aC) h rfl rfl rfl rfl rfl rfl (fun a=>by rw[aG]; rfl) rfl (fun o ke80_29 h=> ?_)
 refine goo 2 rfl<|wLq (f:=aC) ke80_29 rfl rfl rfl rfl rfl rfl rfl (by rw[aG]) rfl rfl<|xMv rfl<|PX aC (fun C=>Q.set (Int.toNat z) (aA.mk o.f0 o.f1 o.f2 o.f3 o.f4 o.f5 o.f6 o.f7 C.2 o.f9)) h (u ·) rfl (Pd ke80_29 (by rw[aG]; rfl)) (fun _=>AG ke80_29 (by rw[aG]; rfl) (by rw[aG,aY]; rfl)) (fun C R h=> ?_)
 refine goo 3 rfl<|wAl rfl rfl rfl rfl<|xMv rfl<|wIp (f:=aC) h rfl rfl rfl rfl rfl rfl (fun a=>by rw[aG]; rfl) rfl (fun p ke88_32 h=> ?_)
 refine goo 2 rfl<|wLq (f:=aC) ke88_32 rfl rfl rfl rfl rfl rfl rfl (by rw[aG]) rfl rfl<|xMv rfl<|PX aC (fun D=>R.set (Int.toNat z) (aA.mk p.f0 p.f1 p.f2 p.f3 p.f4 p.f5 p.f6 p.f7 p.f8 D.2)) h (s ·) rfl (Pd ke88_32 (by rw[aG]; rfl)) (fun _=>AG ke88_32 (by rw[aG]; rfl) (by rw[aG,aY]; rfl)) (fun D Y h=> ?_)
 exact geo; exact gec; obtain⟨I,J,K,L⟩:=q; exact gec
def hJ(n:Nat)(d:cZ)(f:dR):((List aB)×Int×Int)→Option (((List aB)×Int×Int)⊕(((List aB)×Int×Int×Bool)))
  | (o,m,a)=>bif decide (a<(o.length:Int))then(ix o a).bind fun l=>(some (o.set (Int.toNat a) (aB.mk m l.f1 l.f2 l.f3 l.f4))).bind fun t=>(ix t a).bind fun g=>(some (t.set (Int.toNat a) (aB.mk g.f0 (IntKind.wrap .i64 (m+(1:Int))) g.f2 g.f3 g.f4))).bind fun u=>(bM n (IntKind.wrap .i64 ((IntKind.wrap .i64 (m+(1:Int)))+(1:Int)))).bind fun y=>(ix u a).bind fun j=>(some (u.set (Int.toNat a) (aB.mk j.f0 j.f1 y j.f3 j.f4))).bind fun v=>(ix v a).bind fun b=>(f b.f3 (IntKind.wrap .i64 ((IntKind.wrap .i64 ((IntKind.wrap .i64 (m+(1:Int)))+(1:Int)))+(1:Int)))).bind fun p=>(some (v.set (Int.toNat a) (aB.mk b.f0 b.f1 b.f2 p.2 b.f4))).bind fun w=>(ix w a).bind fun c=>(d c.f4 p.1).bind fun s=>(some (w.set (Int.toNat a) (aB.mk c.f0 c.f1 c.f2 c.f3 s.2))).bind fun z=>some (.inl (z,s.1,(IntKind.wrap .i64 (a+(1:Int)))))else some (.inr (o,m,a,false))
def lG(n:Nat)(b:dR)(a:cZ)(c:List aB)(d:Int):Option (Int×(List aB)):=
  (loopN (hJ n a b) n (c,d,(0:Int))).bind fun(f,g,j,l)=>some (g,f)
theorem Aj{n:Nat}{c:dR}(g:lT c){b:cZ}(d:jD b):lT (lG n c b):=by
 intro K L r h; unfold lG at h; refine bFi Try.func53 rfl rfl<|gcc 9 rfl<|cLp h [(0,1),(5,47)] [] (fun(y,s,t)=>([(0,Li aE y),(1,I64 s),(5,I64 t)],[])) (fun(z,A,B,C)=>(.e 0,[(0,Li aE z),(1,I64 A),(5,I64 B),(9,Bo C)],[])) rfl (fun st _ h=> ?_) (fun q h=> ?_)
 obtain⟨y,s,t⟩:=st; unfold hJ at h; refine gco 5 rfl<|xLn rfl<|goc 2 rfl<|cIf h rfl (fun J h=> ?_) (fun J h=> ?_)
 refine gco 5 rfl<|wAl rfl rfl rfl rfl<|goo 2 rfl<|wIp (f:=aE) h rfl rfl rfl rfl rfl rfl (fun a=>by rw[aK]; rfl) rfl (fun p ke15_9 h=> ?_)
 refine xFd rfl<|CX (f:=aE) (v':=aB.mk s p.f1 p.f2 p.f3 p.f4) h ke15_9 rfl rfl rfl rfl rfl rfl rfl (by rw[aK]; rfl) (by rw[aK,cC]; rfl) (fun G h=> ?_)
 refine goo 9 rfl<|wAl rfl rfl rfl rfl<|goo 2 rfl<|wIp (f:=aE) h rfl rfl rfl rfl rfl rfl (fun a=>by rw[aK]; rfl) rfl (fun j ke22_11 h=> ?_)
 refine xFd rfl<|CX (f:=aE) (v':=aB.mk j.f0 (IntKind.wrap .i64 (s+(1:Int))) j.f2 j.f3 j.f4) h ke22_11 rfl rfl rfl rfl rfl rfl rfl (by rw[aK]; rfl) (by rw[aK,cC]; rfl) (fun H h=> ?_)
 refine goo 9 rfl<|wAl rfl rfl rfl rfl<|goo 2 rfl<|xC0 h (bS ·) rfl (fun w h=> ?_)
 refine wIp (f:=aE) h rfl rfl rfl rfl rfl rfl (fun a=>by rw[aK]; rfl) rfl (fun l ke30_14 h=> ?_)
 refine xFd rfl<|CX (f:=aE) (v':=aB.mk l.f0 l.f1 w l.f3 l.f4) h ke30_14 rfl rfl rfl rfl rfl rfl rfl (by rw[aK]; rfl) (by rw[aK,cC]; rfl) (fun D h=> ?_)
 refine goo 9 rfl<|wAl rfl rfl rfl rfl<|xMv rfl<|wIp (f:=aE) h rfl rfl rfl rfl rfl rfl (fun a=>by rw[aK]; rfl) rfl (fun m ke36_16 h=> ?_)
 refine xFd rfl<|wLq (f:=aE) ke36_16 rfl rfl rfl rfl rfl rfl rfl (by rw[aK]) rfl rfl<|xMv rfl<|PX aE (fun u=>D.set (Int.toNat t) (aB.mk m.f0 m.f1 m.f2 u.2 m.f4)) h (g ·) rfl (Pd ke36_16 (by rw[aK]; rfl)) (fun _=>AG ke36_16 (by rw[aK]; rfl) (by rw[aK,cC]; rfl)) (fun u E h=> ?_)
 refine goo 3 rfl<|wAl rfl rfl rfl rfl<|xMv rfl<|wIp (f:=aE) h rfl rfl rfl rfl rfl rfl (fun a=>by rw[aK]; rfl) rfl (fun o ke43_19 h=> ?_)
 refine xFd rfl<|wLq (f:=aE) ke43_19 rfl rfl rfl rfl rfl rfl rfl (by rw[aK]) rfl rfl<|xMv rfl<|PX aE (fun v=>E.set (Int.toNat t) (aB.mk o.f0 o.f1 o.f2 o.f3 v.2)) h (d ·) rfl (Pd ke43_19 (by rw[aK]; rfl)) (fun _=>AG ke43_19 (by rw[aK]; rfl) (by rw[aK,cC]; rfl)) (fun v I h=> ?_)
 exact geo; exact gec; obtain⟨z,A,B,C⟩:=q; exact gec
def iG:Nat→(dR)×(cZ)
  | 0=>((fun _ _=>none),(fun _ _=>none))
  | n+1=>(lG n ((iG n).1) ((iG n).2),iP n ((iG n).1) ((iG n).2))
def dD(n:Nat):dR:=(iG n).1
def cE(n:Nat):cZ:=(iG n).2
theorem tM(n:Nat):lT (dD n)∧jD (cE n):=by
  induction n with
  | zero=>exact⟨(fun h=>nomatch h),(fun h=>nomatch h)⟩
  | succ n ih=>exact⟨Aj (n:=n) (ih.1) (ih.2),yH (n:=n) (ih.1) (ih.2)⟩
theorem CQ{n:Nat}:lT (dD n):=(tM n).1
theorem zQ{n:Nat}:jD (cE n):=(tM n).2
theorem yL(n:Nat):dD (n+1)=lG n (dD n) (cE n):=rfl
theorem vZ(n:Nat):cE (n+1)=iP n (dD n) (cE n):=rfl
abbrev CV(p:(List (List UInt8))→Int→Option (Int×(List (List UInt8)))):Prop:= ∀ {a:List (List UInt8)} {b:Int} {r:Int×(List (List UInt8))},p a b=some r→Big Try.prog τ An (.fn 124 [.one (.c (.sl (a.map bZ))), .one (.c (.int .i64 b))] [] (.one (.c (.int .i64 r.1))) (some (.sl (r.2.map bZ))) [] none)
def fH(n:Nat):((List (List UInt8))×Int×Int)→Option (((List (List UInt8))×Int×Int)⊕(((List (List UInt8))×Int×Int×Bool)))
  | (b,c,a)=>bif decide (a<(b.length:Int))then(bM n c).bind fun d=>(ix b a).bind fun g=>(some (b.set (Int.toNat a) d)).bind fun f=>some (.inl (f,(IntKind.wrap .i64 (c+(1:Int))),(IntKind.wrap .i64 (a+(1:Int)))))else some (.inr (b,c,a,false))
def iS(n:Nat)(a:List (List UInt8))(b:Int):Option (Int×(List (List UInt8))):=
  (loopN (fH n) n (a,b,(0:Int))).bind fun(c,d,f,g)=>some (d,c)
theorem zP{n:Nat}:CV (iS n):=by
 intro t u r h; unfold iS at h; refine bFi Try.func124 rfl rfl<|gcc 9 rfl<|cLp h [(0,1),(5,18)] [] (fun(a,c,g)=>([(0,Li bZ a),(1,I64 c),(5,I64 g)],[])) (fun(b,d,j,l)=>(.e 0,[(0,Li bZ b),(1,I64 d),(5,I64 j),(9,Bo l)],[])) rfl (fun st _ h=> ?_) (fun q h=> ?_)
 obtain⟨a,c,g⟩:=st; unfold fH at h; refine gco 5 rfl<|xLn rfl<|goc 2 rfl<|cIf h rfl (fun s h=> ?_) (fun s h=> ?_)
 refine gco 5 rfl<|wAl rfl rfl rfl rfl<|goo 2 rfl<|xC0 h (bS ·) rfl (fun m h=> ?_)
 refine wIp (f:=bZ) h rfl rfl rfl rfl rfl rfl (fun _=>rfl) rfl (fun o ke16_10 h=> ?_)
 refine CX (f:=bZ) (v':=m) h ke16_10 rfl rfl rfl rfl rfl rfl rfl rfl rfl (fun p h=> ?_)
 exact geo; exact gec; obtain⟨b,d,j,l⟩:=q; exact gec
abbrev Gx(p:(List aD)→Int→Option (Int×(List aD))):Prop:= ∀ {a:List aD} {b:Int} {r:Int×(List aD)},p a b=some r→Big Try.prog τ An (.fn 83 [.one (.c (.sl (a.map aH))), .one (.c (.int .i64 b))] [] (.one (.c (.int .i64 r.1))) (some (.sl (r.2.map aH))) [] none)
def iT(n:Nat):((List aD)×Int×Int)→Option (((List aD)×Int×Int)⊕(((List aD)×Int×Int×Bool)))
  | (o,t,a)=>bif decide (a<(o.length:Int))then(bM n t).bind fun C=>(ix o a).bind fun f=>(some (o.set (Int.toNat a) (aD.mk C f.f1 f.f2 f.f3 f.f4 f.f5 f.f6))).bind fun u=>(ix u a).bind fun b=>(iS n b.f1 (IntKind.wrap .i64 (t+(1:Int)))).bind fun m=>(some (u.set (Int.toNat a) (aD.mk b.f0 m.2 b.f2 b.f3 b.f4 b.f5 b.f6))).bind fun v=>(ix v a).bind fun g=>(some (v.set (Int.toNat a) (aD.mk g.f0 g.f1 m.1 g.f3 g.f4 g.f5 g.f6))).bind fun w=>(ix w a).bind fun j=>(some (w.set (Int.toNat a) (aD.mk j.f0 j.f1 j.f2 (IntKind.wrap .i64 (m.1+(1:Int))) j.f4 j.f5 j.f6))).bind fun y=>(bM n (IntKind.wrap .i64 ((IntKind.wrap .i64 (m.1+(1:Int)))+(1:Int)))).bind fun B=>(ix y a).bind fun l=>(some (y.set (Int.toNat a) (aD.mk l.f0 l.f1 l.f2 l.f3 B l.f5 l.f6))).bind fun z=>(ix z a).bind fun c=>(dD n c.f5 (IntKind.wrap .i64 ((IntKind.wrap .i64 ((IntKind.wrap .i64 (m.1+(1:Int)))+(1:Int)))+(1:Int)))).bind fun p=>(some (z.set (Int.toNat a) (aD.mk c.f0 c.f1 c.f2 c.f3 c.f4 p.2 c.f6))).bind fun A=>(ix A a).bind fun d=>(cE n d.f6 p.1).bind fun s=>(some (A.set (Int.toNat a) (aD.mk d.f0 d.f1 d.f2 d.f3 d.f4 d.f5 s.2))).bind fun D=>some (.inl (D,s.1,(IntKind.wrap .i64 (a+(1:Int)))))else some (.inr (o,t,a,false))
def jS(n:Nat)(a:List aD)(b:Int):Option (Int×(List aD)):=
  (loopN (iT n) n (a,b,(0:Int))).bind fun(c,d,f,g)=>some (d,c)
theorem vP{n:Nat}:Gx (jS n):=by
 intro L M r h; unfold jS at h; refine bFi Try.func83 rfl rfl<|gcc 9 rfl<|cLp h [(0,1),(5,67)] [] (fun(u,w,o)=>([(0,Li aH u),(1,I64 w),(5,I64 o)],[])) (fun(v,y,z,A)=>(.e 0,[(0,Li aH v),(1,I64 y),(5,I64 z),(9,Bo A)],[])) rfl (fun st _ h=> ?_) (fun q h=> ?_)
 obtain⟨u,w,o⟩:=st; unfold iT at h; refine gco 5 rfl<|xLn rfl<|goc 2 rfl<|cIf h rfl (fun K h=> ?_) (fun K h=> ?_)
 refine gco 5 rfl<|wAl rfl rfl rfl rfl<|goo 2 rfl<|xC0 h (bS ·) rfl (fun B h=> ?_)
 refine wIp (f:=aH) h rfl rfl rfl rfl rfl rfl (fun _=>rfl) rfl (fun a ke16_10 h=> ?_)
 refine xFd rfl<|CX (f:=aH) (v':=aD.mk B a.f1 a.f2 a.f3 a.f4 a.f5 a.f6) h ke16_10 rfl rfl rfl rfl rfl rfl rfl rfl rfl (fun C h=> ?_)
 refine goo 9 rfl<|wAl rfl rfl rfl rfl<|xMv rfl<|wIp (f:=aH) h rfl rfl rfl rfl rfl rfl (fun _=>rfl) rfl (fun b ke22_12 h=> ?_)
 refine xFd rfl<|wLq (f:=aH) ke22_12 rfl rfl rfl rfl rfl rfl rfl rfl rfl rfl<|xMv rfl<|PX aH (fun m=>C.set (Int.toNat o) (aD.mk b.f0 m.2 b.f2 b.f3 b.f4 b.f5 b.f6)) h (zP ·) rfl (Pd ke22_12 rfl) (fun _=>AG ke22_12 rfl rfl) (fun m G h=> ?_)
 refine goo 4 rfl<|wAl rfl rfl rfl rfl<|goo 2 rfl<|wIp (f:=aH) h rfl rfl rfl rfl rfl rfl (fun _=>rfl) rfl (fun c ke30_15 h=> ?_)
 refine goo 2 rfl<|CX (f:=aH) (v':=aD.mk c.f0 c.f1 m.1 c.f3 c.f4 c.f5 c.f6) h ke30_15 rfl rfl rfl rfl rfl rfl rfl rfl rfl (fun H h=> ?_)
 refine goo 9 rfl<|wAl rfl rfl rfl rfl<|goo 2 rfl<|wIp (f:=aH) h rfl rfl rfl rfl rfl rfl (fun _=>rfl) rfl (fun d ke38_17 h=> ?_)
 refine goo 2 rfl<|CX (f:=aH) (v':=aD.mk d.f0 d.f1 d.f2 (IntKind.wrap .i64 (m.1+(1:Int))) d.f4 d.f5 d.f6) h ke38_17 rfl rfl rfl rfl rfl rfl rfl rfl rfl (fun I h=> ?_)
 refine goo 9 rfl<|wAl rfl rfl rfl rfl<|goo 2 rfl<|xC0 h (bS ·) rfl (fun t h=> ?_)
 refine wIp (f:=aH) h rfl rfl rfl rfl rfl rfl (fun _=>rfl) rfl (fun g ke47_20 h=> ?_)
 refine goo 2 rfl<|CX (f:=aH) (v':=aD.mk g.f0 g.f1 g.f2 g.f3 t g.f5 g.f6) h ke47_20 rfl rfl rfl rfl rfl rfl rfl rfl rfl (fun D h=> ?_)
 refine goo 9 rfl<|wAl rfl rfl rfl rfl<|xMv rfl<|wIp (f:=aH) h rfl rfl rfl rfl rfl rfl (fun _=>rfl) rfl (fun j ke54_22 h=> ?_)
 refine goo 2 rfl<|wLq (f:=aH) ke54_22 rfl rfl rfl rfl rfl rfl rfl rfl rfl rfl<|xMv rfl<|PX aH (fun p=>D.set (Int.toNat o) (aD.mk j.f0 j.f1 j.f2 j.f3 j.f4 p.2 j.f6)) h (CQ ·) rfl (Pd ke54_22 rfl) (fun _=>AG ke54_22 rfl rfl) (fun p E h=> ?_)
 refine goo 3 rfl<|wAl rfl rfl rfl rfl<|xMv rfl<|wIp (f:=aH) h rfl rfl rfl rfl rfl rfl (fun _=>rfl) rfl (fun l ke62_25 h=> ?_)
 refine goo 2 rfl<|wLq (f:=aH) ke62_25 rfl rfl rfl rfl rfl rfl rfl rfl rfl rfl<|xMv rfl<|PX aH (fun s=>E.set (Int.toNat o) (aD.mk l.f0 l.f1 l.f2 l.f3 l.f4 l.f5 s.2)) h (zQ ·) rfl (Pd ke62_25 rfl) (fun _=>AG ke62_25 rfl rfl) (fun s J h=> ?_)
 exact geo; exact gec; obtain⟨v,y,z,A⟩:=q; exact gec
abbrev zU(p:(List aW)→(List UInt8)→(List UInt8)→Option (Bool)):Prop:= ∀ {a:List aW} {b d:List UInt8} {r:Bool},p a b d=some r→Big Try.prog τ An (.fn 6 [.one (.ag [.sl (a.map iR)]), .one (.c (.str b)), .one (.c (.str d))] [] (.one (.c (.bool r))) none [] none)
def gD(n:Nat)(d:List aW)(j:List UInt8)(l:List UInt8):Option (Bool):=
  bif decide ((1048576:Int)<(j.length:Int))then some true else bif decide ((1048576:Int)<(l.length:Int))then some true else(mX n d (1048576:Int)).bind fun B=>bif decide (B<(0:Int))then some true else(eD n d).bind fun C=>(nE n C j l).bind fun a=>(eD n d).bind fun g=>(kI n g j l).bind fun b=>((fF n b.1 a.1).bind fun s=>bif !s then some true else some (!(b.2 == a.2))).bind fun D=>bif D then some false else(eD n d).bind fun t=>(fF n g t).bind fun u=>bif !u then some false else(jS n g (1:Int)).bind fun z=>(bif decide (z.1<(0:Int))then some true else(fF n b.1 a.1).bind fun v=>bif !v then some true else some (!(b.2 == a.2))).bind fun A=>bif A then some false else(jS n b.1 (1:Int)).bind fun c=>(gR n c.2 (1:Int)).bind fun m=>bif decide (m<(0:Int))then some false else bif !decide (m=c.1)then some false else(eD n d).bind fun w=>(kI n w j l).bind fun o=>((fF n o.1 a.1).bind fun y=>bif !y then some true else some (!(o.2 == a.2))).bind fun p=>bif p then some false else(gR n c.2 (1:Int)).bind fun f=>bif decide (f<(0:Int))then some false else bif !decide (f=c.1)then some false else some true
theorem wQ{n:Nat}:zU (gD n):=by
 intro U V W r h; unfold gD at h; refine bF Try.func6 rfl rfl<|gco 9 rfl<|xLs rfl<|goc 2 rfl<|cIf h rfl (fun Q h=> ?_) (fun Q h=> ?_)
 exact gec; refine gco 5 rfl<|xLs rfl<|goc 2 rfl<|cIf h rfl (fun R h=> ?_) (fun R h=> ?_)
 exact gec; refine gco 9 rfl<|xC0 h (DS ·) rfl (fun M h=> ?_)
 refine goc 8 rfl<|cIf h rfl (fun T h=> ?_) (fun T h=> ?_)
 exact gec; refine gco 4 rfl<|xC0 h (nS ·) rfl (fun N h=> ?_)
 refine goo 2 rfl<|xC0 h (GZ ·) rfl (fun b h=> ?_)
 refine goo 3 rfl<|xAz [.sl ([].map aH)] rfl<|goo 6 rfl<|xC0 h (nS ·) rfl (fun m h=> ?_)
 refine xAz [.sl ([].map aH)] rfl<|goo 7 rfl<|xC0 h (yA ·) rfl (fun c h=> ?_)
 refine goo 3 rfl<|xAz [.sl ([].map aH)] rfl<|goo 6 rfl<|oJn h [(46,54)] [] (fun j=>(.n,[(54,Bo j)],[])) (fun _ h=> ?_) (fun j h=> ?_)
 refine goo 2 rfl<|xC0 h (nT ·) rfl (fun p h=> ?_)
 refine goo 2 rfl<|oIf 50 h rfl (fun z h=> ?_) (fun z h=> ?_)
 exact geo; exact goo 2 rfl<|wBi (.bool (!(c.2 == b.2))) rfl rfl rfl rfl rfl<|geo
 refine cIf h rfl (fun A h=> ?_) (fun A h=> ?_)
 exact gec; refine gco 6 rfl<|xC0 h (nS ·) rfl (fun s h=> ?_)
 refine xC0 h (nT ·) rfl (fun t h=> ?_)
 refine goc 2 rfl<|cIf h rfl (fun B h=> ?_) (fun B h=> ?_)
 exact gec; refine gcc 5 rfl ?_
 obtain⟨d,em17_16,h⟩:=bind_some h; refine cMk [⟨0,83,m.map aH,d.2.map aH,1,d.1⟩] Nu ⟨vP em17_16,trivial⟩ rfl rfl ⟨rfl,rfl,rfl,rfl⟩<|gco 3 rfl<|oJn h [(63,75)] [] (fun g=>(.n,[(75,Bo g)],[])) (fun _ h=> ?_) (fun g h=> ?_)
 refine goo 3 rfl<|oIf 65 h rfl (fun C h=> ?_) (fun C h=> ?_)
 exact geo; refine goo 2 rfl<|xC0 h (nT ·) rfl (fun u h=> ?_)
 refine goo 3 rfl<|oIf 71 h rfl (fun D h=> ?_) (fun D h=> ?_)
 exact geo; exact goo 2 rfl<|wBi (.bool (!(c.2 == b.2))) rfl rfl rfl rfl rfl<|geo
 refine cIf h rfl (fun E h=> ?_) (fun E h=> ?_)
 exact gec; refine gcc 5 rfl ?_
 obtain⟨f,em21_22,h⟩:=bind_some h; refine cMk [⟨0,83,c.1.map aH,f.2.map aH,1,f.1⟩] Nu ⟨vP em21_22,trivial⟩ rfl rfl ⟨rfl,rfl,rfl,rfl⟩<|gco 8 rfl<|xC0 h (tO ·) rfl (fun v h=> ?_)
 refine goc 8 rfl<|cIf h rfl (fun G h=> ?_) (fun G h=> ?_)
 exact gec; refine gcc 8 rfl<|cIf h rfl (fun H h=> ?_) (fun H h=> ?_)
 exact gec; refine gco 4 rfl<|xC0 h (nS ·) rfl (fun w h=> ?_)
 refine goo 2 rfl<|xC0 h (yA ·) rfl (fun l h=> ?_)
 refine goo 3 rfl<|xAz [.sl ([].map aH)] rfl<|goo 6 rfl<|oJn h [(95,103)] [] (fun a=>(.n,[(103,Bo a)],[])) (fun _ h=> ?_) (fun a h=> ?_)
 refine goo 2 rfl<|xC0 h (nT ·) rfl (fun y h=> ?_)
 refine goo 2 rfl<|oIf 99 h rfl (fun I h=> ?_) (fun I h=> ?_)
 exact geo; exact goo 2 rfl<|wBi (.bool (!(l.2 == b.2))) rfl rfl rfl rfl rfl<|geo
 refine cIf h rfl (fun J h=> ?_) (fun J h=> ?_)
 exact gec; refine gco 9 rfl<|xC0 h (tO ·) rfl (fun o h=> ?_)
 refine goc 8 rfl<|cIf h rfl (fun K h=> ?_) (fun K h=> ?_)
 exact gec; refine gcc 8 rfl<|cIf h rfl (fun L h=> ?_) (fun L h=> ?_)
 exact gec; exact gec
end Go.Own
