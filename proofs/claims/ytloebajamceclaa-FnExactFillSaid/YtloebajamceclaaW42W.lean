/- Each function on plain data, and its walk. No conditions. -/
import Derived.Test.YtloebajamceclaaW42V
set_option linter.unusedVariables false
set_option linter.unusedSimpArgs false
set_option linter.unnecessarySimpa false
namespace Go.Own
open Go Go.Proofs
def eP(n:Nat)(p:cL)(t:dK):((List aB)×Int×Int)→Option (((List aB)×Int×Int)⊕(((List aB)×Int×Int×Bool)))
  | (w,v,a)=>bif decide (a<(w.length:Int))then(ix w a).bind fun s=>(some (w.set (Int.toNat a) (aB.mk v s.f1 s.f2 s.f3 s.f4 s.f5 s.f6 s.f7 s.f8 s.f9))).bind fun B=>(ix B a).bind fun g=>(some (B.set (Int.toNat a) (aB.mk g.f0 (IntKind.wrap .i64 (v+(1:Int))) g.f2 g.f3 g.f4 g.f5 g.f6 g.f7 g.f8 g.f9))).bind fun C=>(cN n (IntKind.wrap .i64 ((IntKind.wrap .i64 (v+(1:Int)))+(1:Int)))).bind fun L=>(ix C a).bind fun j=>(some (C.set (Int.toNat a) (aB.mk j.f0 j.f1 L j.f3 j.f4 j.f5 j.f6 j.f7 j.f8 j.f9))).bind fun D=>(ix D a).bind fun b=>(t b.f3 (IntKind.wrap .i64 ((IntKind.wrap .i64 ((IntKind.wrap .i64 (v+(1:Int)))+(1:Int)))+(1:Int)))).bind fun y=>(some (D.set (Int.toNat a) (aB.mk b.f0 b.f1 b.f2 y.2 b.f4 b.f5 b.f6 b.f7 b.f8 b.f9))).bind fun E=>(ix E a).bind fun c=>(p c.f4 y.1).bind fun u=>(some (E.set (Int.toNat a) (aB.mk c.f0 c.f1 c.f2 c.f3 u.2 c.f5 c.f6 c.f7 c.f8 c.f9))).bind fun G=>(ix G a).bind fun l=>(some (G.set (Int.toNat a) (aB.mk l.f0 l.f1 l.f2 l.f3 l.f4 u.1 l.f6 l.f7 l.f8 l.f9))).bind fun H=>(ix H a).bind fun m=>(some (H.set (Int.toNat a) (aB.mk m.f0 m.f1 m.f2 m.f3 m.f4 m.f5 (IntKind.wrap .i64 (u.1+(1:Int))) m.f7 m.f8 m.f9))).bind fun I=>(cN n (IntKind.wrap .i64 ((IntKind.wrap .i64 (u.1+(1:Int)))+(1:Int)))).bind fun M=>(ix I a).bind fun o=>(some (I.set (Int.toNat a) (aB.mk o.f0 o.f1 o.f2 o.f3 o.f4 o.f5 o.f6 M o.f8 o.f9))).bind fun J=>(ix J a).bind fun d=>(t d.f8 (IntKind.wrap .i64 ((IntKind.wrap .i64 ((IntKind.wrap .i64 (u.1+(1:Int)))+(1:Int)))+(1:Int)))).bind fun z=>(some (J.set (Int.toNat a) (aB.mk d.f0 d.f1 d.f2 d.f3 d.f4 d.f5 d.f6 d.f7 z.2 d.f9))).bind fun K=>(ix K a).bind fun f=>(p f.f9 z.1).bind fun A=>(some (K.set (Int.toNat a) (aB.mk f.f0 f.f1 f.f2 f.f3 f.f4 f.f5 f.f6 f.f7 f.f8 A.2))).bind fun N=>some (.inl (N,A.1,(IntKind.wrap .i64 (a+(1:Int)))))else some (.inr (w,v,a,false))
def iH(n:Nat)(b:dK)(a:cL)(c:List aB)(d:Int):Option (Int×(List aB)):=
  (loopN (eP n a b) n (c,d,(0:Int))).bind fun(f,g,j,l)=>some (g,f)
theorem wK{n:Nat}{w:dK}(u:kF w){t:cL}(s:iL t):iL (iH n w t):=by
 intro a0 a1 r h; unfold iH at h; refine bFi Try.func54 rfl rfl<|gcc 9 rfl<|cLp h [(0,1),(5,93)] [] (fun(H,A,z)=>([(0,Li aF H),(1,I64 A),(5,I64 z)],[])) (fun(I,J,K,L)=>(.e 0,[(0,Li aF I),(1,I64 J),(5,I64 K),(9,Bo L)],[])) rfl (fun st _ h=> ?_) (fun q h=> ?_)
 obtain⟨H,A,z⟩:=st; unfold eP at h; refine gco 5 rfl<|xLn rfl<|goc 2 rfl<|cIf h rfl (fun Z h=> ?_) (fun Z h=> ?_)
 refine gco 5 rfl<|wAl rfl rfl rfl rfl<|goo 2 rfl<|wIp (f:=aF) h rfl rfl rfl rfl rfl rfl (fun a=>by rw[aJ]; rfl) rfl (fun v ke15_9 h=> ?_)
 refine goo 2 rfl<|Bc (f:=aF) (v':=aB.mk A v.f1 v.f2 v.f3 v.f4 v.f5 v.f6 v.f7 v.f8 v.f9) h ke15_9 rfl rfl rfl rfl rfl rfl rfl (by rw[aJ]; rfl) (by rw[aJ,bU]; rfl) (fun T h=> ?_)
 refine goo 9 rfl<|wAl rfl rfl rfl rfl<|goo 2 rfl<|wIp (f:=aF) h rfl rfl rfl rfl rfl rfl (fun a=>by rw[aJ]; rfl) rfl (fun b ke23_11 h=> ?_)
 refine goo 2 rfl<|Bc (f:=aF) (v':=aB.mk b.f0 (IntKind.wrap .i64 (A+(1:Int))) b.f2 b.f3 b.f4 b.f5 b.f6 b.f7 b.f8 b.f9) h ke23_11 rfl rfl rfl rfl rfl rfl rfl (by rw[aJ]; rfl) (by rw[aJ,bU]; rfl) (fun U h=> ?_)
 refine goo 9 rfl<|wAl rfl rfl rfl rfl<|goo 2 rfl<|xC0 h (eG ·) rfl (fun E h=> ?_)
 refine wIp (f:=aF) h rfl rfl rfl rfl rfl rfl (fun a=>by rw[aJ]; rfl) rfl (fun c ke32_14 h=> ?_)
 refine goo 2 rfl<|Bc (f:=aF) (v':=aB.mk c.f0 c.f1 E c.f3 c.f4 c.f5 c.f6 c.f7 c.f8 c.f9) h ke32_14 rfl rfl rfl rfl rfl rfl rfl (by rw[aJ]; rfl) (by rw[aJ,bU]; rfl) (fun M h=> ?_)
 refine goo 9 rfl<|wAl rfl rfl rfl rfl<|xMv rfl<|wIp (f:=aF) h rfl rfl rfl rfl rfl rfl (fun a=>by rw[aJ]; rfl) rfl (fun d ke39_16 h=> ?_)
 refine goo 2 rfl<|wLq (f:=aF) ke39_16 rfl rfl rfl rfl rfl rfl rfl (by rw[aJ]) rfl rfl<|xMv rfl<|QQ aF (fun B=>M.set (Int.toNat z) (aB.mk d.f0 d.f1 d.f2 B.2 d.f4 d.f5 d.f6 d.f7 d.f8 d.f9)) h (u ·) rfl (QU ke39_16 (by rw[aJ]; rfl)) (fun _=>BF ke39_16 (by rw[aJ]; rfl) (by rw[aJ,bU]; rfl)) (fun B N h=> ?_)
 refine goo 4 rfl<|wAl rfl rfl rfl rfl<|xMv rfl<|wIp (f:=aF) h rfl rfl rfl rfl rfl rfl (fun a=>by rw[aJ]; rfl) rfl (fun g ke47_19 h=> ?_)
 refine goo 2 rfl<|wLq (f:=aF) ke47_19 rfl rfl rfl rfl rfl rfl rfl (by rw[aJ]) rfl rfl<|xMv rfl<|QQ aF (fun y=>N.set (Int.toNat z) (aB.mk g.f0 g.f1 g.f2 g.f3 y.2 g.f5 g.f6 g.f7 g.f8 g.f9)) h (s ·) rfl (QU ke47_19 (by rw[aJ]; rfl)) (fun _=>BF ke47_19 (by rw[aJ]; rfl) (by rw[aJ,bU]; rfl)) (fun y V h=> ?_)
 refine goo 4 rfl<|wAl rfl rfl rfl rfl<|goo 2 rfl<|wIp (f:=aF) h rfl rfl rfl rfl rfl rfl (fun a=>by rw[aJ]; rfl) rfl (fun j ke56_22 h=> ?_)
 refine goo 2 rfl<|Bc (f:=aF) (v':=aB.mk j.f0 j.f1 j.f2 j.f3 j.f4 y.1 j.f6 j.f7 j.f8 j.f9) h ke56_22 rfl rfl rfl rfl rfl rfl rfl (by rw[aJ]; rfl) (by rw[aJ,bU]; rfl) (fun W h=> ?_)
 refine goo 9 rfl<|wAl rfl rfl rfl rfl<|goo 2 rfl<|wIp (f:=aF) h rfl rfl rfl rfl rfl rfl (fun a=>by rw[aJ]; rfl) rfl (fun l ke64_24 h=> ?_)
 refine goo 2 rfl<|Bc (f:=aF) (v':=aB.mk l.f0 l.f1 l.f2 l.f3 l.f4 l.f5 (IntKind.wrap .i64 (y.1+(1:Int))) l.f7 l.f8 l.f9) h ke64_24 rfl rfl rfl rfl rfl rfl rfl (by rw[aJ]; rfl) (by rw[aJ,bU]; rfl) (fun X h=> ?_)
 refine goo 9 rfl<|wAl rfl rfl rfl rfl<|goo 2 rfl<|xC0 h (eG ·) rfl (fun G h=> ?_)
 refine wIp (f:=aF) h rfl rfl rfl rfl rfl rfl (fun a=>by rw[aJ]; rfl) rfl (fun m ke73_27 h=> ?_)
 refine goo 2 rfl<|Bc (f:=aF) (v':=aB.mk m.f0 m.f1 m.f2 m.f3 m.f4 m.f5 m.f6 G m.f8 m.f9) h ke73_27 rfl rfl rfl rfl rfl rfl rfl (by rw[aJ]; rfl) (by rw[aJ,bU]; rfl) (fun Q h=> ?_)
 refine goo 9 rfl<|wAl rfl rfl rfl rfl<|xMv rfl<|wIp (f:=aF) h rfl rfl rfl rfl rfl rfl (fun a=>by rw[aJ]; rfl) rfl (fun o ke80_29 h=> ?_)
 refine goo 2 rfl<|wLq (f:=aF) ke80_29 rfl rfl rfl rfl rfl rfl rfl (by rw[aJ]) rfl rfl<|xMv rfl<|QQ aF (fun C=>Q.set (Int.toNat z) (aB.mk o.f0 o.f1 o.f2 o.f3 o.f4 o.f5 o.f6 o.f7 C.2 o.f9)) h (u ·) rfl (QU ke80_29 (by rw[aJ]; rfl)) (fun _=>BF ke80_29 (by rw[aJ]; rfl) (by rw[aJ,bU]; rfl)) (fun C R h=> ?_)
 refine goo 3 rfl<|wAl rfl rfl rfl rfl<|xMv rfl<|wIp (f:=aF) h rfl rfl rfl rfl rfl rfl (fun a=>by rw[aJ]; rfl) rfl (fun p ke88_32 h=> ?_)
 refine goo 2 rfl<|wLq (f:=aF) ke88_32 rfl rfl rfl rfl rfl rfl rfl (by rw[aJ]) rfl rfl<|xMv rfl<|QQ aF (fun D=>R.set (Int.toNat z) (aB.mk p.f0 p.f1 p.f2 p.f3 p.f4 p.f5 p.f6 p.f7 p.f8 D.2)) h (s ·) rfl (QU ke88_32 (by rw[aJ]; rfl)) (fun _=>BF ke88_32 (by rw[aJ]; rfl) (by rw[aJ,bU]; rfl)) (fun D Y h=> ?_)
 exact geo; exact gec; obtain⟨I,J,K,L⟩:=q; exact gec
def gG(n:Nat)(d:cL)(f:dK):((List aC)×Int×Int)→Option (((List aC)×Int×Int)⊕(((List aC)×Int×Int×Bool)))
  | (o,m,a)=>bif decide (a<(o.length:Int))then(ix o a).bind fun l=>(some (o.set (Int.toNat a) (aC.mk m l.f1 l.f2 l.f3 l.f4))).bind fun t=>(ix t a).bind fun g=>(some (t.set (Int.toNat a) (aC.mk g.f0 (IntKind.wrap .i64 (m+(1:Int))) g.f2 g.f3 g.f4))).bind fun u=>(cN n (IntKind.wrap .i64 ((IntKind.wrap .i64 (m+(1:Int)))+(1:Int)))).bind fun y=>(ix u a).bind fun j=>(some (u.set (Int.toNat a) (aC.mk j.f0 j.f1 y j.f3 j.f4))).bind fun v=>(ix v a).bind fun b=>(f b.f3 (IntKind.wrap .i64 ((IntKind.wrap .i64 ((IntKind.wrap .i64 (m+(1:Int)))+(1:Int)))+(1:Int)))).bind fun p=>(some (v.set (Int.toNat a) (aC.mk b.f0 b.f1 b.f2 p.2 b.f4))).bind fun w=>(ix w a).bind fun c=>(d c.f4 p.1).bind fun s=>(some (w.set (Int.toNat a) (aC.mk c.f0 c.f1 c.f2 c.f3 s.2))).bind fun z=>some (.inl (z,s.1,(IntKind.wrap .i64 (a+(1:Int)))))else some (.inr (o,m,a,false))
def jX(n:Nat)(b:dK)(a:cL)(c:List aC)(d:Int):Option (Int×(List aC)):=
  (loopN (gG n a b) n (c,d,(0:Int))).bind fun(f,g,j,l)=>some (g,f)
theorem yV{n:Nat}{c:dK}(g:kF c){b:cL}(d:iL b):kF (jX n c b):=by
 intro K L r h; unfold jX at h; refine bFi Try.func53 rfl rfl<|gcc 9 rfl<|cLp h [(0,1),(5,47)] [] (fun(y,s,t)=>([(0,Li aL y),(1,I64 s),(5,I64 t)],[])) (fun(z,A,B,C)=>(.e 0,[(0,Li aL z),(1,I64 A),(5,I64 B),(9,Bo C)],[])) rfl (fun st _ h=> ?_) (fun q h=> ?_)
 obtain⟨y,s,t⟩:=st; unfold gG at h; refine gco 5 rfl<|xLn rfl<|goc 2 rfl<|cIf h rfl (fun J h=> ?_) (fun J h=> ?_)
 refine gco 5 rfl<|wAl rfl rfl rfl rfl<|goo 2 rfl<|wIp (f:=aL) h rfl rfl rfl rfl rfl rfl (fun a=>by rw[aO]; rfl) rfl (fun p ke15_9 h=> ?_)
 refine xFd rfl<|Bc (f:=aL) (v':=aC.mk s p.f1 p.f2 p.f3 p.f4) h ke15_9 rfl rfl rfl rfl rfl rfl rfl (by rw[aO]; rfl) (by rw[aO,fX]; rfl) (fun G h=> ?_)
 refine goo 9 rfl<|wAl rfl rfl rfl rfl<|goo 2 rfl<|wIp (f:=aL) h rfl rfl rfl rfl rfl rfl (fun a=>by rw[aO]; rfl) rfl (fun j ke22_11 h=> ?_)
 refine xFd rfl<|Bc (f:=aL) (v':=aC.mk j.f0 (IntKind.wrap .i64 (s+(1:Int))) j.f2 j.f3 j.f4) h ke22_11 rfl rfl rfl rfl rfl rfl rfl (by rw[aO]; rfl) (by rw[aO,fX]; rfl) (fun H h=> ?_)
 refine goo 9 rfl<|wAl rfl rfl rfl rfl<|goo 2 rfl<|xC0 h (eG ·) rfl (fun w h=> ?_)
 refine wIp (f:=aL) h rfl rfl rfl rfl rfl rfl (fun a=>by rw[aO]; rfl) rfl (fun l ke30_14 h=> ?_)
 refine xFd rfl<|Bc (f:=aL) (v':=aC.mk l.f0 l.f1 w l.f3 l.f4) h ke30_14 rfl rfl rfl rfl rfl rfl rfl (by rw[aO]; rfl) (by rw[aO,fX]; rfl) (fun D h=> ?_)
 refine goo 9 rfl<|wAl rfl rfl rfl rfl<|xMv rfl<|wIp (f:=aL) h rfl rfl rfl rfl rfl rfl (fun a=>by rw[aO]; rfl) rfl (fun m ke36_16 h=> ?_)
 refine xFd rfl<|wLq (f:=aL) ke36_16 rfl rfl rfl rfl rfl rfl rfl (by rw[aO]) rfl rfl<|xMv rfl<|QQ aL (fun u=>D.set (Int.toNat t) (aC.mk m.f0 m.f1 m.f2 u.2 m.f4)) h (g ·) rfl (QU ke36_16 (by rw[aO]; rfl)) (fun _=>BF ke36_16 (by rw[aO]; rfl) (by rw[aO,fX]; rfl)) (fun u E h=> ?_)
 refine goo 3 rfl<|wAl rfl rfl rfl rfl<|xMv rfl<|wIp (f:=aL) h rfl rfl rfl rfl rfl rfl (fun a=>by rw[aO]; rfl) rfl (fun o ke43_19 h=> ?_)
 refine xFd rfl<|wLq (f:=aL) ke43_19 rfl rfl rfl rfl rfl rfl rfl (by rw[aO]) rfl rfl<|xMv rfl<|QQ aL (fun v=>E.set (Int.toNat t) (aC.mk o.f0 o.f1 o.f2 o.f3 v.2)) h (d ·) rfl (QU ke43_19 (by rw[aO]; rfl)) (fun _=>BF ke43_19 (by rw[aO]; rfl) (by rw[aO,fX]; rfl)) (fun v I h=> ?_)
 exact geo; exact gec; obtain⟨z,A,B,C⟩:=q; exact gec
def gV:Nat→(dK)×(cL)
  | 0=>((fun _ _=>none),(fun _ _=>none))
  | n+1=>(jX n ((gV n).1) ((gV n).2),iH n ((gV n).1) ((gV n).2))
def cQ(n:Nat):dK:=(gV n).1
def bW(n:Nat):cL:=(gV n).2
theorem rT(n:Nat):kF (cQ n)∧iL (bW n):=by
  induction n with
  | zero=>exact⟨(fun h=>nomatch h),(fun h=>nomatch h)⟩
  | succ n ih=>exact⟨yV (n:=n) (ih.1) (ih.2),wK (n:=n) (ih.1) (ih.2)⟩
theorem Aw{n:Nat}:kF (cQ n):=(rT n).1
theorem xO{n:Nat}:iL (bW n):=(rT n).2
theorem wN(n:Nat):cQ (n+1)=jX n (cQ n) (bW n):=rfl
theorem tZ(n:Nat):bW (n+1)=iH n (cQ n) (bW n):=rfl
abbrev BB(p:Int→Int→(List UInt8)→(List aH)→(List aE)→(List S_laws_Bind)→Option (Bool)):Prop:= ∀ {a b:Int} {d:List UInt8} {f:List aH} {g:List aE} {j:List S_laws_Bind} {r:Bool},p a b d f g j=some r→Big Try.prog τ An (.fn 5 [.one (.ag [.int .i64 a, .int .i64 b, .str d, .sl (f.map rS_laws_Expr), .sl (g.map aR)]), .one (.c (.sl (j.map rS_laws_Bind)))] [] (.one (.c (.bool r))) none [] none)
def eV(n:Nat)(m:Int)(o:Int)(p:List UInt8)(s:List aH)(t:List aE)(u:List S_laws_Bind):Option (Bool):=
  (dC n m o p s t (1048576:Int)).bind fun z=>bif decide (z<(0:Int))then some true else(mU n u z).bind fun Q=>bif decide (Q<(0:Int))then some true else(bR n m o p s t).bind fun j=>(fN n u).bind fun R=>(rG n j.1 j.2.1 j.2.2.1 j.2.2.2.1 j.2.2.2.2 R).bind fun b=>(bR n m o p s t).bind fun c=>(fN n u).bind fun w=>(pK n c.1 c.2.1 c.2.2.1 c.2.2.2.1 c.2.2.2.2 w).bind fun a=>((dV n a.1 a.2.1 a.2.2.1 a.2.2.2.1 b.1 b.2.1 b.2.2.1 b.2.2.2.1).bind fun C=>bif !C then some true else some (!(a.2.2.2.2 == b.2.2.2.2))).bind fun M=>bif M then some false else(bR n m o p s t).bind fun d=>(dD n c.1 c.2.1 c.2.2.1 c.2.2.2.1 c.2.2.2.2 d.1 d.2.1 d.2.2.1 d.2.2.2.1 d.2.2.2.2).bind fun D=>bif !D then some false else(fN n u).bind fun E=>(mV n w E).bind fun G=>bif !G then some false else(cQ n c.2.2.2.1 (1:Int)).bind fun K=>(bW n c.2.2.2.2 K.1).bind fun L=>(kE n w L.1).bind fun H=>(bif decide (H.1<(0:Int))then some true else(dV n a.1 a.2.1 a.2.2.1 a.2.2.2.1 b.1 b.2.1 b.2.2.1 b.2.2.2.1).bind fun I=>bif !I then some true else some (!(a.2.2.2.2 == b.2.2.2.2))).bind fun N=>bif N then some false else(cP n a.2.2.2.1 (1:Int)).bind fun l=>(iY n a.1 a.2.1 a.2.2.1 l.2 (1:Int)).bind fun y=>bif decide (y<(0:Int))then some false else bif !decide (y=l.1)then some false else(bR n m o p s t).bind fun f=>(fN n u).bind fun J=>(pK n f.1 f.2.1 f.2.2.1 f.2.2.2.1 f.2.2.2.2 J).bind fun g=>((dV n g.1 g.2.1 g.2.2.1 g.2.2.2.1 b.1 b.2.1 b.2.2.1 b.2.2.2.1).bind fun A=>bif !A then some true else some (!(g.2.2.2.2 == b.2.2.2.2))).bind fun B=>bif B then some false else(iY n a.1 a.2.1 a.2.2.1 l.2 (1:Int)).bind fun v=>bif decide (v<(0:Int))then some false else bif !decide (v=l.1)then some false else some true
theorem xP{n:Nat}:BB (eV n):=by
 intro a2 a3 a4 a5 a6 a7 r h; unfold eV at h; refine bF Try.func5 rfl rfl<|gco 13 rfl<|xC0 h (Ej ·) rfl (fun V h=> ?_)
 refine goc 8 rfl<|cIf h rfl (fun q2 h=> ?_) (fun q2 h=> ?_)
 exact gec; refine gco 5 rfl<|xC0 h (DD ·) rfl (fun W h=> ?_)
 refine goc 8 rfl<|cIf h rfl (fun q4 h=> ?_) (fun q4 h=> ?_)
 exact gec; refine gco 4 rfl<|xC0 h (oZ ·) rfl (fun X h=> ?_)
 refine xMv rfl<|xC0 h (nI ·) rfl (fun Y h=> ?_)
 refine xC0 h (Hw ·) rfl (fun d h=> ?_)
 refine goo 3 rfl<|xAz [.int .i64 0, .int .i64 0, .str [], .sl ([].map aD)] rfl<|goo 6 rfl<|xC0 h (oZ ·) rfl (fun o h=> ?_)
 refine xAz [.int .i64 0, .int .i64 0, .str [], .sl ([].map aL), .sl ([].map aF)] rfl<|goo 5 rfl<|xC0 h (nI ·) rfl (fun Z h=> ?_)
 refine goo 6 rfl<|xC0 h (AV ·) rfl (fun a h=> ?_)
 refine goo 3 rfl<|xAz [.int .i64 0, .int .i64 0, .str [], .sl ([].map aD)] rfl<|goo 6 rfl<|oJn h [(45,53)] [] (fun l=>(.n,[(53,Bo l)],[])) (fun _ h=> ?_) (fun l h=> ?_)
 refine goo 2 rfl<|xC0 h (pA ·) rfl (fun u h=> ?_)
 refine goo 2 rfl<|oIf 49 h rfl (fun E h=> ?_) (fun E h=> ?_)
 exact geo; exact goo 2 rfl<|wBi (.bool (!(a.2.2.2.2 == d.2.2.2.2))) rfl rfl rfl rfl rfl<|geo
 refine cIf h rfl (fun G h=> ?_) (fun G h=> ?_)
 exact gec; refine gco 6 rfl<|xC0 h (oZ ·) rfl (fun v h=> ?_)
 refine xC0 h (Em ·) rfl (fun w h=> ?_)
 refine goc 2 rfl<|cIf h rfl (fun H h=> ?_) (fun H h=> ?_)
 exact gec; refine gco 6 rfl<|xC0 h (nI ·) rfl (fun y h=> ?_)
 refine xC0 h (DE ·) rfl (fun z h=> ?_)
 refine goc 2 rfl<|cIf h rfl (fun I h=> ?_) (fun I h=> ?_)
 exact gec; refine gcc 5 rfl ?_
 obtain⟨b,em19_21,h⟩:=bind_some h; obtain⟨g,em19_22,h⟩:=bind_some h; refine cMk [⟨3,53,o.2.2.2.1.map aL,b.2.map aL,1,b.1⟩,⟨4,54,o.2.2.2.2.map aF,g.2.map aF,b.1,g.1⟩] Rb ⟨Aw em19_21,xO em19_22,trivial⟩ rfl rfl ⟨rfl,rfl,rfl,rfl,rfl,rfl⟩<|cRs<|wAl rfl rfl rfl rfl<|xMv rfl<|xIo (fun f=> .sl (f.2.map aP)) h (Ax ·) rfl (nav0 _) (fun _=>WT _ _) (fun f h=> ?_)
 refine goo 5 rfl<|oJn h [(70,82)] [] (fun m=>(.n,[(82,Bo m)],[])) (fun _ h=> ?_) (fun m h=> ?_)
 refine goo 3 rfl<|oIf 72 h rfl (fun J h=> ?_) (fun J h=> ?_)
 exact geo; refine goo 2 rfl<|xC0 h (pA ·) rfl (fun A h=> ?_)
 refine goo 3 rfl<|oIf 78 h rfl (fun K h=> ?_) (fun K h=> ?_)
 exact geo; exact goo 2 rfl<|wBi (.bool (!(a.2.2.2.2 == d.2.2.2.2))) rfl rfl rfl rfl rfl<|geo
 refine cIf h rfl (fun L h=> ?_) (fun L h=> ?_)
 exact gec; refine gcc 5 rfl ?_
 obtain⟨j,em24_29,h⟩:=bind_some h; refine cMk [⟨3,17,a.2.2.2.1.map aD,j.2.map aD,1,j.1⟩] Ra ⟨sL em24_29,trivial⟩ rfl rfl ⟨rfl,rfl,rfl,rfl⟩<|gco 8 rfl<|xC0 h (tO ·) rfl (fun B h=> ?_)
 refine goc 8 rfl<|cIf h rfl (fun M h=> ?_) (fun M h=> ?_)
 exact gec; refine gcc 8 rfl<|cIf h rfl (fun N h=> ?_) (fun N h=> ?_)
 exact gec; refine gco 4 rfl<|xC0 h (oZ ·) rfl (fun C h=> ?_)
 refine xMv rfl<|xC0 h (nI ·) rfl (fun D h=> ?_)
 refine xC0 h (AV ·) rfl (fun p h=> ?_)
 refine goo 3 rfl<|xAz [.int .i64 0, .int .i64 0, .str [], .sl ([].map aD)] rfl<|goo 6 rfl<|oJn h [(102,110)] [] (fun c=>(.n,[(110,Bo c)],[])) (fun _ h=> ?_) (fun c h=> ?_)
 refine goo 2 rfl<|xC0 h (pA ·) rfl (fun s h=> ?_)
 refine goo 2 rfl<|oIf 106 h rfl (fun Q h=> ?_) (fun Q h=> ?_)
 exact geo; exact goo 2 rfl<|wBi (.bool (!(p.2.2.2.2 == d.2.2.2.2))) rfl rfl rfl rfl rfl<|geo
 refine cIf h rfl (fun R h=> ?_) (fun R h=> ?_)
 exact gec; refine gco 9 rfl<|xC0 h (tO ·) rfl (fun t h=> ?_)
 refine goc 8 rfl<|cIf h rfl (fun T h=> ?_) (fun T h=> ?_)
 exact gec; refine gcc 8 rfl<|cIf h rfl (fun U h=> ?_) (fun U h=> ?_)
 exact gec; exact gec
end Go.Own
