/- The readers of patterns and of code. No conditions. -/
import Derived.Test.YtjfgchodolnmcaaW32GetRds
set_option linter.unusedVariables false
set_option linter.unusedSimpArgs false
set_option linter.unnecessarySimpa false
namespace Go.Own.Q
open Go Go.Proofs

def qD(l:List Int):Nat→Nat→Option (aA×Nat)
 | 0,_=>none
 | d+1,p=>(nmX l p).bind fun k=>(nmX l k.2).bind fun m=>(txX l m.2).bind fun s=>(ctX l 20 s.2).bind fun c=>(many (qD l d) c.1.toNat c.2).map fun e=>(.mk k.1 m.1 s.1 e.1,e.2)
theorem LA{l:List Int}(hl:l.length<1099511627776)(hb: ∀x∈l,0≤x∧x<256): ∀(d p:Nat) (x:aA) (a:Nat),p≤l.length→qD l d p=some (x,a)→Seg l p a (nZ x)
 | 0,p,x,a,hp,h=>by cases h
 | d+1,p,x,a,hp,h=>by
  obtain⟨q1,h1,h⟩:=Option.bind_eq_some_iff.1 h
  obtain⟨q2,h2,h⟩:=Option.bind_eq_some_iff.1 h
  obtain⟨q3,h3,h⟩:=Option.bind_eq_some_iff.1 h
  rw[qK]at h
  obtain⟨q4,h4,h⟩:=Option.bind_eq_some_iff.1 h
  split at h
  ·rename_i hr
   obtain⟨q5,h5,h⟩:=Option.map_eq_some_iff.1 h
   cases h
   have g1:=qY hl hb hp h1
   have g2:=qY hl hb g1.2.1 h2
   have g3:=KR hl hb g2.2.1 h3
   have g4:=qY hl hb g3.2.1 h4
   obtain⟨g5,g6⟩:=Seg.many (LA hl hb d) _ _ _ _ g4.2.1 h5
   have e:(q5.1.length:Int)=q4.1:=by omega
   have:=g1.app (g2.app (g3.app (g4.app g5)))
   rw[←e]at this
   rw[JB]
   exact this
  ·cases h
theorem OQ{x:Int}(h0: -1000≤x)(h1:x≤1000):IntKind.wrap .i64 x=x:=wrap_i64 (by omega) (by omega)
/-- A pattern's reader does as it should. -/
def Sq(rd:Nat→Option (aA×Nat))(L:Nat)(l:List Int)(bad:Bool)(p:Nat)(o:Option (Int×Int×List UInt8×List aA×List Int×Int×Bool)):Prop:= ∃(x:aA) (a:Nat) (b:Bool) (m:Nat),o=some (x.f0,x.f1,x.f2,x.f3,l,(a:Int),b)∧Ans (rd p) p L bad False m x a b∧(b=false→bV x+1≤2*m)
theorem Fv{n:Nat}{l:List Int}(hn:2100<n)(rd:Nat→Option (aA×Nat))(r:cS)(deep:Int)(c:Nat)(hc:c≤20)(a4:Int)(b4:Bool)(v1 v2:Int)(v3:List UInt8)(hr:0<c→ ∀p,p≤l.length→Sq rd l.length l false p (r (IntKind.wrap .i64 (deep+1)) l (p:Int) false))(p:Nat)(hp:p≤l.length)(bad:Bool):
  ∃(xs:List aA) (a:Nat) (b:Bool),(loopN (bT n r deep ((c:Int),l,a4,b4)) n ((0:Int),v1,v2,v3,([]:List aA),l,(p:Int),bad)).bind (fun(_,w5,w6,w7,w8,w9,w10,w11)=>some (w5,w6,w7,w8,w9,w10,w11))=some (v1,v2,v3,xs,l,(a:Int),b)∧Ans (many rd c p) p l.length bad False (a - p) xs a b∧(b=false→dl bV xs≤1+2*(a - p)):=by
 obtain⟨r,xs,a,b,e5,o5,h5,w5⟩:=kX (body:=bT n r deep ((c:Int),l,a4,b4)) (fun i acc q b=>((i:Int),v1,v2,v3,acc,l,(q:Int),b)) (fun acc a b r=> ∃j,r=(j,v1,v2,v3,acc,l,(a:Int),b)) rd bV (fun _=>False) (c:=c) (L:=l.length)
  (fun i acc q hi hl hq=>by
   obtain⟨x,a,b,m,k,hx,hw⟩:=hr (by omega) q hq
   refine⟨x,a,b,m, ?_,hx,hw⟩
   have hd:decide ((i:Int)<(c:Int))=true:=decide_eq_true (by omega)
   simp only[bT,hd,cond_true,cond_false,k,Option.bind_some,kK,xM 56 acc _ (by omega) (by omega),aI (show i<4611686018427387904 by omega)])
  (fun i acc q hi hl hq=> .inl (by
   simp only[bT]
   cases decide ((i:Int)<(c:Int))<;>exact⟨_,rfl,_,rfl⟩))
  (fun acc q hl hq=>by
   simp only[bT,aK,cond_false]
   exact⟨_,rfl,_,rfl⟩) p bad n hp (by omega)
 obtain⟨j,rfl⟩:=o5
 have e5:loopN (bT n r deep ((c:Int),l,a4,b4)) n ((0:Int),v1,v2,v3,([]:List aA),l,(p:Int),bad)=_:=e5
 rw[e5]
 exact⟨xs,a,b,rfl,h5.ill fun⟨_,_,h⟩=>h,fun h=>(w5 h).2⟩
theorem Ar{n:Nat}{l:List Int}(hn:2100<n)(rd:Nat→Option (aA×Nat))(r:fR)(deep:Int)(c:Nat)(v4:Int)(hc:c≤20)(hv:c=v4.toNat∨c=0)(a4:Int)(b4:Bool)(v1 v2:Int)(v3:List UInt8)(hr:0<c→ ∀p,p≤l.length→Sq rd l.length l false p (r (IntKind.wrap .i64 (deep - 1)) l (p:Int) false))(p:Nat)(hp:p≤l.length)(bad:Bool)(hb:c=v4.toNat∨bad=true):
  ∃(xs:List aA) (a:Nat) (b:Bool),(loopN (cJ n r deep (v4,l,a4,b4)) n ((0:Int),v1,v2,v3,([]:List aA),l,(p:Int),bad)).bind (fun(_,_,w5,w6,w7,w8,w9,w10,w11)=>some (w5,w6,w7,w8,w9,w10,w11))=some (v1,v2,v3,xs,l,(a:Int),b)∧Ans (many rd c p) p l.length bad False (a - p) xs a b∧(b=false→dl bV xs≤1+2*(a - p)):=by
 cases bad with
 | true=>
  obtain⟨m,rfl⟩: ∃q,n=q+1:=⟨n - 1,by omega⟩
  refine⟨[],p,true, ?_,⟨Nat.le_refl _,hp,id,(fun h=>by cases h),(fun q h=>by cases h),(fun h=>by cases h)⟩,(fun h=>by cases h)⟩
  simp only[loopN,cJ]
  cases decide ((0:Int)<v4)<;>rfl
 | false=>
  have hv:c=v4.toNat:=by rcases hb with h | h; exact h; cases h
  obtain⟨r,xs,a,b,e5,o5,h5,w5⟩:=kX (body:=cJ n r deep (v4,l,a4,b4)) (fun i acc q b=>((i:Int),v1,v2,v3,acc,l,(q:Int),b)) (fun acc a b r=> ∃j j',r=(j,j',v1,v2,v3,acc,l,(a:Int),b)) rd bV (fun _=>False) (c:=c) (L:=l.length)
   (fun i acc q hi hl hq=>by
    obtain⟨x,a,b,m,k,hx,hw⟩:=hr (by omega) q hq
    refine⟨x,a,b,m, ?_,hx,hw⟩
    have hd:decide ((i:Int)<v4)=true:=decide_eq_true (by omega)
    simp only[cJ,hd,cond_true,Bool.not_false,k,Option.bind_some,kK,xM 56 acc _ (by omega) (by omega),aI (show i<4611686018427387904 by omega)])
   (fun i acc q hi hl hq=> .inl (by
    simp only[cJ]
    cases decide ((i:Int)<v4)<;>exact⟨_,rfl,_,_,rfl⟩))
   (fun acc q hl hq=>by
    simp only[cJ,decide_eq_false (show ¬ (c:Int)<v4 by omega)]
    exact⟨_,rfl,_,_,rfl⟩) p false n hp (by omega)
  obtain⟨j,j',rfl⟩:=o5
  have e5:loopN (cJ n r deep (v4,l,a4,b4)) n ((0:Int),v1,v2,v3,([]:List aA),l,(p:Int),false)=_:=e5
  rw[e5]
  exact⟨xs,a,b,rfl,h5.ill fun⟨_,_,h⟩=>h,fun h=>(w5 h).2⟩
theorem LD{l:List Int}{d p a1 a2 a3 a4 a5:Nat}{bad b1 b2 b3 b4 b5:Bool}{v1 v2 v4:Int}{v3:List UInt8}{xs:List aA}(h1:Ans (nmX l p) p l.length bad False 1 v1 a1 b1)(h2:Ans (nmX l a1) a1 l.length b1 False 1 v2 a2 b2)(h3:Ans (txX l a2) a2 l.length b2 False (1+v3.length) v3 a3 b3)(h4:Ans (ctX l 20 a3) a3 l.length b3 False 1 v4 a4 b4)(h5:Ans (many (qD l d) v4.toNat a4) a4 l.length b4 False (a5 - a4) xs a5 b5)(w5:b5=false→dl bV xs≤1+2*(a5 - a4)):
  ∃m,Ans (qD l (d+1) p) p l.length bad False m (aA.mk v1 v2 v3 xs) a5 b5∧(b5=false→bV (aA.mk v1 v2 v3 xs)+1≤2*m):=by
 have g5:=h5.map (fun e=>aA.mk v1 v2 v3 e)
 have g4:=Ans.bind (Y:=fun(d':Int) q=>(many (qD l d) d'.toNat q).map fun e=>(aA.mk v1 v2 v3 e.1,e.2)) h4 g5
 have g3:=Ans.bind (Y:=fun s q=>(ctX l 20 q).bind fun c=>(many (qD l d) c.1.toNat c.2).map fun e=>(aA.mk v1 v2 s e.1,e.2)) h3 g4
 have g2:=Ans.bind (Y:=fun m q=>(txX l q).bind fun s=>(ctX l 20 s.2).bind fun c=>(many (qD l d) c.1.toNat c.2).map fun e=>(aA.mk v1 m s.1 e.1,e.2)) h2 g3
 have g1:=Ans.bind (Y:=fun k q=>(nmX l q).bind fun m=>(txX l m.2).bind fun s=>(ctX l 20 s.2).bind fun c=>(many (qD l d) c.1.toNat c.2).map fun e=>(aA.mk k m.1 s.1 e.1,e.2)) h1 g2
 refine⟨_,g1,fun h=> ?_⟩
 have:=w5 h
 rw[Cc]
 show 3+v3.length+dl bV xs+1≤_
 omega
theorem Of{α:Type}{p L:Nat}{bad:Bool}{v a:Nat}{b:Bool}{x:α}(h:b=true)(h1:p≤a)(h2:a≤L):Ans (none:Option (α×Nat)) p L bad False v x a b:=by
 subst h
 exact⟨h1,h2,fun _=>rfl,(fun h=>by cases h),(fun q _ h=>by cases h),fun _ _=> .inl rfl⟩
theorem Ih: ∀(d n:Nat) (l:List Int),Hy n l→2101+d<n→d≤10→ ∀(p:Nat),p≤l.length→ ∀bad,Sq (qD l d) l.length l bad p (bB n (11 - (d:Int)) l (p:Int) bad)
 | d,0,l,H,h,_,p,hp,bad=>by omega
 | 0,n+1,l,H,h,hd,p,hp,bad=>by
  have H':Hy n l:=⟨by omega,H.hl,H.hb⟩
  obtain⟨v1,a1,b1,e1,_,h1,_⟩:=fE H' p hp bad
  obtain⟨v2,a2,b2,e2,_,h2,_⟩:=fE H' a1 h1.2.1 b1
  obtain⟨v3,a3,b3,e3,_,h3⟩:=qH H' a2 h2.2.1 b2
  obtain⟨v4,a4,b4,e4,h4,z4,c4⟩:=rT H' 20 a3 h3.2.1 true
  have e4:aT n (20:Int) l (a3:Int) true=some ((v4:Int),l,(a4:Int),b4):=e4
  have hb4:=h4.2.2.1 rfl
  have:=z4 hb4
  subst this hb4
  obtain⟨xs,a5,b5,e5,h5,w5⟩:=Fv (n:=n) (l:=l) (by omega) (qD l 0) (bB n) (11 - ((0:Nat):Int)) 0 (by omega) (a4:Int) true v1 v2 v3 (fun h=>by omega) a4 h4.2.1 true
  have hb5:=h5.2.2.1 rfl
  refine⟨.mk v1 v2 v3 xs,a5,b5,0, ?_,Of hb5 (by have:=h1.1; have:=h2.1; have:=h3.1; have:=h4.1; have:=h5.1; omega) h5.2.1,fun h=>by rw[hb5]at h; cases h⟩
  rw[show bB (n+1)=cO n (bB n)from rfl]
  unfold cO
  simp only[e1,e2,e3,e4,Option.bind_some,decide_eq_true (show(10:Int)<11 - ((0:Nat):Int)by omega),cond_true]
  exact e5
 | d+1,n+1,l,H,h,hd,p,hp,bad=>by
  have H':Hy n l:=⟨by omega,H.hl,H.hb⟩
  obtain⟨v1,a1,b1,e1,_,h1,_⟩:=fE H' p hp bad
  obtain⟨v2,a2,b2,e2,_,h2,_⟩:=fE H' a1 h1.2.1 b1
  obtain⟨v3,a3,b3,e3,_,h3⟩:=qH H' a2 h2.2.1 b2
  obtain⟨v4,a4,b4,e4,h4,z4,c4⟩:=rT H' 20 a3 h3.2.1 b3
  have e4:aT n (20:Int) l (a3:Int) b3=some ((v4:Int),l,(a4:Int),b4):=e4
  obtain⟨xs,a5,b5,e5,h5,w5⟩:=Fv (n:=n) (l:=l) (by omega) (qD l d) (bB n) (11 - ((d+1:Nat):Int)) v4 c4 (a4:Int) b4 v1 v2 v3 (fun _ q hq=>by
   rw[OQ (by omega) (by omega),show 11 - ((d+1:Nat):Int)+1=11 - (d:Int)by omega]
   exact Ih d n l H' (by omega) (by omega) q hq false) a4 h4.2.1 b4
  obtain⟨m,g,gw⟩:=LD h1 h2 h3 h4 h5 w5
  refine⟨.mk v1 v2 v3 xs,a5,b5,m, ?_,g,gw⟩
  rw[show bB (n+1)=cO n (bB n)from rfl]
  unfold cO
  simp only[e1,e2,e3,e4,Option.bind_some,decide_eq_false (show ¬ (10:Int)<11 - ((d+1:Nat):Int)by omega),cond_false]
  exact e5
theorem Ig: ∀(d n:Nat) (l:List Int),Hy n l→2101+d<n→d≤10→ ∀(p:Nat),p≤l.length→ ∀bad,Sq (qD l d) l.length l bad p (bU n (d:Int) l (p:Int) bad)
 | d,0,l,H,h,_,p,hp,bad=>by omega
 | 0,n+1,l,H,h,hd,p,hp,bad=>by
  have H':Hy n l:=⟨by omega,H.hl,H.hb⟩
  obtain⟨v1,a1,b1,_,e1,h1,_⟩:=fE H' p hp bad
  obtain⟨v2,a2,b2,_,e2,h2,_⟩:=fE H' a1 h1.2.1 b1
  obtain⟨v3,a3,b3,_,e3,h3⟩:=qH H' a2 h2.2.1 b2
  obtain⟨v4,a4,b4,_,e4,h4,_⟩:=fE H' a3 h3.2.1 b3
  obtain⟨xs,a5,b5,e5,h5,w5⟩:=Ar (n:=n) (l:=l) (by omega) (qD l 0) (bU n) ((0:Nat):Int) 0 v4 (by omega) (.inr rfl) (a4:Int) b4 v1 v2 v3 (fun h=>by omega) a4 h4.2.1 true (.inr rfl)
  have hb5:=h5.2.2.1 rfl
  refine⟨.mk v1 v2 v3 xs,a5,b5,0, ?_,Of hb5 (by have:=h1.1; have:=h2.1; have:=h3.1; have:=h4.1; have:=h5.1; omega) h5.2.1,fun h=>by rw[hb5]at h; cases h⟩
  rw[show bU (n+1)=eG n (bU n)from rfl]
  unfold eG
  simp only[e1,e2,e3,e4,Option.bind_some,decide_eq_true (show((0:Nat):Int)<1 by omega),cond_true]
  exact e5
 | d+1,n+1,l,H,h,hd,p,hp,bad=>by
  have H':Hy n l:=⟨by omega,H.hl,H.hb⟩
  obtain⟨v1,a1,b1,_,e1,h1,_⟩:=fE H' p hp bad
  obtain⟨v2,a2,b2,_,e2,h2,_⟩:=fE H' a1 h1.2.1 b1
  obtain⟨v3,a3,b3,_,e3,h3⟩:=qH H' a2 h2.2.1 b2
  obtain⟨v4,a4,b4,_,e4,⟨p1,p2,p3,p4,p5,p6⟩,_⟩:=fE H' a3 h3.2.1 b3
  have hp4:bU (n+1)=eG n (bU n):=rfl
  have hin: ∀x:Int,(bif decide (((d+1:Nat):Int)<(1:Int))then some true else(aP n x (0:Int) (20:Int)).bind fun c=>some (!c))=some (!(decide (0≤x)&&decide (x≤20))):=fun x=>by
   rw[decide_eq_false (by omega),cond_false,pZ]; rfl
  by_cases hv:0≤v4∧v4≤((20:Nat):Int)
  ·have hc4:Ans (ctX l 20 a3) a3 l.length b3 False 1 v4 a4 b4:=by
    refine⟨p1,p2,p3,p4,fun q hb hq=> ?_,fun hb hq=> ?_⟩
    ·obtain⟨x,hx,hy⟩:=Option.bind_eq_some_iff.1 hq
     split at hy<;>cases hy
     exact p5 _ hb hx
    ·cases hX:nmX l a3 with
     | none=>exact p6 hb hX
     | some x=>
      obtain⟨q1,rfl,rfl⟩:=p5 x hb hX
      unfold ctX at hq
      rw[hX,Option.bind_some, ←q1,if_pos hv]at hq
      cases hq
   obtain⟨xs,a5,b5,e5,h5,w5⟩:=Ar (n:=n) (l:=l) (by omega) (qD l d) (bU n) ((d+1:Nat):Int) v4.toNat v4 (by omega) (.inl rfl) (a4:Int) b4 v1 v2 v3 (fun _ q hq=>by
    rw[OQ (by omega) (by omega),show((d+1:Nat):Int) - 1=(d:Int)by omega]
    exact Ig d n l H' (by omega) (by omega) q hq false) a4 p2 b4 (.inl rfl)
   obtain⟨m,g,gw⟩:=LD h1 h2 h3 hc4 h5 w5
   refine⟨.mk v1 v2 v3 xs,a5,b5,m, ?_,g,gw⟩
   rw[hp4]
   unfold eG
   simp only[e1,e2,e3,e4,Option.bind_some,hin,decide_eq_true hv.1,decide_eq_true (show v4≤20 from hv.2),Bool.and_self,Bool.not_true,cond_false]
   exact e5
  ·have hd':(!(decide (0≤v4)&&decide (v4≤20)))=true:=by
    cases h:(decide (0≤v4)&&decide (v4≤20))with
    | false=>rfl
    | true=>simp only[Bool.and_eq_true,decide_eq_true_eq]at h; exact absurd h hv
   obtain⟨xs,a5,b5,e5,h5,w5⟩:=Ar (n:=n) (l:=l) (by omega) (qD l 0) (bU n) ((d+1:Nat):Int) 0 v4 (by omega) (.inr rfl) (a4:Int) b4 v1 v2 v3 (fun h=>by omega) a4 p2 true (.inr rfl)
   have hb5:=h5.2.2.1 rfl
   subst hb5
   have hX: ∀q,bad=false→qD l (d+1) p=some q→False:=fun q hb hq=>by
    subst hb
    simp only[qD,qK]at hq
    obtain⟨q1,r1,hq⟩:=Option.bind_eq_some_iff.1 hq
    obtain⟨s1,rfl,rfl⟩:=h1.2.2.2.2.1 q1 rfl r1
    obtain⟨q2,r2,hq⟩:=Option.bind_eq_some_iff.1 hq
    obtain⟨s2,rfl,rfl⟩:=h2.2.2.2.2.1 q2 rfl r2
    obtain⟨q3,r3,hq⟩:=Option.bind_eq_some_iff.1 hq
    obtain⟨s3,rfl,rfl⟩:=h3.2.2.2.2.1 q3 rfl r3
    obtain⟨q4,r4,hq⟩:=Option.bind_eq_some_iff.1 hq
    obtain⟨s4,rfl,rfl⟩:=p5 q4 rfl r4
    rw[←s4,if_neg hv]at hq
    cases hq
   refine⟨.mk v1 v2 v3 xs,a5,true,0, ?_,⟨by have:=h1.1; have:=h2.1; have:=h3.1; have:=h5.1; omega,h5.2.1,fun _=>rfl,(fun h=>by cases h),fun q hb hq=>(hX q hb hq).elim,fun _ _=> .inl rfl⟩,(fun h=>by cases h)⟩
   rw[hp4]
   unfold eG
   simp only[e1,e2,e3,e4,Option.bind_some,hin,hd',cond_true]
   exact e5
end Go.Own.Q
