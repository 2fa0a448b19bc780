/- The readers of code: what they should read, and that both sides' do. No conditions. -/
import Derived.Test.YtjfgchodolnmcaaW32GetAns
set_option linter.unusedVariables false
set_option linter.unusedSimpArgs false
set_option linter.unnecessarySimpa false
namespace Go.Own.Q
open Go Go.Proofs

theorem kX{σ ρ α:Type}{body:σ→Option (σ⊕ρ)}(enc:Nat→List α→Nat→Bool→σ)(Out:List α→Nat→Bool→ρ→Prop)(rd:Nat→Option (α×Nat))(w:α→Nat)(ill:α→Prop){c L:Nat}
  (hs: ∀i acc p,i<c→acc.length=i→p≤L→ ∃x a b m,body (enc i acc p false)=some (.inl (enc (i+1) (acc++[x]) a b))∧Ans (rd p) p L false (ill x) m x a b∧(b=false→w x+1≤2*m))
  (hb: ∀i acc p,i≤c→acc.length=i→p≤L→(∃r,body (enc i acc p true)=some (.inr r)∧Out acc p true r)∨(i<c∧ ∃x a,p≤a∧a≤L∧body (enc i acc p true)=some (.inl (enc (i+1) (acc++[x]) a true))))
  (he: ∀acc p,acc.length=c→p≤L→ ∃r,body (enc c acc p false)=some (.inr r)∧Out acc p false r)(p:Nat)(bad:Bool)(m:Nat)(hp:p≤L)(hm:c<m):
  ∃r xs a b,loopN body m (enc 0 [] p bad)=some r∧Out xs a b r∧Ans (many rd c p) p L bad (∃x∈xs,ill x) (a - p) xs a b∧(b=false→xs.length=c∧dl w xs≤1+2*(a - p)):=by
 obtain⟨r,xs,a,b,g1,g2,g3,g4,g5,g6,g7,g8⟩:=Ay enc Out rd w ill hs hb he c 0 [] p bad m (by omega) rfl hp hm
 refine⟨r,xs,a,b,g1,g2,⟨g3,g4,g5,fun _=>by omega,g7,g8⟩,fun h=> ?_⟩
 obtain⟨q1,q2⟩:=g6 h
 simp only[dl,List.nil_append]at q1 q2
 exact⟨q1,by omega⟩
/-- Bytes that may be read, and fuel. -/
structure Hy (n:Nat) (l:List Int):Prop where
 n0:2100<n
 hl:l.length<1099511627776
 hb: ∀x∈l,0≤x∧x<256
def nmX(l:List Int)(p:Nat):Option (Int×Nat):=match aM 11 l (p:Int) false with
 | some (v,_,a,b)=>bif b then none else some (v,a.toNat)
 | none=>none
def txX(l:List Int)(p:Nat):Option (List UInt8×Nat):=match aS 11 l (p:Int) false with
 | some (v,_,a,b)=>bif b then none else some (v,a.toNat)
 | none=>none
theorem Na{n:Nat}{l:List Int}(hn:10<n)(hl:l.length<1099511627776)(hb: ∀x∈l,0≤x∧x<256)(p:Nat)(hp:p≤l.length)(bad:Bool):aM n l (p:Int) bad=aM 11 l (p:Int) bad:=by
 rw[KX n l hn hl hb p hp,KX 11 l (by omega) hl hb p hp]
theorem Ls{n:Nat}{l:List Int}(hn:10<n)(hl:l.length<1099511627776)(hb: ∀x∈l,0≤x∧x<256)(p:Nat)(hp:p≤l.length)(bad:Bool):aS n l (p:Int) bad=aS 11 l (p:Int) bad:=by
 unfold aS iU
 rw[iW n l hn hl hb p hp,iW 11 l (by omega) hl hb p hp]
theorem HG{l e:List Int}{p a:Nat}(h:Seg l p a e):p+e.length=a:=by
 obtain⟨h1,h2,h3⟩:=h
 rw[←h3,List.length_take,List.length_drop]; omega
theorem qY{l:List Int}(hl:l.length<1099511627776)(hb: ∀x∈l,0≤x∧x<256){p a:Nat}{v:Int}(hp:p≤l.length)(h:nmX l p=some (v,a)):Seg l p a (qE v):=by
 obtain⟨v',a',b,h1,h2,h3,h4,h5,h6,h7⟩:=Fx 11 l (by omega) hl hb p hp false
 unfold nmX at h
 rw[h1]at h
 cases b with
 | true=>cases h
 | false=>cases h; rw[Int.toNat_natCast]; exact⟨h2,h3,h5 rfl⟩
theorem KR{l:List Int}(hl:l.length<1099511627776)(hb: ∀x∈l,0≤x∧x<256){p a:Nat}{v:List UInt8}(hp:p≤l.length)(h:txX l p=some (v,a)):Seg l p a (yN v):=by
 obtain⟨v',a',b,h1,h2,h3,h4,h5⟩:=Km 11 l (by omega) hl hb p hp false
 unfold txX at h
 rw[h1]at h
 cases b with
 | true=>cases h
 | false=>cases h; rw[Int.toNat_natCast]; exact⟨h2,h3,h5 rfl⟩
theorem fE{n:Nat}{l:List Int}(H:Hy n l)(p:Nat)(hp:p≤l.length)(bad:Bool): ∃(v:Int) (a:Nat) (b:Bool),aM n l (p:Int) bad=some (v,l,(a:Int),b)∧aX n l (p:Int) bad=some (v,l,(a:Int),b)∧Ans (nmX l p) p l.length bad False 1 v a b∧(b=true→v=0)∧okR v=true:=by
 have hn:=H.n0
 obtain⟨v,a,b,h1,h2,h3,h4,h5,h6,h7⟩:=Fx n l (by omega) H.hl H.hb p hp bad
 refine⟨v,a,b,h1,by rw[←NZ n l (by omega) H.hl H.hb p hp,h1], ?_,h6,h7⟩
 have hm:b=false→p+1≤a:=fun h=>by
  have:=HG ⟨h2,h3,h5 h⟩
  have:=cX v
  omega
 rw[Na (by omega) H.hl H.hb p hp]at h1
 cases bad with
 | true=>exact⟨h2,h3,h4,hm,(fun q h=>by cases h),(fun h=>by cases h)⟩
 | false=>
  have e:nmX l p=bif b then none else some (v,a):=by
   unfold nmX; rw[h1]; rfl
  rw[e]
  cases b with
  | true=>exact⟨h2,h3,h4,hm,(fun q _ h=>by cases h),fun _ _=> .inl rfl⟩
  | false=>exact⟨h2,h3,h4,hm,(fun q _ h=>by cases h; exact⟨rfl,rfl,rfl⟩),(fun _ h=>by cases h)⟩
theorem qH{n:Nat}{l:List Int}(H:Hy n l)(p:Nat)(hp:p≤l.length)(bad:Bool): ∃(v:List UInt8) (a:Nat) (b:Bool),aS n l (p:Int) bad=some (v,l,(a:Int),b)∧eK n l (p:Int) bad=some (v,l,(a:Int),b)∧Ans (txX l p) p l.length bad False (1+v.length) v a b:=by
 have hn:=H.n0
 obtain⟨v,a,b,h1,h2,h3,h4,h5⟩:=Km n l (by omega) H.hl H.hb p hp bad
 refine⟨v,a,b,h1,by rw[←Lr n l (by omega) H.hl H.hb p hp,h1], ?_⟩
 have hm:b=false→p+(1+v.length)≤a:=fun h=>by
  have:=HG (e:=yN v) ⟨h2,h3,h5 h⟩
  have:=nX v
  omega
 rw[Ls (by omega) H.hl H.hb p hp]at h1
 cases bad with
 | true=>exact⟨h2,h3,h4,hm,(fun q h=>by cases h),(fun h=>by cases h)⟩
 | false=>
  have e:txX l p=bif b then none else some (v,a):=by
   unfold txX; rw[h1]; rfl
  rw[e]
  cases b with
  | true=>exact⟨h2,h3,h4,hm,(fun q _ h=>by cases h),fun _ _=> .inl rfl⟩
  | false=>exact⟨h2,h3,h4,hm,(fun q _ h=>by cases h; exact⟨rfl,rfl,rfl⟩),(fun _ h=>by cases h)⟩
/-- A number up to k. -/
def ctX(l:List Int)(k:Nat)(p:Nat):Option (Int×Nat):=(nmX l p).bind fun q=>if 0≤q.1∧q.1≤(k:Int)then some q else none
theorem qK{α:Type}(l:List Int)(k p:Nat)(g:Int×Nat→Option α):(ctX l k p).bind g=(nmX l p).bind fun q=>if 0≤q.1∧q.1≤(k:Int)then g q else none:=by
 unfold ctX
 cases nmX l p with
 | none=>rfl
 | some q=>
  simp only[Option.bind_some]
  by_cases h:0≤q.1∧q.1≤(k:Int)
  ·rw[if_pos h,if_pos h]; rfl
  ·rw[if_neg h,if_neg h]; rfl
theorem rT{n:Nat}{l:List Int}(H:Hy n l)(k p:Nat)(hp:p≤l.length)(bad:Bool): ∃(v a:Nat) (b:Bool),aT n (k:Int) l (p:Int) bad=some ((v:Int),l,(a:Int),b)∧Ans (ctX l k p) p l.length bad False 1 (v:Int) a b∧(b=true→v=0)∧v≤k:=by
 obtain⟨v,a,b,h1,_,⟨p1,p2,p3,p4,p5,p6⟩,h3,_⟩:=fE H p hp bad
 unfold aT
 rw[h1,Option.bind_some,gI,Option.bind_some]
 by_cases hv:0≤v∧v≤(k:Int)
 ·obtain⟨v,rfl⟩: ∃q:Nat,v=q:=⟨v.toNat,by omega⟩
  rw[decide_eq_true hv.1,decide_eq_true hv.2]
  refine⟨v,a,b,rfl,⟨p1,p2,p3,p4,fun q hb hq=> ?_,fun hb hq=> ?_⟩,fun h=>by have:=h3 h; omega,by omega⟩
  ·obtain⟨x,hx,hy⟩:=Option.bind_eq_some_iff.1 hq
   split at hy<;>cases hy
   exact p5 _ hb hx
  ·cases hX:nmX l p with
   | none=>exact p6 hb hX
   | some x=>
    obtain⟨e1,rfl,rfl⟩:=p5 x hb hX
    unfold ctX at hq
    rw[hX,Option.bind_some, ←e1,if_pos hv]at hq
    cases hq
 ·have hd:(decide (0≤v)&&decide (v≤(k:Int)))=false:=by
   cases h:(decide (0≤v)&&decide (v≤(k:Int)))with
   | false=>rfl
   | true=>simp only[Bool.and_eq_true,decide_eq_true_eq]at h; exact absurd h hv
  rw[hd]
  refine⟨0,a,true,rfl,⟨p1,p2,fun _=>rfl,(fun h=>by cases h),fun q hb hq=> ?_,fun _ _=> .inl rfl⟩,fun _=>rfl,by omega⟩
  obtain⟨x,hx,hy⟩:=Option.bind_eq_some_iff.1 hq
  obtain⟨e1,_,_⟩:=p5 x hb hx
  rw[←e1,if_neg hv]at hy
  cases hy
def Eo(l:List Int)(p:Nat):Option (aC×Nat):=(nmX l p).bind fun a=>(nmX l a.2).bind fun b=>(txX l b.2).bind fun c=>(nmX l c.2).map fun d=>(⟨a.1,b.1,c.1,d.1⟩,d.2)
/-- How both read an instruction. -/
theorem LU{n:Nat}{l:List Int}(H:Hy n l)(p:Nat)(hp:p≤l.length): ∃(x:aC) (a1 a2 a3 a:Nat) (b1 b2 b3 b:Bool),aM n l (p:Int) false=some (x.f0,l,(a1:Int),b1)∧aM n l (a1:Int) b1=some (x.f1,l,(a2:Int),b2)∧aS n l (a2:Int) b2=some (x.f2,l,(a3:Int),b3)∧aM n l (a3:Int) b3=some (x.f3,l,(a:Int),b)∧
  aX n l (p:Int) false=some (x.f0,l,(a1:Int),b1)∧aX n l (a1:Int) b1=some (x.f1,l,(a2:Int),b2)∧eK n l (a2:Int) b2=some (x.f2,l,(a3:Int),b3)∧aX n l (a3:Int) b3=some (x.f3,l,(a:Int),b)∧
  Ans (Eo l p) p l.length false False (jE x) x a b:=by
 obtain⟨v1,a1,b1,e1,s1,h1,_⟩:=fE H p hp false
 obtain⟨v2,a2,b2,e2,s2,h2,_⟩:=fE H a1 h1.2.1 b1
 obtain⟨v3,a3,b3,e3,s3,h3⟩:=qH H a2 h2.2.1 b2
 obtain⟨v4,a4,b4,e4,s4,h4,_⟩:=fE H a3 h3.2.1 b3
 refine⟨⟨v1,v2,v3,v4⟩,a1,a2,a3,a4,b1,b2,b3,b4,e1,e2,e3,e4,s1,s2,s3,s4, ?_⟩
 have g4:=h4.map (fun d=>aC.mk v1 v2 v3 d)
 have g3:=Ans.bind (Y:=fun c q=>(nmX l q).map fun d=>(aC.mk v1 v2 c d.1,d.2)) h3 g4
 have g2:=Ans.bind (Y:=fun b q=>(txX l q).bind fun c=>(nmX l c.2).map fun d=>(aC.mk v1 b c.1 d.1,d.2)) h2 g3
 have g1:=Ans.bind (Y:=fun a q=>(nmX l q).bind fun b=>(txX l b.2).bind fun c=>(nmX l c.2).map fun d=>(aC.mk a b.1 c.1 d.1,d.2)) h1 g2
 have e:jE ⟨v1,v2,v3,v4⟩=1+(1+(1+v3.length+1)):=by show 4+v3.length=_; omega
 rw[e]
 exact g1
theorem QM{l:List Int}(hl:l.length<1099511627776)(hb: ∀x∈l,0≤x∧x<256)(p:Nat)(x:aC)(a:Nat)(hp:p≤l.length)(h:Eo l p=some (x,a)):Seg l p a (xK x):=by
 obtain⟨q1,h1,h⟩:=Option.bind_eq_some_iff.1 h
 obtain⟨q2,h2,h⟩:=Option.bind_eq_some_iff.1 h
 obtain⟨q3,h3,h⟩:=Option.bind_eq_some_iff.1 h
 obtain⟨q4,h4,h⟩:=Option.map_eq_some_iff.1 h
 cases h
 have g1:=qY hl hb hp h1
 have g2:=qY hl hb g1.2.1 h2
 have g3:=KR hl hb g2.2.1 h3
 have g4:=qY hl hb g3.2.1 h4
 exact g1.app (g2.app (g3.app g4))
def fnX(l:List Int)(p:Nat):Option (aB×Nat):=(txX l p).bind fun a=>(nmX l a.2).bind fun b=>(nmX l b.2).bind fun c=>(ctX l 1500 c.2).bind fun d=>(many (Eo l) d.1.toNat d.2).map fun e=>(⟨a.1,b.1,c.1,e.1⟩,e.2)
theorem TU{l:List Int}(hl:l.length<1099511627776)(hb: ∀x∈l,0≤x∧x<256)(p:Nat)(x:aB)(a:Nat)(hp:p≤l.length)(h:fnX l p=some (x,a)):Seg l p a (Gc x):=by
 obtain⟨q1,h1,h⟩:=Option.bind_eq_some_iff.1 h
 obtain⟨q2,h2,h⟩:=Option.bind_eq_some_iff.1 h
 obtain⟨q3,h3,h⟩:=Option.bind_eq_some_iff.1 h
 rw[qK]at h
 obtain⟨q4,h4,h⟩:=Option.bind_eq_some_iff.1 h
 split at h
 ·rename_i hr
  obtain⟨q5,h5,h⟩:=Option.map_eq_some_iff.1 h
  cases h
  have g1:=KR hl hb hp h1
  have g2:=qY hl hb g1.2.1 h2
  have g3:=qY hl hb g2.2.1 h3
  have g4:=qY hl hb g3.2.1 h4
  obtain⟨g5,g6⟩:=Seg.many (QM hl hb) _ _ _ _ g4.2.1 h5
  have e:(q5.1.length:Int)=q4.1:=by omega
  have:=g1.app (g2.app (g3.app (g4.app g5)))
  rw[←e]at this
  exact this
 ·cases h
theorem xM{α:Type}(b:Nat)(acc:List α)(x:α)(h:acc.length<2001)(hb:b≤56):iI b acc [x]=some (acc++[x]):=by
 refine rQ ?_ (by simp only[List.length_singleton,maxLen]; omega)
 have:(acc.length+[x].length)*b≤2001*56:=Nat.mul_le_mul (by rw[List.length_singleton]; omega) hb
 omega
theorem QV{n:Nat}{l:List Int}(H:Hy n l)(p:Nat)(hp:p≤l.length)(bad:Bool): ∃(f:aB) (a:Nat) (b:Bool) (m:Nat),iP n l (p:Int) bad=some (f.f0,f.f1,f.f2,f.f3,l,(a:Int),b)∧Ans (fnX l p) p l.length bad False m f a b∧(b=false→wFn f+1≤2*m):=by
 have hn:=H.n0
 obtain⟨v1,a1,b1,e1,_,h1⟩:=qH H p hp bad
 obtain⟨v2,a2,b2,e2,_,h2,_⟩:=fE H a1 h1.2.1 b1
 obtain⟨v3,a3,b3,e3,_,h3,_⟩:=fE H a2 h2.2.1 b2
 obtain⟨v4,a4,b4,e4,h4,_,c4⟩:=rT H 1500 a3 h3.2.1 b3
 have e4:aT n (1500:Int) l (a3:Int) b3=some ((v4:Int),l,(a4:Int),b4):=e4
 obtain⟨r,xs,a5,b5,e5,o5,h5,w5⟩:=kX (body:=cN n ((v4:Int),l,(a4:Int),b4)) (fun i acc q b=>((i:Int),v1,v2,v3,acc,l,(q:Int),b)) (fun acc a b r=> ∃j,r=(j,v1,v2,v3,acc,l,(a:Int),b)) (Eo l) jE (fun _=>False) (c:=v4) (L:=l.length)
  (fun i acc q hi hl hq=>by
   obtain⟨x,_,_,_,a,_,_,_,b,k1,k2,k3,k4,_,_,_,_,hx⟩:=LU H q hq
   refine⟨x,a,b,jE x, ?_,hx,fun _=>by have:=zA x; omega⟩
   have hd:decide ((i:Int)<(v4:Int))=true:=decide_eq_true (by omega)
   simp only[cN,hd,cond_true,cond_false,k1,k2,k3,k4,Option.bind_some,xM 40 acc _ (by omega) (by omega),aI (show i<4611686018427387904 by omega)])
  (fun i acc q hi hl hq=> .inl (by
   simp only[cN]
   cases decide ((i:Int)<(v4:Int))<;>exact⟨_,rfl,_,rfl⟩))
  (fun acc q hl hq=>by
   simp only[cN,aK,cond_false]
   exact⟨_,rfl,_,rfl⟩) a4 b4 n h4.2.1 (by omega)
 obtain⟨j,rfl⟩:=o5
 refine⟨⟨v1,v2,v3,xs⟩,a5,b5,1+v1.length+(1+(1+(1+(a5 - a4)))), ?_, ?_,fun h=> ?_⟩
 ·unfold iP
  simp only[e1,e2,e3,e4,Option.bind_some]
  have e5:loopN (cN n ((v4:Int),l,(a4:Int),b4)) n ((0:Int),v1,v2,v3,([]:List aC),l,(a4:Int),b4)=_:=e5
  rw[e5]; rfl
 ·have g5:=(h5.map (fun e=>aB.mk v1 v2 v3 e)).ill (j:=False) (fun⟨_,_,h⟩=>h)
  have g4:=Ans.bind (Y:=fun(d:Int) q=>(many (Eo l) d.toNat q).map fun e=>(aB.mk v1 v2 v3 e.1,e.2)) h4 g5
  have g3:=Ans.bind (Y:=fun c q=>(ctX l 1500 q).bind fun d=>(many (Eo l) d.1.toNat d.2).map fun e=>(aB.mk v1 v2 c e.1,e.2)) h3 g4
  have g2:=Ans.bind (Y:=fun b q=>(nmX l q).bind fun c=>(ctX l 1500 c.2).bind fun d=>(many (Eo l) d.1.toNat d.2).map fun e=>(aB.mk v1 b c.1 e.1,e.2)) h2 g3
  exact Ans.bind (Y:=fun a q=>(nmX l q).bind fun b=>(nmX l b.2).bind fun c=>(ctX l 1500 c.2).bind fun d=>(many (Eo l) d.1.toNat d.2).map fun e=>(aB.mk a b.1 c.1 e.1,e.2)) h1 g2
 ·have:=(w5 h).2
  rw[Eh]
  simp only
  omega
/-- Instructions that no function has. -/
def PG(f:aB):Prop:= ¬ (1≤f.f3.length∧f.f3.length≤1500)
theorem QT{n:Nat}{l:List Int}(H:Hy n l)(p:Nat)(hp:p≤l.length)(bad:Bool): ∃(f:aB) (a:Nat) (b:Bool) (m:Nat),mM n l (p:Int) bad=some (f.f0,f.f1,f.f2,f.f3,l,(a:Int),b)∧Ans (fnX l p) p l.length bad (PG f) m f a b∧(b=false→wFn f+1≤2*m):=by
 have hn:=H.n0
 obtain⟨v1,a1,b1,_,e1,h1⟩:=qH H p hp bad
 obtain⟨v2,a2,b2,_,e2,h2,_⟩:=fE H a1 h1.2.1 b1
 obtain⟨v3,a3,b3,_,e3,h3,_⟩:=fE H a2 h2.2.1 b2
 obtain⟨v4,a4,b4,_,e4,h4,_⟩:=fE H a3 h3.2.1 b3
 obtain⟨c,hc⟩: ∃c:Nat,c=(min v4 1501).toNat:=⟨_,rfl⟩
 obtain⟨r,xs,a5,b5,e5,o5,h5,w5⟩:=kX (body:=eT n (v4,l,(a4:Int),b4)) (fun i acc q b=>((i:Int),v1,v2,v3,acc,l,(q:Int),b)) (fun acc a b r=> ∃j j',r=(j,j',v1,v2,v3,acc,l,(a:Int),b)) (Eo l) jE (fun _=>False) (c:=c) (L:=l.length)
  (fun i acc q hi hl hq=>by
   obtain⟨x,_,_,_,a,_,_,_,b,_,_,_,_,k1,k2,k3,k4,hx⟩:=LU H q hq
   refine⟨x,a,b,jE x, ?_,hx,fun _=>by have:=zA x; omega⟩
   have hd:decide ((i:Int)<v4)=true:=decide_eq_true (by omega)
   have hd2:decide ((i:Int)<1501)=true:=decide_eq_true (by omega)
   simp only[eT,hd,hd2,cond_true,Bool.not_false,k1,k2,k3,k4,Option.bind_some,xM 40 acc _ (by omega) (by omega),aI (show i<4611686018427387904 by omega)])
  (fun i acc q hi hl hq=> .inl (by
   simp only[eT]
   cases decide ((i:Int)<v4)<;>cases decide ((i:Int)<1501)<;>exact⟨_,rfl,_,_,rfl⟩))
  (fun acc q hl hq=>by
   simp only[eT]
   by_cases hd:(c:Int)<v4
   ·rw[decide_eq_false (show ¬ (c:Int)<1501 by omega)]
    cases decide ((c:Int)<v4)<;>exact⟨_,rfl,_,_,rfl⟩
   ·rw[decide_eq_false hd]
    exact⟨_,rfl,_,_,rfl⟩) a4 b4 n h4.2.1 (by omega)
 obtain⟨j,j',rfl⟩:=o5
 refine⟨⟨v1,v2,v3,xs⟩,a5,b5,1+v1.length+(1+(1+(1+(a5 - a4)))), ?_, ?_,fun h=> ?_⟩
 ·unfold mM
  simp only[e1,e2,e3,e4,Option.bind_some]
  have e5:loopN (eT n (v4,l,(a4:Int),b4)) n ((0:Int),v1,v2,v3,([]:List aC),l,(a4:Int),b4)=_:=e5
  rw[e5]; rfl
 ·have g5:Ans (if 0≤v4∧v4≤((1500:Nat):Int)then(many (Eo l) v4.toNat a4).map fun e=>(aB.mk v1 v2 v3 e.1,e.2)else none) a4 l.length b4 (PG ⟨v1,v2,v3,xs⟩) (a5 - a4) ⟨v1,v2,v3,xs⟩ a5 b5:=by
   by_cases hv:0≤v4∧v4≤((1500:Nat):Int)
   ·rw[if_pos hv]
    have e:v4.toNat=c:=by omega
    rw[e]
    exact(h5.map (fun e=>aB.mk v1 v2 v3 e)).ill (fun⟨_,_,h⟩=>h.elim)
   ·rw[if_neg hv]
    obtain⟨p1,p2,p3,p4,p5,p6⟩:=h5
    refine⟨p1,p2,p3,p4,(fun q _ h=>by cases h),fun _ _=> ?_⟩
    cases hb:b5 with
    | true=>exact .inl rfl
    | false=>
     have:=(w5 hb).1
     refine .inr fun⟨h1,h2⟩=> ?_
     simp only at h1 h2
     omega
  have g4:=Ans.bind (Y:=fun(d:Int) q=>if 0≤d∧d≤((1500:Nat):Int)then(many (Eo l) d.toNat q).map fun e=>(aB.mk v1 v2 v3 e.1,e.2)else none) h4 g5
  have g3:=Ans.bind (Y:=fun c q=>(nmX l q).bind fun d=>if 0≤d.1∧d.1≤((1500:Nat):Int)then(many (Eo l) d.1.toNat d.2).map fun e=>(aB.mk v1 v2 c e.1,e.2)else none) h3 g4
  have g2:=Ans.bind (Y:=fun b q=>(nmX l q).bind fun c=>(nmX l c.2).bind fun d=>if 0≤d.1∧d.1≤((1500:Nat):Int)then(many (Eo l) d.1.toNat d.2).map fun e=>(aB.mk v1 b c.1 e.1,e.2)else none) h2 g3
  have g1:=Ans.bind (Y:=fun a q=>(nmX l q).bind fun b=>(nmX l b.2).bind fun c=>(nmX l c.2).bind fun d=>if 0≤d.1∧d.1≤((1500:Nat):Int)then(many (Eo l) d.1.toNat d.2).map fun e=>(aB.mk a b.1 c.1 e.1,e.2)else none) h1 g2
  unfold fnX
  simp only[qK]
  exact g1
 ·have:=(w5 h).2
  rw[Eh]
  simp only
  omega
end Go.Own.Q
