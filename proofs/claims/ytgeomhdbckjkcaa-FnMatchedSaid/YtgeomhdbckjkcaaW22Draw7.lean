/- Lemmas. No conditions. -/
import Derived.Test.YtgeomhdbckjkcaaW22Draw6
set_option linter.unusedVariables false
set_option linter.unusedSimpArgs false
namespace Go.Own.Q
open Go Go.Proofs
theorem HZ{α:Type}(w:α→Nat)(b:α): ∀(l:List α) (k:Nat),dl w (l.set k b)≤dl w l+w b
 | [],k=>by simp [dl]
 | x::r,0=>by simp only[List.set_cons_zero,dl]; omega
 | x::r,k+1=>by have:=HZ w b r k; simp only[List.set_cons_succ,dl]; omega
theorem Ku{n B:Nat}{a:aA}(hn:aN a+200<n)(hn2:n≤1099511627776)(hw:aN a≤B)(hB:B≤100000){b:List Int}{i h:Int}(hc:Cur b i):Gt (jL n a.f0 a.f1 a.f2 a.f3 a.f4 b i h) (DE (2*B+200)):=by
 unfold jL
 have hcp:=CN n hn2 a (by omega) (by omega)
 have hwa:aN (.mk a.f0 a.f1 a.f2 a.f3 a.f4)≤B:=by rw[pO]; exact hw
 have hw2:=hwa
 rw[yK]at hw2
 have g1:=aX aN a.f3
 have g2:=aX dP a.f4
 simp only[hcp,Option.bind_some]
 refine Gt.bind (cC hc (by omega)) fun r ⟨_,h2⟩=> ?_
 refine Gt.cond (fun _=> ?_) fun _=>Gt.cond (fun _=> ?_) fun _=>Gt.cond (fun _=> ?_) fun _=>Gt.cond (fun _=> ?_) fun _=>Gt.cond (fun _=> ?_) fun _=>Gt.cond (fun _=> ?_) fun _=>Gt.cond (fun _=> ?_) fun _=> ?_
 ·exact Gt.bind (cC h2 (by omega)) fun r ⟨_,h2⟩=>Gt.pure (DE.mk (by omega) h2)
 ·exact Gt.bind (vH h2 (by simp) (by simp)) fun r ⟨_,h2⟩=>Gt.pure (DE.mk (by omega) h2)
 ·exact Gt.bind (tE (K:=5) h2 (by simp) (by simp) (by decide)) fun r ⟨h1,h2⟩=>Gt.pure (DE.mk (by omega) h2)
 ·refine Gt.bind Bl fun q e=> ?_
  subst e
  refine Gt.bind (mF (by simp only[List.length_singleton]; omega) (by omega)) fun q e=>Gt.pure (DE.mk ?_ h2)
  subst e
  rw[iY,yK]
  simp only[dl,List.length_nil]; omega
 ·refine Gt.bind Bl fun q e=> ?_
  subst e
  refine Gt.bind (mF (by simp only[List.length_singleton]; omega) (by omega)) fun q e=>Gt.pure (DE.mk ?_ h2)
  subst e
  rw[iY,PE,yK 1 1]
  simp only[dl,List.length_nil]; omega
 ·refine Gt.bind (P:=fun r=>aN (.mk r.2.2.1 r.2.2.2.1 r.2.2.2.2.1 r.2.2.2.2.2.1 r.2.2.2.2.2.2)≤B+54) (Gt.loop (fun(m:Nat) (s:Int×Int×Int×List UInt8×List aA×List aC)=>s.1+m=9∧0≤s.1∧aN (.mk s.2.1 s.2.2.1 s.2.2.2.1 s.2.2.2.2.1 s.2.2.2.2.2)+6*m≤B+54) _ (fun m s hs=> ?_) (m:=9) ?_ (by omega)) fun r hr=>Gt.pure ⟨Nat.le_trans hr (by omega),h2⟩
  ·obtain⟨v,w1,w2,w3,w4,w5⟩:=s
   obtain⟨s1,s2,s3⟩:=hs
   simp only at s1 s2 s3
   unfold oB
   simp only
   by_cases c1:v<(9:Int)
   ·rw[decide_eq_true c1,cond_true,wrap_i64 (n:=v+1) (by omega) (by omega)]
    refine Gt.pure ⟨m - 1,by omega, ?_, ?_, ?_⟩
    ·show v+1+((m - 1:Nat):Int)=9
     omega
    ·show 0≤v+1
     omega
    ·show aN (.mk 4 0 [] [.mk w1 w2 w3 w4 w5] [])+6*(m - 1)≤B+54
     rw[yK 4 0]
     simp only[dl,List.length_nil]
     omega
   ·rw[decide_eq_false c1,cond_false]
    refine Gt.pure ?_
    show aN (.mk w1 w2 w3 w4 w5)≤B+54
    omega
  ·exact⟨by simp,by simp,by simp only; omega⟩
 ·refine Gt.cond (fun e=> ?_) fun _=>Gt.pure (DE.mk (by omega) h2)
  have:=RZ e
  refine Gt.bind (RX (Int.le_refl _) this) fun e he=>Gt.pure (DE.mk ?_ h2)
  have hd:=fK dP he
  have hec:=xM e
  have hx:aN (.mk e.f5 e.f6 e.f7 e.f8 e.f9)=aN e.x:=congrArg aN (pO e.x)
  have hs:=HZ dP (aC.mk 4 0 [] [.mk 3 0 [65] [] [], .mk 3 0 [65] [] []] [] e.f5 e.f6 e.f7 e.f8 e.f9) a.f4 (Int.toNat 0)
  rw[PE,yK 4 0,hx]at hs
  simp only[dl,List.length_nil,yK 3 0 [65] [] [],List.length_singleton]at hs
  omega
 ·exact Gt.pure (DE.mk (by omega) h2)
theorem Nx{n K:Nat}(hn:10000<n)(hn2:n≤1099511627776)(hK:K≤100){b:List Int}{i h:Int}{ns:List (List UInt8)}(hc:Cur b i)(hm:Nm K ns):Gt (kC n ns b i h) (DE 4840):=by
 unfold kC
 refine Gt.bind (Ks 3 n (by omega) (by omega) hn2 (by omega) hc hm) fun r ⟨h1,h2⟩=> ?_
 have e3:eB 3=4840:=rfl
 have hx:=FR n hn2 (.mk r.1 r.2.1 r.2.2.1 r.2.2.2.1 r.2.2.2.2.1) false 10 300 (by omega) (by omega) (by omega) (by omega)
 have hx:bP n r.1 r.2.1 r.2.2.1 r.2.2.2.1 r.2.2.2.2.1 false (10:Int) 300=_:=hx
 unfold oK
 rw[hx]
 simp only[Option.bind_some]
 refine Gt.cond (fun _=>Gt.bind Bl fun q e=> ?_) fun _=>Gt.pure ⟨Nat.le_trans h1 (by omega),h2⟩
 subst e
 exact Gt.pure (DE.mk (by simp only[dl,List.length_nil]; omega) h2)
theorem Tz{n:Nat}(hn:20000<n)(hn2:n≤1099511627776){b:List Int}{i h:Int}(hc:Cur b i):Gt (nM n b i h) (DE 9880):=by
 unfold nM
 refine Gt.bind (Nx (K:=2) (by omega) hn2 (by omega) hc ⟨by simp,by decide⟩) fun r ⟨h1,h2⟩=>Gt.bind (Fd h2 (by omega)) fun r2 h3=>Gt.cond (fun _=> ?_) fun _=>Gt.pure ⟨Nat.le_trans h1 (by omega),h3⟩
 have:=Ku (n:=n) (B:=4840) (a:= .mk r.1 r.2.1 r.2.2.1 r.2.2.2.1 r.2.2.2.2.1) (by omega) hn2 h1 (by omega) (b:=r2.2.1) (i:=r2.2.2.1) (h:=r2.2.2.2) h3
 exact Gt.bind this fun q ⟨g1,g2⟩=>Gt.pure ⟨g1,g2⟩
theorem LZ{n:Nat}(hn:20000<n)(hn2:n≤1099511627776){b:List Int}{i h:Int}(hc:Cur b i):Gt (jE n b i h) (DE 9880):=by
 unfold jE
 have e3:kX (2+1)=105:=rfl
 refine Gt.bind (FJ 2 n (by omega) (by omega) hn2 (K:=0) (by omega) hc ⟨Nat.le_refl _,fun s hs=>by cases hs⟩) fun r ⟨h1,h2,_⟩=>Gt.bind (cC h2 (by omega)) fun r2 ⟨_,h3⟩=>Gt.cond (fun _=> ?_) fun _=>Gt.cond (fun _=> ?_) fun _=>Gt.cond (fun _=> ?_) fun _=>Gt.pure ⟨Nat.le_trans h1 (by omega),h3⟩
 ·have:=Ku (n:=n) (B:=105) (a:= .mk r.1 r.2.1 r.2.2.1 r.2.2.2.1 r.2.2.2.2.1) (by omega) hn2 h1 (by omega) (b:=r2.2.1) (i:=r2.2.2.1) (h:=r2.2.2.2) h3
  exact Gt.bind this fun q ⟨g1,g2⟩=>Gt.pure ⟨Nat.le_trans g1 (by omega),g2⟩
 ·have hcp:=CN n hn2 (.mk r.1 r.2.1 r.2.2.1 r.2.2.2.1 r.2.2.2.2.1) (by omega) (by omega)
  have hcp:cE n r.1 r.2.1 r.2.2.1 r.2.2.2.1 r.2.2.2.2.1=some (r.1,r.2.1,r.2.2.1,r.2.2.2.1,r.2.2.2.2.1):=hcp
  rw[hcp]
  simp only[Option.bind_some]
  exact Gt.pure (DE.mk (by simp only[dl,List.length_nil]; omega) h3)
 ·exact Gt.bind (Tz hn hn2 h3) fun q ⟨g1,g2⟩=>Gt.pure ⟨g1,g2⟩
def FQ(B D:Nat):(Int×Int×List UInt8×List aB×List Int×Int×Int)⊕(Int×Bool×Int×Int×List UInt8×List aB×Int×Int×List UInt8×List aB×List Int×Int×Int)→Prop
 | .inl r=>DT B r
 | .inr r=>r.2.2.2.2.2.2.2.2.1=[]∧dl aT r.2.2.2.2.2.2.2.2.2.1≤40*D∧Cur r.2.2.2.2.2.2.2.2.2.2.1 r.2.2.2.2.2.2.2.2.2.2.2.1
def FI(E:List aA)(m:Nat)(s:Int×Int×Int×List UInt8×List aB×Int×Int×List UInt8×List aB×List Int×Int×Int):Prop:=s.1+m=E.length∧0≤s.1∧s.2.2.2.2.2.2.2.1=[]∧dl aT s.2.2.2.2.2.2.2.2.1≤40*dl aN (E.take s.1.toNat)∧Cur s.2.2.2.2.2.2.2.2.2.1 s.2.2.2.2.2.2.2.2.2.2.1
theorem QK(n B:Nat)(k:Int)(E:List aA)(hE:dl aN E≤100000)(hB:3+40*dl aN E≤B)(ih: ∀(e:aA),e∈E→ ∀ {b:List Int} {i h:Int},Cur b i→Gt (cR n e.f0 e.f1 e.f2 e.f3 e.f4 b i h) (DT (40*aN e)))(m:Nat)(s:Int×Int×Int×List UInt8×List aB×Int×Int×List UInt8×List aB×List Int×Int×Int)(hs:FI E m s):Gt (mJ n (cR n) k E s) (Rnd (FI E) (FQ B (dl aN E)) m):=by
 obtain⟨v,w0,w1,w2,w3,w4,w5,w6,w7,w8,w9,w10⟩:=s
 obtain⟨s1,s2,s3,s4,s5⟩:=hs
 simp only at s1 s2 s3 s4 s5
 subst s3
 have hE1:=aX aN E
 have hE2:=iX aN E v.toNat
 have hl:=aX aT w7
 unfold mJ
 simp only
 by_cases c1:v<(E.length:Int)
 ·rw[decide_eq_true c1,cond_true]
  obtain⟨j,rfl⟩: ∃j:Nat,v=j:=⟨v.toNat,by omega⟩
  have ha:E[j]? =some (E[j]'(by omega)):=List.getElem?_eq_getElem _
  generalize E[j]'(by omega)=e at ha
  have hem:=List.mem_of_getElem? ha
  have hd:=fK aN hem
  have ht:=mV aN ha
  have ht2:=iX aN E (j+1)
  rw[eC,ha,Option.bind_some]
  rw[Int.toNat_natCast]at s4 hE2
  refine Gt.bind (ih e hem s5) fun r ⟨f1,f2⟩=> ?_
  have f3:=f1
  rw[Fr]at f3
  have hl2:=aX aT r.2.2.2.1
  refine Gt.bind (P:=fun _=>True) (Gt.cond (fun _=>Gt.pure trivial) fun _=>Gt.pure trivial) fun _ _=>Gt.cond (fun _=> ?_) fun _=> ?_
  ·refine Gt.cond (fun _=> ?_) fun _=> ?_
   ·refine Gt.bind (mF (by simp only[List.length_nil]; omega) (by omega)) fun q e=>Gt.pure (show DT _ _ from DT.mk ?_ f2)
    subst e
    rw[List.append_nil]
    simp only[List.length_nil]; omega
   ·refine Gt.bind (mF (by omega) (by omega)) fun q e=>Gt.pure (show DT _ _ from DT.mk ?_ f2)
    subst e
    have:=qB aT w7 r.2.2.2.1
    simp only[List.length_nil]; omega
  ·refine Gt.bind (mF (by simp only[List.length_singleton]; omega) (by omega)) fun q e=> ?_
   subst e
   rw[bE (by omega)]
   have h5:dl aT (w7++[.mk r.1 r.2.1 r.2.2.1 r.2.2.2.1])≤40*dl aN (E.take (j+1)):=by rw[iY]; omega
   exact Gt.pure ⟨m - 1,by omega,by simp only; omega,by simp only; omega,rfl,by simp only[Int.toNat_natCast]; exact h5,f2⟩
 ·rw[decide_eq_false c1,cond_false]
  exact Gt.pure ⟨rfl,Nat.le_trans s4 (by omega),s5⟩
theorem QJ(n B:Nat)(k:Int)(E:List aA)(hE:dl aN E≤100000)(hB:3+40*dl aN E≤B)(ih: ∀(e:aA),e∈E→ ∀ {b:List Int} {i h:Int},Cur b i→Gt (cR n e.f0 e.f1 e.f2 e.f3 e.f4 b i h) (DT (40*aN e)))(m:Nat)(s:Int×Int×Int×List UInt8×List aB×Int×Int×List UInt8×List aB×List Int×Int×Int)(hs:FI E m s):Gt (mI n (cR n) k E s) (Rnd (FI E) (FQ B (dl aN E)) m):=by
 obtain⟨v,w0,w1,w2,w3,w4,w5,w6,w7,w8,w9,w10⟩:=s
 obtain⟨s1,s2,s3,s4,s5⟩:=hs
 simp only at s1 s2 s3 s4 s5
 subst s3
 have hE1:=aX aN E
 have hE2:=iX aN E v.toNat
 have hl:=aX aT w7
 unfold mI
 simp only
 by_cases c1:v<(E.length:Int)
 ·rw[decide_eq_true c1,cond_true]
  obtain⟨j,rfl⟩: ∃j:Nat,v=j:=⟨v.toNat,by omega⟩
  have ha:E[j]? =some (E[j]'(by omega)):=List.getElem?_eq_getElem _
  generalize E[j]'(by omega)=e at ha
  have hem:=List.mem_of_getElem? ha
  have hd:=fK aN hem
  have ht:=mV aN ha
  have ht2:=iX aN E (j+1)
  rw[eC,ha,Option.bind_some]
  rw[Int.toNat_natCast]at s4 hE2
  refine Gt.bind (ih e hem s5) fun r ⟨f1,f2⟩=> ?_
  have f3:=f1
  rw[Fr]at f3
  have hl2:=aX aT r.2.2.2.1
  refine Gt.bind (P:=fun _=>True) (Gt.cond (fun _=>Gt.pure trivial) fun _=>Gt.pure trivial) fun _ _=>Gt.cond (fun _=> ?_) fun _=> ?_
  ·refine Gt.cond (fun _=> ?_) fun _=> ?_
   ·refine Gt.bind (mF (by simp only[List.length_nil]; omega) (by omega)) fun q e=>Gt.pure (show DT _ _ from DT.mk ?_ f2)
    subst e
    rw[List.append_nil]
    simp only[List.length_nil]; omega
   ·refine Gt.bind (mF (by omega) (by omega)) fun q e=>Gt.pure (show DT _ _ from DT.mk ?_ f2)
    subst e
    have:=qB aT w7 r.2.2.2.1
    simp only[List.length_nil]; omega
  ·refine Gt.bind (mF (by simp only[List.length_singleton]; omega) (by omega)) fun q e=> ?_
   subst e
   rw[bE (by omega)]
   have h5:dl aT (w7++[.mk r.1 r.2.1 r.2.2.1 r.2.2.2.1])≤40*dl aN (E.take (j+1)):=by rw[iY]; omega
   exact Gt.pure ⟨m - 1,by omega,by simp only; omega,by simp only; omega,rfl,by simp only[Int.toNat_natCast]; exact h5,f2⟩
 ·rw[decide_eq_false c1,cond_false]
  exact Gt.pure ⟨rfl,Nat.le_trans s4 (by omega),s5⟩
theorem QI(n B:Nat)(E:List aA)(hE:dl aN E≤100000)(hB:3+40*dl aN E≤B)(ih: ∀(e:aA),e∈E→ ∀ {b:List Int} {i h:Int},Cur b i→Gt (cR n e.f0 e.f1 e.f2 e.f3 e.f4 b i h) (DT (40*aN e)))(m:Nat)(s:Int×Int×Int×List UInt8×List aB×Int×Int×List UInt8×List aB×List Int×Int×Int)(hs:FI E m s):Gt (mH n (cR n) E s) (Rnd (FI E) (FQ B (dl aN E)) m):=by
 obtain⟨v,w0,w1,w2,w3,w4,w5,w6,w7,w8,w9,w10⟩:=s
 obtain⟨s1,s2,s3,s4,s5⟩:=hs
 simp only at s1 s2 s3 s4 s5
 subst s3
 have hE1:=aX aN E
 have hE2:=iX aN E v.toNat
 have hl:=aX aT w7
 unfold mH
 simp only
 by_cases c1:v<(E.length:Int)
 ·rw[decide_eq_true c1,cond_true]
  obtain⟨j,rfl⟩: ∃j:Nat,v=j:=⟨v.toNat,by omega⟩
  have ha:E[j]? =some (E[j]'(by omega)):=List.getElem?_eq_getElem _
  generalize E[j]'(by omega)=e at ha
  have hem:=List.mem_of_getElem? ha
  have hd:=fK aN hem
  have ht:=mV aN ha
  have ht2:=iX aN E (j+1)
  rw[eC,ha,Option.bind_some]
  rw[Int.toNat_natCast]at s4 hE2
  refine Gt.bind (ih e hem s5) fun r ⟨f1,f2⟩=> ?_
  have f3:=f1
  rw[Fr]at f3
  have hl2:=aX aT r.2.2.2.1
  refine Gt.cond (fun _=> ?_) fun _=> ?_
  ·refine Gt.cond (fun _=> ?_) fun _=> ?_
   ·refine Gt.bind (mF (by simp only[List.length_nil]; omega) (by omega)) fun q e=>Gt.pure (show DT _ _ from DT.mk ?_ f2)
    subst e
    rw[List.append_nil]
    simp only[List.length_nil]; omega
   ·refine Gt.bind (mF (by omega) (by omega)) fun q e=>Gt.pure (show DT _ _ from DT.mk ?_ f2)
    subst e
    have:=qB aT w7 r.2.2.2.1
    simp only[List.length_nil]; omega
  ·refine Gt.bind (mF (by simp only[List.length_singleton]; omega) (by omega)) fun q e=> ?_
   subst e
   rw[bE (by omega)]
   have h5:dl aT (w7++[.mk r.1 r.2.1 r.2.2.1 r.2.2.2.1])≤40*dl aN (E.take (j+1)):=by rw[iY]; omega
   exact Gt.pure ⟨m - 1,by omega,by simp only; omega,by simp only; omega,rfl,by simp only[Int.toNat_natCast]; exact h5,f2⟩
 ·rw[decide_eq_false c1,cond_false]
  exact Gt.pure ⟨rfl,Nat.le_trans s4 (by omega),s5⟩
theorem NR: ∀(n:Nat),n≤1099511627776→ ∀(p:aA),aN p+20<n→aN p≤100000→ ∀ {b:List Int} {i h:Int},Cur b i→Gt (cR n p.f0 p.f1 p.f2 p.f3 p.f4 b i h) (DT (40*aN p))
 | 0,_,p,h,_=>by omega
 | n+1,hn,p,hp,hb=>fun hc=>by
  rw[AK]
  unfold nI
  have hw:=nF p
  rw[eO,dH]at hw
  have g1:=aX aN p.f3
  have g2:=aX dP p.f4
  have ih: ∀(e:aA),e∈p.f3→ ∀ {b:List Int} {i h:Int},Cur b i→Gt (cR n e.f0 e.f1 e.f2 e.f3 e.f4 b i h) (DT (40*aN e)):=fun e he=>by
   have:=fK aN he
   intro b i h hc
   exact NR n (by omega) e (by omega) (by omega) hc
  have st0: ∀(x y z:Int) {b:List Int} {i h:Int},Cur b i→FI p.f3 p.f3.length ((0:Int),x,y,([]:List UInt8),([]:List aB),z,(0:Int),([]:List UInt8),([]:List aB),b,i,h):=fun x y z b i h hc=>⟨by simp only; omega,Int.le_refl _,rfl,by simp only[Int.toNat_zero,List.take_zero,dl]; omega,hc⟩
  refine Gt.cond (fun _=>Gt.pure (DT.mk (by simp only[dl,List.length_nil]; omega) hc)) fun _=>Gt.cond (fun _=>Gt.pure (DT.mk (by simp only[dl]; omega) hc)) fun _=>Gt.cond (fun _=> ?_) fun _=>Gt.cond (fun _=> ?_) fun _=>Gt.cond (fun _=> ?_) fun _=> ?_
  ·refine Gt.bind (Gt.loop _ _ (fun m s hs=>QK n (40*aN p) p.f0 p.f3 (by omega) (by omega) ih m s hs) (m:=p.f3.length) (st0 _ _ _ hc) (by omega)) fun q hq=> ?_
   rcases q with⟨x0,x1,x2,x3,x4,x5,x6⟩ | ⟨x0,x1,x2,x3,x4,x5,x6,x7,x8,x9,x10,x11,x12⟩
   ·exact Gt.pure hq
   ·obtain⟨q1,q2,q3⟩:=hq
    simp only at q1 q2 q3
    subst q1
    exact Gt.pure (DT.mk (by simp only[List.length_nil]; omega) q3)
  ·refine Gt.bind (Gt.loop _ _ (fun m s hs=>QJ n (40*aN p) p.f0 p.f3 (by omega) (by omega) ih m s hs) (m:=p.f3.length) (st0 _ _ _ hc) (by omega)) fun q hq=> ?_
   rcases q with⟨x0,x1,x2,x3,x4,x5,x6⟩ | ⟨x0,x1,x2,x3,x4,x5,x6,x7,x8,x9,x10,x11,x12⟩
   ·exact Gt.pure hq
   ·obtain⟨q1,q2,q3⟩:=hq
    simp only at q1 q2 q3
    subst q1
    exact Gt.pure (DT.mk (by simp only[List.length_nil]; omega) q3)
  ·refine Gt.bind (Gt.loop _ _ (fun m s hs=>QI n (40*aN p) p.f3 (by omega) (by omega) ih m s hs) (m:=p.f3.length) (st0 _ _ _ hc) (by omega)) fun q hq=> ?_
   rcases q with⟨x0,x1,x2,x3,x4,x5,x6⟩ | ⟨x0,x1,x2,x3,x4,x5,x6,x7,x8,x9,x10,x11,x12⟩
   ·exact Gt.pure hq
   ·obtain⟨q1,q2,q3⟩:=hq
    simp only at q1 q2 q3
    subst q1
    exact Gt.pure (DT.mk (by simp only[List.length_nil]; omega) q3)
  ·have e1:trB 1=34:=rfl
   exact Gt.bind (Fc 1 n (by omega) (by omega) hc) fun r ⟨f1,f2⟩=>Gt.pure ⟨Nat.le_trans f1 (by omega),f2⟩
def DM(r:Int×Int×List UInt8×List aA×List aC×Int×Int×List UInt8×List aB):Prop:=aN (.mk r.1 r.2.1 r.2.2.1 r.2.2.2.1 r.2.2.2.2.1)≤9880∧aT (.mk r.2.2.2.2.2.1 r.2.2.2.2.2.2.1 r.2.2.2.2.2.2.2.1 r.2.2.2.2.2.2.2.2)≤4200
theorem KI{n:Nat}(hn:30000<n)(hn2:n≤1099511627776)(code:List Int)(hl:code.length≤1048576):Gt (iG n code) DM:=by
 unfold iG
 have e3:kX (2+1)=105:=rfl
 refine Gt.bind (UB (by omega) code hl) fun r0 h0=>Gt.bind (FJ 2 n (by omega) (by omega) hn2 (K:=0) (by omega) h0 ⟨Nat.le_refl _,fun s hs=>by cases hs⟩) fun r ⟨h1,h2,_⟩=> ?_
 have hf:=NR n hn2 (.mk r.1 r.2.1 r.2.2.1 r.2.2.2.1 r.2.2.2.2.1) (by omega) (by omega) (b:=r.2.2.2.2.2.1) (i:=r.2.2.2.2.2.2.1) (h:=r.2.2.2.2.2.2.2.1) h2
 refine Gt.bind hf fun r2 ⟨f1,f2⟩=>Gt.bind (cC f2 (by omega)) fun r3 ⟨_,h3⟩=>Gt.cond (fun _=> ?_) fun _=>Gt.cond (fun _=> ?_) fun _=>Gt.pure ⟨Nat.le_trans h1 (by omega),Nat.le_trans f1 (by omega)⟩
 ·exact Gt.bind (UA (by omega) hn2 h3) fun q ⟨g1,g2⟩=>Gt.pure ⟨Nat.le_trans h1 (by omega),Nat.le_trans g1 (by omega)⟩
 ·exact Gt.bind (LZ (by omega) hn2 h3) fun q ⟨g1,g2⟩=>Gt.pure ⟨g1,Nat.le_trans f1 (by omega)⟩
end Go.Own.Q
