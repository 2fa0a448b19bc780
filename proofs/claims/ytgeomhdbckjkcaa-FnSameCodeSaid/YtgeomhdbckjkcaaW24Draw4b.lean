/- Patterns that are drawn, in plain Lean. No conditions. -/
import Derived.Test.YtgeomhdbckjkcaaW24DlKit
set_option linter.unusedVariables false
set_option linter.unusedSimpArgs false
set_option linter.unnecessarySimpa false
namespace Go.Own.Q
open Go Go.Proofs
theorem Ig(k m:Int)(s:List UInt8)(l:List aA)(c:List aC):bH (.mk k m s l c)=3+s.length+dl bH l+dl cD c:=by rw[Ed,qH,oX]; rfl
/-- Names: so many, each short. -/
def Nm(K:Nat)(l:List (List UInt8)):Prop:=l.length≤K∧ ∀s∈l,s.length≤5
theorem Nm.up{K K':Nat}{l:List (List UInt8)}(h:Nm K l)(hk:K≤K'):Nm K' l:=⟨Nat.le_trans h.1 hk,h.2⟩
theorem Nm.app{K K':Nat}{l l':List (List UInt8)}(h:Nm K l)(h':Nm K' l'):Nm (K+K') (l++l'):=⟨by rw[List.length_append]; exact Nat.add_le_add h.1 h'.1,fun s hs=>(List.mem_append.1 hs).elim (h.2 s) (h'.2 s)⟩
def kX:Nat→Nat
 | 0=>7
 | d+1=>7+2*kX d
def kY:Nat→Nat
 | 0=>1
 | d+1=>2*kY d
theorem kX_7: ∀d,7≤kX d
 | 0=>Nat.le_refl _
 | d+1=>by simp only[kX]; omega
theorem UW: ∀d,1≤kY d
 | 0=>Nat.le_refl _
 | d+1=>by have:=UW d; simp only[kY]; omega
/-- A pattern that was drawn, the cursor and the names. -/
def DP(B K:Nat)(r:Int×Int×List UInt8×List aA×List aC×List Int×Int×Int×List (List UInt8)):Prop:=bH (.mk r.1 r.2.1 r.2.2.1 r.2.2.2.1 r.2.2.2.2.1)≤B∧Cur r.2.2.2.2.2.1 r.2.2.2.2.2.2.1∧Nm K r.2.2.2.2.2.2.2.2
theorem DP.mk{B K:Nat}{k m:Int}{s:List UInt8}{l:List aA}{c:List aC}{b:List Int}{i h:Int}{ns:List (List UInt8)}(hw:3+s.length+dl bH l+dl cD c≤B)(hc:Cur b i)(hn:Nm K ns):DP B K (k,m,s,l,c,b,i,h,ns):=⟨by rw[Ig]; exact hw,hc,hn⟩
/-- A pattern under way: so many kids are still to come. -/
def DPS(X Y K m:Nat)(x:Int×Int×List UInt8×List aA×List aC×List Int×Int×Int×List (List UInt8)):Prop:=x.2.2.1=[]∧x.2.2.2.2.1=[]∧dl bH x.2.2.2.1+m*(1+X)≤1+2*(1+X)∧Cur x.2.2.2.2.2.1 x.2.2.2.2.2.2.1∧x.2.2.2.2.2.2.2.2.length+m*Y≤K+2*Y∧ ∀s∈x.2.2.2.2.2.2.2.2,s.length≤5
theorem PU(n d K:Nat)(hd:d≤2)(hK:K+10*d≤1000)(ih:d≠0→ ∀ {K':Nat} {b:List Int} {i h:Int} {ns:List (List UInt8)},K'+10*(d - 1)≤1000→Cur b i→Nm K' ns→Gt (dJ n ((d - 1:Nat):Int) b i h ns) (DP (kX d) (K'+kY d)))(m:Nat)(s:Int×Int×Int×List UInt8×List aA×List aC×List Int×Int×Int×List (List UInt8))(hs:s.1+m=(2:Int)∧0≤s.1∧DPS (kX d) (kY d) K m s.2):Gt (mH n (dJ n) (d:Int) s) (Rnd (fun m s=>s.1+m=(2:Int)∧0≤s.1∧DPS (kX d) (kY d) K m s.2) (fun r=>DPS (kX d) (kY d) K 0 r.2.2) m):=by
 obtain⟨v,w0,w1,w2,w3,w4,w5,w6,w7,w8⟩:=s
 obtain⟨s1,s2,s3,s4,s5,s6,s7,s8⟩:=hs
 simp only at s1 s2 s3 s4 s5 s6 s7 s8
 subst s3; subst s4
 have hX:kX d≤49:=by
  have:d=0∨d=1∨d=2:=by omega
  rcases this with e | e | e<;>rw[e]<;>simp [kX]
 have hY:1≤kY d:=UW _
 have hY2:kY d≤4:=by
  have:d=0∨d=1∨d=2:=by omega
  rcases this with e | e | e<;>rw[e]<;>simp [kY]
 have hl:=bM bH w3
 unfold mH
 simp only
 by_cases c1:v<(2:Int)
 ·rw[decide_eq_true c1,cond_true]
  obtain⟨m',rfl⟩: ∃m',m=m'+1:=⟨m - 1,by omega⟩
  rw[Nat.succ_mul]at s5 s7
  have hm1:m'*(1+kX d)≥0:=Nat.zero_le _
  have hm2:m'*kY d≥0:=Nat.zero_le _
  refine Gt.bind (P:=DPS (kX d) (kY d) K m') (Gt.cond (fun e=> ?_) (fun e=> ?_)) fun r hr=> ?_
  ·have:=LR e
   have e1:IntKind.wrap .i64 ((d:Int) - 1)=((d - 1:Nat):Int):=by rw[wrap_i64 (by omega) (by omega)]; omega
   rw[e1]
   refine Gt.bind (ih (by omega) (K':=w8.length) (by omega) s6 ⟨Nat.le_refl _,s8⟩) fun r ⟨g1,g2,g3⟩=>Gt.bind (mF (by simp only[List.length_singleton]; omega) (by omega)) fun q e=>Gt.pure ⟨rfl,rfl, ?_,g2, ?_,g3.2⟩
   ·subst e
    show dl bH (w3++[_])+m'*(1+kX d)≤_
    rw[iU]; omega
   ·exact Nat.le_trans (Nat.add_le_add_right g3.1 _) (by omega)
  ·refine Gt.bind (mF (by simp only[List.length_singleton]; omega) (by omega)) fun q e=>Gt.pure ⟨rfl,rfl, ?_,s6, ?_,s8⟩
   ·subst e
    have:=kX_7 d
    show dl bH (w3++[_])+m'*(1+kX d)≤_
    rw[iU,Ig]
    simp only[dl,List.length_singleton]; omega
   ·show w8.length+m'*kY d≤_
    omega
  ·obtain⟨x0,x1,x2,x3,x4,x5,x6,x7,x8⟩:=r
   rw[wrap_i64 (n:=v+1) (by omega) (by omega)]
   refine Gt.pure ⟨m',rfl, ?_, ?_,hr⟩
   ·show v+1+(m':Int)=(2:Int)
    omega
   ·show 0≤v+1
    omega
 ·rw[decide_eq_false c1,cond_false]
  have:m=0:=by omega
  subst this
  exact Gt.pure ⟨rfl,rfl,s5,s6,s7,s8⟩
theorem PT(n d K:Nat)(hd:d≤2)(hK:K+10*d≤1000)(c:Int×List Int×Int×Int)(hc2:c.1≤2)(ih:d≠0→ ∀ {K':Nat} {b:List Int} {i h:Int} {ns:List (List UInt8)},K'+10*(d - 1)≤1000→Cur b i→Nm K' ns→Gt (dJ n ((d - 1:Nat):Int) b i h ns) (DP (kX d) (K'+kY d)))(m:Nat)(s:Int×Int×Int×List UInt8×List aA×List aC×List Int×Int×Int×List (List UInt8))(hs:s.1+m=c.1∧0≤s.1∧DPS (kX d) (kY d) K m s.2):Gt (mG n (dJ n) (d:Int) c s) (Rnd (fun m s=>s.1+m=c.1∧0≤s.1∧DPS (kX d) (kY d) K m s.2) (fun r=>DPS (kX d) (kY d) K 0 r.2.2) m):=by
 obtain⟨v,w0,w1,w2,w3,w4,w5,w6,w7,w8⟩:=s
 obtain⟨s1,s2,s3,s4,s5,s6,s7,s8⟩:=hs
 simp only at s1 s2 s3 s4 s5 s6 s7 s8
 subst s3; subst s4
 have hX:kX d≤49:=by
  have:d=0∨d=1∨d=2:=by omega
  rcases this with e | e | e<;>rw[e]<;>simp [kX]
 have hY:1≤kY d:=UW _
 have hY2:kY d≤4:=by
  have:d=0∨d=1∨d=2:=by omega
  rcases this with e | e | e<;>rw[e]<;>simp [kY]
 have hl:=bM bH w3
 unfold mG
 simp only
 by_cases c1:v<c.1
 ·rw[decide_eq_true c1,cond_true]
  obtain⟨m',rfl⟩: ∃m',m=m'+1:=⟨m - 1,by omega⟩
  rw[Nat.succ_mul]at s5 s7
  have hm1:m'*(1+kX d)≥0:=Nat.zero_le _
  have hm2:m'*kY d≥0:=Nat.zero_le _
  refine Gt.bind (P:=DPS (kX d) (kY d) K m') (Gt.cond (fun e=> ?_) (fun e=> ?_)) fun r hr=> ?_
  ·have:=LR e
   have e1:IntKind.wrap .i64 ((d:Int) - 1)=((d - 1:Nat):Int):=by rw[wrap_i64 (by omega) (by omega)]; omega
   rw[e1]
   refine Gt.bind (ih (by omega) (K':=w8.length) (by omega) s6 ⟨Nat.le_refl _,s8⟩) fun r ⟨g1,g2,g3⟩=>Gt.bind (mF (by simp only[List.length_singleton]; omega) (by omega)) fun q e=>Gt.pure ⟨rfl,rfl, ?_,g2, ?_,g3.2⟩
   ·subst e
    show dl bH (w3++[_])+m'*(1+kX d)≤_
    rw[iU]; omega
   ·exact Nat.le_trans (Nat.add_le_add_right g3.1 _) (by omega)
  ·refine Gt.bind (mF (by simp only[List.length_singleton]; omega) (by omega)) fun q e=>Gt.pure ⟨rfl,rfl, ?_,s6, ?_,s8⟩
   ·subst e
    have:=kX_7 d
    show dl bH (w3++[_])+m'*(1+kX d)≤_
    rw[iU,Ig]
    simp only[dl,List.length_singleton]; omega
   ·show w8.length+m'*kY d≤_
    omega
  ·obtain⟨x0,x1,x2,x3,x4,x5,x6,x7,x8⟩:=r
   rw[wrap_i64 (n:=v+1) (by omega) (by omega)]
   refine Gt.pure ⟨m',rfl, ?_, ?_,hr⟩
   ·show v+1+(m':Int)=c.1
    omega
   ·show 0≤v+1
    omega
 ·rw[decide_eq_false c1,cond_false]
  have:m=0:=by omega
  subst this
  exact Gt.pure ⟨rfl,rfl,s5,s6,s7,s8⟩
theorem MP: ∀(d n:Nat),d≤2→d+2000<n→n≤1099511627776→ ∀ {K:Nat} {b:List Int} {i h:Int} {ns:List (List UInt8)},K+10*d≤1000→Cur b i→Nm K ns→Gt (dJ n (d:Int) b i h ns) (DP (kX (d+1)) (K+kY (d+1)))
 | d,0,_,hn,_=>by omega
 | d,n+1,hd,hn,hn2=>fun hK hc hm=>by
  rename_i K b i h ns
  rw[zQ]
  unfold nK
  have hX:=kX_7 d
  have hY:=UW d
  have eX:kX (d+1)=7+2*kX d:=rfl
  have eY:kY (d+1)=2*kY d:=rfl
  have one: ∀ {k m:Int} {s:List UInt8} {b:List Int} {i h:Int} {ns:List (List UInt8)},s.length≤5→Cur b i→Nm (K+1) ns→DP (kX (d+1)) (K+kY (d+1)) (k,m,s,[],[],b,i,h,ns):=fun hs hc hn=>DP.mk (by simp only[dl]; omega) hc (hn.up (by omega))
  have hm1:Nm (K+1) ns:=hm.up (by omega)
  have hml:=hm.1
  have pW: ∀ {b:List Int} {i h:Int},Cur b i→Gt ((bE n ([([65]:List UInt8),([66]:List UInt8),([67]:List UInt8),([68]:List UInt8),([72]:List UInt8),([84]:List UInt8)]:List (List UInt8)) b i h).bind fun c33_10=>(fR n ns c33_10.1).bind fun c38_11=>bif c38_11 then some ((3:Int),(0:Int),([95]:List UInt8),([]:List aA),([]:List aC),c33_10.2.1,c33_10.2.2.1,c33_10.2.2.2,ns)else(fQ 16 ns ([c33_10.1]:List (List UInt8))).bind fun v46_13=>some ((3:Int),(0:Int),c33_10.1,([]:List aA),([]:List aC),c33_10.2.1,c33_10.2.2.1,c33_10.2.2.2,v46_13)) (DP (kX (d+1)) (K+kY (d+1))):=fun hc=>by
   refine Gt.bind (yD (K:=5) hc (by simp) (by simp) (by decide)) fun r ⟨h1,h2⟩=> ?_
   rw[Jn n ns r.1 (by omega) (by omega),Option.bind_some]
   refine Gt.cond (fun _=>Gt.pure (one (by simp) h2 hm1)) fun _=>Gt.bind (mF (by simp only[List.length_singleton]; omega) (by omega)) fun q e=>Gt.pure (one h1 h2 ?_)
   subst e
   exact hm.app ⟨Nat.le_refl _,fun s hs=>by rw[List.mem_singleton.1 hs]; exact h1⟩
  refine Gt.bind (gV hc (by omega)) fun r ⟨_,h2⟩=> ?_
  refine Gt.cond (fun _=> ?_) fun _=>Gt.cond (fun _=> ?_) fun _=>Gt.cond (fun _=>Gt.pure (one (by simp) h2 hm1)) fun _=>Gt.cond (fun _=>pW h2) fun _=>Gt.cond (fun _=>pW h2) fun _=>Gt.cond (fun _=>pW h2) fun _=> ?_
  ·exact Gt.bind (gV h2 (by omega)) fun r ⟨_,h2⟩=>Gt.pure (one (by simp) h2 hm1)
  ·exact Gt.bind (yD (K:=5) h2 (by simp) (by simp) (by decide)) fun r ⟨h1,h2⟩=>Gt.pure (one h1 h2 hm1)
  ·refine Gt.bind (sQ h2 (by simp) (by simp)) fun r3 ⟨_,h3⟩=>Gt.bind (gV h3 (by omega)) fun r4 ⟨h4,h5⟩=> ?_
   obtain⟨h6,h7⟩:=h4 (by omega)
   have ih:d≠0→ ∀ {K':Nat} {b:List Int} {i h:Int} {ns:List (List UInt8)},K'+10*(d - 1)≤1000→Cur b i→Nm K' ns→Gt (dJ n ((d - 1:Nat):Int) b i h ns) (DP (kX d) (K'+kY d)):=fun hd0=>by
    obtain⟨d',rfl⟩: ∃d',d=d'+1:=⟨d - 1,by omega⟩
    exact MP d' n (by omega) (by omega) (by omega)
   have fin: ∀(r:Int×Bool×Int×Int×List UInt8×List aA×List aC×List Int×Int×Int×List (List UInt8)),DPS (kX d) (kY d) K 0 r.2.2→Gt ((fun(v10_37,v61_38,w8_39,w8_40,w8_41,w8_42,w8_43,w1000000_44,w1000000_45,w1000000_46,w1000001_47)=>some (w8_39,w8_40,w8_41,w8_42,w8_43,w1000000_44,w1000000_45,w1000000_46,w1000001_47)) r) (DP (kX (d+1)) (K+kY (d+1))):=fun r hr=>by
    obtain⟨x0,x1,x2,x3,x4,x5,x6,x7,x8,x9,x10⟩:=r
    obtain⟨q1,q2,q3,q4,q5,q6⟩:=hr
    simp only at q1 q2 q3 q4 q5 q6
    subst q1; subst q2
    exact Gt.pure (DP.mk (by simp only[dl,List.length_nil]; omega) q4 ⟨by omega,q6⟩)
   have st0: ∀(m:Nat) (k:Int),m≤2→DPS (kX d) (kY d) K m (k,(0:Int),([]:List UInt8),([]:List aA),([]:List aC),r4.2.1,r4.2.2.1,r4.2.2.2,ns):=fun m k hm2=>by
    have a1:m*(1+kX d)≤2*(1+kX d):=Nat.mul_le_mul_right _ hm2
    have a2:m*kY d≤2*kY d:=Nat.mul_le_mul_right _ hm2
    exact⟨rfl,rfl,by simp only[dl]; omega,h5,by simp only; omega,hm.2⟩
   refine Gt.cond (fun _=> ?_) fun _=> ?_
   ·exact Gt.bind (Gt.loop _ _ (fun m s hs=>PU n d K hd hK ih m s hs) (m:=2) ⟨rfl,Int.le_refl _,st0 2 _ (Nat.le_refl _)⟩ (by omega)) fin
   ·exact Gt.bind (Gt.loop _ _ (fun m s hs=>PT n d K hd hK r4 (by omega) ih m s hs) (m:=r4.1.toNat) ⟨by simp only; omega,Int.le_refl _,st0 _ _ (by omega)⟩ (by omega)) fin
end Go.Own.Q
