/- Expressions that are drawn, put together. No conditions. -/
import Derived.Test.YtgeomhdbckjkcaaW24Draw5
set_option linter.unusedVariables false
set_option linter.unusedSimpArgs false
set_option linter.unnecessarySimpa false
namespace Go.Own.Q
open Go Go.Proofs
theorem IK{n:Nat}{x:Int}:Gt (cJ n x) (fun r=>r=(1,x,[],[],[])):=Gt.pure rfl
theorem VH{n:Nat}{s:List UInt8}:Gt (kP n s) (fun r=>r=(2,0,s,[],[])):=Gt.pure rfl
theorem Jo: ∀(d n:Nat),d≤3→d+2100<n→n≤1099511627776→ ∀ {K:Nat} {b:List Int} {i h:Int} {ns:List (List UInt8)},K+10*d≤200→Cur b i→Nm K ns→Gt (bK n (d:Int) ns b i h) (DE (eB d))
 | d,0,_,hn,_=>by omega
 | d,n+1,hd,hn,hn2=>fun hK hc hm=>by
  rename_i K b i h ns
  rw[yJ]
  unfold lS
  have hX:=eB_10 d
  have hml:=hm.1
  have one: ∀ {k m:Int} {s:List UInt8} {b:List Int} {i h:Int},s.length≤5→Cur b i→DE (eB d) (k,m,s,[],[],b,i,h):=fun hs hc=>DE.mk (by simp only[dl]; omega) hc
  have ints: ∀ {b:List Int} {i h:Int},Cur b i→Gt ((cK n ([(0:Int),(1:Int),(2:Int),(5:Int),(40:Int)]:List Int) b i h).bind fun c28_5=>(cJ n c28_5.1).bind fun c29_6=>some (c29_6.1,c29_6.2.1,c29_6.2.2.1,c29_6.2.2.2.1,c29_6.2.2.2.2,c28_5.2.1,c28_5.2.2.1,c28_5.2.2.2)) (DE (eB d)):=fun hc=>
   Gt.bind (sQ hc (by simp) (by simp)) fun r ⟨_,h2⟩=>Gt.bind IK fun q e=>by subst e; exact Gt.pure (one (by simp) h2)
  have atoms: ∀ {b:List Int} {i h:Int},Cur b i→Gt ((bE n ([([111,107]:List UInt8),([97]:List UInt8),([115,116,111,112]:List UInt8),([116,114,117,101]:List UInt8)]:List (List UInt8)) b i h).bind fun c34_8=>(kP n c34_8.1).bind fun c35_9=>some (c35_9.1,c35_9.2.1,c35_9.2.2.1,c35_9.2.2.2.1,c35_9.2.2.2.2,c34_8.2.1,c34_8.2.2.1,c34_8.2.2.2)) (DE (eB d)):=fun hc=>
   Gt.bind (yD (K:=5) hc (by simp) (by simp) (by decide)) fun r ⟨h1,h2⟩=>Gt.bind VH fun q e=>by subst e; exact Gt.pure (one h1 h2)
  have pW: ∀ {b:List Int} {i h:Int},Cur b i→Gt (bif decide ((0:Int)<(ns.length:Int))then(aM n (ns.length:Int) b i h).bind fun c47_12=>(ix ns c47_12.1).bind fun e48_13=>some ((3:Int),(0:Int),e48_13,([]:List aA),([]:List aC),c47_12.2.1,c47_12.2.2.1,c47_12.2.2.2)else(aM n (4:Int) b i h).bind fun c52_14=>(cJ n c52_14.1).bind fun c53_15=>some (c53_15.1,c53_15.2.1,c53_15.2.2.1,c53_15.2.2.2.1,c53_15.2.2.2.2,c52_14.2.1,c52_14.2.2.1,c52_14.2.2.2)) (DE (eB d)):=fun hc=>by
   refine Gt.cond (fun e=> ?_) fun _=> ?_
   ·have:=LR e
    refine Gt.bind (gV hc this) fun r ⟨h1,h2⟩=> ?_
    obtain⟨h3,h4⟩:=h1 (by omega)
    exact Gt.bind (GR h3 h4) fun a ha=>Gt.pure (one (hm.2 a ha) h2)
   ·exact Gt.bind (gV hc (by omega)) fun r ⟨_,h2⟩=>Gt.bind IK fun q e=>by subst e; exact Gt.pure (one (by simp) h2)
  refine Gt.bind (gV hc (by omega)) fun r ⟨_,h2⟩=>Gt.cond (fun e0=> ?_) fun e0=> ?_
  ·refine Gt.bind (gV h2 (by omega)) fun r2 ⟨h4,h5⟩=> ?_
   obtain⟨h6,h7⟩:=h4 (by omega)
   refine Gt.cond (fun _=>ints h5) fun q0=>Gt.cond (fun _=>atoms h5) fun q1=>Gt.cond (fun _=>pW h5) fun q2=>Gt.cond (fun _=>pW h5) fun q3=> ?_
   have:=Np q0
   have:=Np q1
   have:=Np q2
   have:=Np q3
   omega
  ·have:=Np e0
   obtain⟨d',rfl⟩: ∃d',d=d'+1:=⟨d - 1,by omega⟩
   have e1:IntKind.wrap .i64 (((d'+1:Nat):Int) - 1)=(d':Int):=by rw[wrap_i64 (by omega) (by omega)]; omega
   have eX:eB (d'+1)=200+4*eB d':=rfl
   have ih: ∀ {K':Nat} {b:List Int} {i h:Int} {ns:List (List UInt8)},K'+10*d'≤200→Cur b i→Nm K' ns→Gt (bK n (d':Int) ns b i h) (DE (eB d')):=Jo d' n (by omega) (by omega) (by omega)
   rw[e1]
   have ops: ∀ {b:List Int} {i h:Int},Cur b i→Gt ((bE n ([([43]:List UInt8),([45]:List UInt8),([42]:List UInt8),([61,61]:List UInt8),([60]:List UInt8),([43]:List UInt8)]:List (List UInt8)) b i h).bind fun c59_29=>(bK n (d':Int) ns c59_29.2.1 c59_29.2.2.1 c59_29.2.2.2).bind fun c64_30=>(bK n (d':Int) ns c64_30.2.2.2.2.2.1 c64_30.2.2.2.2.2.2.1 c64_30.2.2.2.2.2.2.2).bind fun c69_31=>some ((7:Int),(0:Int),c59_29.1,([aA.mk c64_30.1 c64_30.2.1 c64_30.2.2.1 c64_30.2.2.2.1 c64_30.2.2.2.2.1,aA.mk c69_31.1 c69_31.2.1 c69_31.2.2.1 c69_31.2.2.2.1 c69_31.2.2.2.2.1]:List aA),([]:List aC),c69_31.2.2.2.2.2.1,c69_31.2.2.2.2.2.2.1,c69_31.2.2.2.2.2.2.2)) (DE (eB (d'+1))):=fun hc=>
    Gt.bind (yD (K:=5) hc (by simp) (by simp) (by decide)) fun r ⟨h1,h2⟩=>Gt.bind (ih (by omega) h2 hm) fun r1 ⟨f1,f2⟩=>Gt.bind (ih (by omega) f2 hm) fun r2 ⟨g1,g2⟩=>Gt.pure (DE.mk (by simp only[dl]; omega) g2)
   have fin: ∀ {x:Int×Int×List UInt8×List aA×List aC×List Int×Int×Int},ES (eB d') 0 x→DE (eB (d'+1)) x:=fun {x} hx=>by
    obtain⟨x2,x3,x4,x5,x6,x7,x8,x9⟩:=x
    obtain⟨q1,q2,q3,q4⟩:=hx
    simp only at q1 q2 q3 q4
    subst q2
    exact DE.mk (by simp only[dl]; omega) q4
   refine Gt.cond (fun _=>ints h2) fun _=>Gt.cond (fun _=>atoms h2) fun _=>Gt.cond (fun _=>pW h2) fun _=>Gt.cond (fun _=>pW h2) fun _=>Gt.cond (fun _=>pW h2) fun _=>Gt.cond (fun _=>ops h2) fun _=>Gt.cond (fun _=>ops h2) fun _=>Gt.cond (fun _=> ?_) fun _=>Gt.cond (fun _=> ?_) fun _=>Gt.cond (fun _=> ?_) fun _=> ?_
   ·refine Gt.bind (sQ h2 (by simp) (by simp)) fun r3 ⟨_,h3⟩=>Gt.bind (gV h3 (by omega)) fun r4 ⟨h4,h5⟩=> ?_
    obtain⟨h6,h7⟩:=h4 (by omega)
    refine Gt.bind (Gt.loop _ _ (fun m s hs=>NP n d' K ns (by omega) (by omega) hm ih m hs.1 s hs.2) (m:=r4.1.toNat) ⟨by omega,by simp only; omega,by simp,rfl, ?_,h5⟩ (by omega)) fun r hr=> ?_
    ·have a1:r4.1.toNat*(1+eB d')≤2*(1+eB d'):=Nat.mul_le_mul_right _ (by omega)
     simp only[dl]; omega
    ·obtain⟨x0,x1,x2,x3,x4,x5,x6,x7,x8,x9⟩:=r
     exact Gt.pure (fin hr)
   ·refine Gt.bind (ih (by omega) h2 hm) fun r1 ⟨f1,f2⟩=>Gt.bind (ih (by omega) f2 hm) fun r2 ⟨g1,g2⟩=>Gt.pure (DE.mk ?_ g2)
    simp only[dl,List.length_nil]
    rw[Ig 5 0]
    simp only[dl,List.length_nil]
    omega
   ·refine Gt.bind (yD (K:=5) h2 (by simp) (by simp) (by decide)) fun r3 ⟨h3,h4⟩=>Gt.cond (fun _=> ?_) fun _=> ?_
    ·refine Gt.bind (Gt.loop _ _ (fun m s hs=>NO n d' K ns (by omega) (by omega) hm ih m hs.1 s hs.2) (m:=2) ⟨by omega,⟨by simp,by simp⟩,h3,rfl, ?_,h4⟩ (by omega)) fun r hr=> ?_
     ·simp only[dl]; omega
     ·obtain⟨x0,x1,x2,x3,x4,x5,x6,x7,x8,x9⟩:=r
      exact Gt.pure (fin hr)
    ·refine Gt.bind (Gt.loop _ _ (fun m s hs=>NN n d' K ns (by omega) (by omega) hm ih m hs.1 s hs.2) (m:=1) ⟨by omega,⟨by simp,by simp⟩,h3,rfl, ?_,h4⟩ (by omega)) fun r hr=> ?_
     ·simp only[dl]; omega
     ·obtain⟨x0,x1,x2,x3,x4,x5,x6,x7,x8,x9⟩:=r
      exact Gt.pure (fin hr)
   ·refine Gt.bind (ih (by omega) h2 hm) fun r1 ⟨f1,f2⟩=>Gt.bind (gV f2 (by omega)) fun r4 ⟨h4,h5⟩=> ?_
    obtain⟨h6,h7⟩:=h4 (by omega)
    rw[wrap_i64 (n:=1+r4.1) (by omega) (by omega)]
    refine Gt.bind (Gt.loop _ _ (fun m s hs=>NM n d' K ns (by omega) (by omega) (by omega) (by omega) hm ih m hs.1 s hs.2) (m:=(1+r4.1).toNat) ⟨by omega,by simp only; omega,rfl, ?_, ?_,h5⟩ (by omega)) fun r hr=> ?_
    ·simp only[dl]; omega
    ·have a1:(1+r4.1).toNat*(53+eB d')≤2*(53+eB d'):=Nat.mul_le_mul_right _ (by omega)
     simp only[dl]; omega
    ·obtain⟨x0,x1,x2,x3,x4,x5,x6,x7,x8,x9⟩:=r
     obtain⟨q1,q2,q3,q4⟩:=hr
     simp only at q1 q2 q3 q4 ⊢
     subst q1
     have hl:=bM cD x6
     have hX5:=Sa (d:=d') (by omega)
     refine Gt.bind (FH q4 (by omega)) fun r5 h8=>Gt.cond (fun _=> ?_) fun _=>Gt.pure (DE.mk (by simp only[List.length_nil]; omega) h8)
     refine Gt.bind (ih (by omega) h8 hm) fun r6 ⟨g1,g2⟩=>Gt.bind (mF (by simp only[List.length_singleton]; omega) (by omega)) fun q e=>Gt.pure (DE.mk ?_ g2)
     subst e
     rw[iU,Si,Ig 3 0]
     simp only[dl,List.length_nil,List.length_singleton]
     omega
end Go.Own.Q
