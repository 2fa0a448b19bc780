/- Code that is drawn: functions, what is compiled of them, what is bent. No conditions. -/
import Derived.Test.YtgeomhdbckjkcaaW24SameCode2
set_option linter.unusedVariables false
set_option linter.unusedSimpArgs false
set_option linter.unnecessarySimpa false
namespace Go.Own.Q
open Go Go.Proofs
theorem sZ{n:Nat}{t:Int}{b:List Int}{i h:Int}(hc:Cur b i)(ht:0<t):Gt (aM n t b i h) (fun r=>(0≤r.1∧r.1<t)∧Cur r.2.1 r.2.2.1):=by
 unfold aM
 have e0:(!decide (t=0))=true:=by rw[decide_eq_false (by omega)]; rfl
 refine Gt.cond (fun e=> ?_) (fun _=>Gt.cond (fun e=> ?_) (fun e=> ?_))
 ·have:=LR e; omega
 ·refine Gt.bind (pL hc) fun r ⟨h1,h2⟩=>Gt.bind (UY e0) fun _ _=>Gt.pure ⟨⟨Int.tmod_nonneg _ h1.1,Int.tmod_lt_of_pos _ ht⟩,h2⟩
 ·refine Gt.bind (pL hc) fun r ⟨h1,h2⟩=>Gt.bind (pL h2) fun r2 ⟨h3,h4⟩=>Gt.bind (pL h4) fun r3 ⟨h5,h6⟩=>Gt.bind (UY e0) fun _ _=>Gt.pure ⟨⟨Int.tmod_nonneg _ ?_,Int.tmod_lt_of_pos _ ht⟩,h6⟩
  rw[wrap_i64 (n:=r.1*65536) (by omega) (by omega),wrap_i64 (n:=r2.1*256) (by omega) (by omega),wrap_i64 (n:=r.1*65536+r2.1*256) (by omega) (by omega),wrap_i64 (by omega) (by omega)]
  omega
/-- A function that was drawn. -/
structure Sd (a:aY):Prop where
 f0:a.f0.length≤1
 f1:a.f1.length≤2
 f2:bH (.mk a.f2 a.f3 a.f4 a.f5 a.f6)≤4840
theorem KD{α:Type}{P:α→Prop}{l:List α}{a:α}(h: ∀x∈l,P x)(ha:P a): ∀x∈l++[a],P x:=fun x hx=>by
 rcases List.mem_append.1 hx with h1 | h1
 ·exact h x h1
 ·rw[List.mem_singleton.1 h1]; exact ha
theorem PR{n:Nat}(hn:20000<n)(hn2:n≤1099511627776){b:List Int}{i h:Int}(hc:Cur b i):Gt (lX n b i h) (fun r=>(∀a∈r.1,Sd a)∧r.1.length≤3∧Cur r.2.1 r.2.2.1):=by
 unfold lX
 have hx1: ∀x∈([([102]:List UInt8),([103]:List UInt8),([104]:List UInt8)]:List (List UInt8)),x.length≤1:=by decide
 refine Gt.bind (P:=fun r=>(∀a∈r.2.2.1,Sd a)∧r.2.2.1.length≤3∧Cur r.2.2.2.1 r.2.2.2.2.1) (Gt.loop (fun(m:Nat) (s:Int×(List aY)×(List Int)×Int×Int)=>s.1+m=3∧0≤s.1∧(∀a∈s.2.1,Sd a)∧s.2.1.length+m≤3∧Cur s.2.2.1 s.2.2.2.1) _ (fun m s hs=> ?_) (m:=3) ⟨rfl,Int.le_refl _,(fun a ha=>nomatch ha),Nat.le_refl _,hc⟩ (by omega)) fun r hr=> ?_
 ·obtain⟨v,w0,w1,w2,w3⟩:=s
  obtain⟨s1,s2,s3,s4,s5⟩:=hs
  simp only at s1 s2 s3 s4 s5
  unfold nX
  refine Gt.cond (fun e=> ?_) (fun e=> ?_)
  ·have e:=LR e
   obtain⟨m',rfl⟩: ∃m',m=m'+1:=⟨m - 1,by omega⟩
   refine Gt.bind (P:=fun r=>(∀a∈r.1,Sd a)∧r.1.length≤w0.length+1∧Cur r.2.2.2.2.2.2.2.2.1 r.2.2.2.2.2.2.2.2.2.1) (Gt.bind (GR s2 (by simpa using e)) fun a ha=>Gt.cond (fun _=> ?_) (fun _=> ?_)) fun r hr=> ?_
   ·refine Gt.bind (Gx (K:=2) (by omega) hn2 (by omega) s5 ⟨by simp,by decide⟩) fun r ⟨h1,h2⟩=>Gt.bind (mF (by simp only[List.length_singleton]; omega) (by omega)) fun q eq=>Gt.pure ?_
    subst eq
    exact⟨KD s3 ⟨hx1 a ha,by simp,h1⟩,by simp,h2⟩
   ·refine Gt.bind (Gx (K:=2) (by omega) hn2 (by omega) s5 ⟨by simp,by decide⟩) fun r ⟨h1,h2⟩=>Gt.bind (mF (by simp only[List.length_singleton]; omega) (by omega)) fun q eq=>Gt.pure ?_
    subst eq
    exact⟨KD s3 ⟨hx1 a ha,by simp,h1⟩,by simp,h2⟩
   ·obtain⟨a0,a1,a2,a3,a4,a5,a6,a7,a8,a9,a10⟩:=r
    obtain⟨h1,h2,h3⟩:=hr
    simp only at h1 h2 h3
    refine Gt.pure ⟨m',rfl, ?_, ?_,h1,by simp only; omega,h3⟩
    ·show IntKind.wrap .i64 (v+1)+(m':Int)=3
     rw[wrap_i64 (by omega) (by omega)]; omega
    ·show 0≤IntKind.wrap .i64 (v+1)
     rw[wrap_i64 (by omega) (by omega)]; omega
  ·exact Gt.pure ⟨s3,by simp only; omega,s5⟩
 ·obtain⟨a0,a1,a2,a3,a4,a5⟩:=r
  exact Gt.pure hr
/-- The weights of drawn code. -/
def CB(B C:Nat)(r:List aG×List aB):Prop:=r.1.length≤3∧dl wFn r.1≤B∧dl cS r.2≤C
theorem RE{n:Nat}{a:aY}(h:a.f1.length≤2)(hn:10<n):Gt (loopN (fE n a) n (([]:List Int),(0:Int))) (fun r=>r.1.length=a.f1.length):=by
 refine Gt.list a.f1 (fun i s=>s.2=(i:Int)∧s.1.length=i) _ (fun i x s hx hs=> ?_) (fun s hs=> ?_) ⟨rfl,rfl⟩ (by omega)
 ·obtain⟨w,v⟩:=s
  obtain⟨h1,h2⟩:=hs
  simp only at h1 h2
  subst h1
  have hi:=cH hx
  simp only[fE,cW hx,cond_true]
  refine Gt.bind (mF (by simp only[List.length_singleton]; omega) (by omega)) fun q eq=>Gt.pure ⟨_,rfl,aV (by omega), ?_⟩
  subst eq
  simp only[List.length_append,List.length_singleton]; omega
 ·obtain⟨w,v⟩:=s
  obtain⟨h1,h2⟩:=hs
  simp only at h1 h2
  subst h1
  simp only[fE,aQ,cond_false]
  exact Gt.pure ⟨_,rfl,h2⟩
theorem Iu{n:Nat}(hn:20000<n)(hn2:n≤1099511627776){fs:List aY}(h: ∀a∈fs,Sd a)(hl:fs.length≤3):Gt (iG n fs) (CB 800000 800000):=by
 unfold iG
 obtain⟨hm,_⟩:=Gq n hn2
 refine Gt.bind (P:=fun r=>CB 800000 800000 (r.2.2.1,r.2.2.2)) (Gt.list fs (fun i s=>s.1=(i:Int)∧s.2.1.length=i∧dl wFn s.2.1≤1+i*250000∧dl cS s.2.2≤1+i*250000) _ (fun i a s ha hs=> ?_) (fun s hs=> ?_) ⟨rfl,rfl,by simp [dl],by simp [dl]⟩ (by omega)) fun r hr=> ?_
 ·obtain⟨v,w0,w1⟩:=s
  obtain⟨h1,h2,h3,h4⟩:=hs
  simp only at h1 h2 h3 h4
  subst h1
  have hi:=cH ha
  have hA:=h a (List.mem_of_getElem? ha)
  have hA0:=hA.f0
  have hA1:=hA.f1
  have hA2:=hA.f2
  simp only[gY,cW ha,cond_true,cQ,ha,Option.bind_some]
  have e0:dl iX ([]:List aF)=1:=rfl
  refine Gt.bind (RE hA1 (by omega)) fun q hq=> ?_
  obtain⟨q0,q1,q2⟩:=q
  simp only at hq
  refine Gt.bind (hm (.mk a.f2 a.f3 a.f4 a.f5 a.f6) a.f1 q0 [] w1 _ 2000000 (by omega) ⟨by omega,by omega,by omega,by omega,by omega⟩) fun r ⟨r1,r2,r3⟩=> ?_
  have p3:=bM iX r.1
  refine Gt.bind (wY (by omega)) fun t ⟨t1,t2⟩=>Gt.bind (mF (by simp only[List.length_singleton]; omega) (by omega)) fun u eu=>Gt.pure ⟨_,rfl,aV (by omega), ?_, ?_, ?_⟩
  ·subst eu; simp only[List.length_append,List.length_singleton]; omega
  ·subst eu
   have e1: ∀x y z w,wFn (.mk x y z w)=3+x.length+dl iX w:=fun _ _ _ _=>rfl
   simp only[iU,e1,t1,BI,List.length_nil]; omega
  ·simp only[t2]; omega
 ·obtain⟨v,w0,w1⟩:=s
  obtain⟨h1,h2,h3,h4⟩:=hs
  simp only at h1 h2 h3 h4
  subst h1
  simp only[gY,aQ,cond_false]
  exact Gt.pure ⟨_,rfl,by simp only; omega,by simp only; omega,by simp only; omega⟩
 ·obtain⟨a0,a1,a2,a3⟩:=r
  exact Gt.pure hr
/-- Drawn code, with the cursor. -/
def CD(B C:Nat)(r:List aG×List aB×List Int×Int×Int):Prop:=CB B C (r.1,r.2.1)∧Cur r.2.2.1 r.2.2.2.1
theorem PO{n:Nat}(hn:20000<n)(hn2:n≤1099511627776){b:List Int}{i h:Int}(hc:Cur b i):Gt (lW n b i h) (CD 800000 800000):=by
 unfold lW
 exact Gt.bind (PR hn hn2 hc) fun r ⟨h1,h2,h3⟩=>Gt.bind (Iu hn hn2 h1 h2) fun q hq=>Gt.pure ⟨hq,h3⟩
theorem set_o{α:Type}(w:α→Nat){l:List α}{k:Nat}{b:α}{B m:Nat}(h:dl w l≤B)(hb:w b≤m):dl w (l.set k b)≤B+m:=by
 have:=tB w b l k
 omega
theorem Jm{n B:Nat}(hn2:n≤1099511627776){fs:List aG}{ps:List aB}(hB:CB B B (fs,ps))(hB1:B≤10000000)(hn:B<n){b:List Int}{i h:Int}(hc:Cur b i):Gt (jM n fs ps b i h) (CD (3*B+10) (3*B+10)):=by
 obtain⟨b1,b2,b3⟩:=hB
 simp only at b1 b2 b3
 unfold jM
 rw[Gw hn2 (by omega) (by omega) (by omega) (by omega),Option.bind_some]
 have keep: ∀ {b:List Int} {i h:Int},Cur b i→CD (3*B+10) (3*B+10) (fs,ps,b,i,h):=fun hc=>⟨⟨b1,by simp only; omega,by simp only; omega⟩,hc⟩
 refine Gt.cond (fun _=>Gt.pure (keep hc)) fun e=> ?_
 have e:=Np e
 simp only at e
 refine Gt.bind (sZ hc (by simp only; omega)) fun r ⟨⟨g1,g2⟩,g3⟩=> ?_
 refine Gt.bind (GR g1 g2) fun f hf=> ?_
 have hf2:=eA wFn hf
 simp only at hf2
 rw[FU]at hf2
 have hl:=bM iX f.f3
 have hlp:=bM cS ps
 refine Gt.cond (fun _=>Gt.pure (keep g3)) fun e2=> ?_
 have e2:=Np e2
 refine Gt.bind (sZ g3 (by omega)) fun r2 ⟨⟨k1,k2⟩,k3⟩=>Gt.bind (sZ k3 (by omega)) fun r3 ⟨_,m3⟩=> ?_
 -- another function in the place
 have one: ∀ {b:List Int} {i h:Int} {k:Nat} {g:aG},Cur b i→wFn g≤2*B+10→Gt ((some (fs.set k g)).bind fun u=>some (u,ps,b,i,h)) (CD (3*B+10) (3*B+10)):=fun {b i h k g} hc hg=>Gt.pure ⟨⟨by simp only[List.length_set]; exact b1,by have:=set_o wFn (k:=k) b2 hg; simp only; omega,by simp only; omega⟩,hc⟩
 have ins: ∀ {b:List Int} {i h:Int} {k j:Nat} {g:aF} {x:aF},Cur b i→x∈f.f3→g.f2=x.f2→Gt ((some (fs.set k (aG.mk f.f0 f.f1 f.f2 (f.f3.set j g)))).bind fun u=>some (u,ps,b,i,h)) (CD (3*B+10) (3*B+10)):=fun {b i h k j g x} hc hx hg=>one hc (by
  have h1:=tB iX g f.f3 j
  have h2:=eA iX hx
  rw[GA]at h1 h2
  rw[hg]at h1
  show 3+f.f0.length+dl iX (f.f3.set j g)≤_
  omega)
 refine Gt.cond (fun _=>Gt.bind (sZ m3 (by omega)) fun r4 ⟨_,c4⟩=>Gt.bind (GR k1 k2) fun x hx=>ins c4 hx rfl) fun _=> ?_
 refine Gt.cond (fun _=>Gt.bind (sQ m3 (by simp) (by simp)) fun r4 ⟨_,c4⟩=>Gt.bind (GR k1 k2) fun x hx=>ins c4 hx rfl) fun _=> ?_
 refine Gt.cond (fun _=>Gt.bind (sQ m3 (by simp) (by simp)) fun r4 ⟨_,c4⟩=>Gt.bind (GR k1 k2) fun x hx=>ins c4 hx rfl) fun _=> ?_
 refine Gt.cond (fun _=> ?_) fun _=> ?_
 ·obtain⟨k,hk⟩: ∃k:Nat,r2.1=k:=⟨r2.1.toNat,by omega⟩
  rw[hk]at k2 ⊢
  have hs:sub f.f3 none (some (k:Int))=some (f.f3.take k):=QE (by omega)
  rw[hs,Option.bind_some]
  refine one m3 ?_
  have h1:=uF iX f.f3 k
  show 3+f.f0.length+dl iX (f.f3.take k)≤_
  omega
 refine Gt.cond (fun _=>Gt.bind (yD (K:=4) m3 (by simp) (by simp) (by decide)) fun r4 ⟨c5,c4⟩=>one c4 ?_) fun _=> ?_
 ·show 3+r4.1.length+dl iX f.f3≤_
  omega
 refine Gt.cond (fun _=>Gt.bind (sQ m3 (by simp) (by simp)) fun r4 ⟨_,c4⟩=>one c4 ?_) fun _=> ?_
 ·show 3+f.f0.length+dl iX f.f3≤_
  omega
 refine Gt.cond (fun _=>Gt.bind (sQ m3 (by simp) (by simp)) fun r4 ⟨_,c4⟩=>one c4 ?_) fun _=> ?_
 ·show 3+f.f0.length+dl iX f.f3≤_
  omega
 refine Gt.cond (fun _=>Gt.cond (fun e5=> ?_) fun _=>Gt.pure (keep m3)) fun _=>Gt.pure (keep m3)
 have e5:=LR e5
 refine Gt.bind (sZ m3 (by omega)) fun r4 ⟨_,c4⟩=>Gt.bind (sQ c4 (by simp) (by simp)) fun r5 ⟨_,c5⟩=>Gt.bind (GR (by omega) e5) fun x hx=>Gt.pure ⟨⟨b1,by simp only; omega, ?_⟩,c5⟩
 have:=tB cS (.mk r4.1 r5.1 [] []) ps (Int.toNat 0)
 rw[AQ]at this
 have z:dl cS ([]:List aB)=1:=rfl
 simp only[List.length_nil]at this ⊢
 show dl cS (ps.set (Int.toNat 0) _)≤_
 have q:(aB.mk r4.1 r5.1 [] []).f2.length+dl cS (aB.mk r4.1 r5.1 [] []).f3=1:=rfl
 omega
theorem Rm{n:Nat}(hn:10000000<n)(hn2:n≤1099511627776){b:List Int}{i h:Int}(hc:Cur b i):Gt (nN n b i h) (CD 2400010 2400010):=by
 unfold nN
 refine Gt.bind (PO (by omega) hn2 hc) fun r ⟨h1,h2⟩=>Gt.bind (FH h2 (by omega)) fun r2 h3=>Gt.cond (fun _=> ?_) fun _=>Gt.pure ⟨⟨h1.1,Nat.le_trans h1.2.1 (by omega),Nat.le_trans h1.2.2 (by omega)⟩,h3⟩
 exact Gt.bind (Jm hn2 h1 (by omega) (by omega) h3) fun q hq=>Gt.pure hq
theorem Dq{n:Nat}(hn:10000000<n)(hn2:n≤1099511627776){code:List Int}(hc:code.length≤1048576):Gt (fF n code) (fun r=>CB 2400010 2400010 (r.1,r.2.1)∧CB 7200040 7200040 (r.2.2.1,r.2.2.2)):=by
 unfold fF
 refine Gt.bind (Ro (by omega) code hc) fun r hr=>Gt.bind (Rm hn hn2 hr) fun r2 ⟨h1,h2⟩=>Gt.bind (FH h2 (by omega)) fun r3 h3=>Gt.cond (fun _=> ?_) fun _=> ?_
 ·obtain⟨g1,g2,g3⟩:=h1
  simp only at g1 g2 g3
  rw[Gw hn2 (by omega) (by omega) (by omega) (by omega),Option.bind_some]
  exact Gt.pure ⟨⟨g1,g2,g3⟩,g1,Nat.le_trans g2 (by omega),Nat.le_trans g3 (by omega)⟩
 ·exact Gt.bind (Jm hn2 h1 (by omega) (by omega) h3) fun q hq=>Gt.pure ⟨h1,hq.1⟩
end Go.Own.Q
