/- Code that is drawn: what the reference's compiler makes has a bound. No conditions. -/
import Derived.Test.YtgeomhdbckjkcaaW24GtList
set_option linter.unusedVariables false
set_option linter.unusedSimpArgs false
set_option linter.unnecessarySimpa false
namespace Go.Own.Q
open Go Go.Proofs
theorem Lo(k m:Int)(s:List UInt8)(l:List aB):cS (.mk k m s l)=3+s.length+dl cS l:=by
 simp only[cS,Ev]
theorem Hw(a:aA):bH a=3+a.f2.length+dl bH a.f3+dl cD a.f4:=by rw[Ed,qH,oX]
theorem nil_len{α:Type}:([]:List α).length=0:=rfl
/-- What a pattern's compiling leaves. -/
def PQ(e:aA)(ins:List aF)(pats:List aB)(N:Nat)(r:Int×Int×List UInt8×List aB×List aF×List aB×Int×List (List UInt8)×List Int):Prop:=
 cS (.mk r.1 r.2.1 r.2.2.1 r.2.2.2.1)≤bH e∧r.2.2.2.2.1=ins∧r.2.2.2.2.2.1=pats∧r.2.2.2.2.2.2.2.1.length≤r.2.2.2.2.2.2.2.2.length∧r.2.2.2.2.2.2.2.2.length≤N+bH e
/-- A pattern under way. -/
def PI(L:List aA)(K:Nat)(s0:List UInt8)(ins:List aF)(pats:List aB)(N:Nat)(i:Nat)(s:Int×Int×Int×List UInt8×List aB×List aF×List aB×Int×List (List UInt8)×List Int):Prop:=
 s.1=i∧s.2.2.2.1.length≤s0.length∧dl cS s.2.2.2.2.1≤dl bH (L.take i)∧s.2.2.2.2.2.1=ins∧s.2.2.2.2.2.2.1=pats∧s.2.2.2.2.2.2.2.2.1.length≤s.2.2.2.2.2.2.2.2.2.length∧s.2.2.2.2.2.2.2.2.2.length≤N+K+dl bH (L.take i)
theorem KY{n:Nat}(e:aA){N K:Nat}{ins:List aF}{pats:List aB}(hn:e.f3.length<n)(hB:N+2*bH e≤1000000)(hK:K≤1)
  (ih: ∀a∈e.f3, ∀(dE:List (List UInt8)) (slots:List Int) (k:Int),dE.length≤slots.length→slots.length+2*bH a≤1000000→Gt (eT n a.f0 a.f1 a.f2 a.f3 a.f4 ins pats k dE slots) (PQ a ins pats slots.length))
  {s:Int×Int×Int×List UInt8×List aB×List aF×List aB×Int×List (List UInt8)×List Int}(h:PI e.f3 K e.f2 ins pats N 0 s):
  Gt (loopN (eC n (eT n) e.f3) n s) (fun r=>PQ e ins pats N r.2.2):=by
 have hw:=Hw e
 have hl:=bM bH e.f3
 have hc:=GO cD e.f4
 refine Gt.list e.f3 (PI e.f3 K e.f2 ins pats N) _ (fun i a s ha ⟨h1,h2,h3,h4,h5,h6,h7⟩=> ?_) (fun s ⟨h1,h2,h3,h4,h5,h6,h7⟩=> ?_) h (by omega)
 ·obtain⟨v,w0,w1,w2,w3,w4,w5,w6,w7,w8⟩:=s
  simp only at h1 h2 h3 h4 h5 h6 h7
  subst h1 h4 h5
  have hd:=eA bH (List.mem_of_getElem? ha)
  have ht:=tJ bH ha
  have ht2:=uF bH e.f3 (i+1)
  have hi:=cH ha
  have hp:=bM cS w3
  unfold eC
  simp only[cW ha,cond_true,cQ,ha,Option.bind_some]
  refine Gt.bind (ih a (List.mem_of_getElem? ha) w7 w8 w6 h6 (by omega)) fun r ⟨g1,g2,g3,g4,g5⟩=>Gt.bind (mF (by simp only[List.length_singleton]; omega) (by omega)) fun q eq=>Gt.pure ⟨_,rfl, ?_⟩
  subst eq
  refine⟨aV (by omega),h2, ?_,g2,g3,g4, ?_⟩
  ·simp only[iU]; omega
  ·simp only; omega
 ·obtain⟨v,w0,w1,w2,w3,w4,w5,w6,w7,w8⟩:=s
  simp only at h1 h2 h3 h4 h5 h6 h7
  subst h1
  unfold eC
  simp only[aQ,cond_false]
  rw[List.take_length]at h3 h7
  refine Gt.pure ⟨_,rfl, ?_,h4,h5,h6, ?_⟩
  ·simp only[Lo]; omega
  ·simp only; omega
theorem MO: ∀(n:Nat),n≤1099511627776→ ∀(e:aA) (ins:List aF) (pats:List aB) (dE:List (List UInt8)) (slots:List Int) (k:Int),bH e<n→dE.length≤slots.length→slots.length+2*bH e≤1000000→
  Gt (eT n e.f0 e.f1 e.f2 e.f3 e.f4 ins pats k dE slots) (PQ e ins pats slots.length)
 | 0,_,e,_,_,_,_,_,h,_,_=>by omega
 | n+1,hn,e,ins,pats,dE,slots,k,h,hns,hB=>by
  have hw:=Hw e
  have hc:=GO cD e.f4
  have ih: ∀a∈e.f3, ∀(dE:List (List UInt8)) (slots:List Int) (k:Int),dE.length≤slots.length→slots.length+2*bH a≤1000000→Gt (eT n a.f0 a.f1 a.f2 a.f3 a.f4 ins pats k dE slots) (PQ a ins pats slots.length):=fun a ha dE slots k h1 h2=>by
   have hd:=eA bH ha
   exact MO n (by omega) a ins pats dE slots k (by omega) h1 h2
  have hlen:=bM bH e.f3
  have h2:pE=eC:=rfl
  have h3:pD=eC:=rfl
  rw[zP]
  unfold nJ
  rw[h2,h3]
  have fin: ∀ {K:Nat} {s:Int×Int×Int×List UInt8×List aB×List aF×List aB×Int×List (List UInt8)×List Int},K≤1→PI e.f3 K e.f2 ins pats slots.length 0 s→
    Gt ((loopN (eC n (eT n) e.f3) n s).bind fun(_,_,a,b,c,d,f,g,h,i,j)=>some (a,b,c,d,f,g,h,i,j)) (PQ e ins pats slots.length):=fun hK hI=>
   Gt.bind (KY e (by omega) hB hK ih hI) fun r hr=>by
    obtain⟨a1,a2,a3,a4,a5,a6,a7,a8,a9,a10,a11⟩:=r
    exact Gt.pure hr
  have d0:dl bH (e.f3.take 0)=1:=rfl
  refine Gt.cond (fun _=>Gt.cond (fun _=> ?_) (fun _=> ?_)) (fun _=> ?_)
  ·refine Gt.bind (mF (by simp only[List.length_singleton]; omega) (by omega)) fun q e1=>Gt.bind (mF (by simp only[List.length_singleton]; omega) (by omega)) fun q2 e2=>fin (K:=1) (by omega) ⟨rfl,Nat.zero_le _,Nat.le_refl _,rfl,rfl, ?_, ?_⟩
   ·subst e1 e2; simp only[List.length_append,List.length_singleton]; omega
   ·subst e2; simp only[List.length_append,List.length_singleton]; omega
  ·exact fin (K:=0) (by omega) ⟨rfl,Nat.zero_le _,Nat.le_refl _,rfl,rfl,hns,by simp only; omega⟩
  ·exact fin (K:=0) (by omega) ⟨rfl,Nat.le_refl _,Nat.le_refl _,rfl,rfl,hns,by simp only; omega⟩

theorem UK{α:Type}{l:List α}{k:Nat}(h:k<l.length):Gt (ix l (k:Int)) (fun a=>l[k]? =some a):=by
 rw[cQ]
 exact⟨_,List.getElem?_eq_getElem h,List.getElem?_eq_getElem h⟩
theorem wB{α:Type}{w:α→Nat}: ∀ {l:List α} {k:Nat} {a b:α},l[k]? =some a→w b=w a→dl w (l.set k b)=dl w l
 | [],k,a,b,h,_=>by simp at h
 | x::r,0,a,b,h,e=>by cases h; simp only[List.set_cons_zero,dl,e]
 | x::r,k+1,a,b,h,e=>by simp only[List.set_cons_succ,dl,wB (l:=r) (by simpa using h) e]
theorem BI(a b d:Int)(s:List UInt8):iX (.mk a b s d)=4+s.length:=rfl
theorem wY{n:Nat}{a b d:Int}{s:List UInt8}{ins:List aF}{pats:List aB}{k:Int}(h:ins.length≤100000000):Gt (bJ n a b s d ins pats k) (fun r=>r.1=ins++[.mk a b s d]∧r.2.1=pats):=by
 unfold bJ
 exact Gt.bind (mF (by simp only[List.length_singleton]; omega) (by omega)) fun q e=>Gt.pure ⟨e,rfl⟩
theorem KX{n:Nat}{dE:List (List UInt8)}{slots:List Int}{s:List UInt8}(h:dE.length≤slots.length)(hb:slots.length≤1000000)(hn:dE.length<n):Gt (jG n dE slots s) (fun _=>True):=by
 unfold jG
 have e0:IntKind.wrap .i64 ((dE.length:Int) - 1)=(dE.length:Int) - 1:=wrap_i64 (by omega) (by omega)
 rw[e0]
 refine Gt.bind (P:=fun _=>True) (Gt.loop (fun m (v:Int)=>v+1=m∧m≤dE.length) (fun _=>True) (fun m v ⟨h1,h2⟩=> ?_) (m:=dE.length) ⟨by omega,Nat.le_refl _⟩ hn) fun q _=>by cases q<;>exact Gt.pure trivial
 unfold mP
 refine Gt.cond (fun e=> ?_) (fun _=>Gt.pure trivial)
 have e:=LR e
 refine Gt.bind (GR e (by omega)) fun a _=>Gt.cond (fun _=>Gt.bind (GR e (by omega)) fun b _=>Gt.pure trivial) fun _=>Gt.pure ⟨m - 1,by omega, ?_,by omega⟩
 rw[wrap_i64 (by omega) (by omega)]; omega
/-- What an expression's compiling leaves. -/
def MQ(w:Nat)(ins:List aF)(pats:List aB)(r:List aF×List aB×Int):Prop:=
 ins.length≤r.1.length∧dl iX r.1≤dl iX ins+50*w∧dl cS r.2.1≤dl cS pats+50*w
def MHy(w N:Nat)(dE:List (List UInt8))(slots:List Int)(ins:List aF)(pats:List aB):Prop:=
 dE.length≤slots.length∧slots.length+2*w≤1000000∧dl iX ins+50*w≤N∧dl cS pats+50*w≤N∧N≤100000000
def LH(n:Nat):Prop:= ∀(e:aA) (dE:List (List UInt8)) (slots:List Int) (ins:List aF) (pats:List aB) (k:Int) (N:Nat),slots.length+2*bH e+1<n→MHy (bH e) N dE slots ins pats→Gt (eQ n e.f0 e.f1 e.f2 e.f3 e.f4 dE slots ins pats k) (MQ (bH e) ins pats)
def Qt(n:Nat):Prop:= ∀(e:aA) (dE:List (List UInt8)) (slots:List Int) (ins:List aF) (pats:List aB) (k:Int) (N:Nat),slots.length+2*bH e<n→MHy (3+dl cD e.f4) N dE slots ins pats→dl cD e.f4+4≤bH e→slots.length+2*bH e≤1000000→Gt (jL n e.f0 e.f1 e.f2 e.f3 e.f4 dE slots ins pats k) (MQ (3+dl cD e.f4) ins pats)
theorem PN{n:Nat}(hm:LH n)(hc:Qt n):LH (n+1):=fun e dE slots ins pats k N h ⟨h1,h2,h3,h4,h5⟩=>by
 have hw:=Hw e
 have p1:=GO cD e.f4
 have p2:=bM bH e.f3
 rw[yG]
 unfold lP
 have hloop:Gt (loopN (iF n (eQ n) dE slots e.f3) n ((0:Int),ins,pats,k)) (fun r=>MQ (dl bH e.f3 - 1) ins pats r.2.2):=by
  refine Gt.list e.f3 (fun i s=>s.1=(i:Int)∧MQ (dl bH (e.f3.take i) - 1) ins pats s.2) _ (fun i a s ha hs=> ?_) (fun s hs=> ?_) ⟨rfl,Nat.le_refl _,by simp,by simp⟩ (by omega)
  ·obtain⟨v,w0,w1,w2⟩:=s
   obtain⟨g1,g2,g3,g4⟩:=hs
   simp only at g1 g2 g3 g4
   subst g1
   have hd:=eA bH (List.mem_of_getElem? ha)
   have ht:=tJ bH ha
   have ht2:=uF bH e.f3 (i+1)
   have ht3:=GO bH (e.f3.take i)
   have hi:=cH ha
   unfold iF
   simp only[cW ha,cond_true,cQ,ha,Option.bind_some]
   refine Gt.bind (hm a dE slots w0 w1 w2 N (by omega) ⟨h1,by omega,by omega,by omega,h5⟩) fun r ⟨q1,q2,q3⟩=>Gt.pure ⟨_,rfl,aV (by omega),by simp only; omega, ?_, ?_⟩
   ·simp only; omega
   ·simp only; omega
  ·obtain⟨v,w0,w1,w2⟩:=s
   obtain⟨g1,g2,g3,g4⟩:=hs
   simp only at g1 g2 g3 g4
   subst g1
   unfold iF
   simp only[aQ,cond_false]
   rw[List.take_length]at g3 g4
   exact Gt.pure ⟨_,rfl,g2,g3,g4⟩
 refine Gt.bind hloop fun r hr=> ?_
 ·obtain⟨v,b,w0,w1,w2⟩:=r
  obtain⟨g1,g2,g3⟩:=hr
  simp only at g1 g2 g3
  have p3:=bM iX w0
  have emit: ∀(a b d:Int) (s:List UInt8),s.length≤e.f2.length→Gt ((bJ n a b s d w0 w1 w2).bind fun c=>some (c.1,c.2.1,c.2.2)) (MQ (bH e) ins pats):=fun a b d s hs=>
   Gt.bind (wY (by omega)) fun r ⟨e1,e2⟩=>Gt.pure (by
    refine⟨?_, ?_, ?_⟩
    ·simp only[e1,List.length_append,List.length_singleton]; omega
    ·simp only[e1,iU,BI]; omega
    ·simp only[e2]; omega)
  have z:([]:List UInt8).length≤e.f2.length:=Nat.zero_le _
  refine Gt.cond (fun _=>emit _ _ _ _ z) fun _=>Gt.cond (fun _=>emit _ _ _ _ (Nat.le_refl _)) fun _=>Gt.cond (fun _=>Gt.bind (KX h1 (by omega) (by omega)) fun c _=>emit _ _ _ _ z) fun _=>Gt.cond (fun _=>emit _ _ _ _ z) fun _=>Gt.cond (fun _=>emit _ _ _ _ z) fun _=>Gt.cond (fun _=>emit _ _ _ _ z) fun _=>Gt.cond (fun _=>emit _ _ _ _ (Nat.le_refl _)) fun _=>Gt.cond (fun _=>emit _ _ _ _ (Nat.le_refl _)) fun _=>Gt.cond (fun _=> ?_) fun _=>Gt.pure ⟨g1,by simp only; omega,by simp only; omega⟩
  refine Gt.bind (hc e dE slots w0 w1 w2 N (by omega) ⟨h1,by omega,by omega,by omega,h5⟩ (by omega) (by omega)) fun r ⟨q1,q2,q3⟩=>Gt.pure ⟨by simp only; omega,by simp only; omega,by simp only; omega⟩

/-- Clauses under way. -/
def CI(C:List aC)(ins:List aF)(pats:List aB)(i:Nat)(s:List Int×Int×List aF×List aB×Int):Prop:=
 s.2.1=i∧s.1.length≤i∧(∀j∈s.1,0≤j∧j<s.2.2.1.length)∧ins.length≤s.2.2.1.length∧dl iX s.2.2.1+50≤dl iX ins+50*dl cD (C.take i)∧dl cS s.2.2.2.1+50≤dl cS pats+50*dl cD (C.take i)
theorem NK{n:Nat}(hm:LH n)(e:aA)(dE:List (List UInt8))(slots:List Int)(ins:List aF)(pats:List aB)(k:Int)(N:Nat)(h:slots.length+2*bH e<n+1)(hn:n≤1099511627776)(hH:MHy (3+dl cD e.f4) N dE slots ins pats)(hw:dl cD e.f4+4≤bH e)(hs:slots.length+2*bH e≤1000000):
  Gt (loopN (iI n (eQ n) dE slots e.f4) n (([]:List Int),(0:Int),ins,pats,k)) (fun r=>(∀j∈r.1,0≤j∧j<r.2.2.2.1.length)∧r.1.length≤e.f4.length∧ins.length≤r.2.2.2.1.length∧dl iX r.2.2.2.1+50≤dl iX ins+50*dl cD e.f4∧dl cS r.2.2.2.2.1+50≤dl cS pats+50*dl cD e.f4):=by
 obtain⟨h1,h2,h3,h4,h5⟩:=hH
 have hc:=bM cD e.f4
 refine Gt.list e.f4 (CI e.f4 ins pats) _ (fun i a s ha hs'=> ?_) (fun s hs'=> ?_) ⟨rfl,Nat.le_refl _,(fun j hj=>by cases hj),Nat.le_refl _,by simp [dl],by simp [dl]⟩ (by omega)
 ·obtain⟨js,v,w0,w1,w2⟩:=s
  obtain⟨g1,g2,g3,g4,g5,g6⟩:=hs'
  simp only at g1 g2 g3 g4 g5 g6
  subst g1
  have hd:=eA cD (List.mem_of_getElem? ha)
  have ht:=tJ cD ha
  have ht2:=uF cD e.f4 (i+1)
  have hi:=cH ha
  have hwc:=Ba a
  have q1:=bM iX w0
  have q2:=bM cS w1
  unfold iI
  simp only[cW ha,cond_true,cQ,ha,Option.bind_some]
  refine Gt.bind (mF (by simp only[List.length_nil]; omega) (by omega)) fun inner e1=>Gt.bind (mF (by simp only[List.length_nil]; omega) (by omega)) fun at' e2=> ?_
  rw[List.nil_append]at e1 e2
  subst e1 e2
  refine Gt.bind (MO n hn a.p w0 w1 inner at' w2 (by omega) h1 (by omega)) fun p ⟨p1,p2,p3,p4,p5⟩=> ?_
  rw[p2,p3]
  refine Gt.bind (wY (by omega)) fun c ⟨c1,c2⟩=> ?_
  rw[c2]
  refine Gt.bind (mF (by simp only[List.length_singleton]; omega) (by omega)) fun q eq=> ?_
  refine Gt.bind (UK (by subst eq; simp only[List.length_append,List.length_singleton]; omega)) fun z _=> ?_
  simp only[Option.bind_some,Int.toNat_natCast]
  have hp:dl cS (q.set w1.length (.mk p.1 p.2.1 p.2.2.1 p.2.2.2.1))≤dl cS w1+5+bH a.p:=by
   have:=tB cS (.mk p.1 p.2.1 p.2.2.1 p.2.2.2.1) q w1.length
   have e3:dl cS q=dl cS w1+1+4:=by subst eq; rw[iU,Lo]; rfl
   omega
  have hi1:dl iX c.1=dl iX w0+5:=by rw[c1,iU,BI]; rfl
  have hl1:c.1.length=w0.length+1:=by rw[c1,List.length_append,List.length_singleton]
  refine Gt.bind (hm a.x p.2.2.2.2.2.2.2.1 p.2.2.2.2.2.2.2.2 c.1 _ c.2.2 N (by omega) ⟨p4,by omega,by omega,by omega,h5⟩) fun m ⟨m1,m2,m3⟩=> ?_
  have q3:=bM iX m.1
  refine Gt.bind (mF (by simp only[List.length_singleton]; omega) (by omega)) fun js' ej=>Gt.bind (wY (by omega)) fun c' ⟨c1',c2'⟩=> ?_
  have hl2:c'.1.length=m.1.length+1:=by rw[c1',List.length_append,List.length_singleton]
  have hi2:dl iX c'.1=dl iX m.1+5:=by rw[c1',iU,BI]; rfl
  refine Gt.bind (UK (k:=w0.length) (by omega)) fun z hz=>Gt.pure ⟨_,rfl,aV (by omega), ?_, ?_, ?_, ?_, ?_⟩
  ·subst ej; simp only[List.length_append,List.length_singleton]; omega
  ·intro j hj
   simp only[List.length_set]
   subst ej
   rcases List.mem_append.1 hj with hj | hj
   ·have:=g3 j hj; omega
   ·have:=List.mem_singleton.1 hj; omega
  ·simp only[List.length_set]; omega
  ·simp only
   rw[wB (w:=iX) (b:= .mk z.f0 z.f1 z.f2 (c'.1.length:Int)) hz rfl]; omega
  ·simp only[c2']; omega
 ·obtain⟨js,v,w0,w1,w2⟩:=s
  obtain⟨g1,g2,g3,g4,g5,g6⟩:=hs'
  simp only at g1 g2 g3 g4 g5 g6
  subst g1
  unfold iI
  simp only[aQ,cond_false]
  rw[List.take_length]at g5 g6
  exact Gt.pure ⟨_,rfl,g3,g2,g4,g5,g6⟩
theorem PP{n:Nat}(hn:n≤1099511627776)(hm:LH n):Qt (n+1):=fun e dE slots ins pats k N h hH hw hs=>by
 have hc:=bM cD e.f4
 have hc2:=GO cD e.f4
 rw[yH]
 unfold lQ
 refine Gt.bind (NK hm e dE slots ins pats k N h hn hH hw hs) fun r hr=> ?_
 obtain⟨js,v,b,w0,w1,w2⟩:=r
 obtain⟨g1,g2,g3,g4,g5⟩:=hr
 simp only at g1 g2 g3 g4 g5
 obtain⟨h1,h2,h3,h4,h5⟩:=hH
 have q1:=bM iX w0
 refine Gt.bind (wY (by omega)) fun c ⟨c1,c2⟩=> ?_
 have hl1:c.1.length=w0.length+1:=by rw[c1,List.length_append,List.length_singleton]
 have hi1:dl iX c.1=dl iX w0+5:=by rw[c1,iU,BI]; rfl
 have hloop:Gt (loopN (iH n js) n ((0:Int),c.1,c.2.1,c.2.2)) (fun r=>r.2.2.1.length=c.1.length∧dl iX r.2.2.1=dl iX c.1∧r.2.2.2.1=c.2.1):=by
  refine Gt.list js (fun i s=>s.1=(i:Int)∧s.2.1.length=c.1.length∧dl iX s.2.1=dl iX c.1∧s.2.2.1=c.2.1) _ (fun i a s ha hs'=> ?_) (fun s hs'=> ?_) ⟨rfl,rfl,rfl,rfl⟩ (by omega)
  ·obtain⟨v,u0,u1,u2⟩:=s
   obtain⟨k1,k2,k3,k4⟩:=hs'
   simp only at k1 k2 k3 k4
   subst k1
   have hi:=cH ha
   obtain⟨j0,j1⟩:=g1 a (List.mem_of_getElem? ha)
   obtain⟨j,rfl⟩: ∃j:Nat,a=j:=⟨a.toNat,by omega⟩
   unfold iH
   simp only[cW ha,cond_true,cQ,ha,Option.bind_some,Int.toNat_natCast]
   have hj:j<u0.length:=by omega
   simp only[List.getElem?_eq_getElem hj,Option.bind_some]
   refine Gt.pure ⟨_,rfl,aV (by omega),by simp only[List.length_set]; exact k2, ?_,k4⟩
   simp only
   rw[wB (w:=iX) (b:= .mk u0[j].f0 u0[j].f1 u0[j].f2 (u0.length:Int)) (List.getElem?_eq_getElem hj) rfl]; exact k3
  ·obtain⟨v,u0,u1,u2⟩:=s
   obtain⟨k1,k2,k3,k4⟩:=hs'
   simp only at k1 k2 k3 k4
   subst k1
   unfold iH
   simp only[aQ,cond_false]
   exact Gt.pure ⟨_,rfl,k2,k3,k4⟩
 refine Gt.bind hloop fun r hr=> ?_
 obtain⟨v',b',u0,u1,u2⟩:=r
 obtain⟨k1,k2,k3⟩:=hr
 simp only at k1 k2 k3
 exact Gt.pure ⟨by simp only; omega,by simp only; omega,by simp only[k3,c2]; omega⟩
theorem Gq: ∀n,n≤1099511627776→LH n∧Qt n
 | 0,_=>⟨fun _ _ _ _ _ _ _ h _=>by omega,fun _ _ _ _ _ _ _ h _ _ _=>by omega⟩
 | n+1,hn=>by
  obtain⟨h1,h2⟩:=Gq n (by omega)
  exact⟨PN h1 h2,PP (by omega) h1⟩
end Go.Own.Q
