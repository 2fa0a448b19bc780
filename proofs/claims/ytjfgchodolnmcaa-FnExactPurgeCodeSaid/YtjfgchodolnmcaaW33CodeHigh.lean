/- The heights of the instructions: the program's answer and the reference's, in plain Lean. No conditions. -/
import Derived.Test.YtjfgchodolnmcaaW33CodeIns
set_option linter.unusedVariables false
set_option linter.unusedSimpArgs false
set_option linter.unnecessarySimpa false
namespace Go.Own.Q
open Go Go.Proofs

def pE(i:aD):Int:=
 bif decide (i.f0=4)then i.f1 else bif decide (i.f0=5)then i.f1 else bif decide (i.f0=6)then i.f1 else bif decide (i.f0=8)then i.f1 else bif decide (i.f0=7)then 2 else bif decide (i.f0=9)then 1 else bif decide (i.f0=12)then 1 else 0
theorem JV(n:Nat)(i:aD):iB n i.f0 i.f1 i.f2 i.f3=some (pE i):=by
 unfold iB pE
 simp only[OE]
theorem Jg(n:Nat)(i:aD)(h1:1≤i.f0)(h2:i.f0≤12): ∃g,jZ n i.f0 i.f1 i.f2 i.f3=some (pE i,g)∧(i.f0≤8→g=1):=by
 have e:i.f0=1∨i.f0=2∨i.f0=3∨i.f0=4∨i.f0=5∨i.f0=6∨i.f0=7∨i.f0=8∨i.f0=9∨i.f0=10∨i.f0=11∨i.f0=12:=by omega
 unfold jZ pE
 rcases e with e | e | e | e | e | e | e | e | e | e | e | e<;>rw[e]<;>exact⟨_,rfl,fun h=>by first | rfl | omega⟩

/-! coming to a place -/
def fN(hs:List Int)(p:Nat)(v:Int):Option (List Int):=match hs[p]? with
 | none=>none
 | some x=>bif decide (x= -1)then some (hs.set p v)else bif decide (x=v)then some hs else none
theorem wB(n:Nat)(hs:List Int)(p:Nat)(v:Int)(h:p<hs.length): ∃l,dP n hs (p:Int) v=some ((fN hs p v).isSome,l)∧l.length=hs.length∧ ∀q,fN hs p v=some q→l=q:=by
 have e:hs[p]? =some hs[p]:=List.getElem?_eq_getElem h
 generalize hs[p]=x at e
 have es:(hs.set p v)[p]? =some v:=List.getElem?_set_self h
 unfold dP fN
 simp only[bB,e,Option.bind_some,Int.toNat_natCast,es]
 cases decide (x= -1)with
 | true=>exact⟨hs.set p v,by simp,List.length_set,fun q hq=>by simpa using hq⟩
 | false=>
  refine⟨hs,by simp only[cond_false]; cases decide (x=v)<;>rfl,rfl,fun q hq=> ?_⟩
  simp only[cond_false]at hq
  cases hx:decide (x=v)<;>rw[hx]at hq
  ·cases hq
  ·exact Option.some.inj hq
theorem mL{hs:List Int}{p:Nat}{v:Int}{q:List Int}(h:fN hs p v=some q):q.length=hs.length:=by
 unfold fN at h
 cases e:hs[p]? with
 | none=>rw[e]at h; cases h
 | some x=>
  rw[e]at h
  simp only at h
  cases h1:decide (x= -1)<;>rw[h1]at h
  ·cases h2:decide (x=v)<;>rw[h2]at h
   ·cases h
   ·cases h; rfl
  ·cases h; exact List.length_set
/-- What a come leaves: what was told stays. -/
theorem Gb{hs:List Int}{p:Nat}{v:Int}{q:List Int}(h:fN hs p v=some q):q[p]? =some v∧ ∀j,j≠p→q[j]? =hs[j]? :=by
 unfold fN at h
 cases e:hs[p]? with
 | none=>rw[e]at h; cases h
 | some x=>
  rw[e]at h
  simp only at h
  cases h1:decide (x= -1)<;>rw[h1]at h
  ·cases h2:decide (x=v)<;>rw[h2]at h
   ·cases h
   ·cases h
    have:=of_decide_eq_true h2
    exact⟨by rw[e,this],fun _ _=>rfl⟩
  ·cases h
   exact⟨List.getElem?_set_self (bI e),fun j hj=>List.getElem?_set_ne (Ne.symm hj)⟩
theorem tE{hs:List Int}{p:Nat}{v:Int}{q:List Int}(h:fN hs p v=some q){j:Nat}{x:Int}(hj:hs[j]? =some x)(hx:x≠ -1):q[j]? =some x:=by
 by_cases e:j=p
 ·subst e
  unfold fN at h
  rw[hj]at h
  simp only[decide_eq_false hx,cond_false]at h
  cases h2:decide (x=v)<;>rw[h2]at h
  ·cases h
  ·cases h; exact hj
 ·rw[(Gb h).2 j e]; exact hj
theorem Jt(hs:List Int)(p q:Nat)(u v:Int)(hu:u≠ -1)(hv:v≠ -1):(fN hs q u).bind (fun l=>fN l p v)=(fN hs p v).bind (fun l=>fN l q u):=by
 by_cases e:p=q
 ·subst e
  unfold fN
  cases e:hs[p]? with
  | none=>rfl
  | some x=>
   simp only
   have hp:=bI e
   by_cases h1:x= -1
   ·rw[decide_eq_true h1]
    simp only[cond_true,Option.bind_some,List.getElem?_set_self hp,decide_eq_false hu,decide_eq_false hv,cond_false]
    by_cases h2:u=v
    ·subst h2; rfl
    ·rw[decide_eq_false h2,decide_eq_false (Ne.symm h2)]; rfl
   ·rw[decide_eq_false h1]
    simp only[cond_false]
    by_cases h2:x=u
    ·by_cases h3:x=v
     ·subst h2; subst h3; rfl
     ·rw[decide_eq_true h2,decide_eq_false h3]
      simp only[cond_true,cond_false,Option.bind_some,e,decide_eq_false h1,decide_eq_false h3,Option.bind_none]
    ·rw[decide_eq_false h2]
     by_cases h3:x=v
     ·rw[decide_eq_true h3]
      simp only[cond_true,cond_false,Option.bind_some,e,decide_eq_false h1,decide_eq_false h2,Option.bind_none]
     ·rw[decide_eq_false h3]; rfl
 ·have hA: ∀(l:List Int) (a b:Nat) (w:Int),a≠b→(l.set a w)[b]? =l[b]? :=fun l a b w h=>List.getElem?_set_ne h
  unfold fN
  cases e1:hs[q]? with
  | none=>
   cases e2:hs[p]? with
   | none=>rfl
   | some y=>
    simp only[Option.bind_none]
    cases decide (y= -1)with
    | true=>simp only[cond_true,Option.bind_some,hA _ _ _ _ e,e1]
    | false=>
     cases decide (y=v)with
     | true=>simp only[cond_true,cond_false,Option.bind_some,e1]
     | false=>rfl
  | some x=>
   cases e2:hs[p]? with
   | none=>
    simp only[Option.bind_none]
    cases decide (x= -1)with
    | true=>simp only[cond_true,Option.bind_some,hA _ _ _ _ (Ne.symm e),e2]
    | false=>
     cases decide (x=u)with
     | true=>simp only[cond_true,cond_false,Option.bind_some,e2]
     | false=>rfl
   | some y=>
    simp only
    cases h1:decide (x= -1)<;>cases h2:decide (y= -1)<;>cases h3:decide (x=u)<;>cases h4:decide (y=v)<;>simp only[cond_true,cond_false,Option.bind_some,Option.bind_none,hA _ _ _ _ e,hA _ _ _ _ (Ne.symm e),e1,e2,h1,h2,h3,h4,List.set_comm _ _ e]

/-! the run, as the reference has it -/
def up(h t:Int):Int:=IntKind.wrap .i64 (IntKind.wrap .i64 (h - t)+1)
def yN(at':Nat)(i:aD)(h:Int)(hs:List Int):Option (List Int):=
 bif decide (i.f0=11)then some hs else bif decide (i.f0=12)then some hs
 else bif decide (i.f0=10)then fN hs i.f3.toNat h
 else bif decide (i.f0=9)then(fN hs i.f3.toNat h).bind fun l=>fN l (at'+1) (IntKind.wrap .i64 (h - 1))
 else fN hs (at'+1) (up h (pE i))
def Ij(i:aD)(h:Int):Bool:=decide (h<pE i)||(decide (300<h)||(decide (i.f0=12)&& !decide (h=1)))
def Bs:Nat→List aD→List Int→Bool
 | _,[],_=>true
 | at',i::r,hs=>match hs[at']? with
  | none=>false
  | some h=>bif Ij i h then false else match yN at' i h hs with
   | none=>false
   | some l=>Bs (at'+1) r l
/-- As told by the look at each instruction by itself. -/
def wfI(len at':Nat)(i:aD):Prop:=1≤i.f0∧i.f0≤12∧((i.f0=9∨i.f0=10)→(at':Int)<i.f3∧i.f3<len)
theorem NX{at':Nat}{i:aD}{h:Int}{hs l:List Int}(e:yN at' i h hs=some l):l.length=hs.length:=by
 unfold yN at e
 cases h1:decide (i.f0=11)<;>rw[h1]at e
 ·cases h2:decide (i.f0=12)<;>rw[h2]at e
  ·cases h3:decide (i.f0=10)<;>rw[h3]at e
   ·cases h4:decide (i.f0=9)<;>rw[h4]at e
    ·exact mL e
    ·obtain⟨m,m1,m2⟩:=Option.bind_eq_some_iff.1 e
     rw[mL m2,mL m1]
   ·exact mL e
  ·cases e; rfl
 ·cases e; rfl
theorem Qh{α:Type}{o:Option α}(h:o.isSome=true): ∃a,o=some a:=Option.isSome_iff_exists.1 h
def finS:(List Int×Bool)⊕(List Int×Int×Bool)→Option (List Int×Bool)
 | .inl t=>some (t.1,t.2)
 | .inr t=>some (t.1,true)
theorem Pg(n:Nat)(is:List aD)(hl:is.length<4611686018427387904)(hw: ∀(k:Nat) i,is[k]? =some i→wfI is.length k i): ∀(r:List aD) (at':Nat) (hs:List Int) (m:Nat),is.drop at'=r→at'≤is.length→hs.length=is.length→r.length<m→ ∃q,loopN (cF n is) m (hs,(at':Int))=some q∧ ∃l,finS q=some (l,Bs at' r hs):=by
 intro r
 induction r with
 | nil=>
  intro at' hs m hr ha hh hm
  obtain⟨m,rfl⟩: ∃k,m=k+1:=⟨m - 1,by simp at hm; omega⟩
  have:at'=is.length:=by
   have:=congrArg List.length hr
   simp at this; omega
  subst this
  refine⟨.inr (hs,(is.length:Int),false), ?_,hs,rfl⟩
  simp only[loopN,cF,hh,aM,cond_false]
 | cons i r ih=>
  intro at' hs m hr ha hh hm
  obtain⟨m,rfl⟩: ∃k,m=k+1:=⟨m - 1,by simp at hm; omega⟩
  have hi:is[at']? =some i:=by
   have:=congrArg (fun l=>l[0]?) hr
   simpa [List.getElem?_drop]using this
  have hr2:is.drop (at'+1)=r:=by
   have:=congrArg (List.drop 1) hr
   simpa [List.drop_drop]using this
  have hlt:=bI hi
  have hg:hs[at']? =some hs[at']:=List.getElem?_eq_getElem (by omega)
  generalize hs[at']=h at hg
  obtain⟨w1,w2,w3⟩:=hw at' i hi
  obtain⟨g,g1,g2⟩:=Jg n i w1 w2
  have hwr:=aN (show at'<4611686018427387904 by omega)
  have hlen: ∀l:List Int,l.length=is.length→(decide (((at'+1:Nat):Int)<(l.length:Int))=decide (at'+1<is.length)):=fun l hl=>by
   rw[hl]
   by_cases c:at'+1<is.length
   ·rw[decide_eq_true c,decide_eq_true (by omega)]
   ·rw[decide_eq_false c,decide_eq_false (by omega)]
  have hbad:(bif decide (h<pE i)then some true else bif decide ((300:Int)<h)then some true else bif decide (i.f0=(12:Int))then some (!decide (h=(1:Int)))else some false)=some (Ij i h):=by
   unfold Ij
   generalize decide (h=1)=z
   cases decide (h<pE i)<;>cases decide (300<h)<;>cases decide (i.f0=12)<;>rfl
  unfold Bs
  rw[hg]
  simp only[loopN,cF,decide_eq_true (show(at':Int)<(hs.length:Int)by omega),cond_true,bB,hi,hg,Option.bind_some,g1,hbad,hwr,hlen hs hh]
  cases Ij i h with
  | true=>exact⟨_,rfl,hs,rfl⟩
  | false=>
   simp only[cond_false,Bool.not_true]
   have step: ∀(l:List Int),l.length=is.length→yN at' i h hs=some l→ ∃q,loopN (cF n is) m (l,((at'+1:Nat):Int))=some q∧ ∃l',finS q=some (l',(match yN at' i h hs with | none=>false | some l=>Bs (at'+1) r l)):=fun l h1 h2=>by
    rw[h2]
    exact ih (at'+1) l m hr2 (by omega) h1 (by simp at hm; omega)
   have stop:yN at' i h hs=none→ ∀l:List Int, ∃q,(some (Sum.inl (l,false)):Option ((List Int×Bool)⊕(List Int×Int×Bool)))=some q∧ ∃l',finS q=some (l',(match yN at' i h hs with | none=>false | some l=>Bs (at'+1) r l)):=fun h2 l=>by
    rw[h2]
    exact⟨_,rfl,l,rfl⟩
   by_cases e11:i.f0=11
   ·rw[decide_eq_true e11]
    exact step hs hh (by unfold yN; rw[decide_eq_true e11]; rfl)
   rw[decide_eq_false e11]
   by_cases e12:i.f0=12
   ·rw[decide_eq_true e12]
    exact step hs hh (by unfold yN; rw[decide_eq_false e11,decide_eq_true e12]; rfl)
   rw[decide_eq_false e12]
   by_cases e10:i.f0=10
   ·rw[decide_eq_true e10]
    obtain⟨k,hk⟩: ∃k:Nat,i.f3=k:=⟨i.f3.toNat,by omega⟩
    have hn:yN at' i h hs=fN hs k h:=by
     unfold yN; rw[decide_eq_false e11,decide_eq_false e12,decide_eq_true e10,hk,Int.toNat_natCast]; rfl
    obtain⟨l,l1,l2,l3⟩:=wB n hs k h (by omega)
    rw[hk,l1]
    simp only[cond_false,cond_true,Option.bind_some]
    cases hc:fN hs k h with
    | none=>exact stop (by rw[hn,hc]) l
    | some q=>
     have:=l3 q hc
     subst this
     exact step l (by omega) (by rw[hn,hc])
   rw[decide_eq_false e10]
   by_cases e9:i.f0=9
   ·rw[decide_eq_true e9]
    obtain⟨k,hk⟩: ∃k:Nat,i.f3=k:=⟨i.f3.toNat,by omega⟩
    have hw3:=w3 (.inl e9)
    have hn:yN at' i h hs=(fN hs k h).bind fun l=>fN l (at'+1) (IntKind.wrap .i64 (h - 1)):=by
     unfold yN; rw[decide_eq_false e11,decide_eq_false e12,decide_eq_false e10,decide_eq_true e9,hk,Int.toNat_natCast]; rfl
    obtain⟨l,l1,l2,l3⟩:=wB n hs k h (by omega)
    rw[hk,l1]
    simp only[cond_false,cond_true,Option.bind_some]
    cases hc:fN hs k h with
    | none=>exact stop (by rw[hn,hc]; rfl) l
    | some q=>
     have:=l3 q hc
     subst this
     have hl9:decide (((at'+1:Nat):Int)<(l.length:Int))=true:=decide_eq_true (by omega)
     simp only[Option.isSome_some,cond_true,hl9]
     obtain⟨l',p1,p2,p3⟩:=wB n l (at'+1) (IntKind.wrap .i64 (h - 1)) (by omega)
     rw[p1]
     simp only[Option.bind_some]
     cases hd:fN l (at'+1) (IntKind.wrap .i64 (h - 1))with
     | none=>exact stop (by rw[hn,hc]; exact hd) l'
     | some q=>
      have:=p3 q hd
      subst this
      exact step l' (by omega) (by rw[hn,hc]; exact hd)
   rw[decide_eq_false e9]
   have hn:yN at' i h hs=fN hs (at'+1) (up h (pE i)):=by
    unfold yN; rw[decide_eq_false e11,decide_eq_false e12,decide_eq_false e10,decide_eq_false e9]; rfl
   rw[g2 (by omega)]
   simp only[cond_false]
   by_cases hc:at'+1<is.length
   ·rw[decide_eq_true hc]
    obtain⟨l,l1,l2,l3⟩:=wB n hs (at'+1) (up h (pE i)) (by omega)
    have l1:dP n hs ((at'+1:Nat):Int) (IntKind.wrap .i64 (IntKind.wrap .i64 (h - pE i)+1))=_:=l1
    simp only[cond_true,l1,Option.bind_some]
    cases hc:fN hs (at'+1) (up h (pE i))with
    | none=>exact stop (by rw[hn,hc]) l
    | some q=>
     have:=l3 q hc
     subst this
     exact step l (by omega) (by rw[hn,hc])
   ·rw[decide_eq_false hc]
    have:fN hs (at'+1) (up h (pE i))=none:=by
     unfold fN
     rw[List.getElem?_eq_none (by omega)]
    exact stop (by rw[hn,this]) hs
theorem OV(z v:Int): ∀(L i:Nat),i<L→(List.replicate i v++List.replicate (L - i) z).set i v=List.replicate (i+1) v++List.replicate (L - (i+1)) z:=by
 intro L i h
 obtain⟨k,hk⟩: ∃k,L - i=k+1:=⟨L - i - 1,by omega⟩
 have hk2:L - (i+1)=k:=by omega
 rw[hk,hk2,List.replicate_succ,List.set_append_right _ _ (by simp)]
 simp [List.replicate_succ',List.append_assoc]
def start(L:Nat):List Int:=0::List.replicate (L - 1) (-1)
theorem Gt(n:Nat)(hn:n≤1099511627776)(nm:List UInt8)(ar sl:Int)(is:List aD)(h0:0<is.length)(h:is.length<n)(hw: ∀(k:Nat) i,is[k]? =some i→wfI is.length k i): ∃l,gX n nm ar sl is=some (l,Bs 0 is (start is.length)):=by
 unfold gX
 have hc:decide (0≤(is.length:Int)∧(is.length:Int)≤maxLen∧8*(is.length:Int)≤281474976710656)=true:=decide_eq_true ⟨by omega,by simp only[maxLen]; omega,by omega⟩
 obtain⟨k,hk⟩: ∃k,is.length=k+1:=⟨is.length - 1,by omega⟩
 have e1:=iQ (body:=cW n) (fun i=>(0::(List.replicate i (-1)++List.replicate (k - i) 0),((i+1:Nat):Int))) (len:=k) (r:=(start is.length,((k+1:Nat):Int),false)) (fun i hi=>by
  have hx:(0::(List.replicate i (-1)++List.replicate (k - i) 0):List Int).length=k+1:=by simp; omega
  have hg: ∃y,(0::(List.replicate i (-1)++List.replicate (k - i) 0):List Int)[i+1]? =some y:=⟨_,List.getElem?_eq_getElem (by rw[hx]; omega)⟩
  obtain⟨y,hy⟩:=hg
  simp only[cW,hx,decide_eq_true (show((i+1:Nat):Int)<((k+1:Nat):Int)by omega),cond_true,bB,hy,Option.bind_some,Int.toNat_natCast,aN (show i+1<4611686018427387904 by omega),List.set_cons_succ,OV 0 (-1) k i hi]) (by
  have hx:(0::(List.replicate k (-1)++List.replicate (k - k) 0):List Int).length=k+1:=by simp
  simp only[cW,hx,aM,cond_false]
  simp [start,hk]) (n:=n) (by omega)
 have e1:loopN (cW n) n (List.replicate (Int.toNat (is.length:Int)) (0:Int),(1:Int))=some (start is.length,((k+1:Nat):Int),false):=by
  rw[←e1,Int.toNat_natCast,hk]; rfl
 rw[hc,e1]
 simp only[ck,cond_true,Option.bind_some]
 obtain⟨q,q1,l,q2⟩:=Pg n is (by omega) hw is 0 (start is.length) n rfl (by omega) (by simp [start]; omega) h
 have q1:loopN (cF n is) n (start is.length,(0:Int))=some q:=q1
 rw[q1]
 refine⟨l, ?_⟩
 cases q<;>exact q2
end Go.Own.Q
