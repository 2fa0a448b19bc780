/- Lemmas. No conditions. -/
import Derived.Test.YtgeomhdbckjkcaaW22ExprOk3
set_option linter.unusedVariables false
set_option linter.unusedSimpArgs false
set_option linter.unnecessarySimpa false
namespace Go.Own.Q
open Go Go.Proofs
theorem wL{α σ τ ρ κ:Type}{body:σ→Option (σ⊕ρ)}(l:List α)(f:τ→α→τ⊕κ)(enc:τ→Nat→σ)(fin:τ→ρ)(Out:κ→ρ→Prop)(I:Nat→τ→Prop)(hs: ∀(i:Nat) a t,l[i]? =some a→I i t→(∃t',f t a= .inl t'∧I (i+1) t'∧body (enc t i)=some (.inl (enc t' (i+1))))∨(∃q r,f t a= .inr q∧body (enc t i)=some (.inr r)∧Out q r))
  (he: ∀t,I l.length t→body (enc t l.length)=some (.inr (fin t))){n:Nat}(hn:l.length<n){t0:τ}(h0:I 0 t0): ∃r,loopN body n (enc t0 0)=some r∧(match mZ f l t0 with | .inl t=>r=fin t∧I l.length t | .inr q=>Out q r):=by
 have key: ∀(r:List α) (i:Nat) (t:τ) (n:Nat),l.drop i=r→I i t→r.length<n→i≤l.length→ ∃x,loopN body n (enc t i)=some x∧(match mZ f r t with | .inl t=>x=fin t∧I l.length t | .inr q=>Out q x):=by
  intro r
  induction r with
  | nil=>
   intro i t n hr ht hn hi
   obtain⟨m,rfl⟩: ∃m,n=m+1:=⟨n - 1,by simp at hn; omega⟩
   have:i=l.length:=by
    have:=congrArg List.length hr
    simp at this; omega
   subst this
   simp only[loopN,he t ht,mZ]
   exact⟨_,rfl,rfl,ht⟩
  | cons a r ih=>
   intro i t n hr ht hn hi
   obtain⟨m,rfl⟩: ∃m,n=m+1:=⟨n - 1,by simp at hn; omega⟩
   have hil:i<l.length:=by
    have:=congrArg List.length hr
    simp at this; omega
   have ha:l[i]? =some a:=by
    have:=congrArg (·[0]?) hr
    simpa using this
   have hr':l.drop (i+1)=r:=by
    have:=congrArg List.tail hr
    simpa using this
   rcases hs i a t ha ht with⟨t',h1,h2,h3⟩ | ⟨q,x,h1,h3,h4⟩
   ·simp only[loopN,h3,mZ,h1]
    exact ih (i+1) t' m hr' h2 (by simp at hn; omega) (by omega)
   ·simp only[loopN,h3,mZ,h1]
    exact⟨x,rfl,h4⟩
 exact key l 0 t0 n rfl h0 hn (by omega)
/-! what is bound -/
abbrev Mt:=aA→aB→Option (List aG)
def mtL(f:Mt):List aA→List aB→Option (List aG)
 | [],_=>some []
 | x::r,t::ts=>(f x t).bind fun M=>(mtL f r ts).map (M++ ·)
 | _::_,[]=>none
def sG(l:List aB):aB:= .mk 5 0 [] l
def mt:Nat→Mt
 | 0,_,_=>none
 | d+1,p,t=>
  bif decide (p.f0=1)then(bif decide (t.f0=1)&&decide (t.f1=p.f1)then some []else none)
  else bif decide (p.f0=2)then(bif decide (t.f0=2)&&decide (t.f2=p.f2)then some []else none)
  else bif decide (p.f0=3)then some (bif decide (p.f2=[95])then []else [.mk p.f2 t.f0 t.f1 t.f2 t.f3])
  else bif decide (p.f0=4)then(bif decide (t.f0=4)&&decide ((t.f3.length:Int)=(p.f3.length:Int))then mtL (mt d) p.f3 t.f3 else none)
  else bif decide (p.f0=5)then(bif decide (t.f0=5)&&decide ((t.f3.length:Int)=(p.f3.length:Int))then mtL (mt d) p.f3 t.f3 else none)
  else(bif decide (t.f0=5)&& !decide ((t.f3.length:Int)<(p.f3.length:Int) - 1)then(mtL (mt d) (p.f3.take (p.f3.length - 1)) (t.f3.take (p.f3.length - 1))).bind fun M=>match p.f3[p.f3.length - 1]? with
    | some x=>(mt d x (sG (t.f3.drop (p.f3.length - 1)))).map (M++ ·)
    | none=>none
   else none)
theorem Kl(f:Mt): ∀(l:List aA) (ts:List aB),mtL f l (ts.take l.length)=mtL f l ts
 | [],ts=>rfl
 | x::r,[]=>by simp
 | x::r,t::ts=>by simp only[List.length_cons,List.take_succ_cons,mtL,Kl f r ts]
theorem rJ(a:aB):aT a=3+a.f2.length+Ga a.f3:=by cases a; simp only[aT]; rfl
theorem qB{α:Type}(w:α→Nat): ∀(a b:List α),dl w (a++b)+1=dl w a+dl w b
 | [],b=>by simp only[List.nil_append,dl]; omega
 | x::r,b=>by have:=qB w r b; simp only[List.cons_append,dl]; omega
theorem MH{f:Mt}(hf: ∀a t M,f a t=some M→dl mU M≤1+aN a+aT t): ∀(l:List aA) (ts:List aB) (M:List aG),mtL f l ts=some M→dl mU M+1≤dl aN l+dl aT ts
 | [],ts,M,h=>by cases h; have:=aX aT ts; simp only[dl]; omega
 | x::r,[],M,h=>by cases h
 | x::r,t::ts,M,h=>by
  simp only[mtL,Option.bind_eq_some_iff,Option.map_eq_some_iff]at h
  obtain⟨A,h1,B,h2,rfl⟩:=h
  have k1:=hf _ _ _ h1
  have k2:=MH hf r ts B h2
  have k3:=qB mU A B
  simp only[dl]
  omega
theorem Pe: ∀(d:Nat) (a:aA) (t:aB) (M:List aG),mt d a t=some M→dl mU M≤1+aN a+aT t
 | 0,a,t,M,h=>by cases h
 | d+1,a,t,M,h=>by
  have ih:=Pe d
  have hw:=nF a
  have hv:=rJ t
  rw[eO,dH]at hw
  rw[fF]at hv
  unfold mt at h
  have e0: ∀ {c:Bool},(bif c then some ([]:List aG)else none)=some M→dl mU M≤1:=fun {c} h=>by cases c<;>cases h; simp [dl]
  have e1: ∀ {c:Bool},(bif c then mtL (mt d) a.f3 t.f3 else none)=some M→dl mU M≤1+aN a+aT t:=fun {c} h=>by
   cases c with
   | false=>cases h
   | true=>have:=MH ih _ _ _ h; omega
  cases h1:decide (a.f0=1)with
  | true=>rw[h1]at h; have:=e0 h; omega
  | false=>
  cases h2:decide (a.f0=2)with
  | true=>rw[h1,h2]at h; have:=e0 h; omega
  | false=>
  cases h3:decide (a.f0=3)with
  | true=>
   rw[h1,h2,h3]at h
   simp only[cond_false,cond_true,Option.some.injEq]at h
   subst h
   cases decide (a.f2=[95])with
   | true=>simp only[cond_true,dl]; omega
   | false=>
    have e:mU (.mk a.f2 t.f0 t.f1 t.f2 t.f3)=3+a.f2.length+aT (.mk t.f0 t.f1 t.f2 t.f3):=rfl
    rw[aU]at e
    have g:=aX aN a.f3
    have g2:=aX dP a.f4
    simp only[cond_false,dl]
    rw[e]; omega
  | false=>
  cases h4:decide (a.f0=4)with
  | true=>rw[h1,h2,h3,h4]at h; exact e1 h
  | false=>
  cases h5:decide (a.f0=5)with
  | true=>rw[h1,h2,h3,h4,h5]at h; exact e1 h
  | false=>
  rw[h1,h2,h3,h4,h5]at h
  simp only[cond_false]at h
  cases h6:(decide (t.f0=5)&& !decide ((t.f3.length:Int)<(a.f3.length:Int) - 1))with
  | false=>rw[h6]at h; cases h
  | true=>
   rw[h6]at h
   simp only[cond_true,Option.bind_eq_some_iff]at h
   obtain⟨A,k1,k2⟩:=h
   have k3:=MH ih _ _ _ k1
   cases hx:a.f3[a.f3.length - 1]? with
   | none=>rw[hx]at k2; cases k2
   | some x=>
    rw[hx]at k2
    simp only[Option.map_eq_some_iff]at k2
    obtain⟨B,k4,rfl⟩:=k2
    have k5:=ih _ _ _ k4
    have k6:=qB mU A B
    have k7:=qB aT (t.f3.take (a.f3.length - 1)) (t.f3.drop (a.f3.length - 1))
    rw[List.take_append_drop]at k7
    have k8:=mV aN hx
    have k9:=iX aN a.f3 (a.f3.length - 1+1)
    have k10:aT (sG (t.f3.drop (a.f3.length - 1)))=3+dl aT (t.f3.drop (a.f3.length - 1)):=by
     unfold sG; rw[rJ, ←fF]; rfl
    have g2:=aX dP a.f4
    omega
end Go.Own.Q
