/- Loops over lists and small things, in plain Lean. No conditions. -/
import Derived.Test.YtjfgchodolnmcaaGreatW25W
set_option linter.unusedVariables false
set_option linter.unusedSimpArgs false
set_option linter.unnecessarySimpa false
namespace Go.Own.Q
open Go Go.Proofs
theorem Cm{σ ρ:Type}{body:σ→Option (σ⊕ρ)}(st:Nat→σ){len:Nat}{r:ρ}(hs: ∀i,i<len→body (st i)=some (.inl (st (i+1))))(he:body (st len)=some (.inr r)){n:Nat}(hn:len<n):loopN body n (st 0)=some r:=by
 have key: ∀k i,i+k=len→ ∀n,k<n→loopN body n (st i)=some r:=by
  intro k; induction k with
  | zero=>
   intro i hi n hn; obtain⟨m,rfl⟩: ∃m,n=m+1:=⟨n - 1,by omega⟩
   have:i=len:=by omega
   subst this; simp only[loopN,he]
  | succ k ih=>
   intro i hi n hn; obtain⟨m,rfl⟩: ∃m,n=m+1:=⟨n - 1,by omega⟩
   simp only[loopN,hs i (by omega)]
   exact ih (i+1) (by omega) m (by omega)
 exact key len 0 (by omega) n hn

def Df{α σ ρ:Type}(f:σ→α→σ⊕ρ):List α→σ→σ⊕ρ
 | [],s=> .inl s
 | a::r,s=>match f s a with
  | .inl s'=>Df f r s'
  | .inr q=> .inr q
theorem JJ{α σ τ ρ κ:Type}{body:σ→Option (σ⊕ρ)}(l:List α)(f:τ→α→τ⊕κ)(enc:τ→Nat→σ)(fin:τ→ρ)(out:κ→ρ)(I:τ→Prop)(hs: ∀(i:Nat) a t,l[i]? =some a→I t→(∃t',f t a= .inl t'∧I t'∧body (enc t i)=some (.inl (enc t' (i+1))))∨(∃q,f t a= .inr q∧body (enc t i)=some (.inr (out q))))
  (he: ∀t,I t→body (enc t l.length)=some (.inr (fin t))){n:Nat}(hn:l.length<n){t0:τ}(h0:I t0):loopN body n (enc t0 0)=some (match Df f l t0 with | .inl t=>fin t | .inr q=>out q):=by
 have key: ∀(r:List α) (i:Nat) (t:τ) (n:Nat),l.drop i=r→I t→r.length<n→i≤l.length→loopN body n (enc t i)=some (match Df f r t with | .inl t=>fin t | .inr q=>out q):=by
  intro r; induction r with
  | nil=>
   intro i t n hr ht hn hi; obtain⟨m,rfl⟩: ∃m,n=m+1:=⟨n - 1,by simp at hn; omega⟩
   have:i=l.length:=by
    have:=congrArg List.length hr; simp at this; omega
   subst this; simp only[loopN,he t ht,Df]
  | cons a r ih=>
   intro i t n hr ht hn hi; obtain⟨m,rfl⟩: ∃m,n=m+1:=⟨n - 1,by simp at hn; omega⟩
   have hil:i<l.length:=by
    have:=congrArg List.length hr; simp at this; omega
   have ha:l[i]? =some a:=by
    have:=congrArg (·[0]?) hr
    simpa using this
   have hr':l.drop (i+1)=r:=by
    have:=congrArg List.tail hr; simpa using this
   rcases hs i a t ha ht with⟨t',h1,h2,h3⟩ | ⟨q,h1,h3⟩
   ·simp only[loopN,h3,Df,h1]
    exact ih (i+1) t' m hr' h2 (by simp at hn; omega) (by omega)
   ·simp only[loopN,h3,Df,h1]
 exact key l 0 t0 n rfl h0 hn (by omega)

theorem bP{α:Type}(l:List α)(i:Nat):ix l (i:Int)=l[i]? :=by
 unfold ix; rw[z19 (by omega)]
 simp
theorem HN(s:List UInt8)(i:Nat):ixs s (i:Int)=(s[i]?).map fun b=>(b.toNat:Int):=by
 unfold ixs; rw[z19 (by omega)]
 simp
theorem aP{i:Nat}(h:i<4611686018427387904):IntKind.wrap .i64 ((i:Int)+1)=((i+1:Nat):Int):=by
 rw[wrap_i64 (by omega) (by omega)]; omega
theorem tL{α:Type}{l:List α}{i:Nat}{a:α}(h:l[i]? =some a):l.take i++[a]=l.take (i+1):=by
 rw[List.take_add_one,h]; rfl
theorem qP{α:Type}{b:Nat}{l1 l2:List α}(h:(l1.length+l2.length)*b≤140737488355328)(h2:l1.length+l2.length≤maxLen):dF b l1 l2=some (l1++l2):=by
 unfold dF; rw[z19 ⟨h2,h⟩]
theorem bK{α:Type}{l:List α}{i:Nat}{a:α}(h:l[i]? =some a):i<l.length:=(Xr.1 h).1
theorem bW{α:Type}{l:List α}{i:Nat}{a:α}(h:l[i]? =some a):decide ((i:Int)<(l.length:Int))=true:=by
 have:=bK h; exact z13 (by omega)
theorem aN{k:Nat}:decide ((k:Int)<(k:Int))=false:=z9 (by omega)
theorem Cs{α:Type}(c:Bool)(a b:α):(bif c then some a else some b)=some (bif c then a else b):=by cases c<;>rfl
def GY{α:Type}(z:α→Nat):List α→Nat
 | []=>0
 | a::r=>z a+GY z r
def dl{α:Type}(d:α→Nat):List α→Nat
 | []=>1
 | a::r=>1+d a+dl d r
theorem dE{α:Type}(d:α→Nat){a:α}: ∀ {l:List α},a∈l→d a<dl d l
 | b::r,h=>by
  cases h with
  | head=>simp only[dl]; omega
  | tail _ h=>have:=dE d h; simp only[dl]; omega
theorem bO{α:Type}(d:α→Nat): ∀l:List α,l.length<dl d l
 | []=>by simp [dl]
 | b::r=>by have:=bO d r; simp only[dl,z51]; omega
theorem HJ{α:Type}{body:Int→Option (Int⊕(Bool⊕(Int×Bool)))}(l:List α)(ok:α→Bool)(hs: ∀(i:Nat) a,l[i]? =some a→body (i:Int)=some (if ok a then .inl ((i+1:Nat):Int)else .inr (.inl false)))(he:body (l.length:Int)=some (.inr (.inr ((l.length:Int),false)))){n:Nat}(hn:l.length<n):loopN body n (0:Int)=some (if l.all ok then .inr ((l.length:Int),false)else .inl false):=by
 have h:=JJ (body:=body) l (fun(_:Unit) a=>if ok a then .inl ()else .inr ()) (fun _ i=>(i:Int)) (fun _=> .inr ((l.length:Int),false)) (fun _=> .inl false) (fun _=>True) (fun i a t ha _=>by
  by_cases c:ok a=true
  ·left; exact⟨(),z19 c,trivial,by rw[hs i a ha,z19 c]⟩
  ·right; exact⟨(),z14 c,by rw[hs i a ha,z14 c]⟩) (fun _ _=>he) hn (t0:=()) trivial
 have key: ∀l:List α,Df (fun(_:Unit) a=>if ok a then Sum.inl ()else Sum.inr ()) l ()=if l.all ok then .inl ()else .inr ():=by
  intro l; induction l with
  | nil=>rfl
  | cons a r ih=>
   simp only[Df,z95]; by_cases c:ok a=true
   ·rw[z19 c]; simp only[ih,c,z32]
   ·rw[z14 c]; simp [c]
 refine h.trans ?_
 rw[key l]; by_cases c:l.all ok=true
 ·rw[z19 c,z19 c]
 ·rw[z14 c,z14 c]
theorem NJ{α σ τ ρ κ:Type}{body:σ→Option (σ⊕ρ)}(l:List α)(f:τ→α→τ⊕κ)(enc:τ→Nat→σ)(fin:τ→ρ)(Out:κ→ρ→Prop)(I:τ→Prop)(hs: ∀(i:Nat) a t,l[i]? =some a→I t→(∃t',f t a= .inl t'∧I t'∧body (enc t i)=some (.inl (enc t' (i+1))))∨(∃q r,f t a= .inr q∧body (enc t i)=some (.inr r)∧Out q r))
  (he: ∀t,I t→body (enc t l.length)=some (.inr (fin t))){n:Nat}(hn:l.length<n){t0:τ}(h0:I t0): ∃r,loopN body n (enc t0 0)=some r∧(match Df f l t0 with | .inl t=>r=fin t | .inr q=>Out q r):=by
 have key: ∀(r:List α) (i:Nat) (t:τ) (n:Nat),l.drop i=r→I t→r.length<n→i≤l.length→ ∃x,loopN body n (enc t i)=some x∧(match Df f r t with | .inl t=>x=fin t | .inr q=>Out q x):=by
  intro r; induction r with
  | nil=>
   intro i t n hr ht hn hi; obtain⟨m,rfl⟩: ∃m,n=m+1:=⟨n - 1,by simp at hn; omega⟩
   have:i=l.length:=by
    have:=congrArg List.length hr; simp at this; omega
   subst this; simp only[loopN,he t ht,Df]; exact⟨_,rfl,rfl⟩
  | cons a r ih=>
   intro i t n hr ht hn hi; obtain⟨m,rfl⟩: ∃m,n=m+1:=⟨n - 1,by simp at hn; omega⟩
   have hil:i<l.length:=by
    have:=congrArg List.length hr; simp at this; omega
   have ha:l[i]? =some a:=by
    have:=congrArg (·[0]?) hr
    simpa using this
   have hr':l.drop (i+1)=r:=by
    have:=congrArg List.tail hr; simpa using this
   rcases hs i a t ha ht with⟨t',h1,h2,h3⟩ | ⟨q,x,h1,h3,h4⟩
   ·simp only[loopN,h3,Df,h1]
    exact ih (i+1) t' m hr' h2 (by simp at hn; omega) (by omega)
   ·simp only[loopN,h3,Df,h1]
    exact⟨x,rfl,h4⟩
 exact key l 0 t0 n rfl h0 hn (by omega)
def tZ{α:Type}(ok:Nat→α→Bool):Nat→List α→Bool
 | _,[]=>true
 | i,a::r=>ok i a&&tZ ok (i+1) r
theorem uE{α:Type}{body:Int→Option (Int⊕(Bool⊕(Int×Bool)))}(l:List α)(ok:Nat→α→Bool)(hs: ∀(i:Nat) a,l[i]? =some a→body (i:Int)=some (if ok i a then .inl ((i+1:Nat):Int)else .inr (.inl false)))(he:body (l.length:Int)=some (.inr (.inr ((l.length:Int),false)))){n:Nat}(hn:l.length<n):loopN body n (0:Int)=some (if tZ ok 0 l then .inr ((l.length:Int),false)else .inl false):=by
 have key: ∀(r:List α) (i n:Nat),l.drop i=r→r.length<n→i≤l.length→loopN body n (i:Int)=some (if tZ ok i r then .inr ((l.length:Int),false)else .inl false):=by
  intro r; induction r with
  | nil=>
   intro i n hr hn hi; obtain⟨m,rfl⟩: ∃m,n=m+1:=⟨n - 1,by simp at hn; omega⟩
   have:i=l.length:=by
    have:=congrArg List.length hr; simp at this; omega
   subst this; simp only[loopN,he,tZ,if_true]
  | cons a r ih=>
   intro i n hr hn hi; obtain⟨m,rfl⟩: ∃m,n=m+1:=⟨n - 1,by simp at hn; omega⟩
   have hil:i<l.length:=by
    have:=congrArg List.length hr; simp at this; omega
   have ha:l[i]? =some a:=by
    have:=congrArg (·[0]?) hr
    simpa using this
   have hr':l.drop (i+1)=r:=by
    have:=congrArg List.tail hr; simpa using this
   by_cases c:ok i a=true
   ·simp only[loopN,hs i a ha,z19 c,tZ,c,z32]
    exact ih (i+1) m hr' (by simp at hn; omega) (by omega)
   ·simp only[loopN,hs i a ha,z14 c,tZ]
    simp [c]
 exact key l 0 n rfl hn (by omega)
def KU{α:Type}(p:α→Bool):Nat→List α→Int
 | _,[]=> -1
 | i,a::r=>bif p a then(i:Int)else KU p (i+1) r
theorem uG{α:Type}(p:α→Bool): ∀(l:List α) (i:Nat),(KU p i l= -1∧ ∀a∈l,p a=false)∨ ∃k a,KU p i l=((i+k:Nat):Int)∧l[k]? =some a∧p a=true∧ ∀(j:Nat) b,j<k→l[j]? =some b→p b=false
 | [],i=> .inl ⟨rfl,by simp⟩
 | a::r,i=>by
  unfold KU; cases h:p a with
  | true=>exact .inr ⟨0,a,rfl,rfl,h,fun j b hj=>by omega⟩
  | false=>
   rw[z11]; rcases uG p r (i+1)with⟨h1,h2⟩ | ⟨k,b,h1,h2,h3,h4⟩
   ·exact .inl ⟨h1,fun b hb=>by
     rcases Qg.1 hb with rfl | hb
     ·exact h
     ·exact h2 b hb⟩
   ·refine .inr ⟨k+1,b,by rw[h1]; omega,h2,h3,fun j c hj hc=> ?_⟩
    cases j with
    | zero=>simp only[z24,z10]at hc; subst hc; exact h
    | succ j=>exact h4 j c (by omega) hc
theorem AX{α σ ρ:Type}{body:σ→Option (σ⊕ρ)}(l:List α)(p:α→Bool)(enc:Nat→σ)(out:Nat→ρ)(fin:ρ)(hs: ∀(i:Nat) a,l[i]? =some a→body (enc i)=some (bif p a then .inr (out i)else .inl (enc (i+1))))(he:body (enc l.length)=some (.inr fin)){n:Nat}(hn:l.length<n):
  loopN body n (enc 0)=some (bif decide (KU p 0 l<0)then fin else out (KU p 0 l).toNat):=by
 have key: ∀(r:List α) (i n:Nat),l.drop i=r→r.length<n→i≤l.length→loopN body n (enc i)=some (bif decide (KU p i r<0)then fin else out (KU p i r).toNat):=by
  intro r; induction r with
  | nil=>
   intro i n hr hn hi; obtain⟨m,rfl⟩: ∃m,n=m+1:=⟨n - 1,by simp at hn; omega⟩
   have:i=l.length:=by
    have:=congrArg List.length hr; simp at this; omega
   subst this; simp only[loopN,he]; rfl
  | cons a r ih=>
   intro i n hr hn hi; obtain⟨m,rfl⟩: ∃m,n=m+1:=⟨n - 1,by simp at hn; omega⟩
   have hil:i<l.length:=by
    have:=congrArg List.length hr; simp at this; omega
   have ha:l[i]? =some a:=by
    have:=congrArg (·[0]?) hr
    simpa using this
   have hr':l.drop (i+1)=r:=by
    have:=congrArg List.tail hr; simpa using this
   have hf:KU p i (a::r)=bif p a then(i:Int)else KU p (i+1) r:=rfl
   rw[hf]; cases h:p a with
   | true=>
    simp only[loopN,hs i a ha,h,z15]; rw[z9 (by omega),z11,z35]
   | false=>
    simp only[loopN,hs i a ha,h,z11]; exact ih (i+1) m hr' (by simp at hn; omega) (by omega)
 exact key l 0 n rfl hn (by omega)
def Jq(bad:Nat→Bool):Nat→Nat→Bool
 | _,0=>false
 | s,k+1=>bad s||Jq bad (s+1) k
theorem Jf(bad:Nat→Bool): ∀(k s:Nat),Jq bad s k=true↔ ∃i,s≤i∧i<s+k∧bad i=true
 | 0,s=>by simp only[Jq]; exact⟨nofun,fun⟨i,h1,h2,_⟩=>by omega⟩
 | k+1,s=>by
  simp only[Jq,z47,Jf bad k (s+1)]; constructor
  ·rintro (h | ⟨i,h1,h2,h3⟩)
   ·exact⟨s,by omega,by omega,h⟩
   ·exact⟨i,by omega,by omega,h3⟩
  ·rintro ⟨i,h1,h2,h3⟩
   by_cases e:i=s
   ·subst e; exact .inl h3
   ·exact .inr ⟨i,by omega,by omega,h3⟩
theorem PE{σ ρ:Type}{body:σ→Option (σ⊕ρ)}(enc:Nat→σ)(bad:Nat→Bool)(out fin:ρ){len:Nat}: ∀(k s:Nat),s+k=len→(∀i,s≤i→i<len→body (enc i)=some (bif bad i then .inr out else .inl (enc (i+1))))→body (enc len)=some (.inr fin)→ ∀ {n:Nat},k<n→loopN body n (enc s)=some (bif Jq bad s k then out else fin)
 | 0,s,hk,hs,he,n,hn=>by
  obtain⟨m,rfl⟩: ∃m,n=m+1:=⟨n - 1,by omega⟩
  obtain rfl:s=len:=by omega
  simp only[loopN,he]; rfl
 | k+1,s,hk,hs,he,n,hn=>by
  obtain⟨m,rfl⟩: ∃m,n=m+1:=⟨n - 1,by omega⟩
  simp only[Jq]; cases h:bad s with
  | true=>simp only[loopN,hs s (by omega) (by omega),h,z15]; rfl
  | false=>
   simp only[loopN,hs s (by omega) (by omega),h,z11,z40]
   exact PE enc bad out fin k (s+1) (by omega) (fun i h1 h2=>hs i (by omega) h2) he (by omega)
theorem Iq{i:Nat}(h:i<4611686018427387904):IntKind.wrap .i64 (((i+1:Nat):Int) - 1)=(i:Int):=by
 rw[wrap_i64 (by omega) (by omega)]; omega
theorem oV{α:Type}(ok:Nat→α→Bool): ∀(l:List α) (i:Nat),tZ ok i l=true↔ ∀(j:Nat) a,l[j]? =some a→ok (i+j) a=true
 | [],i=>by simp [tZ]
 | a::r,i=>by
  simp only[tZ,z7,oV ok r (i+1)]; constructor
  ·rintro ⟨h1,h2⟩ j b hb
   cases j with
   | zero=>simp only[z24,z10]at hb; subst hb; exact h1
   | succ j=>have:=h2 j b hb; rwa[show i+1+j=i+(j+1)by omega]at this
  ·intro h
   refine⟨h 0 a rfl,fun j b hb=> ?_⟩
   have:=h (j+1) b hb; rwa[show i+(j+1)=i+1+j by omega]at this
mutual
def bR:aB→Nat
 | .mk _ _ s l c=>3+s.length+BL l+uA c
def BL:List aB→Nat
 | []=>1
 | x::r=>1+bR x+BL r
def uA:List aC→Nat
 | []=>1
 | x::r=>1+cS x+uA r
def cS:aC→Nat
 | .two p x=>3+bR p+bR x
end
theorem Gx(a:aB):bR a=3+a.f2.length+BL a.f3+uA a.f4:=by cases a; simp only[bR]; rfl
theorem Dy(a:aC):cS a=3+bR a.p+bR a.x:=by obtain⟨p,x⟩:=a; simp only[cS]; rfl
theorem tB: ∀l,BL l=dl bR l
 | []=>rfl
 | x::r=>by simp only[BL,dl,tB r]
theorem rM: ∀l:List aC,uA l=dl cS l
 | []=>rfl
 | x::r=>by
  have e:=rM r; have e1:uA (x::r)=1+cS x+uA r:=by simp only[uA]
  rw[e1,e]; rfl
def iP:aE→Nat
 | .mk a0 a1 a2 a3=>4+a2.length
def wFn:aD→Nat
 | .mk a0 a1 a2 a3=>3+a0.length+dl iP a3
mutual
def cB:aA→Nat
 | .mk _ _ s l=>3+s.length+Ds l
def Ds:List aA→Nat
 | []=>1
 | x::r=>1+cB x+Ds r
end
theorem Ch: ∀l,Ds l=dl cB l
 | []=>rfl
 | x::r=>by simp only[Ds,dl,Ch r]
theorem pI(n:Nat)(x a b:Int):aW n x a b=some (decide (a≤x)&&decide (x≤b)):=by
 unfold aW; cases decide (a≤x)<;>rfl
theorem iR(n:Nat)(x a b:Int):aS n x a b=some (decide (a≤x)&&decide (x≤b)):=by
 unfold aS; cases decide (a≤x)<;>rfl
theorem Gm(n:Nat)(x:Int):iM n x=some (decide (97≤x)&&decide (x≤122)):=by
 unfold iM; cases decide (97≤x)<;>rfl
theorem Eb(n:Nat)(x:Int):gL n x=some (decide (48≤x)&&decide (x≤57)):=by
 unfold gL; cases decide (48≤x)<;>rfl
def rK(c:Int):Bool:=decide (97≤c)&&decide (c≤122)
def In(c:Int):Bool:=decide (48≤c)&&decide (c≤57)
def Jp(i:Nat)(c:UInt8):Bool:=rK c.toNat||(!decide (i=0)&&(In c.toNat||decide ((c.toNat:Int)=95)))
def Ce(s:List UInt8):Bool:=tZ Jp 0 s&&(decide (1≤(s.length:Int))&&decide ((s.length:Int)≤20))
theorem Gw(c:UInt8):IntKind.wrap .i64 ((c.toNat:Nat):Int)=c.toNat:=by
 have:=c.toNat_lt; exact wrap_i64 (by omega) (by omega)
theorem OT(i:Nat):decide ((i:Int)=0)=decide (i=0):=by
 by_cases h:i=0<;>simp [h]
theorem Fn(n:Nat)(s:List UInt8)(h:s.length<n)(hn:s.length<4611686018427387904):nY n s=some (Ce s):=by
 unfold nY; rw[uE s Jp (fun i c hc=>by
  have hi:=bK hc; simp only[mX,bW hc,z15,HN,hc,z36,z8,pI,Gw,aP (show i<4611686018427387904 by omega),OT]
  unfold Jp rK In; cases decide (97≤(c.toNat:Int))<;>cases decide ((c.toNat:Int)≤122)<;>cases decide (i=0)<;>cases decide (48≤(c.toNat:Int))<;>cases decide ((c.toNat:Int)≤57)<;>cases decide ((c.toNat:Int)=95)<;>rfl) (by simp only[mX,aN,z11]) h]
 unfold Ce; by_cases c:tZ Jp 0 s=true
 ·rw[z19 c,c]; simp only[z8,pI,z32]
 ·rw[z14 c]; simp only[z93]at c; rw[c]; rfl
theorem Fr(n:Nat)(s:List UInt8)(h:s.length<n)(hn:s.length<4611686018427387904):nZ n s=some (Ce s):=by
 unfold nZ; rw[uE s Jp (fun i c hc=>by
  have hi:=bK hc; simp only[mY,bW hc,z15,HN,hc,z36,z8,Gm,Eb,aP (show i<4611686018427387904 by omega),OT]
  unfold Jp rK In; cases decide (97≤(c.toNat:Int))<;>cases decide ((c.toNat:Int)≤122)<;>cases decide (i=0)<;>cases decide (48≤(c.toNat:Int))<;>cases decide ((c.toNat:Int)≤57)<;>cases decide ((c.toNat:Int)=95)<;>rfl) (by simp only[mY,aN,z11]) h]
 unfold Ce; by_cases c:tZ Jp 0 s=true
 ·rw[z19 c,c]; simp only[z8,iR,z32]
 ·rw[z14 c]; simp only[z93]at c; rw[c]; rfl
def pA(c:Int):Bool:=(decide (65≤c)&&decide (c≤90))||decide (c=95)
theorem Gn(n:Nat)(x:Int):kH n x=some (pA x):=by
 unfold kH pA; cases decide (65≤x)<;>cases decide (x≤90)<;>rfl
theorem NQ(n:Nat)(c:UInt8):mG n (c.toNat:Int)=some (pA c.toNat):=by
 unfold mG pA; rw[Gw,pI]; cases decide (65≤(c.toNat:Int))<;>cases decide ((c.toNat:Int)≤90)<;>rfl
theorem NP(n:Nat)(c:UInt8):mF n (c.toNat:Int)=some (rK c.toNat):=by
 unfold mF rK; rw[Gw,pI]; rfl
theorem NR(n:Nat)(c:UInt8):mH n (c.toNat:Int)=some (In c.toNat):=by
 unfold mH In; rw[Gw,pI]; rfl
theorem La(n:Nat)(x:Int):iM n x=some (rK x):=Gm n x
theorem QP(n:Nat)(x:Int):gL n x=some (In x):=Eb n x
def zD(c:UInt8):Bool:=rK c.toNat||(pA c.toNat||In c.toNat)
theorem Ht(n:Nat)(x:Int):jA n x=some (rK x||(pA x||In x)):=by
 unfold jA; rw[La,Gn,QP]; cases rK x<;>cases pA x<;>cases In x<;>rfl
def Nz(i:Nat)(c:UInt8):Bool:=pA c.toNat||(!decide (i=0)&&(rK c.toNat||In c.toNat))
def Ji(s:List UInt8):Bool:=tZ Nz 0 s&&(decide (1≤(s.length:Int))&&decide ((s.length:Int)≤20))
theorem Hs(n:Nat)(s:List UInt8)(h:s.length<n)(hn:s.length<4611686018427387904):mE n s=some (Ji s):=by
 unfold mE; rw[uE s Nz (fun i c hc=>by
  have hi:=bK hc; simp only[lP,bW hc,z15,HN,hc,z36,z8,NQ,NP,NR,aP (show i<4611686018427387904 by omega),OT]
  unfold Nz; cases pA (c.toNat:Int)<;>cases decide (i=0)<;>cases rK (c.toNat:Int)<;>cases In (c.toNat:Int)<;>rfl) (by simp only[lP,aN,z11]) h]
 unfold Ji; by_cases c:tZ Nz 0 s=true
 ·rw[z19 c,c]; simp only[z8,pI,z32]
 ·rw[z14 c]; simp only[z93]at c; rw[c]; rfl
theorem Jh: ∀(r:List UInt8) (i:Nat),0<i→tZ Nz i r=r.all zD
 | [],i,h=>rfl
 | c::r,i,h=>by
  have e:Nz i c=zD c:=by
   unfold Nz zD; rw[z9 (by omega)]
   cases pA (c.toNat:Int)<;>cases rK (c.toNat:Int)<;>cases In (c.toNat:Int)<;>rfl
  simp only[tZ,z95,Jh r (i+1) (by omega),e]
theorem Hv(n:Nat)(s:List UInt8)(h:s.length<n)(hn:s.length<4611686018427387904):pS n s=some (Ji s):=by
 unfold pS; rw[HJ s zD (fun i c hc=>by
  have hi:=bK hc; simp only[oH,bW hc,z15,HN,hc,z36,z8,Ht,aP (show i<4611686018427387904 by omega)]
  unfold zD; cases rK (c.toNat:Int)<;>cases pA (c.toNat:Int)<;>cases In (c.toNat:Int)<;>rfl) (by simp only[oH,aN,z11]) h]
 unfold Ji; cases s with
 | nil=>rfl
 | cons c r=>
  have e:tZ Nz 0 (c::r)=(pA c.toNat&&r.all zD):=by
   simp only[tZ,z28,Jh r 1 (by omega)]
   unfold Nz; rw[z13 rfl]; cases pA (c.toNat:Int)<;>rfl
  have e2:(c::r).all zD=(zD c&&r.all zD):=z95; have i0:ixs (c::r) (0:Int)=some (c.toNat:Int):=rfl; have hw:pA c.toNat=true→zD c=true:=fun h=>by unfold zD; rw[h]; cases rK (c.toNat:Int)<;>rfl
  rw[e,e2]; generalize r.all zD=q; by_cases hq:(zD c&&q)=true
  ·rw[z19 hq]
   simp only[z8,iR,i0,Gn]; have hq2:q=true:=by cases q with | true=>rfl | false=>simp at hq
   subst hq2; cases decide (1≤((c::r).length:Int))<;>cases decide (((c::r).length:Int)≤20)<;>cases pA (c.toNat:Int)<;>rfl
  ·rw[z14 hq]
   cases hl:pA (c.toNat:Int)with
   | false=>rfl
   | true=>
    rw[hw hl]at hq; cases q with
    | true=>simp at hq
    | false=>rfl
def gR(s:List UInt8):Bool:=Ce s&&(!decide (s=[99,97,115,101])&&(!decide (s=[111,102])&& !decide (s=[101,110,100])))
theorem BV(n:Nat)(s:List UInt8)(h:s.length<n)(hn:s.length<4611686018427387904):fD n s=some (gR s):=by
 unfold fD gR; rw[Fr n s h hn,z8]; generalize decide (s=[99,97,115,101])=a; generalize decide (s=[111,102])=b; generalize decide (s=[101,110,100])=c; cases Ce s<;>cases a<;>cases b<;>cases c<;>rfl
theorem AZ(n:Nat)(s:List UInt8)(h:s.length<n)(hn:s.length<4611686018427387904):eZ n s=some (gR s):=by
 unfold eZ gR lO; rw[Fn n s h hn,z8]; generalize decide (s=[99,97,115,101])=a; generalize decide (s=[111,102])=b; generalize decide (s=[101,110,100])=c; cases Ce s<;>cases a<;>cases b<;>cases c<;>rfl
def Mr(s:List UInt8):Bool:=decide (s=[43])||(decide (s=[45])||(decide (s=[42])||(decide (s=[61,61])||decide (s=[60]))))
theorem PM(n:Nat)(s:List UInt8):oX n s=some (Mr s):=by
 unfold oX Mr; generalize decide (s=[43])=a; generalize decide (s=[45])=b; generalize decide (s=[42])=c; generalize decide (s=[61,61])=d; generalize decide (s=[60])=e; cases a<;>cases b<;>cases c<;>cases d<;>cases e<;>rfl
theorem PK(n:Nat)(s:List UInt8):oW n s=some (Mr s):=by
 unfold oW Mr; generalize decide (s=[43])=a; generalize decide (s=[45])=b; generalize decide (s=[42])=c; generalize decide (s=[61,61])=d; generalize decide (s=[60])=e; cases a<;>cases b<;>cases c<;>cases d<;>cases e<;>rfl

def Vt(l:List (List UInt8)):Bool:=tZ (fun i a=> !(decide (a∈l.take i))) 0 l
theorem TA{α:Type}{l:List α}{i:Nat}(h:i≤l.length):sub l none (some (i:Int))=some (l.take i):=by
 unfold sub bnd; rw[z19 ⟨by simp,by simp only[Option.getD_none,z69]; omega,by simp only[z69]; omega⟩]
 simp
theorem MT(n:Nat)(l:List (List UInt8))(s:List UInt8)(hn:l.length<n)(h2:n<4611686018427387904):gY n l s=some (decide (s∈l)):=by
 unfold gY; have e:=AX (body:=lA n l s) l (fun a=>decide (a=s)) (fun i=>(i:Int)) (fun i=>Sum.inl true) (Sum.inr ((l.length:Int),false)) (fun i a ha=>by
  have hi:=bK ha; simp only[lA,bW ha,z15,bP,ha,z8,aP (show i<4611686018427387904 by omega)]
  cases decide (a=s)<;>rfl) (by simp only[lA,aN,z11]) hn
 refine(congrArg (fun q=>Option.bind q _) e).trans ?_
 rcases uG (fun a=>decide (a=s)) l 0 with⟨h,h1⟩ | ⟨k,a,h,h1,h3,_⟩
 ·rw[h,z13 (show(-1:Int)<0 by omega),z9 (show ¬ s∈l from fun hm=>by have:=h1 s hm; simp at this)]; rfl
 ·simp only[z23]at h3
  subst h3; rw[h,z9 (by omega),z13 (z20 h1)]
  rfl
theorem QK(n:Nat)(l:List (List UInt8))(hn:l.length<n)(h2:n<4611686018427387904):nX n l=some (Vt l):=by
 unfold nX; rw[uE l (fun i a=> !(decide (a∈l.take i))) (fun i a ha=>by
  have hi:=bK ha; simp only[mR,bW ha,z15,bP,ha,z8,aP (show i<4611686018427387904 by omega),TA (show i≤l.length by omega),MT n (l.take i) a (by rw[z64]; omega) h2]
  cases decide (a∈l.take i)<;>rfl) (by simp only[mR,aN,z11]) hn]
 unfold Vt; cases tZ (fun i a=> !(decide (a∈l.take i))) 0 l<;>rfl

def KP(k m:Int)(s:List UInt8)(ne:Int):Bool:=
 bif decide (k=1)then(decide (0≤m)&&decide (m≤1000000000000))&&(decide (s=[])&&decide (ne=0))
 else bif decide (k=2)then decide (m=0)&&(gR s&&decide (ne=0))
 else bif decide (k=3)then decide (m=0)&&(Ji s&&decide (ne=0))
 else bif decide (k=4)then decide (m=0)&&(decide (s=[])&&decide (ne≤20))
 else bif decide (k=5)then decide (m=0)&&(decide (s=[])&&decide (ne≤20))
 else bif decide (k=6)then decide (m=0)&&(decide (s=[])&&(decide (2≤ne)&&decide (ne≤6)))
 else bif decide (k=7)then decide (m=0)&&(Mr s&&decide (ne=2))
 else bif decide (k=8)then decide (m=0)&&(gR s&&decide (ne≤4))
 else bif decide (k=9)then decide (m=0)&&(decide (s=[])&&decide (ne=1))
 else false
theorem NC(n:Nat)(k m:Int)(s:List UInt8)(ne:Int)(h:s.length<n)(hn:s.length<4611686018427387904):mK n k m s ne=some (KP k m s ne):=by
 unfold mK KP; rw[BV n s h hn,Hv n s h hn,PM n s]; simp only[iR,z8]; cases decide (k=1)with
 | true=>cases decide (0≤m)<;>cases decide (m≤1000000000000)<;>cases decide (s=[])<;>rfl
 | false=>
 cases decide (k=2)with
 | true=>cases decide (m=0)<;>cases gR s<;>rfl
 | false=>
 cases decide (k=3)with
 | true=>cases decide (m=0)<;>cases Ji s<;>rfl
 | false=>
 cases decide (k=4)with
 | true=>cases decide (m=0)<;>cases decide (s=[])<;>rfl
 | false=>
 cases decide (k=5)with
 | true=>cases decide (m=0)<;>cases decide (s=[])<;>rfl
 | false=>
 cases decide (k=6)with
 | true=>cases decide (m=0)<;>cases decide (s=[])<;>rfl
 | false=>
 cases decide (k=7)with
 | true=>cases decide (m=0)<;>cases Mr s<;>rfl
 | false=>
 cases decide (k=8)with
 | true=>cases decide (m=0)<;>cases gR s<;>rfl
 | false=>
 cases decide (k=9)with
 | true=>cases decide (m=0)<;>cases decide (s=[])<;>rfl
 | false=>rfl
def tk(b:Bool)(c:Nat)(t:Int):Int:=bif b&&decide ((c:Int)≤t)then t - c else -1
theorem Sz(b:Bool)(c:Nat){t:Int}(h:t<c):tk b c t= -1:=by
 unfold tk; rw[z9 (by omega),z68]; rfl
theorem Tp(b:Bool)(c:Nat)(t:Int)(h: -1≤t): -1≤tk b c t∧tk b c t≤t:=by
 unfold tk; by_cases q:(b&&decide ((c:Int)≤t))=true
 ·rw[q]
  simp only[z7,z23]at q; simp only[z15]; omega
 ·rw[z93]at q; rw[q]; simp only[z11]; omega
def OA{α:Type}(ok:α→Bool)(c:α→Nat):List α→Int→Int
 | [],t=>t
 | a::r,t=>bif decide (0≤t)then OA ok c r (tk (ok a) (c a) t)else t
theorem HW{α:Type}(ok:α→Bool)(c:α→Nat): ∀(l:List α) {t:Int},t<0→OA ok c l t=t
 | [],t,h=>rfl
 | a::r,t,h=>by unfold OA; rw[z9 (by omega)]; rfl
theorem HC{α:Type}(ok:α→Bool)(c:α→Nat): ∀(l:List α) {t:Int},0≤t→OA ok c l t=tk (l.all ok) (GY c l) t
 | [],t,h=>by
  unfold OA tk; rw[z13 (show((GY c []:Nat):Int)≤t by simp only[GY]; omega)]
  simp [GY]
 | a::r,t,h=>by
  unfold OA; rw[z13 h,z15,z95]; have e:GY c (a::r)=c a+GY c r:=rfl; rw[e]; by_cases q:(ok a&&decide ((c a:Int)≤t))=true
  ·have e1:tk (ok a) (c a) t=t - c a:=by unfold tk; rw[q]; rfl
   simp only[z7,z23]at q; rw[e1,HC ok c r (by omega),q.1,z32]
   unfold tk; by_cases z:((GY c r:Nat):Int)≤t - c a
   ·rw[z13 z,z13 (by omega)]
    cases r.all ok
    ·rfl
    ·simp only[Qf,z15]; omega
   ·rw[z9 z,z9 (by omega)]
    cases r.all ok<;>rfl
  ·have e1:tk (ok a) (c a) t= -1:=by unfold tk; rw[z93]at q; rw[q]; rfl
   rw[e1,HW ok c r (by omega)]
   unfold tk; cases ha:ok a with
   | false=>rfl
   | true=>
    rw[ha,z32,z23]at q; rw[z9 (by omega),z68]; rfl
theorem AW{α ρ:Type}{body:Int×Int→Option ((Int×Int)⊕ρ)}(l:List α)(ok:α→Bool)(c:α→Nat)(Out:Int→ρ→Prop)(hs: ∀(i:Nat) a (t:Int),l[i]? =some a→0≤t→t≤300→body (t,(i:Int))=some (.inl (tk (ok a) (c a) t,((i+1:Nat):Int)))∨(∃r,body (t,(i:Int))=some (.inr r)∧Out (-1) r∧tk (ok a) (c a) t= -1))
  (hn: ∀(i:Nat) (t:Int),t<0→i<l.length→ ∃r,body (t,(i:Int))=some (.inr r)∧Out t r)(he: ∀t:Int, ∃r,body (t,(l.length:Int))=some (.inr r)∧Out t r): ∀(r:List α) (i:Nat) (t:Int) (n:Nat),l.drop i=r→ -1≤t→t≤300→r.length<n→i≤l.length→ ∃x,loopN body n (t,(i:Int))=some x∧Out (OA ok c r t) x
 | [],i,t,n,hr,h0,h1,hm,hi=>by
  obtain⟨m,rfl⟩: ∃m,n=m+1:=⟨n - 1,by simp at hm; omega⟩
  have:i=l.length:=by
   have:=congrArg List.length hr; simp at this; omega
  subst this; obtain⟨x,h2,h3⟩:=he t; simp only[loopN,h2]; exact⟨x,rfl,h3⟩
 | a::r,i,t,n,hr,h0,h1,hm,hi=>by
  obtain⟨m,rfl⟩: ∃m,n=m+1:=⟨n - 1,by simp at hm; omega⟩
  have hil:i<l.length:=by
   have:=congrArg List.length hr; simp at this; omega
  have ha:l[i]? =some a:=by
   have:=congrArg (·[0]?) hr
   simpa using this
  have hr':l.drop (i+1)=r:=by
   have:=congrArg List.tail hr; simpa using this
  have e:OA ok c (a::r) t=bif decide (0≤t)then OA ok c r (tk (ok a) (c a) t)else t:=rfl
  rw[e]; by_cases q:0≤t
  ·rw[z13 q,z15]
   have hb:=Tp (ok a) (c a) t h0; rcases hs i a t ha q h1 with h2 | ⟨x,h2,h3,h4⟩
   ·simp only[loopN,h2]
    exact AW l ok c Out hs hn he r (i+1) _ m hr' hb.1 (by omega) (by simp at hm; omega) (by omega)
   ·simp only[loopN,h2]
    rw[h4,HW ok c r (by omega)]
    exact⟨x,rfl,h3⟩
  ·rw[z9 q,z11]
   obtain⟨x,h2,h3⟩:=hn i t (by omega) hil
   simp only[loopN,h2]; exact⟨x,rfl,h3⟩
def Hp(sl k m:Int)(s:List UInt8)(ne:Int):Bool:=bif decide (k=3)then decide (s=[])&&(decide (ne=0)&&(decide (-1≤m)&&decide (m≤sl - 1)))else !decide (6<k)&&KP k m s ne
theorem NM(n:Nat)(k m:Int)(s:List UInt8)(l:List aA)(sl:Int)(h0:0≤sl)(h1:sl≤400)(h:s.length<n)(hn:s.length<4611686018427387904):mC n k m s l sl=some (Hp sl k m s l.length):=by
 unfold mC Hp KP; rw[AZ n s h hn,wrap_i64 (n:=sl - 1) (by omega) (by omega)]
 simp only[pI,z8]; generalize (l.length:Int)=ne; by_cases h1:k=1
 ·subst h1
  cases decide (0≤m)<;>cases decide (m≤1000000000000)<;>cases decide (s=[])<;>cases decide (ne=0)<;>rfl
 by_cases h2:k=2
 ·subst h2
  cases decide (m=0)<;>cases gR s<;>cases decide (ne=0)<;>rfl
 by_cases h3:k=3
 ·subst h3
  cases decide (s=[])<;>cases decide (ne=0)<;>rfl
 by_cases h4:k=4
 ·subst h4
  cases decide (m=0)<;>cases decide (s=[])<;>cases decide (ne≤20)<;>rfl
 by_cases h5:k=5
 ·subst h5
  cases decide (m=0)<;>cases decide (s=[])<;>cases decide (ne≤20)<;>rfl
 by_cases h6:k=6
 ·subst h6
  cases decide (m=0)<;>cases decide (s=[])<;>cases decide (2≤ne)<;>cases decide (ne≤6)<;>rfl
 rw[z9 h1,z9 h2,z9 h3,z9 h4,z9 h5,z9 h6]; simp only[z11]; by_cases h7:6<k
 ·rw[z13 h7]; rfl
 ·rw[z9 (show ¬ k=7 by omega),z9 (show ¬ k=8 by omega),z9 (show ¬ k=9 by omega)]
  cases decide (6<k)<;>rfl
mutual
def tH:aA→Nat
 | .mk _ _ _ l=>1+sG l
def sG:List aA→Nat
 | []=>0
 | x::r=>tH x+sG r
end
theorem TM(a:aA):tH a=1+sG a.f3:=by cases a; simp only[tH]; rfl
theorem JC: ∀l,sG l=GY tH l
 | []=>rfl
 | x::r=>by simp only[sG,GY,JC r]
theorem yS(a:aA):cB a=3+a.f2.length+dl cB a.f3:=by cases a; simp only[cB,Ch]; rfl
mutual
def pv:aA→List Int
 | .mk k m _ l=>bif decide (k=3)then [m]else pvs l
def pvs:List aA→List Int
 | []=> []
 | x::r=>pv x++pvs r
end
theorem pv_e(a:aA):pv a=bif decide (a.f0=3)then [a.f1]else pvs a.f3:=by cases a; simp only[pv]; rfl
mutual
def s9:aA→List Int
 | .mk k m _ l=>(bif decide (k=3)&& !decide (m= -1)then [m]else [])++s9s l
def s9s:List aA→List Int
 | []=> []
 | x::r=>s9 x++s9s r
end
theorem s9_e(a:aA):s9 a=(bif decide (a.f0=3)&& !decide (a.f1= -1)then [a.f1]else [])++s9s a.f3:=by cases a; simp only[s9]; rfl
theorem Oj: ∀(a b:List aA),s9s (a++b)=s9s a++s9s b
 | [],b=>rfl
 | x::r,b=>by simp only[z84,s9s,Oj r b,z56]
theorem UX(a:aA):s9s [a]=s9 a:=by simp only[s9s,z92]
mutual
theorem TF: ∀e,(s9 e).length≤cB e
 | .mk k m s l=>by
  have:=KZ l; simp only[s9,cB,z17]; cases (decide (k=3)&& !decide (m= -1))<;>simp<;>omega
theorem KZ: ∀l,(s9s l).length≤Ds l
 | []=>by simp [s9s]
 | x::r=>by have:=TF x; have:=KZ r; simp only[s9s,Ds,z17]; omega
end
mutual
theorem TJ: ∀e,(pv e).length≤tH e
 | .mk k m s l=>by
  have:=Ol l; simp only[pv,tH]; cases decide (k=3)<;>simp<;>omega
theorem Ol: ∀l,(pvs l).length≤sG l
 | []=>by simp [pvs]
 | x::r=>by have:=TJ x; have:=Ol r; simp only[pvs,sG,z17]; omega
end
def pok:Nat→Int→aA→Bool
 | 0,_,_=>false
 | d+1,sl,p=>Hp sl p.f0 p.f1 p.f2 p.f3.length&&p.f3.all (pok d sl)
theorem Mk{α:Type}(w:α→Nat): ∀(l:List α) (i:Nat),dl w (l.take i)≤dl w l
 | [],i=>by simp
 | a::r,0=>by simp only[Xc,dl]; omega
 | a::r,i+1=>by have:=Mk w r i; simp only[z143,dl]; omega
theorem Gj: ∀(n:Nat),n≤1099511627776→ ∀(a:aA),cB a<n→fC n a.f0 a.f1 a.f2 a.f3=some (s9 a)
 | 0,_,a,h=>by omega
 | n+1,hn,a,h=>by
  have ih:=Gj n (by omega)
  rw[zT,s9_e]; unfold lZ; rw[yS]at h; have h2:=bO cB a.f3; have loop: ∀(l:List aA) (P:List Int),P.length≤1→dl cB l+3<n+1→ ∀(body:List Int×Int→Option ((List Int×Int)⊕(List Int×Int×Bool))),(∀(i:Nat) b (L:List Int),l[i]? =some b→body (L,(i:Int))=(fC n b.f0 b.f1 b.f2 b.f3).bind fun c=>(dF 8 L c).bind fun v=>some (.inl (v,((i+1:Nat):Int))))→(∀L:List Int,body (L,(l.length:Int))=some (.inr (L,(l.length:Int),false)))→loopN body n (P,(0:Int))=some (P++s9s l,(l.length:Int),false):=by
   intro l P hP hw body hs he; have h2:=bO cB l; have hl:=Cm (body:=body) (fun i=>(P++s9s (l.take i),(i:Int))) (len:=l.length) (r:=(P++s9s l,(l.length:Int),false)) (fun i hi=>by
    have ha:l[i]? =some l[i]:=z12 hi
    generalize l[i]=b at ha; have hd:=dE cB (z20 ha); have e:s9s (l.take (i+1))=s9s (l.take i)++s9 b:=by rw[←tL ha,Oj,UX]
    have hb:=KZ (l.take (i+1)); have hb2:Ds (l.take (i+1))≤dl cB l:=by
     rw[Ch]; exact Mk cB l (i+1)
    rw[e,z17]at hb; have hap:dF 8 (P++s9s (l.take i)) (s9 b)=some (P++s9s (l.take (i+1))):=by
     rw[e, ←z56]; exact qP (by rw[z17]; omega) (by rw[z17]; simp only[maxLen]; omega)
    rw[hs i b _ ha,ih b (by omega),z8,hap]; rfl) (by rw[z72]; exact he _) (n:=n) (by omega)
   simpa [s9s]using hl
  have b1:=fun P hP=>loop a.f3 P hP (by omega) (iW n (fC n) a.f3) (fun i b L hb=>by
   have hi:=bK hb; simp only[iW,bW hb,z15,bP,hb,z8,aP (show i<4611686018427387904 by omega)]) (fun L=>by simp only[iW,aN,z11])
  have b2:=fun P hP=>loop a.f3 P hP (by omega) (iV n (fC n) a.f3) (fun i b L hb=>by
   have hi:=bK hb; simp only[iV,bW hb,z15,bP,hb,z8,aP (show i<4611686018427387904 by omega)]) (fun L=>by simp only[iV,aN,z11])
  have hap:dF 8 ([]:List Int) [a.f1]=some [a.f1]:=qP (by simp) (by simp [maxLen])
  rw[hap]; simp only[z8,b1 [a.f1] (by simp),b2 [] (by simp)]
  cases decide (a.f0=3)<;>cases decide (a.f1= -1)<;>rfl
theorem JO: ∀(n:Nat),n≤1099511627776→ ∀(a:aA) (sl:Int) (d:Nat) (t:Int),0≤sl→sl≤400→d≤10→ -1≤t→t≤300→cB a<n→gB n a.f0 a.f1 a.f2 a.f3 sl (d:Int) t=some (tk (pok d sl a) (tH a) t)
 | 0,_,a,sl,d,t,s0,s1,hd,t0,t1,h=>by omega
 | n+1,hn,a,sl,d,t,s0,s1,hd,t0,t1,h=>by
  have ih:=JO n (by omega)
  rw[Ax]; unfold nM; rw[yS]at h; have hl:=bO cB a.f3; rw[NM n a.f0 a.f1 a.f2 a.f3 sl s0 s1 (by omega) (by omega)]
  have hp:=TM a; cases d with
  | zero=>
   rw[z13 (show((0:Nat):Int)<1 by omega)]
   have e:tk (pok 0 sl a) (tH a) t= -1:=rfl; rw[e]; rfl
  | succ d=>
   rw[z9 (show ¬ ((d+1:Nat):Int)<1 by omega)]
   by_cases ht:t<1
   ·rw[z13 ht,Sz _ _ (by omega)]; rfl
   rw[z9 ht]; have hx:pok (d+1) sl a=(Hp sl a.f0 a.f1 a.f2 a.f3.length&&a.f3.all (pok d sl)):=rfl; rw[hx]; rw[JC]at hp; generalize tH a=q at hp ⊢; simp only[z11,z8]; cases hs:Hp sl a.f0 a.f1 a.f2 a.f3.length with
   | false=>rfl
   | true=>
    simp only[z37,z11,z32]; generalize a.f3=l at h hl hp ⊢; have e1:IntKind.wrap .i64 (((d+1:Nat):Int) - 1)=(d:Int):=by rw[wrap_i64 (by omega) (by omega)]; omega
    rw[wrap_i64 (n:=t - 1) (by omega) (by omega)]
    obtain⟨x,h1,h2⟩:=AW (body:=fR n (gB n) sl ((d+1:Nat):Int) l) l (pok d sl) tH (fun t r=>r.1=t) (fun i b t hb q0 q1=>by
     have hm:=dE cB (z20 hb); have hi:=bK hb; left
     simp only[fR,bW hb,z15,bP,hb,z8,z13 q0,e1,ih b sl d t s0 s1 (by omega) (by omega) q1 (by omega),aP (show i<4611686018427387904 by omega)]) (fun i t ht hi=>⟨(t,(i:Int),false),by
      simp only[fR,z13 (show(i:Int)<(l.length:Int)by omega),z15,z8,z9 (show ¬ 0≤t by omega),z11],rfl⟩) (fun t=>⟨(t,(l.length:Int),false),by simp only[fR,aN,z11,z8],rfl⟩) l 0 (t - 1) n rfl (by omega) (by omega) (by omega) (by omega)
    have h1:loopN (fR n (gB n) sl ((d+1:Nat):Int) l) n (t - 1,(0:Int))=some x:=h1; rw[h1]; obtain⟨x1,x2,x3⟩:=x; simp only at h2; subst h2; simp only[z8,z10]; rw[HC (pok d sl) tH l (by omega)]
    unfold tk; by_cases z:((GY tH l:Nat):Int)≤t - 1
    ·rw[z13 z,z13 (show(q:Int)≤t by omega)]
     cases l.all (pok d sl)
     ·rfl
     ·simp only[Qf,z15]; omega
    ·rw[z9 z,z9 (show ¬ (q:Int)≤t by omega)]
     cases l.all (pok d sl)<;>rfl
def Qt(l:List Int):Bool:=tZ (fun i a=> !(decide (a∈l.take i))) 0 l
theorem Pu(l:List Int):Qt l=true↔l.Nodup:=by
 unfold Qt; rw[oV,List.Nodup,List.pairwise_iff_getElem]; constructor
 ·intro h i j hi hj hij e
  have:=h j l[j] (z12 hj)
  simp only[z28,z38,z48]at this; exact this (by rw[←e]; exact z157.2 ⟨i,by omega,rfl⟩)
 ·intro h j a ha
  simp only[z28,z38,z48]; intro hm; obtain⟨i,hi,e⟩:=z157.1 hm; obtain⟨hj,rfl⟩:=Xr.1 ha
  exact h i j (by omega) hj (by omega) e
theorem Vb(a:Int)(l:List Int):(l.all fun b=> !decide (b=a))= !decide (a∈l):=by
 rw[RJ,z18]; simp only[z38,z48]; exact⟨fun h hm=>h a hm rfl,fun h b hb e=>h (e ▸ hb)⟩
def wG(sl:Int)(p:aA):Bool:=(decide (0≤sl)&&decide (sl≤400))&&((pok 10 sl p&&decide ((tH p:Int)≤300))&&Qt (s9 p))
theorem wR(n:Nat)(hn:n≤1099511627776)(a:aA)(sl:Int)(h:cB a+400<n):iL n a.f0 a.f1 a.f2 a.f3 sl=some (wG sl a):=by
 unfold iL wG; rw[pI,z8]; by_cases hr:0≤sl∧sl≤400
 ·have h1:=JO n hn a sl 10 300 hr.1 hr.2 (by omega) (by omega) (by omega) (by omega)
  have h1:gB n a.f0 a.f1 a.f2 a.f3 sl (10:Int) 300=_:=h1; have hs:=TF a; rw[z13 hr.1,z13 hr.2,h1,Gj n hn a (by omega)]
  unfold tk; simp only[z87,z37,z11,z8,z32]; cases q:(pok 10 sl a&&decide ((tH a:Int)≤300))with
  | false=>rfl
  | true=>
   simp only[z7,z23]at q; rw[z15,z9 (show ¬ 300 - (tH a:Int)<0 by omega),z11,z32]
   generalize s9 a=l at hs; rw[uE l (fun i b=> !decide (b∈l.take i)) (fun i b hb=>by
    have hi:=bK hb; simp only[lR,bW hb,z15]; have hlen:(l.take i).length=i:=by rw[z64]; omega
    have e:=HJ (body:=iZ n l (i:Int)) (l.take i) (fun c=> !decide (c=b)) (fun j c hc=>by
     have hj:=bK hc; rw[hlen]at hj; have hc2:l[j]? =some c:=by rw[List.getElem?_take_of_lt hj]at hc; exact hc
     simp only[iZ,z13 (show(j:Int)<(i:Int)by omega),z15,bP,hc2,hb,z8,aP (show j<4611686018427387904 by omega)]
     cases decide (c=b)<;>rfl) (by rw[hlen]; simp only[iZ,aN,z11]) (n:=n) (by rw[hlen]; omega)
    rw[e,Vb,aP (show i<4611686018427387904 by omega)]
    cases decide (b∈l.take i)<;>rfl) (by simp only[lR,aN,z11]) (by omega)]
   unfold Qt; cases tZ (fun i b=> !decide (b∈l.take i)) 0 l<;>rfl
 ·have e:(decide (0≤sl)&&decide (sl≤400))=false:=by
   by_cases a:0≤sl
   ·rw[z9 (show ¬ sl≤400 from fun b=>hr ⟨a,b⟩),z68]
   ·rw[z9 a]; rfl
  rw[e]; rfl
def frI:List Int→List Int→Bool
 | _,[]=>true
 | P,v::r=> !(decide (0≤v)&&decide (v∈P))&&frI (P++[v]) r
theorem PO: ∀(V W P:List Int),frI P (V++W)=(frI P V&&frI (P++V) W)
 | [],W,P=>by simp [frI]
 | v::V,W,P=>by
  simp only[z84,frI,PO V W (P++[v]),z56,Bool.and_assoc,z76]
def Fm(l:List Int):List Int:=l.filter fun v=>decide (0≤v)
theorem AF(a b:List Int):Fm (a++b)=Fm a++Fm b:=Xh ..
theorem Kn: ∀(V P:List Int),(Fm P).Nodup→(frI P V=true↔(Fm (P++V)).Nodup)
 | [],P,h=>by simp [frI,h]
 | v::V,P,h=>by
  have e:P++v::V=(P++[v])++V:=by simp
  rw[e]; unfold frI; by_cases hv:0≤v
  ·have ep:Fm [v]=[v]:=by simp [Fm,hv]
   rw[z13 hv,z32]; have hm:v∈Fm P↔v∈P:=by simp [Fm,hv]
   by_cases hin:v∈P
   ·rw[z13 hin]
    refine⟨fun h=>by simp at h,fun h2=> ?_⟩
    rw[AF,AF,ep]at h2; have:=(z163.1 (z163.1 h2).1).2.2 v (hm.2 hin) v (by simp)
    exact absurd rfl this
   ·rw[z9 hin,RH,z32]
    refine Kn V _ ?_
    rw[AF,ep,z163]; exact⟨h,by simp,fun a ha b hb=>by simp only[z67]at hb; subst hb; exact fun e=>hin (hm.1 (e ▸ ha))⟩
  ·have ep:Fm [v]=[]:=by simp [Fm,hv]
   rw[z9 hv,Tc,RH,z32]; refine Kn V _ ?_
   rw[AF,ep,z92]; exact h
theorem TE: ∀(d:Nat) (sl:Int) (a:aA),pok d sl a=true→s9 a=Fm (pv a)
 | 0,sl,a,h=>by cases h
 | d+1,sl,a,h=>by
  have ih:=TE d sl; have hx:pok (d+1) sl a=(Hp sl a.f0 a.f1 a.f2 a.f3.length&&a.f3.all (pok d sl)):=rfl; rw[hx,z7]at h; obtain⟨h1,h2⟩:=h; rw[s9_e,pv_e]; have hk: ∀l:List aA,l.all (pok d sl)=true→s9s l=Fm (pvs l):=by
   intro l; induction l with
   | nil=>intro _; rfl
   | cons x r ihr=>
    intro h; simp only[z95,z7]at h; simp only[s9s,pvs,ih x h.1,ihr h.2,AF]
  unfold Hp at h1; by_cases h3:a.f0=3
  ·rw[z13 h3]at h1 ⊢
   simp only[z15,z7,z23]at h1; have hne:a.f3=[]:=by
    cases hx:a.f3 with
    | nil=>rfl
    | cons x r=>have:=h1.2.1; rw[hx]at this; simp only[z51]at this; omega
   rw[hne]; by_cases hm:a.f1= -1
   ·rw[z13 hm]; simp [s9s,Fm,hm]
   ·rw[z9 hm]
    have:0≤a.f1:=by have:=h1.2.2.1; omega
    simp [s9s,Fm,this]
  ·rw[z9 h3]
   simp only[Tc,z11,z76]; exact hk _ h2
abbrev PS:=Int×List Int
def RU(d:Nat)(sl:Int)(t:PS)(a:aA):PS⊕Unit:=bif pok d sl a&&(decide (t.1+tH a≤300)&&frI t.2 (pv a))then .inl (t.1+tH a,t.2++pv a)else .inr ()
theorem Mf(d:Nat)(sl:Int): ∀(l:List aA) (t:PS),t.1≤300→Df (RU d sl) l t=bif l.all (pok d sl)&&(decide (t.1+sG l≤300)&&frI t.2 (pvs l))then .inl (t.1+sG l,t.2++pvs l)else .inr ()
 | [],t,h=>by
  have e:decide (t.1+((sG []:Nat):Int)≤300)=true:=z13 (by simp only[sG]; omega)
  rw[e]; simp [Df,pvs,frI,sG]
 | a::r,t,h=>by
  simp only[Df]; have e1:sG (a::r)=tH a+sG r:=by simp only[sG]
  have e2:pvs (a::r)=pv a++pvs r:=by simp only[pvs]
  rw[e1,e2,PO,z95]; by_cases q:(pok d sl a&&(decide (t.1+tH a≤300)&&frI t.2 (pv a)))=true
  ·have e3:RU d sl t a= .inl (t.1+tH a,t.2++pv a):=by unfold RU; rw[q]; rfl
   simp only[z7,z23]at q; obtain⟨q1,q2,q3⟩:=q; rw[e3,q1,q3,z32,z32]; simp only; rw[Mf d sl r _ q2]; simp only; rw[show t.1+((tH a+sG r:Nat):Int)=t.1+tH a+sG r by omega,z56]
  ·have e3:RU d sl t a= .inr ():=by unfold RU; rw[z93]at q; rw[q]; rfl
   rw[e3]; simp only; cases h1:pok d sl a with
   | false=>rfl
   | true=>
    rw[h1,z32]at q; cases h3:frI t.2 (pv a)with
    | false=>cases r.all (pok d sl)<;>simp
    | true=>
     rw[h3,Qf,z23]at q; rw[z9 (show ¬ t.1+((tH a+sG r:Nat):Int)≤300 by omega)]
     cases r.all (pok d sl)<;>rfl
theorem QT(n:Nat)(l:List Int)(s:Int)(hn:l.length<n)(h2:n<4611686018427387904):gO n l s=some (KU (fun a=>decide (s=a)) 0 l):=by
 unfold gO; have e:=AX (body:=eH n l s) l (fun a=>decide (s=a)) (fun i=>(i:Int)) (fun i=>Sum.inl (i:Int)) (Sum.inr ((l.length:Int),false)) (fun i a ha=>by
  have hi:=bK ha; simp only[eH,bW ha,z15,bP,ha,z8,aP (show i<4611686018427387904 by omega)]
  cases decide (s=a)<;>rfl) (by simp only[eH,aN,z11]) hn
 refine(congrArg (fun q=>Option.bind q _) e).trans ?_
 rcases uG (fun a=>decide (s=a)) l 0 with⟨h,_⟩ | ⟨k,a,h,_⟩
 ·rw[h]; rfl
 ·rw[h,z9 (by omega)]
  simp only[z8,z11,z35]
theorem KB(n:Nat)(l:List Int)(s:Int)(hn:l.length<n)(h2:n<4611686018427387904):eK n l s=some (decide (s∈l)):=by
 unfold eK; rw[QT n l s hn h2]; simp only[z8,z10]; rcases uG (fun a=>decide (s=a)) l 0 with⟨h,h1⟩ | ⟨k,a,h,h1,h3,_⟩
 ·rw[h,z9 (by omega),z9 (fun hm=>by have:=h1 s hm; simp at this)]
 ·simp only[z23]at h3
  subst h3; rw[h,z13 (by omega),z13 (z20 h1)]
def fJ(b:Bool)(sl c:Int)(ns:List Int)(r:Bool×Int×Int×List Int):Prop:=r.1=b∧(b=true→r.2=(sl,c,ns))
theorem PT: ∀(n:Nat),n≤1099511627776→ ∀(a:aA) (d:Nat) (sl c:Int) (ns:List Int),0≤sl→sl≤400→d≤10→0≤c→c≤300→(ns.length:Int)≤c→cB a+400<n→ ∃r,cU n a.f0 a.f1 a.f2 a.f3 (11 - (d:Int)) sl c ns=some r∧fJ (pok d sl a&&(decide (c+tH a≤300)&&frI ns (pv a))) sl (c+tH a) (ns++pv a) r
 | 0,_,a,d,sl,c,ns,s0,s1,hd,c0,c1,hns,h=>by omega
 | n+1,hn,a,d,sl,c,ns,s0,s1,hd,c0,c1,hns,h=>by
  have ih:=PT n (by omega)
  rw[uS]; unfold iG; rw[yS]at h; have hl:=bO cB a.f3; have hp:=TM a; have hv:=pv_e a; rw[NC n _ _ _ _ (by omega) (by omega),wrap_i64 (n:=c+1) (by omega) (by omega),wrap_i64 (n:=sl - 1) (by omega) (by omega),iR]
  cases d with
  | zero=>
   rw[z13 (show(10:Int)<11 - ((0:Nat):Int)by omega)]
   exact⟨_,rfl,rfl,fun h=>by cases h⟩
  | succ d=>
   rw[z9 (show ¬ (10:Int)<11 - ((d+1:Nat):Int)by omega)]
   have hx:pok (d+1) sl a=(Hp sl a.f0 a.f1 a.f2 a.f3.length&&a.f3.all (pok d sl)):=rfl; rw[hx]; by_cases ht:300<c+1
   ·rw[z13 ht,z9 (show ¬ c+(tH a:Int)≤300 by omega)]
    refine⟨_,rfl, ?_, ?_⟩<;>cases Hp sl a.f0 a.f1 a.f2 a.f3.length<;>cases a.f3.all (pok d sl)<;>simp
   rw[z9 ht]; simp only[z11,z8]; unfold Hp; by_cases h3:a.f0=3
   ·rw[z13 h3]at hv ⊢
    simp only[z15]at hv ⊢; rw[hv]; have hz: ∀r,r∈a.f3→ ¬ (a.f3.length:Int)=0:=fun r hr h0=>by
     have:a.f3=[]:=z78.1 (by omega)
     rw[this]at hr; simp at hr
    generalize hs1:decide (a.f2=[])=z1; cases hr1:(decide (-1≤a.f1)&&decide (a.f1≤sl - 1))with
    | false=>
     refine⟨_,rfl, ?_,fun h=> ?_⟩
     ·cases z1<;>cases decide ((a.f3.length:Int)=0)<;>rfl
     ·revert h; cases z1<;>cases decide ((a.f3.length:Int)=0)<;>simp
    | true=>
    cases z1 with
    | false=>exact⟨_,rfl,rfl,fun h=>by cases h⟩
    | true=>
    by_cases h0:(a.f3.length:Int)=0
    ·have hne:a.f3=[]:=z78.1 (by omega)
     rw[z13 h0,z9 (show ¬ (0:Int)<(a.f3.length:Int)by omega)]
     simp only[z37,z11,z32,hne,List.all_nil,z8,RH]; have hpc:tH a=1:=by rw[hp,hne]; rfl
     rw[hpc]; have hcnt:decide (c+((1:Nat):Int)≤300)=true:=z13 (by omega)
     rw[hcnt,z32]; rw[KB n ns a.f1 (by omega) (by omega)]
     have hap:dF 8 ns [a.f1]=some (ns++[a.f1]):=qP (by simp only[z21]; omega) (by simp only[z21,maxLen]; omega)
     rw[hap]; have ef:frI ns [a.f1]= !(decide (0≤a.f1)&&decide (a.f1∈ns)):=by simp [frI]
     rw[ef]; cases decide (0≤a.f1)<;>cases decide (a.f1∈ns)<;>first | exact⟨_,rfl,rfl,fun _=>rfl⟩ | exact⟨_,rfl,rfl,fun h=>by cases h⟩
    ·rw[z9 h0,z13 (show(0:Int)<(a.f3.length:Int)by omega)]
     exact⟨_,rfl,rfl,fun h=>by cases h⟩
   ·rw[z9 h3]at hv ⊢
    simp only[z11]at hv ⊢; rw[hv]; cases h6:decide (6<a.f0)with
    | true=>exact⟨_,rfl,rfl,fun h=>by cases h⟩
    | false=>
    cases hs:KP a.f0 a.f1 a.f2 a.f3.length with
    | false=>exact⟨_,rfl,rfl,fun h=>by cases h⟩
    | true=>
    simp only[z11,z8,z37,RH,z32]; generalize tH a=q at hp ⊢; generalize a.f3=l at h hl hp ⊢; have e1:IntKind.wrap .i64 (11 - ((d+1:Nat):Int)+1)=11 - (d:Int):=by rw[wrap_i64 (by omega) (by omega)]; omega
    obtain⟨x,x1,x2⟩:=NJ (body:=dP n (cU n) (11 - ((d+1:Nat):Int)) l) l (RU d sl) (fun t i=>((i:Int),sl,t.1,t.2)) (fun t=> .inr ((l.length:Int),false,sl,t.1,t.2)) (fun _ x=> ∃u,x= .inl (false,u)) (fun t=>0≤t.1∧t.1≤300∧(t.2.length:Int)≤t.1) (fun i b t hb ht=>by
     have hi:=bK hb; have hm:=dE cB (z20 hb); obtain⟨⟨rb,rs,rc,rn⟩,r1,r2,r3⟩:=ih b d sl t.1 t.2 s0 s1 (by omega) ht.1 ht.2.1 ht.2.2 (by omega)
     simp only at r2 r3; simp only[dP,bW hb,z15,bP,hb,z8,e1,r1,aP (show i<4611686018427387904 by omega)]
     rw[r2]; unfold RU; by_cases hz:(pok d sl b&&(decide (t.1+tH b≤300)&&frI t.2 (pv b)))=true
     ·left
      have r4:=r3 hz; simp only[z41]at r4; obtain⟨rfl,rfl,rfl⟩:=r4; rw[hz]; simp only[z7,z23]at hz; have hvc:=TJ b; refine⟨_,rfl,⟨?_,hz.2.1, ?_⟩,rfl⟩
      ·show 0≤t.1+(tH b:Int); omega
      ·show((t.2++pv b).length:Int)≤t.1+(tH b:Int)
       rw[z17]; omega
     ·right
      rw[z93]at hz; rw[hz]; exact⟨(),_,rfl,rfl,_,rfl⟩) (fun t _=>by simp only[dP,aN,z11]) (n:=n) (by omega) (t0:=(c+1,ns)) ⟨by show 0≤c+1; omega,by show c+1≤300; omega,by show(ns.length:Int)≤c+1; omega⟩
    have x1:loopN (dP n (cU n) (11 - ((d+1:Nat):Int)) l) n ((0:Int),sl,c+1,ns)=some x:=x1; rw[x1]; rw[Mf d sl l (c+1,ns) (by show c+1≤300; omega)]at x2
    simp only at x2; rw[show c+1+((sG l:Nat):Int)=c+(q:Int)by omega]at x2
    cases hz:(l.all (pok d sl)&&(decide (c+(q:Int)≤300)&&frI ns (pvs l)))with
    | true=>
     rw[hz]at x2; simp only[z15]at x2; subst x2; exact⟨_,rfl,rfl,fun _=>rfl⟩
    | false=>
     rw[hz]at x2; simp only[z11]at x2; obtain⟨⟨u,v,w⟩,rfl⟩:=x2; exact⟨_,rfl,rfl,fun h=>by cases h⟩
theorem wS(n:Nat)(hn:n≤1099511627776)(a:aA)(sl:Int)(h:cB a+400<n):iN n a.f0 a.f1 a.f2 a.f3 sl=some (wG sl a):=by
 unfold iN wG; rw[iR,z8]; by_cases hr:0≤sl∧sl≤400
 ·obtain⟨r,r1,r2,r3⟩:=PT n hn a 10 sl 0 [] hr.1 hr.2 (by omega) (by omega) (by omega) (by simp) h
  have r1:cU n a.f0 a.f1 a.f2 a.f3 (1:Int) sl 0 []=some r:=r1; rw[z13 hr.1,z13 hr.2,r1]; simp only[z87,z15,z8,z10,z32]; rw[r2,Int.zero_add,Bool.and_assoc]; cases hp:pok 10 sl a with
  | false=>rfl
  | true=>
   congr 2
   rw[RJ,Kn _ _ (by simp [Fm]),Pu,z76,TE 10 sl a hp]
 ·have e:(decide (0≤sl)&&decide (sl≤400))=false:=by
   by_cases a:0≤sl
   ·rw[z9 (show ¬ sl≤400 from fun b=>hr ⟨a,b⟩),z68]
   ·rw[z9 a]; rfl
  rw[e]; rfl
def pV(m:List aD)(s:List UInt8):Int:=KU (fun f=>decide (f.f0=s)) 0 m
theorem JU(m:List aD)(s:List UInt8):pV m s= -1∨ ∃(k:Nat) (f:aD),pV m s=(k:Int)∧m[k]? =some f:=by
 unfold pV; rcases uG (fun f:aD=>decide (f.f0=s)) m 0 with⟨h,_⟩ | ⟨k,a,h,h1,_⟩
 ·exact .inl h
 ·exact .inr ⟨k,a,by rw[h]; simp,h1⟩
theorem JP(n:Nat)(m:List aD)(ps:List aA)(s:List UInt8)(h:m.length<n)(hn:n<4611686018427387904):jH n m ps s=some (pV m s):=by
 unfold jH pV; have e:=AX (body:=jX n m s) m (fun f=>decide (f.f0=s)) (fun i=>(i:Int)) (fun i=>Sum.inl (i:Int)) (Sum.inr ((m.length:Int),false)) (fun i a ha=>by
  have hi:=bK ha; simp only[jX,bW ha,z15,bP,ha,z8,aP (show i<4611686018427387904 by omega)]
  cases decide (a.f0=s)<;>rfl) (by simp only[jX,aN,z11]) h
 refine(congrArg (fun q=>Option.bind q _) e).trans ?_
 rcases uG (fun f:aD=>decide (f.f0=s)) m 0 with⟨h,_⟩ | ⟨k,a,h,_⟩
 ·rw[h]; rfl
 ·rw[h,z9 (by omega)]
  simp only[z8,z11,z35]
theorem PR(n:Nat)(m:List aD)(ps:List aA)(s:List UInt8)(h:m.length<n)(hn:n<4611686018427387904):oY n s m ps=some (pV m s,m,ps):=by
 unfold oY gI pV; have e:=AX (body:=cD n m) m (fun f=>decide (f.f0=s)) (fun i=>((i:Int),s)) (fun i=>Sum.inl ((i:Int),s)) (Sum.inr ((m.length:Int),false,s)) (fun i a ha=>by
  have hi:=bK ha; simp only[cD,qT,bW ha,z15,bP,ha,z8,aP (show i<4611686018427387904 by omega)]
  cases decide (a.f0=s)<;>rfl) (by simp only[cD,aN,z11]) h
 have e:loopN (cD n m) n ((0:Int),s)=_:=e; rw[e]; rcases uG (fun f:aD=>decide (f.f0=s)) m 0 with⟨h,_⟩ | ⟨k,a,h,_⟩
 ·rw[h]; rfl
 ·rw[h,z9 (by omega)]
  simp only[z8,z11,z35]

def tT(fs:List aD)(i:aE):Bool:=match fs[(pV fs i.f2).toNat]? with
 | some f=>decide (0≤pV fs i.f2)&&(decide (f.f1=i.f1)&&decide (i.f3=0))
 | none=>false
def BS(ps:List aA)(sl:Int)(i:aE):Bool:=(decide (0≤i.f1)&&decide (i.f1≤IntKind.wrap .i64 ((ps.length:Int) - 1)))&&(match ps[i.f1.toNat]? with
 | some p=>wG sl p
 | none=>false)
def rY(fs:List aD)(ps:List aA)(sl:Int)(to:Bool)(i:aE):Bool:=
 bif decide (i.f0=1)then(decide (i.f2=[])&&decide (i.f3=0))&&(decide (0≤i.f1)&&decide (i.f1≤1000000000000))
 else bif decide (i.f0=2)then decide (i.f1=0)&&(gR i.f2&&decide (i.f3=0))
 else bif decide (i.f0=3)then(decide (i.f2=[])&&decide (i.f3=0))&&(decide (0≤i.f1)&&decide (i.f1≤IntKind.wrap .i64 (sl - 1)))
 else bif decide (i.f0=4)then(decide (i.f2=[])&&decide (i.f3=0))&&(decide (0≤i.f1)&&decide (i.f1≤20))
 else bif decide (i.f0=5)then(decide (i.f2=[])&&decide (i.f3=0))&&(decide (0≤i.f1)&&decide (i.f1≤20))
 else bif decide (i.f0=6)then(decide (i.f2=[])&&decide (i.f3=0))&&(decide (2≤i.f1)&&decide (i.f1≤6))
 else bif decide (i.f0=7)then decide (i.f1=0)&&(Mr i.f2&&decide (i.f3=0))
 else bif decide (i.f0=8)then tT fs i
 else bif decide (i.f0=9)then(decide (i.f2=[])&&to)&&BS ps sl i
 else bif decide (i.f0=10)then(decide (i.f2=[])&&to)&&decide (i.f1=0)
 else(decide (i.f2=[])&&decide (i.f3=0))&&(decide (i.f1=0)&&(decide (11≤i.f0)&&decide (i.f0≤12)))
theorem CW(i:aE):iP i=4+i.f2.length:=rfl
theorem Mn(fs:List aD)(i:aE):(bif decide ((0:Int)≤pV fs i.f2)then(ix fs (pV fs i.f2)).bind fun e=>bif decide (e.f1=i.f1)then some (decide (i.f3=(0:Int)))else some false else some false)=some (tT fs i):=by
 unfold tT; rcases JU fs i.f2 with e | ⟨k,f,e,e2⟩
 ·rw[e]
  cases fs[(-1:Int).toNat]? <;>rfl
 ·rw[e,z35,e2,bP,e2,z13 (by omega)]
  simp only[z15,z8,z32]; cases decide (f.f1=i.f1)<;>rfl
theorem Ou(ps:List aA)(x:Int)(h0:0≤x)(h1:x≤IntKind.wrap .i64 ((ps.length:Int) - 1))(hl:ps.length<4611686018427387904): ∃p,ps[x.toNat]? =some p∧ix ps x=some p:=by
 obtain⟨k,rfl⟩: ∃k:Nat,x=k:=⟨x.toNat,by omega⟩
 have hk:k<ps.length:=by
  rcases z151 ps.length with h | h
  ·rw[h]at h1
   have:IntKind.wrap .i64 (((0:Nat):Int) - 1)= -1:=by decide
   omega
  ·have:IntKind.wrap .i64 ((ps.length:Int) - 1)=(ps.length:Int) - 1:=by
    obtain⟨m,hm⟩: ∃m,ps.length=m+1:=⟨ps.length - 1,by omega⟩
    rw[hm,Iq (by omega)]; omega
   omega
 exact⟨ps[k],by rw[z35]; exact z12 hk,by rw[bP]; exact z12 hk⟩
theorem Rx(n:Nat)(hn:n≤1099511627776)(ps:List aA)(sl:Int)(i:aE)(h:dl cB ps+400<n):((aS n i.f1 (0:Int) (IntKind.wrap .i64 ((ps.length:Int) - (1:Int)))).bind fun c=>bif c then(ix ps i.f1).bind fun e=>(iN n e.f0 e.f1 e.f2 e.f3 sl).bind fun c=>some c else some false)=some (BS ps sl i):=by
 rw[iR,z8]; unfold BS; have hl:=bO cB ps; cases h1:decide (0≤i.f1)&&decide (i.f1≤IntKind.wrap .i64 ((ps.length:Int) - 1))with
 | false=>rfl
 | true=>
  simp only[z7,z23]at h1; obtain⟨p,e1,e2⟩:=Ou ps i.f1 h1.1 h1.2 (by omega)
  have hm:=dE cB (z20 e1); rw[e1,e2]; simp only[z15,z8,z32,wS n hn p sl (by omega)]
theorem Rw(n:Nat)(hn:n≤1099511627776)(ps:List aA)(sl:Int)(i:aE)(h:dl cB ps+400<n):((aW n i.f1 (0:Int) (IntKind.wrap .i64 ((ps.length:Int) - (1:Int)))).bind fun c=>bif c then(ix ps i.f1).bind fun e=>(iL n e.f0 e.f1 e.f2 e.f3 sl).bind fun c=>some c else some false)=some (BS ps sl i):=by
 rw[pI,z8]; unfold BS; have hl:=bO cB ps; cases h1:decide (0≤i.f1)&&decide (i.f1≤IntKind.wrap .i64 ((ps.length:Int) - 1))with
 | false=>rfl
 | true=>
  simp only[z7,z23]at h1; obtain⟨p,e1,e2⟩:=Ou ps i.f1 h1.1 h1.2 (by omega)
  have hm:=dE cB (z20 e1); rw[e1,e2]; simp only[z15,z8,z32,wR n hn p sl (by omega)]
theorem SR(n:Nat)(hn:n≤1099511627776)(fs:List aD)(ps:List aA)(nm:List UInt8)(ar sl:Int)(is:List aE)(i:aE)(h:dl cB ps+400<n)(h2:fs.length<n)(h3:iP i<n):nG n nm ar sl is i.f0 i.f1 i.f2 i.f3 fs ps=some (rY fs ps sl (decide (0≤i.f3)&&decide (i.f3≤IntKind.wrap .i64 ((is.length:Int) - 1))) i,fs,ps):=by
 rw[CW]at h3; unfold nG rY; rw[Rx n hn ps sl i h,PR n fs ps i.f2 h2 (by omega),BV n i.f2 (by omega) (by omega),PM]
 simp only[iR,z8,Mn]; generalize tT fs i=q1; generalize BS ps sl i=q2; generalize gR i.f2=q3; generalize Mr i.f2=q4; generalize (decide (0≤i.f3)&&decide (i.f3≤IntKind.wrap .i64 ((is.length:Int) - 1)))=q5; generalize (decide (0≤i.f1)&&decide (i.f1≤IntKind.wrap .i64 (sl - 1)))=q6; generalize (decide (0≤i.f1)&&decide (i.f1≤1000000000000))=q7; generalize (decide (0≤i.f1)&&decide (i.f1≤20))=q8; generalize (decide (2≤i.f1)&&decide (i.f1≤6))=q9; generalize decide (i.f2=[])=b1; generalize decide (i.f3=0)=b2; generalize decide (i.f1=0)=b3; have key: ∀(c:Bool),(bif c then some b2 else some false:Option Bool)=some (c&&b2):=fun c=>by cases c<;>rfl
 cases decide (i.f0=1)with
 | true=>cases b1<;>cases b2<;>rfl
 | false=>
 cases decide (i.f0=2)with
 | true=>cases b1<;>cases b2<;>cases b3<;>cases q3<;>rfl
 | false=>
 cases decide (i.f0=3)with
 | true=>cases b1<;>cases b2<;>rfl
 | false=>
 cases decide (i.f0=4)with
 | true=>cases b1<;>cases b2<;>rfl
 | false=>
 cases decide (i.f0=5)with
 | true=>cases b1<;>cases b2<;>rfl
 | false=>
 cases decide (i.f0=6)with
 | true=>cases b1<;>cases b2<;>rfl
 | false=>
 cases decide (i.f0=7)with
 | true=>cases b1<;>cases b2<;>cases b3<;>cases q4<;>rfl
 | false=>
 cases decide (i.f0=8)with
 | true=>cases b1<;>rfl
 | false=>
 cases decide (i.f0=9)with
 | true=>cases b1<;>cases b2<;>cases q5<;>rfl
 | false=>
 cases decide (i.f0=10)with
 | true=>cases b1<;>cases b2<;>cases q5<;>cases b3<;>rfl
 | false=>
 by_cases h11:i.f0=11
 ·rw[h11]; cases b1<;>cases b2<;>cases b3<;>rfl
 ·rw[z9 h11]
  by_cases h12:i.f0=12
  ·rw[h12]; cases b1<;>cases b2<;>cases b3<;>rfl
  ·have hx:(decide (11≤i.f0)&&decide (i.f0≤12))=false:=by
    rw[z174]; by_cases h13:11≤i.f0
    ·exact .inr (z9 (by omega))
    ·exact .inl (z9 h13)
   rw[z9 h12,hx]; cases b1<;>cases b2<;>cases b3<;>rfl
theorem SJ(n:Nat)(hn:n≤1099511627776)(fs:List aD)(ps:List aA)(nm:List UInt8)(ar sl:Int)(is:List aE)(at':Nat)(i:aE)(hi:is[at']? =some i)(hl:is.length<4611686018427387904)(h:dl cB ps+400<n)(h2:fs.length<n)(h3:iP i<n):nF n fs ps nm ar sl is (at':Int)=some (rY fs ps sl (decide (((at'+1:Nat):Int)≤i.f3)&&decide (i.f3≤IntKind.wrap .i64 ((is.length:Int) - 1))) i):=by
 rw[CW]at h3; have hlt:=bK hi; unfold nF rY; rw[bP,hi,z8,Rw n hn ps sl i h,JP n fs ps i.f2 h2 (by omega),AZ n i.f2 (by omega) (by omega),PK]
 simp only[pI,z8,Mn,aP (show at'<4611686018427387904 by omega)]
 generalize tT fs i=q1; generalize BS ps sl i=q2; generalize gR i.f2=q3; generalize Mr i.f2=q4; generalize (decide (((at'+1:Nat):Int)≤i.f3)&&decide (i.f3≤IntKind.wrap .i64 ((is.length:Int) - 1)))=q5; generalize (decide (0≤i.f1)&&decide (i.f1≤IntKind.wrap .i64 (sl - 1)))=q6; generalize (decide (0≤i.f1)&&decide (i.f1≤1000000000000))=q7; generalize (decide (0≤i.f1)&&decide (i.f1≤20))=q8; generalize (decide (2≤i.f1)&&decide (i.f1≤6))=q9; generalize (decide (11≤i.f0)&&decide (i.f0≤12))=q10; generalize decide (i.f2=[])=b1; generalize decide (i.f3=0)=b2; generalize decide (i.f1=0)=b3; cases decide (i.f0=1)with
 | true=>cases b1<;>cases b2<;>rfl
 | false=>
 cases decide (i.f0=2)with
 | true=>cases b1<;>cases b2<;>cases b3<;>cases q3<;>cases q5<;>rfl
 | false=>
 cases decide (i.f0=3)with
 | true=>cases b1<;>cases b2<;>rfl
 | false=>
 cases decide (i.f0=4)with
 | true=>cases b1<;>cases b2<;>rfl
 | false=>
 cases decide (i.f0=5)with
 | true=>cases b1<;>cases b2<;>rfl
 | false=>
 cases decide (i.f0=6)with
 | true=>cases b1<;>cases b2<;>rfl
 | false=>
 cases decide (i.f0=7)with
 | true=>cases b1<;>cases b2<;>cases b3<;>cases q4<;>rfl
 | false=>
 cases decide (i.f0=8)with
 | true=>cases b1<;>rfl
 | false=>
 cases decide (i.f0=9)with
 | true=>cases b1<;>cases b2<;>cases q5<;>rfl
 | false=>
 cases decide (i.f0=10)with
 | true=>cases b1<;>cases b2<;>cases q5<;>cases b3<;>rfl
 | false=>cases b1<;>cases b2<;>cases b3<;>cases q10<;>rfl
theorem HO(fs:List aD)(ps:List aA)(sl:Int)(to:Bool)(i:aE):rY fs ps sl to i=((!(decide (i.f0=9)||decide (i.f0=10))||to)&&rY fs ps sl true i):=by
 unfold rY; by_cases h9:i.f0=9
 ·rw[h9]
  cases to<;>cases decide (i.f2=[])<;>rfl
 by_cases h10:i.f0=10
 ·rw[h10]
  cases to<;>cases decide (i.f2=[])<;>rfl
 rw[z9 h9,z9 h10]; rfl
def sT(i:aE):Int:=
 bif decide (i.f0=4)then i.f1 else bif decide (i.f0=5)then i.f1 else bif decide (i.f0=6)then i.f1 else bif decide (i.f0=8)then i.f1 else bif decide (i.f0=7)then 2 else bif decide (i.f0=9)then 1 else bif decide (i.f0=12)then 1 else 0
theorem My(n:Nat)(i:aE):kF n i.f0 i.f1 i.f2 i.f3=some (sT i):=by
 unfold kF sT; simp only[Cs]
theorem NK(n:Nat)(i:aE)(h1:1≤i.f0)(h2:i.f0≤12): ∃g,mB n i.f0 i.f1 i.f2 i.f3=some (sT i,g)∧(i.f0≤8→g=1):=by
 have e:i.f0=1∨i.f0=2∨i.f0=3∨i.f0=4∨i.f0=5∨i.f0=6∨i.f0=7∨i.f0=8∨i.f0=9∨i.f0=10∨i.f0=11∨i.f0=12:=by omega
 unfold mB sT; rcases e with e | e | e | e | e | e | e | e | e | e | e | e<;>rw[e]<;>exact⟨_,rfl,fun h=>by first | rfl | omega⟩

def iS(hs:List Int)(p:Nat)(v:Int):Option (List Int):=match hs[p]? with
 | none=>none
 | some x=>bif decide (x= -1)then some (hs.set p v)else bif decide (x=v)then some hs else none
theorem AY(n:Nat)(hs:List Int)(p:Nat)(v:Int)(h:p<hs.length): ∃l,gC n hs (p:Int) v=some ((iS hs p v).isSome,l)∧l.length=hs.length∧ ∀q,iS hs p v=some q→l=q:=by
 have e:hs[p]? =some hs[p]:=z12 h
 generalize hs[p]=x at e; have es:(hs.set p v)[p]? =some v:=z65 h
 unfold gC iS; simp only[bP,e,z8,z35,es]; cases decide (x= -1)with
 | true=>exact⟨hs.set p v,by simp,z71,fun q hq=>by simpa using hq⟩
 | false=>
  refine⟨hs,by simp only[z11]; cases decide (x=v)<;>rfl,rfl,fun q hq=> ?_⟩
  simp only[z11]at hq; cases hx:decide (x=v)<;>rw[hx]at hq
  ·cases hq
  ·exact z46 hq
theorem pC{hs:List Int}{p:Nat}{v:Int}{q:List Int}(h:iS hs p v=some q):q.length=hs.length:=by
 unfold iS at h; cases e:hs[p]? with
 | none=>rw[e]at h; cases h
 | some x=>
  rw[e]at h; simp only at h; cases h1:decide (x= -1)<;>rw[h1]at h
  ·cases h2:decide (x=v)<;>rw[h2]at h
   ·cases h
   ·cases h; rfl
  ·cases h; exact z71
theorem Ja{hs:List Int}{p:Nat}{v:Int}{q:List Int}(h:iS hs p v=some q):q[p]? =some v∧ ∀j,j≠p→q[j]? =hs[j]? :=by
 unfold iS at h; cases e:hs[p]? with
 | none=>rw[e]at h; cases h
 | some x=>
  rw[e]at h; simp only at h; cases h1:decide (x= -1)<;>rw[h1]at h
  ·cases h2:decide (x=v)<;>rw[h2]at h
   ·cases h
   ·cases h
    have:=of_decide_eq_true h2; exact⟨by rw[e,this],fun _ _=>rfl⟩
  ·cases h
   exact⟨z65 (bK e),fun j hj=>z94 (Ne.symm hj)⟩
theorem xI{hs:List Int}{p:Nat}{v:Int}{q:List Int}(h:iS hs p v=some q){j:Nat}{x:Int}(hj:hs[j]? =some x)(hx:x≠ -1):q[j]? =some x:=by
 by_cases e:j=p
 ·subst e
  unfold iS at h; rw[hj]at h; simp only[z9 hx,z11]at h; cases h2:decide (x=v)<;>rw[h2]at h
  ·cases h
  ·cases h; exact hj
 ·rw[(Ja h).2 j e]; exact hj
theorem Nc(hs:List Int)(p q:Nat)(u v:Int)(hu:u≠ -1)(hv:v≠ -1):(iS hs q u).bind (fun l=>iS l p v)=(iS hs p v).bind (fun l=>iS l q u):=by
 by_cases e:p=q
 ·subst e
  unfold iS; cases e:hs[p]? with
  | none=>rfl
  | some x=>
   simp only; have hp:=bK e; by_cases h1:x= -1
   ·rw[z13 h1]
    simp only[z15,z8,z65 hp,z9 hu,z9 hv,z11]
    by_cases h2:u=v
    ·subst h2; rfl
    ·rw[z9 h2,z9 (Ne.symm h2)]; rfl
   ·rw[z9 h1]
    simp only[z11]; by_cases h2:x=u
    ·by_cases h3:x=v
     ·subst h2; subst h3; rfl
     ·rw[z13 h2,z9 h3]
      simp only[z15,z11,z8,e,z9 h1,z9 h3,Vn]
    ·rw[z9 h2]
     by_cases h3:x=v
     ·rw[z13 h3]
      simp only[z15,z11,z8,e,z9 h1,z9 h2,Vn]
     ·rw[z9 h3]; rfl
 ·have hA: ∀(l:List Int) (a b:Nat) (w:Int),a≠b→(l.set a w)[b]? =l[b]? :=fun l a b w h=>z94 h
  unfold iS; cases e1:hs[q]? with
  | none=>
   cases e2:hs[p]? with
   | none=>rfl
   | some y=>
    simp only[Vn]; cases decide (y= -1)with
    | true=>simp only[z15,z8,hA _ _ _ _ e,e1]
    | false=>
     cases decide (y=v)with
     | true=>simp only[z15,z11,z8,e1]
     | false=>rfl
  | some x=>
   cases e2:hs[p]? with
   | none=>
    simp only[Vn]; cases decide (x= -1)with
    | true=>simp only[z15,z8,hA _ _ _ _ (Ne.symm e),e2]
    | false=>
     cases decide (x=u)with
     | true=>simp only[z15,z11,z8,e2]
     | false=>rfl
   | some y=>
    simp only; cases h1:decide (x= -1)<;>cases h2:decide (y= -1)<;>cases h3:decide (x=u)<;>cases h4:decide (y=v)<;>simp only[z15,z11,z8,Vn,hA _ _ _ _ e,hA _ _ _ _ (Ne.symm e),e1,e2,h1,h2,h3,h4,List.set_comm _ _ e]

def up(h t:Int):Int:=IntKind.wrap .i64 (IntKind.wrap .i64 (h - t)+1)
def Bm(at':Nat)(i:aE)(h:Int)(hs:List Int):Option (List Int):=
 bif decide (i.f0=11)then some hs else bif decide (i.f0=12)then some hs
 else bif decide (i.f0=10)then iS hs i.f3.toNat h
 else bif decide (i.f0=9)then(iS hs i.f3.toNat h).bind fun l=>iS l (at'+1) (IntKind.wrap .i64 (h - 1))
 else iS hs (at'+1) (up h (sT i))
def Ly(i:aE)(h:Int):Bool:=decide (h<sT i)||(decide (300<h)||(decide (i.f0=12)&& !decide (h=1)))
def Ep:Nat→List aE→List Int→Bool
 | _,[],_=>true
 | at',i::r,hs=>match hs[at']? with
  | none=>false
  | some h=>bif Ly i h then false else match Bm at' i h hs with
   | none=>false
   | some l=>Ep (at'+1) r l
def wfI(len at':Nat)(i:aE):Prop:=1≤i.f0∧i.f0≤12∧((i.f0=9∨i.f0=10)→(at':Int)<i.f3∧i.f3<len)
theorem Rz{at':Nat}{i:aE}{h:Int}{hs l:List Int}(e:Bm at' i h hs=some l):l.length=hs.length:=by
 unfold Bm at e; cases h1:decide (i.f0=11)<;>rw[h1]at e
 ·cases h2:decide (i.f0=12)<;>rw[h2]at e
  ·cases h3:decide (i.f0=10)<;>rw[h3]at e
   ·cases h4:decide (i.f0=9)<;>rw[h4]at e
    ·exact pC e
    ·obtain⟨m,m1,m2⟩:=z22.1 e
     rw[pC m2,pC m1]
   ·exact pC e
  ·cases e; rfl
 ·cases e; rfl
def finS:(List Int×Bool)⊕(List Int×Int×Bool)→Option (List Int×Bool)
 | .inl t=>some (t.1,t.2)
 | .inr t=>some (t.1,true)
theorem UP(n:Nat)(is:List aE)(hl:is.length<4611686018427387904)(hw: ∀(k:Nat) i,is[k]? =some i→wfI is.length k i): ∀(r:List aE) (at':Nat) (hs:List Int) (m:Nat),is.drop at'=r→at'≤is.length→hs.length=is.length→r.length<m→ ∃q,loopN (dJ n is) m (hs,(at':Int))=some q∧ ∃l,finS q=some (l,Ep at' r hs):=by
 intro r; induction r with
 | nil=>
  intro at' hs m hr ha hh hm; obtain⟨m,rfl⟩: ∃k,m=k+1:=⟨m - 1,by simp at hm; omega⟩
  have:at'=is.length:=by
   have:=congrArg List.length hr; simp at this; omega
  subst this; refine⟨.inr (hs,(is.length:Int),false), ?_,hs,rfl⟩
  simp only[loopN,dJ,hh,aN,z11]
 | cons i r ih=>
  intro at' hs m hr ha hh hm; obtain⟨m,rfl⟩: ∃k,m=k+1:=⟨m - 1,by simp at hm; omega⟩
  have hi:is[at']? =some i:=by
   have:=congrArg (fun l=>l[0]?) hr
   simpa [z45]using this
  have hr2:is.drop (at'+1)=r:=by
   have:=congrArg (List.drop 1) hr; simpa [Td]using this
  have hlt:=bK hi; have hg:hs[at']? =some hs[at']:=z12 (by omega)
  generalize hs[at']=h at hg; obtain⟨w1,w2,w3⟩:=hw at' i hi; obtain⟨g,g1,g2⟩:=NK n i w1 w2; have hwr:=aP (show at'<4611686018427387904 by omega)
  have hlen: ∀l:List Int,l.length=is.length→(decide (((at'+1:Nat):Int)<(l.length:Int))=decide (at'+1<is.length)):=fun l hl=>by
   rw[hl]; by_cases c:at'+1<is.length
   ·rw[z13 c,z13 (by omega)]
   ·rw[z9 c,z9 (by omega)]
  have hbad:(bif decide (h<sT i)then some true else bif decide ((300:Int)<h)then some true else bif decide (i.f0=(12:Int))then some (!decide (h=(1:Int)))else some false)=some (Ly i h):=by
   unfold Ly; generalize decide (h=1)=z; cases decide (h<sT i)<;>cases decide (300<h)<;>cases decide (i.f0=12)<;>rfl
  unfold Ep; rw[hg]; simp only[loopN,dJ,z13 (show(at':Int)<(hs.length:Int)by omega),z15,bP,hi,hg,z8,g1,hbad,hwr,hlen hs hh]
  cases Ly i h with
  | true=>exact⟨_,rfl,hs,rfl⟩
  | false=>
   simp only[z11,z37]; have step: ∀(l:List Int),l.length=is.length→Bm at' i h hs=some l→ ∃q,loopN (dJ n is) m (l,((at'+1:Nat):Int))=some q∧ ∃l',finS q=some (l',(match Bm at' i h hs with | none=>false | some l=>Ep (at'+1) r l)):=fun l h1 h2=>by
    rw[h2]; exact ih (at'+1) l m hr2 (by omega) h1 (by simp at hm; omega)
   have stop:Bm at' i h hs=none→ ∀l:List Int, ∃q,(some (Sum.inl (l,false)):Option ((List Int×Bool)⊕(List Int×Int×Bool)))=some q∧ ∃l',finS q=some (l',(match Bm at' i h hs with | none=>false | some l=>Ep (at'+1) r l)):=fun h2 l=>by
    rw[h2]; exact⟨_,rfl,l,rfl⟩
   by_cases e11:i.f0=11
   ·rw[z13 e11]
    exact step hs hh (by unfold Bm; rw[z13 e11]; rfl)
   rw[z9 e11]; by_cases e12:i.f0=12
   ·rw[z13 e12]
    exact step hs hh (by unfold Bm; rw[z9 e11,z13 e12]; rfl)
   rw[z9 e12]; by_cases e10:i.f0=10
   ·rw[z13 e10]
    obtain⟨k,hk⟩: ∃k:Nat,i.f3=k:=⟨i.f3.toNat,by omega⟩
    have hn:Bm at' i h hs=iS hs k h:=by
     unfold Bm; rw[z9 e11,z9 e12,z13 e10,hk,z35]; rfl
    obtain⟨l,l1,l2,l3⟩:=AY n hs k h (by omega)
    rw[hk,l1]; simp only[z11,z15,z8]; cases hc:iS hs k h with
    | none=>exact stop (by rw[hn,hc]) l
    | some q=>
     have:=l3 q hc; subst this; exact step l (by omega) (by rw[hn,hc])
   rw[z9 e10]; by_cases e9:i.f0=9
   ·rw[z13 e9]
    obtain⟨k,hk⟩: ∃k:Nat,i.f3=k:=⟨i.f3.toNat,by omega⟩
    have hw3:=w3 (.inl e9); have hn:Bm at' i h hs=(iS hs k h).bind fun l=>iS l (at'+1) (IntKind.wrap .i64 (h - 1)):=by
     unfold Bm; rw[z9 e11,z9 e12,z9 e10,z13 e9,hk,z35]; rfl
    obtain⟨l,l1,l2,l3⟩:=AY n hs k h (by omega)
    rw[hk,l1]; simp only[z11,z15,z8]; cases hc:iS hs k h with
    | none=>exact stop (by rw[hn,hc]; rfl) l
    | some q=>
     have:=l3 q hc; subst this; have hl9:decide (((at'+1:Nat):Int)<(l.length:Int))=true:=z13 (by omega)
     simp only[Option.isSome_some,z15,hl9]; obtain⟨l',p1,p2,p3⟩:=AY n l (at'+1) (IntKind.wrap .i64 (h - 1)) (by omega)
     rw[p1]; simp only[z8]; cases hd:iS l (at'+1) (IntKind.wrap .i64 (h - 1))with
     | none=>exact stop (by rw[hn,hc]; exact hd) l'
     | some q=>
      have:=p3 q hd; subst this; exact step l' (by omega) (by rw[hn,hc]; exact hd)
   rw[z9 e9]; have hn:Bm at' i h hs=iS hs (at'+1) (up h (sT i)):=by
    unfold Bm; rw[z9 e11,z9 e12,z9 e10,z9 e9]; rfl
   rw[g2 (by omega)]
   simp only[z11]; by_cases hc:at'+1<is.length
   ·rw[z13 hc]
    obtain⟨l,l1,l2,l3⟩:=AY n hs (at'+1) (up h (sT i)) (by omega)
    have l1:gC n hs ((at'+1:Nat):Int) (IntKind.wrap .i64 (IntKind.wrap .i64 (h - sT i)+1))=_:=l1; simp only[z15,l1,z8]; cases hc:iS hs (at'+1) (up h (sT i))with
    | none=>exact stop (by rw[hn,hc]) l
    | some q=>
     have:=l3 q hc; subst this; exact step l (by omega) (by rw[hn,hc])
   ·rw[z9 hc]
    have:iS hs (at'+1) (up h (sT i))=none:=by
     unfold iS; rw[z62 (by omega)]
    exact stop (by rw[hn,this]) hs
theorem TG(z v:Int): ∀(L i:Nat),i<L→(List.replicate i v++List.replicate (L - i) z).set i v=List.replicate (i+1) v++List.replicate (L - (i+1)) z:=by
 intro L i h; obtain⟨k,hk⟩: ∃k,L - i=k+1:=⟨L - i - 1,by omega⟩
 have hk2:L - (i+1)=k:=by omega
 rw[hk,hk2,List.replicate_succ,List.set_append_right _ _ (by simp)]
 simp [List.replicate_succ',z56]
def start(L:Nat):List Int:=0::List.replicate (L - 1) (-1)
theorem Jv(n:Nat)(hn:n≤1099511627776)(nm:List UInt8)(ar sl:Int)(is:List aE)(h0:0<is.length)(h:is.length<n)(hw: ∀(k:Nat) i,is[k]? =some i→wfI is.length k i): ∃l,jW n nm ar sl is=some (l,Ep 0 is (start is.length)):=by
 unfold jW; have hc:decide (0≤(is.length:Int)∧(is.length:Int)≤maxLen∧8*(is.length:Int)≤281474976710656)=true:=z13 ⟨by omega,by simp only[maxLen]; omega,by omega⟩
 obtain⟨k,hk⟩: ∃k,is.length=k+1:=⟨is.length - 1,by omega⟩
 have e1:=Cm (body:=eS n) (fun i=>(0::(List.replicate i (-1)++List.replicate (k - i) 0),((i+1:Nat):Int))) (len:=k) (r:=(start is.length,((k+1:Nat):Int),false)) (fun i hi=>by
  have hx:(0::(List.replicate i (-1)++List.replicate (k - i) 0):List Int).length=k+1:=by simp; omega
  have hg: ∃y,(0::(List.replicate i (-1)++List.replicate (k - i) 0):List Int)[i+1]? =some y:=⟨_,z12 (by rw[hx]; omega)⟩
  obtain⟨y,hy⟩:=hg; simp only[eS,hx,z13 (show((i+1:Nat):Int)<((k+1:Nat):Int)by omega),z15,bP,hy,z8,z35,aP (show i+1<4611686018427387904 by omega),Vr,TG 0 (-1) k i hi]) (by
  have hx:(0::(List.replicate k (-1)++List.replicate (k - k) 0):List Int).length=k+1:=by simp
  simp only[eS,hx,aN,z11]; simp [start,hk]) (n:=n) (by omega)
 have e1:loopN (eS n) n (List.replicate (Int.toNat (is.length:Int)) (0:Int),(1:Int))=some (start is.length,((k+1:Nat):Int),false):=by
  rw[←e1,z35,hk]; rfl
 rw[hc,e1]; simp only[ck,z15,z8]; obtain⟨q,q1,l,q2⟩:=UP n is (by omega) hw is 0 (start is.length) n rfl (by omega) (by simp [start]; omega) h
 have q1:loopN (dJ n is) n (start is.length,(0:Int))=some q:=q1; rw[q1]; refine⟨l, ?_⟩
 cases q<;>exact q2
def cA(hs:List Int)(p:Nat)(v:Int)(b:Bool):List Int×Bool:=bif decide (hs.length≤p)||decide (300<v)then(hs,true)else match hs[p]? with
 | none=>(hs,true)
 | some x=>bif decide (x<0)then(hs.set p v,b)else bif decide (x=v)then(hs,b)else(hs,true)
theorem Cr(n:Nat)(hs:List Int)(p:Nat)(v:Int)(b:Bool):bG n (p:Int) v hs b=some (cA hs p v b):=by
 unfold bG cA; by_cases h:hs.length≤p
 ·rw[z13 h,z13 (show(hs.length:Int)≤p by omega)]; rfl
 rw[z9 h,z9 (show ¬ (hs.length:Int)≤p by omega)]
 have e:hs[p]? =some hs[p]:=z12 (by omega)
 generalize hs[p]=x at e; simp only[z11,z40,z8,bP,e,z35]; cases decide (300<v)<;>cases decide (x<0)<;>cases decide (x=v)<;>rfl
def lvA(at':Nat)(i:aE)(h:Int)(hs:List Int)(b:Bool):List Int×Bool:=
 bif decide (h<sT i)||((decide (i.f0=9)||decide (i.f0=10))&&decide (i.f3≤(at':Int)))then(hs,true)
 else bif decide (i.f0=9)then cA (cA hs (at'+1) (IntKind.wrap .i64 (h - 1)) b).1 i.f3.toNat h (cA hs (at'+1) (IntKind.wrap .i64 (h - 1)) b).2
 else bif decide (i.f0=10)then cA hs i.f3.toNat h b
 else bif decide (i.f0=11)then(hs,b)
 else bif decide (i.f0=12)then(hs,b|| !decide (h=1))
 else cA hs (at'+1) (up h (sT i)) b
theorem QC(n:Nat)(at':Nat)(i:aE)(h:Int)(hs:List Int)(b:Bool)(hg:hs[at']? =some h)(hl:at'<4611686018427387904):fG n (at':Int) i.f0 i.f1 i.f2 i.f3 hs b=some (lvA at' i h hs b):=by
 unfold fG lvA; have hup:IntKind.wrap .i64 (IntKind.wrap .i64 (h - sT i)+1)=up h (sT i):=rfl; simp only[bP,hg,z8,My,aP hl,Cr,hup]; cases h0:decide (h<sT i)with
 | true=>rfl
 | false=>
 by_cases e9:i.f0=9
 ·rw[z13 e9]
  by_cases h2:i.f3≤(at':Int)
  ·rw[z13 h2]; rfl
  ·rw[z9 h2]
   obtain⟨k,hk⟩: ∃k:Nat,i.f3=k:=⟨i.f3.toNat,by omega⟩
   rw[hk]; simp only[z11,z15,z40,z68,z8,Cr,z35]
 rw[z9 e9]; by_cases e10:i.f0=10
 ·rw[z13 e10]
  by_cases h2:i.f3≤(at':Int)
  ·rw[z13 h2]; rfl
  ·rw[z9 h2]
   obtain⟨k,hk⟩: ∃k:Nat,i.f3=k:=⟨i.f3.toNat,by omega⟩
   rw[hk]; simp only[z11,z15,z40,z68,z8,Cr,z35]
 rw[z9 e10]; simp only[z11,z40,Tc,z8]; generalize decide (h=1)=z; cases decide (i.f0=11)<;>cases decide (i.f0=12)<;>cases b<;>rfl
theorem Zz(hs:List Int)(p:Nat)(v:Int)(b:Bool):(cA hs p v b).1.length=hs.length:=by
 unfold cA; cases decide (hs.length≤p)||decide (300<v)with
 | true=>rfl
 | false=>
  cases hs[p]? with
  | none=>rfl
  | some x=>
   simp only[z11]; cases decide (x<0)<;>cases decide (x=v)<;>first | rfl | exact z71
theorem Uq(at':Nat)(i:aE)(h:Int)(hs:List Int)(b:Bool):(lvA at' i h hs b).1.length=hs.length:=by
 unfold lvA; cases decide (h<sT i)||((decide (i.f0=9)||decide (i.f0=10))&&decide (i.f3≤(at':Int)))with
 | true=>rfl
 | false=>
  cases decide (i.f0=9)<;>cases decide (i.f0=10)<;>cases decide (i.f0=11)<;>cases decide (i.f0=12)<;>simp only[z11,z15,Zz]
def Ho:Nat→List aE→List Int→Bool→Bool
 | _,[],_,b=> !b
 | at',i::r,hs,b=>bif b then false else match hs[at']? with
  | none=>false
  | some h=>bif decide (h<0)then false else Ho (at'+1) r (lvA at' i h hs b).1 (lvA at' i h hs b).2
def finA:(List Int×Bool)⊕(Int×Bool×List Int×Bool)→Option (List Int×Bool)
 | .inl t=>some (t.1,t.2)
 | .inr t=>some (t.2.2.1, !t.2.2.2)
theorem VG(n:Nat)(is:List aE)(hl:is.length<4611686018427387904): ∀(r:List aE) (at':Nat) (hs:List Int) (b:Bool) (m:Nat),is.drop at'=r→at'≤is.length→hs.length=is.length→r.length<m→ ∃q,loopN (eU n is) m ((at':Int),hs,b)=some q∧ ∃l,finA q=some (l,Ho at' r hs b):=by
 intro r; induction r with
 | nil=>
  intro at' hs b m hr ha hh hm; obtain⟨m,rfl⟩: ∃k,m=k+1:=⟨m - 1,by simp at hm; omega⟩
  have:at'=is.length:=by
   have:=congrArg List.length hr; simp at this; omega
  subst this; refine⟨.inr ((is.length:Int),false,hs,b), ?_,hs,rfl⟩
  simp only[loopN,eU,aN,z11]
 | cons i r ih=>
  intro at' hs b m hr ha hh hm; obtain⟨m,rfl⟩: ∃k,m=k+1:=⟨m - 1,by simp at hm; omega⟩
  have hi:is[at']? =some i:=by
   have:=congrArg (fun l=>l[0]?) hr
   simpa [z45]using this
  have hr2:is.drop (at'+1)=r:=by
   have:=congrArg (List.drop 1) hr; simpa [Td]using this
  have hlt:=bK hi; have hg:hs[at']? =some hs[at']:=z12 (by omega)
  generalize hs[at']=h at hg; have hlv:=QC n at' i h hs b hg (by omega)
  unfold Ho; rw[hg]; simp only[loopN,eU,bW hi,z15,bP,hi,hg,z8,hlv,aP (show at'<4611686018427387904 by omega)]
  cases b with
  | true=>exact⟨_,rfl,[],rfl⟩
  | false=>
   simp only[z11,z8]; cases decide (h<0)with
   | true=>exact⟨_,rfl,[],rfl⟩
   | false=>exact ih (at'+1) _ _ m hr2 (by omega) (by rw[Uq]; exact hh) (by simp at hm; omega)
theorem Jz(n:Nat)(hn:n≤1099511627776)(nm:List UInt8)(ar sl:Int)(is:List aE)(h0:0<is.length)(h:is.length<n): ∃l,kC n nm ar sl is=some (l,Ho 0 is (start is.length) false):=by
 unfold kC; have hc:decide (0≤(is.length:Int)∧(is.length:Int)≤maxLen∧8*(is.length:Int)≤281474976710656)=true:=z13 ⟨by omega,by simp only[maxLen]; omega,by omega⟩
 have e1:=Cm (body:=eV n is) (fun i=>((i:Int),(List.replicate i (-1)++List.replicate (is.length - i) 0),false)) (len:=is.length) (r:=((is.length:Int),false,List.replicate is.length (-1),false)) (fun i hi=>by
  have hx:(List.replicate i (-1)++List.replicate (is.length - i) 0:List Int).length=is.length:=by simp; omega
  obtain⟨y,hy⟩: ∃y,(List.replicate i (-1)++List.replicate (is.length - i) 0:List Int)[i]? =some y:=⟨_,z12 (by rw[hx]; omega)⟩
  simp only[eV,z175,z13 (show(i:Int)<(is.length:Int)by omega),z15,bP,hy,z8,z35,aP (show i<4611686018427387904 by omega),TG 0 (-1) is.length i hi]) (by
  simp only[eV,z175,z35,aN,z11]; simp) (n:=n) (by omega)
 have e1:loopN (eV n is) n ((0:Int),List.replicate (Int.toNat (is.length:Int)) (0:Int),false)=some ((is.length:Int),false,List.replicate is.length (-1),false):=by
  rw[←e1,z35]; simp
 have e2:bG n (0:Int) (0:Int) (List.replicate is.length (-1)) false=some (start is.length,false):=by
  have:=Cr n (List.replicate is.length (-1)) 0 0 false; have:bG n (0:Int) (0:Int) (List.replicate is.length (-1)) false=_:=this; rw[this]; obtain⟨k,hk⟩: ∃k,is.length=k+1:=⟨is.length - 1,by omega⟩
  rw[hk]; unfold cA start; simp [List.replicate_succ]
 rw[hc,e1]; simp only[ck,z15,z8,e2]; obtain⟨q,q1,l,q2⟩:=VG n is (by omega) is 0 (start is.length) false n rfl (by omega) (by simp [start]; omega) h
 have q1:loopN (eU n is) n ((0:Int),start is.length,false)=some q:=q1; rw[q1]; refine⟨l, ?_⟩
 cases q<;>exact q2

theorem tC(at':Nat)(r:List aE)(hs:List Int):Ho at' r hs true=false:=by
 cases r<;>rfl
def okH(hs:List Int):Prop:= ∀(j:Nat) x,hs[j]? =some x→ -1≤x∧x≤300
theorem Uh{hs:List Int}(h:okH hs){p:Nat}{v:Int}(h0: -1≤v)(h1:v≤300):okH (hs.set p v):=by
 intro j x hx; by_cases e:p=j
 ·subst e
  by_cases hp:p<hs.length
  ·rw[z65 hp]at hx; cases hx; exact⟨h0,h1⟩
  ·rw[z62 (by rw[z71]; omega)]at hx; cases hx
 ·rw[z94 e]at hx; exact h j x hx
theorem cA_P{hs:List Int}(h:okH hs)(p:Nat)(v:Int)(h0:0≤v)(h1:v≤300):(iS hs p v=none∧ ∀b,(cA hs p v b).2=true)∨(∃l,iS hs p v=some l∧okH l∧ ∀b,cA hs p v b=(l,b)):=by
 unfold iS cA; cases e:hs[p]? with
 | none=>exact .inl ⟨rfl,fun b=>by cases decide (hs.length≤p)||decide (300<v)<;>rfl⟩
 | some x=>
  have hx:=h p x e; have hp:=bK e; simp only[z9 (show ¬ hs.length≤p by omega),z9 (show ¬ 300<v by omega),z179,z11]
  by_cases c:x= -1
  ·rw[z13 c,z13 (show x<0 by omega)]
   exact .inr ⟨_,rfl,Uh h (by omega) h1,fun b=>rfl⟩
  ·rw[z9 c,z9 (show ¬ x<0 by omega)]
   cases decide (x=v)with
   | true=>exact .inr ⟨_,rfl,h,fun b=>rfl⟩
   | false=>exact .inl ⟨rfl,fun b=>rfl⟩
theorem aAA(hs:List Int)(p:Nat)(v:Int):(cA hs p v true).2=true:=by
 unfold cA; cases decide (hs.length≤p)||decide (300<v)with
 | true=>rfl
 | false=>
  cases hs[p]? with
  | none=>rfl
  | some x=>simp only[z11]; cases decide (x<0)<;>cases decide (x=v)<;>rfl
theorem Ix: ∀(r:List aE) (at':Nat) (hs:List Int) (p:Nat) (v:Int),hs[p]? =some v→300<v→at'≤p→p<at'+r.length→Ep at' r hs=false
 | [],at',hs,p,v,h,hv,h1,h2=>by simp at h2; omega
 | i::r,at',hs,p,v,h,hv,h1,h2=>by
  unfold Ep; cases e:hs[at']? with
  | none=>rfl
  | some x=>
   simp only; by_cases hp:at'=p
   ·subst hp
    rw[h]at e; cases e; have:Ly i v=true:=by
     unfold Ly; rw[z13 hv,Bool.true_or,Vi]
    rw[this]; rfl
   ·cases Ly i x with
    | true=>rfl
    | false=>
     simp only[z11]; cases hn:Bm at' i x hs with
     | none=>rfl
     | some l=>
      simp only; refine Ix r (at'+1) l p v ?_ hv (by omega) (by simp at h2; omega)
      unfold Bm at hn; cases h1:decide (i.f0=11)<;>rw[h1]at hn
      ·cases h2:decide (i.f0=12)<;>rw[h2]at hn
       ·cases h3:decide (i.f0=10)<;>rw[h3]at hn
        ·cases h4:decide (i.f0=9)<;>rw[h4]at hn
         ·exact xI hn h (by omega)
         ·obtain⟨m,m1,m2⟩:=z22.1 hn
          exact xI m2 (xI m1 h (by omega)) (by omega)
        ·exact xI hn h (by omega)
       ·cases hn; exact h
      ·cases hn; exact h
theorem up_ok{h t:Int}(h0:t≤h)(h1:h≤300)(h2:0≤t)(h3:t≤20):up h t=h - t+1:=by
 unfold up; rw[wrap_i64 (n:=h - t) (by omega) (by omega),wrap_i64 (by omega) (by omega)]
theorem XR(L:Nat): ∀(r:List aE) (at':Nat) (hs:List Int),hs.length=L→at'+r.length=L→okH hs→(∀(k:Nat) i,r[k]? =some i→wfI L (at'+k) i∧0≤sT i∧sT i≤20)→Ho at' r hs false=Ep at' r hs
 | [],at',hs,_,_,_,_=>rfl
 | i::r,at',hs,hl,hr,ho,hw=>by
  have hr:at'+(r.length+1)=L:=hr; obtain⟨⟨w1,w2,w3⟩,t0,t1⟩:=hw 0 i rfl; have ih: ∀l:List Int,l.length=L→okH l→Ho (at'+1) r l false=Ep (at'+1) r l:=fun l h1 h2=>XR L r (at'+1) l h1 (by omega) h2 (fun k j hj=>by
   have:=hw (k+1) j (by simpa using hj)
   rwa[show at'+(k+1)=at'+1+k by omega]at this)
  have hg:hs[at']? =some hs[at']:=z12 (by omega)
  generalize hs[at']=h at hg; obtain⟨b0,b1⟩:=ho at' h hg; unfold Ho Ep; rw[hg]; simp only[z11]; cases hb:Ly i h with
  | true=>
   simp only[z15]; cases hn:decide (h<0)with
   | true=>rfl
   | false=>
    simp only[z11]; have:(lvA at' i h hs false).2=true:=by
     unfold lvA; unfold Ly at hb; rw[z9 (show ¬ 300<h by omega),z40,z47]at hb
     rcases hb with hb | hb
     ·rw[hb]; rfl
     ·rw[z7]at hb
      have e12:=of_decide_eq_true hb.1; cases decide (h<sT i)with
      | true=>rfl
      | false=>
       rw[e12]; exact hb.2
    rw[this,tC]
  | false=>
   simp only[z11]; unfold Ly at hb; rw[z43,z43]at hb; obtain⟨hb1,_,hb3⟩:=hb; have hb1:=of_decide_eq_false hb1; rw[z9 (show ¬ h<0 by omega)]
   simp only[z11]; unfold lvA; rw[z9 hb1,z40]; unfold Bm; have one: ∀(p:Nat) (v:Int),0≤v→v≤300→Ho (at'+1) r (cA hs p v false).1 (cA hs p v false).2=(match iS hs p v with | none=>false | some l=>Ep (at'+1) r l):=fun p v v0 v1=>by
    rcases cA_P ho p v v0 v1 with⟨c1,c2⟩ | ⟨l,c1,c2,c3⟩
    ·rw[c1,c2 false,tC]
    ·rw[c1,c3 false]
     exact ih l (by rw[pC c1,hl]) c2
   by_cases e9:i.f0=9
   ·have hw3:=w3 (.inl e9)
    have hh1:1≤h:=by
     have:sT i=1:=by unfold sT; rw[e9]; rfl
     omega
    rw[z9 (show ¬ i.f3≤(at':Int)by omega),z13 e9,z9 (show ¬ i.f0=11 by omega),z9 (show ¬ i.f0=12 by omega),z9 (show ¬ i.f0=10 by omega)]
    simp only[z11,z15,z68]; rw[wrap_i64 (n:=h - 1) (by omega) (by omega),Nc hs (at'+1) i.f3.toNat h (h - 1) (by omega) (by omega)]
    rcases cA_P ho (at'+1) (h - 1) (by omega) (by omega)with⟨c1,c2⟩ | ⟨l,c1,c2,c3⟩
    ·rw[c1,c2 false,aAA,tC]; rfl
    ·rw[c1,c3 false]
     simp only[z8]; rcases cA_P c2 i.f3.toNat h (by omega) (by omega)with⟨d1,d2⟩ | ⟨l',d1,d2,d3⟩
     ·rw[d1,d2 false,tC]
     ·rw[d1,d3 false]
      exact ih l' (by rw[pC d1,pC c1,hl]) d2
   rw[z9 e9]; by_cases e10:i.f0=10
   ·have hw3:=w3 (.inr e10)
    rw[z9 (show ¬ i.f3≤(at':Int)by omega),e10]
    exact one _ _ (by omega) b1
   rw[z9 e10]; by_cases e11:i.f0=11
   ·rw[e11]; exact ih hs hl ho
   rw[z9 e11]; by_cases e12:i.f0=12
   ·rw[e12]at hb3 ⊢
    have:h=1:=by simpa using hb3
    subst this; exact ih hs hl ho
   rw[z9 e12]; simp only[z11,z179,Tc]; have hu:=up_ok (h:=h) (t:=sT i) (by omega) b1 t0 t1
   by_cases hv:up h (sT i)≤300
   ·exact one _ _ (by omega) hv
   ·have hc:cA hs (at'+1) (up h (sT i)) false=(hs,true):=by
     unfold cA; rw[z13 (show 300<up h (sT i)by omega),Vi]; rfl
    rw[hc,tC]; cases hp:iS hs (at'+1) (up h (sT i))with
    | none=>rfl
    | some l=>
     have hgl:=(Ja hp).1; have:=bK hgl; have:=pC hp; exact(Ix r (at'+1) l (at'+1) _ hgl (by omega) (by omega) (by omega)).symm
theorem Ok: ∀(r:List aE) (at':Nat) (hs:List Int) (b:Bool),Ho at' r hs b=true→ ∀(k:Nat) i,r[k]? =some i→(i.f0=9∨i.f0=10)→((at'+k:Nat):Int)<i.f3
 | [],_,_,_,_,k,i,hi,_=>by simp at hi
 | j::r,at',hs,b,h,k,i,hi,h9=>by
  unfold Ho at h; cases b with
  | true=>cases h
  | false=>
   simp only[z11]at h; cases e:hs[at']? with
   | none=>rw[e]at h; cases h
   | some x=>
    rw[e]at h; simp only at h; cases hx:decide (x<0)<;>rw[hx]at h
    ·simp only[z11]at h
     cases k with
     | zero=>
      simp only[z24,z10]at hi
      subst hi; by_cases c:j.f3≤(at':Int)
      ·exfalso
       have hz:(decide (j.f0=9)||decide (j.f0=10))=true:=by
        rcases h9 with e | e<;>rw[e]<;>rfl
       have:lvA at' j x hs false=(hs,true):=by
        unfold lvA; rw[hz,z13 c,z32,Vi]; rfl
       rw[this,tC]at h; cases h
      ·simpa using c
     | succ k=>
      have:=Ok r (at'+1) _ _ h k i (by simpa using hi) h9
      rwa[show at'+1+k=at'+(k+1)by omega]at this
    ·cases h
theorem Iw(L:Nat): ∀(r:List aE) (at':Nat) (hs:List Int),hs.length=L→at'+r.length=L→(∀(k:Nat) i,r[k]? =some i→wfI L (at'+k) i)→Ep at' r hs=true→ ∀i,r[r.length - 1]? =some i→i.f0=11∨i.f0=12
 | [],_,_,_,_,_,_,i,hi=>by simp at hi
 | j::r,at',hs,hl,hr,hw,h,i,hi=>by
  have hr:at'+(r.length+1)=L:=hr; unfold Ep at h; cases e:hs[at']? with
  | none=>rw[e]at h; cases h
  | some x=>
   rw[e]at h; simp only at h; cases hx:Ly j x<;>rw[hx]at h
   ·simp only[z11]at h
    cases hn:Bm at' j x hs with
    | none=>rw[hn]at h; cases h
    | some l=>
     rw[hn]at h; simp only at h; have hl2:l.length=L:=by rw[Rz hn,hl]
     cases r with
     | nil=>
      simp only[z51,z53,z28,Vk,z24,z10]at hi
      subst hi; simp only[z53,z28]at hr; obtain⟨w1,w2,w3⟩:=hw 0 j rfl; have hno: ∀(m:List Int) (v:Int),m.length=L→iS m (at'+1) v=none:=fun m v hm=>by
       unfold iS; rw[z62 (by omega)]
      by_cases e11:j.f0=11
      ·exact .inl e11
      by_cases e12:j.f0=12
      ·exact .inr e12
      exfalso
      unfold Bm at hn; rw[z9 e11,z9 e12]at hn; by_cases e10:j.f0=10
      ·have:=w3 (.inr e10); omega
      by_cases e9:j.f0=9
      ·have:=w3 (.inl e9); omega
      rw[z9 e10,z9 e9]at hn; simp only[z11]at hn; rw[hno hs _ hl]at hn; cases hn
     | cons j2 r2=>
      refine Iw L (j2::r2) (at'+1) l hl2 (by simp at hr ⊢; omega) (fun k a ha=> ?_) h i ?_
      ·have:=hw (k+1) a (by simpa using ha)
       rwa[show at'+(k+1)=at'+1+k by omega]at this
      ·simpa using hi
   ·cases h
theorem Pv(L:Nat):okH (start L):=by
 intro j x hx; have:=z20 hx; unfold start at this; rw[Qg]at this; rcases this with rfl | h
 ·omega
 ·have:=List.eq_of_mem_replicate h
  omega
def toI(is:List aE)(i:aE):Bool:=decide (0≤i.f3)&&decide (i.f3≤IntKind.wrap .i64 ((is.length:Int) - 1))
def toS(is:List aE)(at':Nat)(i:aE):Bool:=decide (((at'+1:Nat):Int)≤i.f3)&&decide (i.f3≤IntKind.wrap .i64 ((is.length:Int) - 1))
def zF(f:aD):Bool:=(decide (0≤f.f1)&&decide (f.f1≤4))&&((decide (f.f1≤f.f2)&&decide (f.f2≤400))&&(decide (1≤(f.f3.length:Int))&&decide ((f.f3.length:Int)≤1500)))
def hdB(fs:List aD)(j:Nat)(f:aD):Bool:=decide (pV fs f.f0=(j:Int))&&(gR f.f0&&zF f)
def fnI(fs:List aD)(ps:List aA)(f:aD):Bool:=(gR f.f0&&zF f)&&(f.f3.all (fun i=>rY fs ps f.f2 (toI f.f3 i) i)&&Ho 0 f.f3 (start f.f3.length) false)
def Tw(is:List aE):Bool:=match is[is.length - 1]? with
 | some i=>decide (i.f0=12)||decide (i.f0=11)
 | none=>false
def Ca(fs:List aD)(ps:List aA)(f:aD):Bool:=tZ (fun k i=>rY fs ps f.f2 (toS f.f3 k i) i) 0 f.f3
def fnS(fs:List aD)(ps:List aA)(j:Nat)(f:aD):Bool:=hdB fs j f&&(Ca fs ps f&&(Ep 0 f.f3 (start f.f3.length)&&Tw f.f3))
theorem Dt(f:aD):wFn f=3+f.f0.length+dl iP f.f3:=rfl
theorem VJ(n:Nat)(hn:n≤1099511627776)(fs:List aD)(ps:List aA)(f:aD)(h:wFn f<n)(h2:fs.length<n)(h3:dl cB ps+400<n):rN n f.f0 f.f1 f.f2 f.f3 fs ps=some (fnI fs ps f,fs,ps):=by
 rw[Dt]at h; have hl:=bO iP f.f3; unfold rN fnI; have hd:((fD n f.f0).bind fun c13_2=>bif !c13_2 then some true else(aS n f.f1 (0:Int) (4:Int)).bind fun c20_4=>bif !c20_4 then some true else(aS n f.f2 f.f1 (400:Int)).bind fun c32_6=>bif !c32_6 then some true else(aS n (f.f3.length:Int) (1:Int) (1500:Int)).bind fun c41_8=>some (!c41_8))=some (!(gR f.f0&&zF f)):=by
  unfold zF; simp only[BV n f.f0 (by omega) (by omega),iR,z8]
  cases gR f.f0<;>cases (decide (0≤f.f1)&&decide (f.f1≤4))<;>cases (decide (f.f1≤f.f2)&&decide (f.f2≤400))<;>rfl
 rw[hd,z8]; cases hp:(gR f.f0&&zF f)with
 | false=>rfl
 | true=>
  have h0:0<f.f3.length:=by
   unfold zF at hp; simp only[z7,z23]at hp; omega
  have e:=JJ (body:=kI n f.f0 f.f1 f.f2 f.f3) f.f3 (fun(_:Unit) i=>bif rY fs ps f.f2 (toI f.f3 i) i then Sum.inl ()else Sum.inr ()) (fun _ i=>((i:Int),fs,ps)) (fun _=>Sum.inr ((f.f3.length:Int),false,fs,ps)) (fun _=>Sum.inl (false,fs,ps)) (fun _=>True) (fun k i t hi _=>by
   have hk:=bK hi; have hm:=dE iP (z20 hi); have e1:=SR n hn fs ps f.f0 f.f1 f.f2 f.f3 i h3 h2 (by omega)
   have e1:nG n f.f0 f.f1 f.f2 f.f3 i.f0 i.f1 i.f2 i.f3 fs ps=some (rY fs ps f.f2 (toI f.f3 i) i,fs,ps):=e1; simp only[kI,bW hi,z15,bP,hi,z8,e1,aP (show k<4611686018427387904 by omega)]
   cases rY fs ps f.f2 (toI f.f3 i) i with
   | true=>exact .inl ⟨(),rfl,trivial,rfl⟩
   | false=>exact .inr ⟨(),rfl,rfl⟩) (fun t _=>by simp only[kI,aN,z11]) (n:=n) (by omega) (t0:=()) trivial
  have e:loopN (kI n f.f0 f.f1 f.f2 f.f3) n ((0:Int),fs,ps)=_:=e; rw[e]; have hs: ∀l:List aE,Df (fun(_:Unit) i=>bif rY fs ps f.f2 (toI f.f3 i) i then(Sum.inl ():Unit⊕Unit)else Sum.inr ()) l ()=bif l.all (fun i=>rY fs ps f.f2 (toI f.f3 i) i)then .inl ()else .inr ():=fun l=>by
   induction l with
   | nil=>rfl
   | cons a r ih=>
    simp only[Df,z95]; cases rY fs ps f.f2 (toI f.f3 a) a with
    | true=>exact ih
    | false=>rfl
  rw[hs]; cases f.f3.all (fun i=>rY fs ps f.f2 (toI f.f3 i) i)with
  | false=>rfl
  | true=>
   obtain⟨l,l1⟩:=Jz n hn f.f0 f.f1 f.f2 f.f3 h0 (by omega)
   simp only[z37,z11,z15,z8,l1,z32]
theorem Km{fs:List aD}{ps:List aA}{sl:Int}{to:Bool}{i:aE}(h:rY fs ps sl to i=true):1≤i.f0∧i.f0≤12:=by
 by_cases hx:i.f0=1∨i.f0=2∨i.f0=3∨i.f0=4∨i.f0=5∨i.f0=6∨i.f0=7∨i.f0=8∨i.f0=9∨i.f0=10
 ·omega
 ·unfold rY at h
  rw[z9 (show ¬ i.f0=1 by omega),z9 (show ¬ i.f0=2 by omega),z9 (show ¬ i.f0=3 by omega),z9 (show ¬ i.f0=4 by omega),z9 (show ¬ i.f0=5 by omega),z9 (show ¬ i.f0=6 by omega),z9 (show ¬ i.f0=7 by omega),z9 (show ¬ i.f0=8 by omega),z9 (show ¬ i.f0=9 by omega),z9 (show ¬ i.f0=10 by omega)]at h
  simp only[z11,z7,z23]at h; omega
theorem MB{l:Nat}(h0:0<l)(h:l<4611686018427387904):IntKind.wrap .i64 ((l:Int) - 1)=((l - 1:Nat):Int):=by
 obtain⟨k,rfl⟩: ∃k,l=k+1:=⟨l - 1,by omega⟩
 rw[Iq (by omega)]; simp
theorem JT{fs:List aD}{ps:List aA}{f:aD}(h:Ca fs ps f=true)(h0:0<f.f3.length)(hl:f.f3.length<4611686018427387904): ∀(k:Nat) i,f.f3[k]? =some i→wfI f.f3.length k i:=by
 intro k i hi; have:=(oV _ _ _).1 h k i hi; rw[z28]at this; obtain⟨h1,h2⟩:=Km this; refine⟨h1,h2,fun h9=> ?_⟩
 rw[HO,z7]at this; have hz:(decide (i.f0=9)||decide (i.f0=10))=true:=by
  rcases h9 with e | e<;>rw[e]<;>rfl
 rw[hz]at this; have ht:toS f.f3 k i=true:=this.1; unfold toS at ht; rw[MB h0 hl]at ht; simp only[z7,z23]at ht; omega
theorem ST{fs:List aD}{ps:List aA}{sl:Int}{to:Bool}{i:aE}(h:rY fs ps sl to i=true)(ha: ∀f∈fs,0≤f.f1∧f.f1≤4):0≤sT i∧sT i≤20:=by
 have hop:=Km h; have e:i.f0=1∨i.f0=2∨i.f0=3∨i.f0=4∨i.f0=5∨i.f0=6∨i.f0=7∨i.f0=8∨i.f0=9∨i.f0=10∨i.f0=11∨i.f0=12:=by omega
 have h8:i.f0=8→0≤i.f1∧i.f1≤4:=fun e8=>by
  unfold rY at h; rw[e8]at h; have h:tT fs i=true:=h; unfold tT at h; rcases JU fs i.f2 with e | ⟨k,f,e,e2⟩
  ·rw[e]at h
   cases e3:fs[(-1:Int).toNat]? <;>rw[e3]at h<;>cases h
  ·rw[e,z35,e2]at h
   simp only[z7,z23]at h; have:=ha f (z20 e2); omega
 have r4:i.f0=4→0≤i.f1∧i.f1≤20:=fun e4=>by
  unfold rY at h; rw[e4]at h; have h:((decide (i.f2=[])&&decide (i.f3=0))&&(decide (0≤i.f1)&&decide (i.f1≤20)))=true:=h; simp only[z7,z23]at h; omega
 have r5:i.f0=5→0≤i.f1∧i.f1≤20:=fun e4=>by
  unfold rY at h; rw[e4]at h; have h:((decide (i.f2=[])&&decide (i.f3=0))&&(decide (0≤i.f1)&&decide (i.f1≤20)))=true:=h; simp only[z7,z23]at h; omega
 have r6:i.f0=6→2≤i.f1∧i.f1≤6:=fun e4=>by
  unfold rY at h; rw[e4]at h; have h:((decide (i.f2=[])&&decide (i.f3=0))&&(decide (2≤i.f1)&&decide (i.f1≤6)))=true:=h; simp only[z7,z23]at h; omega
 unfold sT; rcases e with e | e | e | e | e | e | e | e | e | e | e | e; case inr.inr.inr.inl=>have:=r4 e; rw[e]; exact this
 case inr.inr.inr.inr.inl=>have:=r5 e; rw[e]; exact this
 case inr.inr.inr.inr.inr.inl=>have:=r6 e; rw[e]; show 0≤i.f1∧i.f1≤20; omega
 case inr.inr.inr.inr.inr.inr.inr.inl=>have:=h8 e; rw[e]; show 0≤i.f1∧i.f1≤20; omega
 case inr.inr.inr.inr.inr.inr.inl=>rw[e]; show(0:Int)≤2∧(2:Int)≤20; omega
 case inr.inr.inr.inr.inr.inr.inr.inr.inl=>rw[e]; show(0:Int)≤1∧(1:Int)≤20; omega
 case inr.inr.inr.inr.inr.inr.inr.inr.inr.inr.inr=>rw[e]; show(0:Int)≤1∧(1:Int)≤20; omega
 all_goals (rw[e]; show(0:Int)≤0∧(0:Int)≤20; omega)
theorem QH(n:Nat)(hn:n≤1099511627776)(fs:List aD)(ps:List aA)(j:Nat)(f:aD)(hj:fs[j]? =some f)(h:wFn f<n)(h2:fs.length<n)(h3:dl cB ps+400<n):nS n fs ps (j:Int)=some (fnS fs ps j f):=by
 rw[Dt]at h; have hl:=bO iP f.f3; unfold nS fnS; rw[bP,hj,z8]; have hd:((eZ n f.f0).bind fun c17_3=>bif !c17_3 then some true else(jH n fs ps f.f0).bind fun c23_5=>bif !decide (c23_5=(j:Int))then some true else(aW n f.f1 (0:Int) (4:Int)).bind fun c30_7=>bif !c30_7 then some true else(aW n f.f2 f.f1 (400:Int)).bind fun c38_9=>bif !c38_9 then some true else(aW n (f.f3.length:Int) (1:Int) (1500:Int)).bind fun c45_11=>some (!c45_11))=some (!(hdB fs j f)):=by
  unfold hdB zF; simp only[AZ n f.f0 (by omega) (by omega),JP n fs ps f.f0 h2 (by omega),pI,z8]
  cases gR f.f0<;>cases decide (pV fs f.f0=(j:Int))<;>cases (decide (0≤f.f1)&&decide (f.f1≤4))<;>cases (decide (f.f1≤f.f2)&&decide (f.f2≤400))<;>rfl
 rw[hd,z8]; cases hp:hdB fs j f with
 | false=>rfl
 | true=>
  have h0:0<f.f3.length:=by
   unfold hdB zF at hp; simp only[z7,z23]at hp; omega
  simp only[z37,z11,z32]; rw[uE f.f3 (fun k i=>rY fs ps f.f2 (toS f.f3 k i) i) (fun k i hi=>by
   have hk:=bK hi; have hm:=dE iP (z20 hi); have e1:=SJ n hn fs ps f.f0 f.f1 f.f2 f.f3 k i hi (by omega) h3 h2 (by omega)
   have e1:nF n fs ps f.f0 f.f1 f.f2 f.f3 (k:Int)=some (rY fs ps f.f2 (toS f.f3 k i) i):=e1; simp only[mQ,bW hi,z15,z8,e1,aP (show k<4611686018427387904 by omega)]
   cases rY fs ps f.f2 (toS f.f3 k i) i<;>rfl) (by simp only[mQ,aN,z11]) (by omega)]
  have hia:tZ (fun k i=>rY fs ps f.f2 (toS f.f3 k i) i) 0 f.f3=Ca fs ps f:=rfl
  rw[hia]; cases ha:Ca fs ps f with
  | false=>rfl
  | true=>
   obtain⟨l,l1⟩:=Jv n hn f.f0 f.f1 f.f2 f.f3 h0 (by omega) (JT ha h0 (by omega))
   simp only[if_true,z8,l1]; rw[MB h0 (by omega),bP]
   unfold Tw; have hg:f.f3[f.f3.length - 1]? =some f.f3[f.f3.length - 1]:=z12 (by omega)
   generalize f.f3[f.f3.length - 1]=x at hg; rw[hg]; simp only[z8]; generalize decide (x.f0=11)=z; cases Ep 0 f.f3 (start f.f3.length)<;>cases decide (x.f0=12)<;>rfl
theorem PP(fs:List aD)(ps:List aA)(j:Nat)(f:aD)(hl:f.f3.length<4611686018427387904)(ha: ∀f∈fs,0≤f.f1∧f.f1≤4):fnS fs ps j f=(decide (pV fs f.f0=(j:Int))&&fnI fs ps f):=by
 unfold fnS fnI hdB; cases hd:decide (pV fs f.f0=(j:Int))with
 | false=>rfl
 | true=>
 simp only[z32]; cases hp:(gR f.f0&&zF f)with
 | false=>rfl
 | true=>
 simp only[z32]; have h0:0<f.f3.length:=by
  unfold zF at hp; simp only[z7,z23]at hp; omega
 have hst:(start f.f3.length).length=f.f3.length:=by simp [start]; omega
 cases hi:Ca fs ps f with
 | true=>
  have hw:=JT hi h0 hl; have e1:f.f3.all (fun i=>rY fs ps f.f2 (toI f.f3 i) i)=true:=by
   rw[z18]; intro i hm; obtain⟨k,hk⟩:=z60 hm
   have:=(oV _ _ _).1 hi k i hk; rw[z28,HO]at this; rw[HO]; rw[z7]at this ⊢; refine⟨?_,this.2⟩
   cases hz:(decide (i.f0=9)||decide (i.f0=10))with
   | false=>rfl
   | true=>
    rw[hz]at this; have ht:toS f.f3 k i=true:=this.1; unfold toS at ht; show toI f.f3 i=true; unfold toI; simp only[z7,z23]at ht ⊢; omega
  rw[e1]; simp only[z32]; rw[XR f.f3.length f.f3 0 (start f.f3.length) hst (by omega) (Pv _) (fun k i hk=>by
   rw[z28]; have:=(oV _ _ _).1 hi k i hk; exact⟨hw k i hk,ST this ha⟩)]
  cases hr:Ep 0 f.f3 (start f.f3.length)with
  | false=>rfl
  | true=>
   have hg:f.f3[f.f3.length - 1]? =some f.f3[f.f3.length - 1]:=z12 (by omega)
   generalize f.f3[f.f3.length - 1]=x at hg; have:=Iw f.f3.length f.f3 0 (start f.f3.length) hst (by omega) (fun k i hk=>by rw[z28]; exact hw k i hk) hr x hg
   unfold Tw; rw[hg]; show(true&&(decide (x.f0=12)||decide (x.f0=11)))=true; rcases this with e | e<;>rw[e]<;>rfl
 | false=>
  symm
  show(f.f3.all (fun i=>rY fs ps f.f2 (toI f.f3 i) i)&&Ho 0 f.f3 (start f.f3.length) false)=false
  rw[z174]; cases hr:Ho 0 f.f3 (start f.f3.length) false with
  | false=>exact .inr rfl
  | true=>
   refine .inl ?_
   cases hall:f.f3.all (fun i=>rY fs ps f.f2 (toI f.f3 i) i)with
   | false=>rfl
   | true=>
    have:Ca fs ps f=true:=by
     unfold Ca; rw[oV]; intro k i hk; rw[z28]; have h1:=z18.1 hall i (z20 hk); have h1:rY fs ps f.f2 (toI f.f3 i) i=true:=h1; show rY fs ps f.f2 (toS f.f3 k i) i=true; rw[HO]at h1 ⊢; rw[z7]at h1 ⊢; refine⟨?_,h1.2⟩
     cases hz:(decide (i.f0=9)||decide (i.f0=10))with
     | false=>rfl
     | true=>
      rw[hz]at h1; have ht:toI f.f3 i=true:=h1.1; have h9:i.f0=9∨i.f0=10:=by simpa using hz
      have hto:=Ok f.f3 0 _ _ hr k i hk h9; show toS f.f3 k i=true; unfold toI at ht; unfold toS; simp only[z7,z23]at ht ⊢; omega
    rw[this]at hi; cases hi
def xT(fs:List aD)(ps:List aA):Bool:= !(decide (12<(fs.length:Int))||decide (2000<(ps.length:Int)))&&tZ (fun j f=>decide (pV fs f.f0=(j:Int))&&fnI fs ps f) 0 fs
theorem Mc{fs:List aD}{ps:List aA}{f:aD}(h:fnI fs ps f=true):0≤f.f1∧f.f1≤4:=by
 unfold fnI zF at h; simp only[z7,z23]at h; omega
theorem Sa{fs:List aD}{ps:List aA}{j:Nat}{f:aD}(h:fnS fs ps j f=true):0≤f.f1∧f.f1≤4:=by
 unfold fnS hdB zF at h; simp only[z7,z23]at h; omega
theorem Ss(fs:List aD)(ps:List aA)(hl: ∀f∈fs,f.f3.length<4611686018427387904):tZ (fnS fs ps) 0 fs=tZ (fun j f=>decide (pV fs f.f0=(j:Int))&&fnI fs ps f) 0 fs:=by
 rw[RJ,oV,oV]; constructor
 ·intro h j f hj
  rw[←PP fs ps _ f (hl f (z20 hj)) (fun g hg=>by
   obtain⟨k,hk⟩:=z60 hg
   exact Sa (h k g hk))]
  exact h j f hj
 ·intro h j f hj
  rw[PP fs ps _ f (hl f (z20 hj)) (fun g hg=>by
   obtain⟨k,hk⟩:=z60 hg
   exact Mc (z7 _ _ ▸ h k g hk).2)]
  exact h j f hj
theorem yN(n:Nat)(hn:n≤1099511627776)(fs:List aD)(ps:List aA)(h:dl wFn fs<n)(h3:dl cB ps+400<n):lG n fs ps=some (xT fs ps):=by
 have hl:=bO wFn fs; unfold lG xT; rw[uE fs (fnS fs ps) (fun j f hj=>by
  have hk:=bK hj; have hm:=dE wFn (z20 hj); simp only[mW,bW hj,z15,z8,QH n hn fs ps j f hj (by omega) (by omega) h3,aP (show j<4611686018427387904 by omega)]
  cases fnS fs ps j f<;>rfl) (by simp only[mW,aN,z11]) (by omega),Ss fs ps (fun f hf=>by
   have:=dE wFn hf; have:=bO iP f.f3; rw[Dt]at*; omega)]
 generalize tZ _ 0 fs=q; generalize decide (2000<(ps.length:Int))=z; cases decide (12<(fs.length:Int))<;>cases z<;>cases q<;>rfl
theorem sZ(n:Nat)(hn:n≤1099511627776)(fs:List aD)(ps:List aA)(h:dl wFn fs<n)(h3:dl cB ps+400<n):lI n fs ps=some (xT fs ps):=by
 have hl:=bO wFn fs; unfold lI xT; have e:=PE (body:=hJ n fs) (fun i=>((i:Int),fs,ps)) (fun j=>match fs[j]? with | some f=> !(decide (pV fs f.f0=(j:Int))&&fnI fs ps f) | none=>false) (Sum.inl false) (Sum.inr ((fs.length:Int),false,fs,ps)) (len:=fs.length) fs.length 0 (by omega) (fun j _ hj=>by
  have hg:fs[j]? =some fs[j]:=z12 hj
  generalize fs[j]=f at hg; have hm:=dE wFn (z20 hg); rw[hg]; simp only[hJ,bW hg,z15,bP,hg,z8,PR n fs ps f.f0 (by omega) (by omega),VJ n hn fs ps f (by omega) (by omega) h3,aP (show j<4611686018427387904 by omega)]
  cases decide (pV fs f.f0=(j:Int))<;>cases fnI fs ps f<;>rfl) (by simp only[hJ,aN,z11]) (n:=n) (by omega)
 have e:loopN (hJ n fs) n ((0:Int),fs,ps)=_:=e; rw[e]; have hu:Jq (fun j=>match fs[j]? with | some f=> !(decide (pV fs f.f0=(j:Int))&&fnI fs ps f) | none=>false) 0 fs.length= !(tZ (fun j f=>decide (pV fs f.f0=(j:Int))&&fnI fs ps f) 0 fs):=by
  rw[RJ,Jf,z38, ←z93,oV]; constructor
  ·rintro ⟨j,_,hj,hb⟩ hall
   have hg:fs[j]? =some fs[j]:=z12 (by omega)
   have:=hall j _ hg; rw[hg]at hb; simp only[z28]at this; simp only[this]at hb; cases hb
  ·intro hall
   apply z156
   intro hno; apply hall
   intro j f hj; rw[z28]; cases hb:(decide (pV fs f.f0=(j:Int))&&fnI fs ps f)with
   | true=>rfl
   | false=>exact absurd ⟨j,by omega,by have:=bK hj; omega,by rw[hj]; simp only[hb]; rfl⟩ hno
 rw[hu]; generalize tZ _ 0 fs=q; generalize decide (2000<(ps.length:Int))=z; cases decide (12<(fs.length:Int))<;>cases z<;>cases q<;>rfl
theorem KC(a b:Int):bits .or .i64 a b=bits .or .i64 b a:=by
 simp only[bits,BitVec.or_comm]
def Mx(o1 o2:Option (List Int))(b:List Int)(m:Nat):Prop:= ∃r,o1=some r∧o2=some r∧r.length≤b.length+m
theorem Mx.bind{o1 o2:Option (List Int)}{f1 f2:List Int→Option (List Int)}{b:List Int}{m k j:Nat}(h:Mx o1 o2 b m)(hf: ∀r,r.length≤b.length+m→Mx (f1 r) (f2 r) r k)(hj:m+k≤j):Mx (o1.bind f1) (o2.bind f2) b j:=by
 obtain⟨r,h1,h2,h3⟩:=h; obtain⟨q,k1,k2,k3⟩:=hf r h3; exact⟨q,by rw[h1]; exact k1,by rw[h2]; exact k2,by omega⟩
theorem HQ(b:List Int)(x:Int)(h:b.length<1099511627776):dF 1 b [x]=some (b++[x]):=qP (by simp only[z21]; omega) (by simp only[z21,maxLen]; omega)
theorem NX{x:Int}{k:Nat}(h0:0≤x)(h:x<128 ^ (k+2)):0≤Int.fdiv x (2 ^ 7)∧Int.fdiv x (2 ^ 7)<128 ^ (k+1):=by
 have e:(2:Int) ^ 7=128:=by decide
 rw[e,z145 x (by omega)]
 refine⟨Int.ediv_nonneg h0 (by omega), ?_⟩
 refine Int.ediv_lt_of_lt_mul (by omega) ?_
 rwa[Int.pow_succ]at h
theorem Oz: ∀(k:Nat) (x:Int) (b:List Int) (n m:Nat),0≤x→x<128 ^ (k+1)→k<m→b.length+k<1099511627776→ ∃r y,loopN (bY n) m (b,x)=some (r,y,false)∧r.length≤b.length+k
 | k,x,b,n,m,h0,h1,hm,hb=>by
  obtain⟨m,rfl⟩: ∃q,m=q+1:=⟨m - 1,by omega⟩
  by_cases h:127<x
  ·cases k with
   | zero=>simp at h1; omega
   | succ k=>
    have ha:=HQ b (IntKind.wrap .u8 (bits .or .i64 (128:Int) (bits .and .i64 x (127:Int)))) (by omega)
    obtain⟨d0,d1⟩:=NX h0 h1; obtain⟨r,y,r1,r2⟩:=Oz k (Int.fdiv x (2 ^ 7)) (b++[IntKind.wrap .u8 (bits .or .i64 (128:Int) (bits .and .i64 x (127:Int)))]) n m d0 d1 (by omega) (by simp only[z17,z21]; omega)
    refine⟨r,y, ?_,by simp only[z17,z21]at r2; omega⟩
    simp only[loopN,bY,z13 h,z15,ha,z8]; exact r1
  ·exact⟨b,x,by simp only[loopN,bY,z9 h,z11],by omega⟩
def kV(v:Int):Int:=if(if(1000000000000:Int)<v then(1000000000000:Int)else v) > ((-1000000000000):Int)then(if(1000000000000:Int)<v then(1000000000000:Int)else v)else((-1000000000000):Int)
theorem EN(v:Int): -1000000000000≤kV v∧kV v≤1000000000000:=by
 unfold kV; by_cases h:(1000000000000:Int)<v
 ·simp only[z19 h]; simp
 ·simp only[z14 h]
  by_cases h2:v > -1000000000000
  ·rw[z19 h2]; omega
  ·rw[z14 h2]; omega
def zig(v:Int):Int:=bif decide (v<0)then IntKind.wrap .i64 (IntKind.wrap .i64 ((-2)*v) - 1)else IntKind.wrap .i64 (2*v)
theorem OH{v:Int}(h0: -1000000000000≤v)(h1:v≤1000000000000):0≤zig v∧zig v<128 ^ 7:=by
 unfold zig; by_cases h:v<0
 ·rw[z13 h,z15,wrap_i64 (n:=(-2)*v) (by omega) (by omega),wrap_i64 (by omega) (by omega)]; omega
 ·rw[z9 h,z11,wrap_i64 (by omega) (by omega)]; omega
def Jk(n:Nat)(b:List Int)(x:Int):Option (List Int):=(loopN (bY n) n (b,x)).bind fun q=>dF 1 q.1 [IntKind.wrap .u8 q.2.1]
theorem HB(o:Option (List Int×Int×Bool)):(o.bind fun(a,y,_)=>(dF 1 a ([IntKind.wrap .u8 y]:List Int)).bind fun v=>some v)=o.bind fun q=>dF 1 q.1 [IntKind.wrap .u8 q.2.1]:=by
 cases o with
 | none=>rfl
 | some q=>
  obtain⟨a,y,z⟩:=q; simp only[z8]; cases dF 1 a [IntKind.wrap .u8 y]<;>rfl
theorem Rh(n:Nat)(b:List Int)(v:Int)(hn:20<n)(hb:b.length<549755813888): ∃r,Jk n b (zig (kV v))=some r∧r.length≤b.length+8:=by
 have hc:=EN v; have hz:=OH hc.1 hc.2; obtain⟨r,y,r1,r2⟩:=Oz 6 (zig (kV v)) b n n hz.1 hz.2 (by omega) (by omega)
 unfold Jk; rw[r1]; exact⟨r++[IntKind.wrap .u8 y],HQ r _ (by omega),by simp only[z17,z21]; omega⟩
theorem MZ(n:Nat)(b:List Int)(v:Int):bH n b v=Jk n b (zig (kV v)):=by
 have e2:qI n=bY n:=rfl; unfold bH Jk zig; rw[e2]; show(bif decide (kV v<0)then _ else _)=_
 cases decide (kV v<0)<;>exact HB _
theorem Pp(n:Nat):cK n=bY n:=by
 funext t
 obtain⟨b,x⟩:=t; simp only[cK,bY,KC (bits .and .i64 x 127) 128]
theorem Rm(n:Nat)(b:List Int)(v:Int)(hb:b.length<549755813888):bM n b v=Jk n b (zig (kV v)):=by
 have ha:dF 1 ([]:List Int) b=some b:=qP (by simp only[z53]; omega) (by simp only[z53,maxLen]; omega)
 have e2:qH n=cK n:=rfl; have e3:qG n=cK n:=rfl; have e4:qF n=cK n:=rfl; have e5:qE n=cK n:=rfl; have e6:qD n=cK n:=rfl; have e7:qC n=cK n:=rfl; have e8:qB n=cK n:=rfl; unfold bM; rw[e2,e3,e4,e5,e6,e7,e8,Pp,ha,z8]; by_cases h1:(1000000000000:Int)<v
 ·have hc:kV v=1000000000000:=by
   unfold kV; simp only[z19 h1]; rfl
  rw[z13 h1,hc]; exact HB _
 ·rw[z9 h1]
  by_cases h2:v< -1000000000000
  ·have hc:kV v= -1000000000000:=by
    unfold kV; simp only[z14 h1]; rw[z14 (by omega)]
   rw[z13 h2,hc]; exact HB _
  ·have hc:kV v=v:=by
    unfold kV; simp only[z14 h1]; by_cases h3:v > -1000000000000
    ·rw[z19 h3]
    ·rw[z14 h3]; omega
   rw[z9 h2,hc]; unfold Jk zig; cases decide (v<0)<;>exact HB _
theorem pH(n:Nat)(b:List Int)(v:Int)(hn:20<n)(hb:b.length<549755813888):Mx (bH n b v) (bM n b v) b 8:=by
 obtain⟨r,h1,h2⟩:=Rh n b v hn hb; exact⟨r,by rw[MZ,h1],by rw[Rm n b v hb,h1],h2⟩
theorem HS(n:Nat)(b:List Int)(s:List UInt8)(hn:20<n)(hb:b.length+s.length+8<549755813888):Mx (fE n b s) (iK n b s) b (8+s.length):=by
 unfold fE iK; refine(pH n b (s.length:Int) hn (by omega)).bind (k:=s.length) (fun r hr=> ?_) (z39 _)
 have ha:dF 1 r (s.map fun c=>((c.toNat:Nat):Int))=some (r++s.map fun c=>((c.toNat:Nat):Int)):=qP (by rw[z66]; omega) (by rw[z66]; simp only[maxLen]; omega)
 exact⟨_,by rw[ha]; rfl,by rw[ha]; rfl,by rw[z17,z66]; exact z39 _⟩
theorem Cl{α:Type}{b1 b2:List Int×Int→Option ((List Int×Int)⊕(List Int×Int×Bool))}(l:List α)(w:α→Nat)(B:Nat)(hs: ∀(i:Nat) a t,l[i]? =some a→t.length+40*(1+w a)≤B→ ∃t',b1 (t,(i:Int))=some (.inl (t',((i+1:Nat):Int)))∧b2 (t,(i:Int))=some (.inl (t',((i+1:Nat):Int)))∧t'.length≤t.length+40*(1+w a))
  (he1: ∀t,b1 (t,(l.length:Int))=some (.inr (t,(l.length:Int),false)))(he2: ∀t,b2 (t,(l.length:Int))=some (.inr (t,(l.length:Int),false))){n:Nat}(hn:l.length<n)(b:List Int)(hB:b.length+40*dl w l≤B):
  ∃r,loopN b1 n (b,(0:Int))=some (r,(l.length:Int),false)∧loopN b2 n (b,(0:Int))=some (r,(l.length:Int),false)∧r.length≤b.length+40*dl w l:=by
 have key: ∀(r:List α) (i:Nat) (t:List Int) (n:Nat),l.drop i=r→i≤l.length→r.length<n→t.length+40*dl w r≤B→ ∃q,loopN b1 n (t,(i:Int))=some (q,(l.length:Int),false)∧loopN b2 n (t,(i:Int))=some (q,(l.length:Int),false)∧q.length≤t.length+40*dl w r:=by
  intro r; induction r with
  | nil=>
   intro i t n hr hi hn ht; obtain⟨n,rfl⟩: ∃k,n=k+1:=⟨n - 1,by simp at hn; omega⟩
   have:i=l.length:=by
    have:=congrArg List.length hr; simp at this; omega
   subst this; exact⟨t,by simp only[loopN,he1],by simp only[loopN,he2],by omega⟩
  | cons a r ih=>
   intro i t n hr hi hn ht; obtain⟨n,rfl⟩: ∃k,n=k+1:=⟨n - 1,by simp at hn; omega⟩
   have ha:l[i]? =some a:=by
    have:=congrArg (fun l=>l[0]?) hr
    simpa [z45]using this
   have hr2:l.drop (i+1)=r:=by
    have:=congrArg (List.drop 1) hr; simpa [Td]using this
   have hlt:=bK ha; have hd:dl w (a::r)=1+w a+dl w r:=rfl; obtain⟨t',h1,h2,h3⟩:=hs i a t ha (by omega)
   obtain⟨q,q1,q2,q3⟩:=ih (i+1) t' n hr2 (by omega) (by simp at hn; omega) (by omega)
   exact⟨q,by simp only[loopN,h1,q1],by simp only[loopN,h2,q2],by omega⟩
 exact key l 0 b n rfl (z86 _) hn hB
theorem Ox: ∀(n:Nat),n≤1099511627776→ ∀(a:aA) (b:List Int),cB a+21<n→b.length+40*cB a≤400000000000→Mx (iE n b a.f0 a.f1 a.f2 a.f3) (fV n b a.f0 a.f1 a.f2 a.f3) b (40*cB a)
 | 0,_,a,b,h,_=>by omega
 | n+1,hn,a,b,h,hb=>by
  have ih:=Ox n (by omega)
  have hw:=yS a; have hl:=bO cB a.f3; rw[sS,xM]; unfold lD jU; refine(pH n b a.f0 (by omega) (by omega)).bind (k:=8+(8+a.f2.length+(8+40*dl cB a.f3))) (fun r1 h1=> ?_) (by omega)
  refine(pH n r1 a.f1 (by omega) (by omega)).bind (k:=8+a.f2.length+(8+40*dl cB a.f3)) (fun r2 h2=> ?_) (by omega)
  refine(HS n r2 a.f2 (by omega) (by omega)).bind (k:=8+40*dl cB a.f3) (fun r3 h3=> ?_) (by omega)
  refine(pH n r3 (a.f3.length:Int) (by omega) (by omega)).bind (k:=40*dl cB a.f3) (fun r4 h4=> ?_) (by omega)
  obtain⟨q,q1,q2,q3⟩:=Cl (b1:=fW n (iE n) a.f3) (b2:=gN n (fV n) a.f3) a.f3 cB 400000000000 (fun i x t hx ht=>by
   have hi:=bK hx; have hm:=dE cB (z20 hx); obtain⟨t',e1,e2,e3⟩:=ih x t (by omega) (by omega)
   exact⟨t',by simp only[fW,bW hx,z15,bP,hx,z8,e1,aP (show i<4611686018427387904 by omega)],by simp only[gN,bW hx,z15,bP,hx,z8,e2,aP (show i<4611686018427387904 by omega)],by omega⟩) (fun t=>by simp only[fW,aN,z11]) (fun t=>by simp only[gN,aN,z11]) (n:=n) (by omega) r4 (by omega)
  exact⟨q,by rw[q1]; rfl,by rw[q2]; rfl,q3⟩
theorem Gf(n:Nat)(hn:n≤1099511627776)(fs:List aD)(ps:List aA)(h:dl cB ps+400<n):mL n fs ps=some (ps.all (wG 400)):=by
 have hl:=bO cB ps; unfold mL; rw[HJ ps (wG 400) (fun i a ha=>by
  have hi:=bK ha; have hm:=dE cB (z20 ha); simp only[lS,bW ha,z15,bP,ha,z8,wS n hn a 400 (by omega),aP (show i<4611686018427387904 by omega)]
  cases wG 400 a<;>rfl) (by simp only[lS,aN,z11]) (by omega)]
 cases ps.all (wG 400)<;>rfl
theorem NS(n:Nat)(hn:n≤1099511627776)(fs:List aD)(ps:List aA)(h:dl cB ps+400<n):mI n fs ps=some (ps.all (wG 400)):=by
 have hl:=bO cB ps; unfold mI; rw[HJ ps (wG 400) (fun i a ha=>by
  have hi:=bK ha; have hm:=dE cB (z20 ha); simp only[lQ,bW ha,z15,bP,ha,z8,wR n hn a 400 (by omega),aP (show i<4611686018427387904 by omega)]
  cases wG 400 a<;>rfl) (by simp only[lQ,aN,z11]) (by omega)]
 cases ps.all (wG 400)<;>rfl
theorem VD(n:Nat)(hn:n≤1099511627776)(f:aD)(b:List Int)(h:dl iP f.f3+21<n)(hb:b.length+40*dl iP f.f3≤400000000000): ∃q,loopN (dN n f) n (b,(0:Int))=some (q,(f.f3.length:Int),false)∧loopN (iX n f) n (b,(0:Int))=some (q,(f.f3.length:Int),false)∧q.length≤b.length+40*dl iP f.f3:=by
 have hl:=bO iP f.f3; refine Cl f.f3 iP 400000000000 (fun i x t hx ht=> ?_) (fun t=>by simp only[dN,aN,z11]) (fun t=>by simp only[iX,aN,z11]) (n:=n) (by omega) b (by omega)
 have hi:=bK hx; have hm:=dE iP (z20 hx); have hw:=CW x; obtain⟨t1,a1,c1,l1⟩:=pH n t x.f0 (by omega) (by omega)
 obtain⟨t2,a2,c2,l2⟩:=pH n t1 x.f1 (by omega) (by omega)
 obtain⟨t3,a3,c3,l3⟩:=HS n t2 x.f2 (by omega) (by omega)
 obtain⟨t4,a4,c4,l4⟩:=pH n t3 x.f3 (by omega) (by omega)
 exact⟨t4,by simp only[dN,bW hx,z15,bP,hx,z8,a1,a2,a3,a4,aP (show i<4611686018427387904 by omega)],by simp only[iX,bW hx,z15,bP,hx,z8,c1,c2,c3,c4,aP (show i<4611686018427387904 by omega)],by omega⟩
theorem Si(n:Nat)(hn:n≤1099511627776)(fs:List aD)(ps:List aA)(h:dl wFn fs+400<n)(h3:dl cB ps+400<n)(hs:40*dl wFn fs+40*dl cB ps≤300000000000):Mx (gF n fs ps) (mJ n fs ps) [] (16+(40*dl wFn fs+40*dl cB ps)):=by
 have hl:=bO wFn fs; have hl2:=bO cB ps; have e0:([]:List Int).length=0:=rfl; unfold gF mJ; rw[sZ n hn fs ps (by omega) h3,yN n hn fs ps (by omega) h3,Gf n hn fs ps h3,NS n hn fs ps h3]
 have hg: ∀c:Bool,((some c:Option Bool).bind fun x=>bif !x then some true else(some (ps.all (wG 400))).bind fun y=>some (!y))=some (!(c&&ps.all (wG 400))):=fun c=>by cases c<;>rfl
 rw[hg,z8,z8]; cases xT fs ps&&ps.all (wG 400)with
 | false=>exact⟨[],rfl,rfl,z86 _⟩
 | true=>
  simp only[z37,z11]; refine(pH n [] (fs.length:Int) (by omega) (by omega)).bind (k:=8+(40*dl wFn fs+40*dl cB ps)) (fun r1 h1=> ?_) (by omega)
  obtain⟨q,q1,q2,q3⟩:=Cl (b1:=eO n fs) (b2:=iY n fs) fs wFn 400000000000 (fun i x t hx ht=>by
   have hi:=bK hx; have hm:=dE wFn (z20 hx); have hw:=Dt x; obtain⟨t1,a1,c1,l1⟩:=HS n t x.f0 (by omega) (by omega)
   obtain⟨t2,a2,c2,l2⟩:=pH n t1 x.f1 (by omega) (by omega)
   obtain⟨t3,a3,c3,l3⟩:=pH n t2 x.f2 (by omega) (by omega)
   obtain⟨t4,a4,c4,l4⟩:=pH n t3 (x.f3.length:Int) (by omega) (by omega)
   obtain⟨t5,a5,c5,l5⟩:=VD n hn x t4 (by omega) (by omega)
   exact⟨t5,by simp only[eO,bW hx,z15,bP,hx,z8,a1,a2,a3,a4,a5,aP (show i<4611686018427387904 by omega)],by simp only[iY,bW hx,z15,bP,hx,z8,c1,c2,c3,c4,c5,aP (show i<4611686018427387904 by omega)],by omega⟩) (fun t=>by simp only[eO,aN,z11]) (fun t=>by simp only[iY,aN,z11]) (n:=n) (by omega) r1 (by omega)
  rw[q1,q2]; simp only[z8]; have hq:Mx (some q) (some q) r1 (40*dl wFn fs):=⟨q,rfl,rfl,q3⟩; refine Mx.bind (f1:=fun q=>(bH n q (ps.length:Int)).bind fun c=>(loopN (dM n ps) n (c,(0:Int))).bind fun(v,_,_)=>some v) (f2:=fun q=>(bM n q (ps.length:Int)).bind fun c=>(loopN (gK n ps) n (c,(0:Int))).bind fun(v,_,_)=>some v) hq (k:=8+40*dl cB ps) (fun r hr=> ?_) (by omega)
  refine(pH n r (ps.length:Int) (by omega) (by omega)).bind (k:=40*dl cB ps) (fun r4 h4=> ?_) (by omega)
  obtain⟨p,p1,p2,p3⟩:=Cl (b1:=dM n ps) (b2:=gK n ps) ps cB 400000000000 (fun i x t hx ht=>by
   have hi:=bK hx; have hm:=dE cB (z20 hx); obtain⟨t',e1,e2,e3⟩:=Ox n hn x t (by omega) (by omega)
   exact⟨t',by simp only[dM,bW hx,z15,bP,hx,z8,e1,aP (show i<4611686018427387904 by omega)],by simp only[gK,bW hx,z15,bP,hx,z8,e2,aP (show i<4611686018427387904 by omega)],by omega⟩) (fun t=>by simp only[dM,aN,z11]) (fun t=>by simp only[gK,aN,z11]) (n:=n) (by omega) r4 (by omega)
  exact⟨p,by rw[p1]; rfl,by rw[p2]; rfl,p3⟩
theorem KD(a b:Nat)(ha:a<2 ^ 62)(hb:b<2 ^ 62):bits .and .i64 (a:Int) (b:Int)=((a&&& b:Nat):Int):=by
 have h:a&&& b≤a:=Nat.and_le_left; have e:bits .and .i64 (a:Int) (b:Int)=IntKind.wrap .i64 (((BitVec.ofInt 64 (a:Int)&&& BitVec.ofInt 64 (b:Int)).toNat:Nat):Int):=rfl; rw[e,BitVec.toNat_and,BitVec.ofInt_natCast,BitVec.ofInt_natCast,BitVec.toNat_ofNat,BitVec.toNat_ofNat,z97 (by omega),z97 (by omega)]
 exact wrap_i64 (by omega) (by omega)
theorem zO(a b:Nat)(ha:a<2 ^ 62)(hb:b<2 ^ 62):bits .or .i64 (a:Int) (b:Int)=((a||| b:Nat):Int):=by
 have h:a||| b<2 ^ 62:=Nat.or_lt_two_pow ha hb; have e:bits .or .i64 (a:Int) (b:Int)=IntKind.wrap .i64 (((BitVec.ofInt 64 (a:Int)||| BitVec.ofInt 64 (b:Int)).toNat:Nat):Int):=rfl; rw[e,BitVec.toNat_or,BitVec.ofInt_natCast,BitVec.ofInt_natCast,BitVec.toNat_ofNat,BitVec.toNat_ofNat,z97 (by omega),z97 (by omega)]
 exact wrap_i64 (by omega) (by omega)
theorem TX(a:Nat)(ha:a<2 ^ 62):bits .and .i64 (a:Int) 127=((a % 128:Nat):Int):=by
 have:=KD a 127 ha (by omega)
 have e:a&&& 127=a % 2 ^ 7:=Nat.and_two_pow_sub_one_eq_mod a 7; rw[e]at this; exact this
theorem XS(a m k:Nat)(ha:a<2 ^ k)(h:a+m*2 ^ k<2 ^ 62):bits .or .i64 (a:Int) ((m*2 ^ k:Nat):Int)=((a+m*2 ^ k:Nat):Int):=by
 rw[zO a _ (by omega) (by omega)]
 have:=Nat.shiftLeft_add_eq_or_of_lt ha m; rw[Nat.shiftLeft_eq]at this; rw[Nat.or_comm, ←this,z181]
theorem or128(m:Nat)(h:m<128):bits .or .i64 128 (m:Int)=((128+m:Nat):Int):=by
 have:=XS m 1 7 (by omega) (by omega)
 rw[show(1*2 ^ 7:Nat)=128 from rfl]at this; rw[show((m+128:Nat):Int)=((128+m:Nat):Int)by omega]at this
 rw[←this]; have e1:=zO 128 m (by omega) (by omega)
 have e2:=zO m 128 (by omega) (by omega)
 rw[Nat.or_comm]at e1; exact e1.trans e2.symm
theorem Sx(n:Nat)(h:n<256):IntKind.wrap .u8 (n:Int)=n:=by
 have e:IntKind.wrap .u8 (n:Int)=(n:Int) % 256:=rfl; rw[e]; omega
def Bn:Nat→Nat→List Int
 | 0,x=> [(x:Int)]
 | k+1,x=>if x<128 then [(x:Int)]else((128+x % 128:Nat):Int)::Bn k (x / 128)
theorem VN(x:Nat):Int.fdiv (x:Int) (2 ^ 7)=((x / 128:Nat):Int):=by
 have e:(2:Int) ^ 7=128:=by decide
 rw[e,z145 _ (by omega)]; omega
theorem Iv: ∀(k x:Nat) (b:List Int) (n m:Nat),x<128 ^ (k+1)→x<2 ^ 62→k<m→b.length+k+1<1099511627776→((loopN (bY n) m (b,(x:Int))).bind fun q=>dF 1 q.1 [IntKind.wrap .u8 q.2.1])=some (b++Bn k x)
 | k,x,b,n,m,h1,h2,hm,hb=>by
  obtain⟨m,rfl⟩: ∃q,m=q+1:=⟨m - 1,by omega⟩
  by_cases h:128≤x
  ·cases k with
   | zero=>simp at h1; omega
   | succ k=>
    have ha:=HQ b (IntKind.wrap .u8 (bits .or .i64 (128:Int) (bits .and .i64 (x:Int) (127:Int)))) (by omega)
    have hv:IntKind.wrap .u8 (bits .or .i64 (128:Int) (bits .and .i64 (x:Int) (127:Int)))=((128+x % 128:Nat):Int):=by
     rw[TX x h2,or128 _ (TZ _ (by omega)),Sx _ (by have:=TZ x (show 0<128 by omega); omega)]
    have hd:x / 128<128 ^ (k+1):=by
     rw[z182]at h1; exact Xl (by rw[Ta]; exact h1)
    have ih:=Iv k (x / 128) (b++[((128+x % 128:Nat):Int)]) n m hd (by omega) (by omega) (by simp only[z17,z21]; omega)
    rw[hv]at ha; have e:Bn (k+1) x=((128+x % 128:Nat):Int)::Bn k (x / 128):=z14 (by omega)
    rw[e]; simp only[loopN,bY,z13 (show(127:Int)<(x:Int)by omega),z15,hv,ha,z8,VN]
    rw[ih,z56]; rfl
  ·have e:Bn k x=[(x:Int)]:=by
    cases k with
    | zero=>rfl
    | succ k=>exact z19 (by omega)
   rw[e]; simp only[loopN,bY,z9 (show ¬ (127:Int)<(x:Int)by omega),z11,z8,Sx x (by omega)]
   exact HQ b _ (by omega)
def mP(v:Int):List Int:=Bn 6 (zig (kV v)).toNat
theorem eC(n:Nat)(b:List Int)(v:Int)(hn:20<n)(hb:b.length<549755813888):bH n b v=some (b++mP v):=by
 have hc:=EN v; have hz:=OH hc.1 hc.2; obtain⟨x,hx⟩: ∃x:Nat,zig (kV v)=x:=⟨(zig (kV v)).toNat,by omega⟩
 rw[MZ]; unfold Jk mP; rw[hx]at hz ⊢; rw[z35]; exact Iv 6 x b n n (by omega) (by omega) (by omega) (by omega)
theorem Mj: ∀(k x:Nat),0<(Bn k x).length∧(Bn k x).length≤k+1
 | 0,_=>⟨Nat.one_pos,z39 _⟩
 | k+1,x=>by
  unfold Bn; by_cases h:x<128
  ·rw[z19 h]; simp only[z21]; omega
  ·rw[z14 h]
   have:=Mj k (x / 128); simp only[z51]; omega
theorem dD(v:Int):0<(mP v).length∧(mP v).length≤8:=by
 have:=Mj 6 (zig (kV v)).toNat; unfold mP; omega
def uJ(s:List UInt8):List Int:=mP (s.length:Int)++s.map fun c=>((c.toNat:Nat):Int)
theorem rH(s:List UInt8):s.length<(uJ s).length∧(uJ s).length≤s.length+8:=by
 have:=dD (s.length:Int); simp only[uJ,z17,z66]; omega
theorem HR(n:Nat)(b:List Int)(s:List UInt8)(hn:20<n)(hb:b.length+s.length+8<549755813888):fE n b s=some (b++uJ s):=by
 unfold fE; have hl:=dD (s.length:Int); have ha:dF 1 (b++mP (s.length:Int)) (s.map fun c=>((c.toNat:Nat):Int))=some (b++mP (s.length:Int)++s.map fun c=>((c.toNat:Nat):Int)):=qP (by simp only[z17,z66]; omega) (by simp only[z17,z66,maxLen]; omega)
 rw[eC n b _ hn (by omega),z8,ha,z8,z56]; rfl
theorem Cn{α:Type}{b1:List Int×Int→Option ((List Int×Int)⊕(List Int×Int×Bool))}(l:List α)(w:α→Nat)(e:α→List Int)(B:Nat)(hs: ∀(i:Nat) a t,l[i]? =some a→t.length+40*(1+w a)≤B→b1 (t,(i:Int))=some (.inl (t++e a,((i+1:Nat):Int))))
  (hl: ∀a,(e a).length≤40*(1+w a))(he1: ∀t,b1 (t,(l.length:Int))=some (.inr (t,(l.length:Int),false))){n:Nat}(hn:l.length<n)(b:List Int)(hB:b.length+40*dl w l≤B):
  loopN b1 n (b,(0:Int))=some (b++l.flatMap e,(l.length:Int),false):=by
 have key: ∀(r:List α) (i:Nat) (t:List Int) (n:Nat),l.drop i=r→i≤l.length→r.length<n→t.length+40*dl w r≤B→loopN b1 n (t,(i:Int))=some (t++r.flatMap e,(l.length:Int),false):=by
  intro r; induction r with
  | nil=>
   intro i t n hr hi hn ht; obtain⟨n,rfl⟩: ∃k,n=k+1:=⟨n - 1,by simp at hn; omega⟩
   have:i=l.length:=by
    have:=congrArg List.length hr; simp at this; omega
   subst this; simp only[loopN,he1,List.flatMap_nil,z92]
  | cons a r ih=>
   intro i t n hr hi hn ht; obtain⟨n,rfl⟩: ∃k,n=k+1:=⟨n - 1,by simp at hn; omega⟩
   have ha:l[i]? =some a:=by
    have:=congrArg (fun l=>l[0]?) hr
    simpa [z45]using this
   have hr2:l.drop (i+1)=r:=by
    have:=congrArg (List.drop 1) hr; simpa [Td]using this
   have hlt:=bK ha; have hd:dl w (a::r)=1+w a+dl w r:=rfl; have h1:=hs i a t ha (by omega)
   have h2:=hl a; have:=ih (i+1) (t++e a) n hr2 (by omega) (by simp at hn; omega) (by rw[z17]; omega)
   simp only[loopN,h1,this,Vq,z56]
 exact key l 0 b n rfl (z86 _) hn hB
theorem LD{α:Type}(w:α→Nat)(e:α→List Int)(h: ∀a,(e a).length≤40*(1+w a)): ∀l:List α,(l.flatMap e).length+40≤40*dl w l
 | []=>by simp [dl]
 | a::r=>by
  have:=h a; have:=LD w e h r; simp only[Vq,z17,dl]; omega
def sK(x:aE):List Int:=mP x.f0++(mP x.f1++(uJ x.f2++mP x.f3))
theorem Gs(x:aE):(sK x).length≤40*(1+iP x):=by
 have:=CW x; have:=dD x.f0; have:=dD x.f1; have:=dD x.f3; have:=rH x.f2; simp only[sK,z17]; omega
def zJ(f:aD):List Int:=uJ f.f0++(mP f.f1++(mP f.f2++(mP (f.f3.length:Int)++f.f3.flatMap sK)))
theorem JY(x:aD):(zJ x).length≤40*(1+wFn x):=by
 have:=Dt x; have:=dD x.f1; have:=dD x.f2; have:=dD (x.f3.length:Int); have:=rH x.f0; have:=LD iP sK Gs x.f3; simp only[zJ,z17]; omega
mutual
def kU:aA→List Int
 | .mk a b s l=>mP a++(mP b++(uJ s++(mP (l.length:Int)++tU l)))
def tU:List aA→List Int
 | []=> []
 | x::r=>kU x++tU r
end
theorem Ef: ∀l,tU l=l.flatMap kU
 | []=>by simp [tU]
 | x::r=>by simp only[tU,Ef r,Vq]
theorem Mi(a:aA):kU a=mP a.f0++(mP a.f1++(uJ a.f2++(mP (a.f3.length:Int)++a.f3.flatMap kU))):=by
 cases a; simp only[kU,Ef]; rfl
mutual
theorem xE: ∀a:aA,(kU a).length≤40*(1+cB a)
 | .mk a b s l=>by
  have:=Eg l; have:=dD a; have:=dD b; have:=dD (l.length:Int); have:=rH s; simp only[kU,cB,z17]; omega
theorem Eg: ∀l:List aA,(tU l).length+40≤40*Ds l
 | []=>by simp [tU,Ds]
 | x::r=>by
  have:=xE x; have:=Eg r; simp only[tU,Ds,z17]; omega
end
def nD(fs:List aD)(ps:List aA):List Int:=mP (fs.length:Int)++(fs.flatMap zJ++(mP (ps.length:Int)++ps.flatMap kU))
theorem Ov: ∀(n:Nat),n≤1099511627776→ ∀(a:aA) (b:List Int),cB a+21<n→b.length+40*(1+cB a)≤400000000000→iE n b a.f0 a.f1 a.f2 a.f3=some (b++kU a)
 | 0,_,a,b,h,_=>by omega
 | n+1,hn,a,b,h,hb=>by
  have ih:=Ov n (by omega)
  have hw:=yS a; have hl:=bO cB a.f3; have l0:=dD a.f0; have l1:=dD a.f1; have l3:=dD (a.f3.length:Int); have l2:=rH a.f2; rw[sS,Mi]; unfold lD; rw[eC n b a.f0 (by omega) (by omega),z8,eC n _ a.f1 (by omega) (by simp only[z17]; omega),z8,HR n _ a.f2 (by omega) (by simp only[z17]; omega),z8,eC n _ (a.f3.length:Int) (by omega) (by simp only[z17]; omega),z8]
  rw[Cn a.f3 cB kU 400000000000 (fun i x t hx ht=>by
   have hi:=bK hx; have hm:=dE cB (z20 hx); simp only[fW,bW hx,z15,bP,hx,z8,ih x t (by omega) (by omega),aP (show i<4611686018427387904 by omega)]) xE (fun t=>by simp only[fW,aN,z11]) (by omega) _ (by simp only[z17]; omega)]
  simp only[z8,z56]
theorem VC(n:Nat)(hn:n≤1099511627776)(f:aD)(b:List Int)(h:dl iP f.f3+21<n)(hb:b.length+40*dl iP f.f3≤400000000000):loopN (dN n f) n (b,(0:Int))=some (b++f.f3.flatMap sK,(f.f3.length:Int),false):=by
 have hl:=bO iP f.f3; refine Cn f.f3 iP sK 400000000000 (fun i x t hx ht=> ?_) Gs (fun t=>by simp only[dN,aN,z11]) (by omega) b hb
 have hi:=bK hx; have hm:=dE iP (z20 hx); have hw:=CW x; have l0:=dD x.f0; have l1:=dD x.f1; have l2:=rH x.f2; simp only[dN,bW hx,z15,bP,hx,z8]; rw[eC n t x.f0 (by omega) (by omega),z8,eC n _ x.f1 (by omega) (by simp only[z17]; omega),z8,HR n _ x.f2 (by omega) (by simp only[z17]; omega),z8,eC n _ x.f3 (by omega) (by simp only[z17]; omega),z8]
 simp only[aP (show i<4611686018427387904 by omega),sK,z56]
theorem Ml(n:Nat)(hn:n≤1099511627776)(fs:List aD)(ps:List aA)(h:dl wFn fs+400<n)(h3:dl cB ps+400<n)(hs:40*dl wFn fs+40*dl cB ps≤300000000000):gF n fs ps=some (bif xT fs ps&&ps.all (wG 400)then nD fs ps else []):=by
 have hl:=bO wFn fs; have hl2:=bO cB ps; unfold gF; rw[sZ n hn fs ps (by omega) h3,Gf n hn fs ps h3]
 have hg: ∀c:Bool,((some c:Option Bool).bind fun x=>bif !x then some true else(some (ps.all (wG 400))).bind fun y=>some (!y))=some (!(c&&ps.all (wG 400))):=fun c=>by cases c<;>rfl
 rw[hg,z8]; cases xT fs ps&&ps.all (wG 400)with
 | false=>rfl
 | true=>
  have l0:=dD (fs.length:Int); have l1:=dD (ps.length:Int); have e0:([]:List Int).length=0:=rfl; have lf:=LD wFn zJ JY fs; have lp:=LD cB kU xE ps; simp only[z37,z11,z15]; rw[eC n [] _ (by omega) (by omega),z8,z76]
  rw[Cn fs wFn zJ 400000000000 (fun i x t hx ht=>by
   have hi:=bK hx; have hm:=dE wFn (z20 hx); have hw:=Dt x; have k0:=rH x.f0; have k1:=dD x.f1; have k2:=dD x.f2; have k3:=dD (x.f3.length:Int); simp only[eO,bW hx,z15,bP,hx,z8]; rw[HR n t x.f0 (by omega) (by omega),z8,eC n _ x.f1 (by omega) (by simp only[z17]; omega),z8,eC n _ x.f2 (by omega) (by simp only[z17]; omega),z8,eC n _ (x.f3.length:Int) (by omega) (by simp only[z17]; omega),z8,VC n hn x _ (by omega) (by simp only[z17]; omega),z8]
   simp only[aP (show i<4611686018427387904 by omega),zJ,z56]) JY (fun t=>by simp only[eO,aN,z11]) (by omega) _ (by omega)]
  simp only[z8]; rw[eC n _ (ps.length:Int) (by omega) (by simp only[z17]; omega),z8]
  rw[Cn ps cB kU 400000000000 (fun i x t hx ht=>by
   have hi:=bK hx; have hm:=dE cB (z20 hx); simp only[dM,bW hx,z15,bP,hx,z8,Ov n hn x t (by omega) (by omega),aP (show i<4611686018427387904 by omega)]) xE (fun t=>by simp only[dM,aN,z11]) (by omega) _ (by simp only[z17]; omega)]
  simp only[z8,nD,z56]
theorem Oc(n:Nat)(h:n<2 ^ 62):IntKind.wrap .u64 (n:Int)=n:=by
 have e:IntKind.wrap .u64 (n:Int)=(n:Int) % 18446744073709551616:=rfl; rw[e]; omega
theorem Oo{i:Nat}(hi:i<6):2 ^ (7*i)≤2 ^ 35:=Nat.pow_le_pow_right (by omega) (by omega)
theorem grp(acc i e:Nat)(hi:i<6)(he:e<256)(ha:acc<2 ^ (7*i)):bits .or .i64 (acc:Int) (IntKind.wrap .i64 ((bits .and .i64 (IntKind.wrap .i64 (e:Int)) (127:Int))*2 ^ min (Int.toNat (IntKind.wrap .u64 (IntKind.wrap .i64 ((7:Int)*(i:Int))))) 64))=((acc+(e % 128)*2 ^ (7*i):Nat):Int):=by
 have hp:=Oo hi; have h1:IntKind.wrap .i64 ((7:Int)*(i:Int))=((7*i:Nat):Int):=by
  rw[wrap_i64 (by omega) (by omega)]; omega
 have h2:IntKind.wrap .i64 (e:Int)=(e:Int):=wrap_i64 (by omega) (by omega)
 have hm:e % 128<128:=TZ _ (by omega)
 have hmul:(e % 128)*2 ^ (7*i)≤128*2 ^ 35:=z178 (by omega) hp
 rw[h1,Oc _ (by omega),z35,Nat.min_eq_left (by omega),h2,TX e (by omega)]
 have h3:((e % 128:Nat):Int)*2 ^ (7*i)=(((e % 128)*2 ^ (7*i):Nat):Int):=by
  rw[Int.natCast_mul,Int.natCast_pow]; rfl
 rw[h3,wrap_i64 (by omega) (by omega)]
 exact XS acc (e % 128) (7*i) ha (by omega)
def rQ(x:Nat):Int:=if x % 2=1 then -(((x+1) / 2:Nat):Int)else((x / 2:Nat):Int)
def okR(v:Int):Bool:=decide (-1000000000000≤v)&&decide (v≤1000000000000)
def RT:Nat→Nat→Nat→List Int→Option (Nat×Nat)
 | 0,_,_,_=>none
 | _+1,_,_,[]=>none
 | k+1,i,acc,e::r=>bif decide (128≤e)then(RT k (i+1) (acc+(e.toNat % 128)*2 ^ (7*i)) r).map fun p=>(p.1,p.2+1)
  else bif decide (e=0)&&decide (0<i)then none else some (acc+(e.toNat % 128)*2 ^ (7*i),1)
def Qk(at':Nat):Option (Nat×Nat)→Int×Int×Bool
 | some (x,c)=>bif okR (rQ x)then(rQ x,((at'+c:Nat):Int),true)else(0,0,false)
 | none=>(0,0,false)
theorem Rr(at':Nat)(o:Option (Nat×Nat)):Qk at' (o.map fun p=>(p.1,p.2+1))=Qk (at'+1) o:=by
 cases o with
 | none=>rfl
 | some p=>
  obtain⟨x,c⟩:=p; simp only[z36,Qk]; rw[show at'+(c+1)=at'+1+c by omega]
theorem odd_i{x:Nat}(h:x<2 ^ 50)(ho:x % 2=1):IntKind.wrap .i64 (Int.tdiv (IntKind.wrap .i64 (0 - (IntKind.wrap .i64 ((x:Int)+(1:Int))))) (2:Int))=rQ x:=by
 rw[wrap_i64 (n:=(x:Int)+1) (by omega) (by omega),wrap_i64 (n:=0 - ((x:Int)+1)) (by omega) (by omega)]
 have e:Int.tdiv (0 - ((x:Int)+1)) 2=rQ x:=by
  unfold rQ; rw[z19 ho,show(0:Int) - ((x:Int)+1)= -(((x+1:Nat)):Int)by omega,Int.neg_tdiv,z146 (by omega)]
  omega
 rw[e]; refine wrap_i64 ?_ ?_<;>(unfold rQ; rw[z19 ho]; omega)
theorem Yk{x:Nat}(h:x<2 ^ 50)(ho: ¬ x % 2=1):IntKind.wrap .i64 (Int.tdiv (x:Int) (2:Int))=rQ x:=by
 have e:Int.tdiv (x:Int) 2=rQ x:=by
  unfold rQ; rw[z14 ho,z146 (by omega)]
  omega
 rw[e]; refine wrap_i64 ?_ ?_<;>(unfold rQ; rw[z14 ho]; omega)
theorem tmod2(x:Nat):decide (Int.tmod (x:Int) 2=1)=decide (x % 2=1):=decide_eq_decide.2 (by rw[Int.tmod_eq_emod_of_nonneg (by omega)]; omega)
theorem aAD{acc i e k:Nat}(hk:k+1+i=6)(ha:acc<2 ^ (7*i)):acc+(e % 128)*2 ^ (7*i)<2 ^ (7*(i+1))∧acc+(e % 128)*2 ^ (7*i)<2 ^ 50:=by
 have hp:=Oo (i:=i) (by omega)
 have e1:2 ^ (7*(i+1))=128*2 ^ (7*i):=by rw[show 7*(i+1)=7*i+7 by omega,Nat.pow_add]; omega
 have hm:e % 128<128:=TZ _ (by omega)
 have hmul:(e % 128)*2 ^ (7*i)≤127*2 ^ (7*i):=z57 _ (by omega)
 omega
def finG:(Int×Int×Bool)⊕(Int×Int×Int×Bool)→Int×Int×Bool
 | .inl t=>t
 | .inr _=>(0,0,false)
theorem PN(n:Nat)(l:List Int)(hl:l.length<1099511627776)(hb: ∀x∈l,0≤x∧x<256): ∀(k i acc at' m:Nat),k+i=6→acc<2 ^ (7*i)→at'≤l.length→k<m→ ∃q,loopN (fX n l) m ((at':Int),(acc:Int),(i:Int))=some q∧finG q=Qk at' (RT k i acc (l.drop at'))
 | 0,i,acc,at',m,hk,ha,hat,hm=>by
  obtain⟨m,rfl⟩: ∃q,m=q+1:=⟨m - 1,by omega⟩
  refine⟨.inr ((at':Int),(acc:Int),(i:Int),false), ?_,rfl⟩
  simp only[loopN,fX,z9 (show ¬ (i:Int)<6 by omega),z11,z8]
 | k+1,i,acc,at',m,hk,ha,hat,hm=>by
  obtain⟨m,rfl⟩: ∃q,m=q+1:=⟨m - 1,by omega⟩
  by_cases hlt:at'<l.length
  ·have hx:l[at']? =some l[at']:=z12 hlt
   have hmem:=hb l[at'] (z167 hlt); have hd:l.drop at'=l[at']::l.drop (at'+1):=z89 hlt; rw[hd]; generalize l[at']=e at hx hmem; obtain⟨e,rfl⟩: ∃e':Nat,e=e':=⟨e.toNat,by omega⟩
   have hg:=grp acc i e (by omega) (by omega) ha
   have hw:IntKind.wrap .i64 (e:Int)=(e:Int):=wrap_i64 (by omega) (by omega)
   rw[hw]at hg; have h7:IntKind.wrap .i64 ((7:Int)*(i:Int))=((7*i:Nat):Int):=by
    rw[wrap_i64 (by omega) (by omega)]; omega
   obtain⟨q1,q2⟩:=aAD (e:=e) hk ha; have ih:=PN n l hl hb k (i+1) (acc+(e % 128)*2 ^ (7*i)) (at'+1) m (by omega) q1 hlt (by omega)
   have hnn:decide ((0:Int)≤IntKind.wrap .u64 (IntKind.wrap .i64 ((7:Int)*(i:Int))))=true:=by
    rw[h7,Oc _ (by omega)]; exact z13 (by omega)
   simp only[loopN,fX,z13 (show(i:Int)<6 by omega),z13 (show(at':Int)<(l.length:Int)by omega),z15,z8,bP,hx,hnn,ck,hg,hw,RT,z35]
   generalize hX:acc+(e % 128)*2 ^ (7*i)=X at*; by_cases h128:(128:Int)≤(e:Int)
   ·rw[z13 h128]
    simp only[z15,aP (show at'<4611686018427387904 by omega),aP (show i<4611686018427387904 by omega)]
    rw[Rr]; exact ih
   ·rw[z9 h128,tmod2,show decide ((0:Int)<(i:Int))=decide (0<i)from decide_eq_decide.2 (by omega)]
    simp only[z11,iR,z8,aP (show at'<4611686018427387904 by omega)]
    by_cases ho:X % 2=1
    ·rw[z13 ho,odd_i q2 ho]
     have hr:(decide (-1000000000000≤rQ X)&&decide (rQ X≤1000000000000))=okR (rQ X):=rfl; rw[hr]; simp only[z15]; cases decide ((e:Int)=0)<;>cases decide (0<i)<;>simp only[z15,z11,Qf,z68,z32,Tc,z8,Qk]<;>cases okR (rQ X)<;>exact⟨_,rfl,rfl⟩
    ·rw[z9 ho,Yk q2 ho]
     have hr:(decide (-1000000000000≤rQ X)&&decide (rQ X≤1000000000000))=okR (rQ X):=rfl; rw[hr]; simp only[z11]; cases decide ((e:Int)=0)<;>cases decide (0<i)<;>simp only[z15,z11,Qf,z68,z32,Tc,z8,Qk]<;>cases okR (rQ X)<;>exact⟨_,rfl,rfl⟩
  ·have:at'=l.length:=by omega
   subst this; refine⟨.inr ((l.length:Int),(acc:Int),(i:Int),false), ?_, ?_⟩
   ·simp only[loopN,fX,z13 (show(i:Int)<6 by omega),aN,z15,z11,z8]
   ·rw[Xe]; rfl
def Xz(l:List Int)(at':Nat):Int×Int×Bool:=Qk at' (RT 6 0 0 (l.drop at'))
theorem yQ(n:Nat)(l:List Int)(hn:10<n)(hl:l.length<1099511627776)(hb: ∀x∈l,0≤x∧x<256)(at':Nat)(hat:at'≤l.length):lH n l (at':Int)=some (Xz l at'):=by
 unfold lH Xz; rw[iR,z8]; by_cases h:at'<l.length
 ·have hw:IntKind.wrap .i64 ((l.length:Int) - 1)=(l.length:Int) - 1:=wrap_i64 (by omega) (by omega)
  rw[hw,z13 (show(0:Int)≤(at':Int)by omega),z13 (show(at':Int)≤(l.length:Int) - 1 by omega)]
  obtain⟨q,q1,q2⟩:=PN n l hl hb 6 0 0 at' n rfl (by omega) hat (by omega)
  have q1:loopN (fX n l) n ((at':Int),(0:Int),(0:Int))=some q:=q1; simp only[z87,z37,z11,q1,z8]; rw[←q2]; cases q<;>rfl
 ·have hal:at'=l.length:=by omega
  have hf:(decide ((0:Int)≤(at':Int))&&decide ((at':Int)≤IntKind.wrap .i64 ((l.length:Int) - 1)))=false:=by
   rw[wrap_i64 (by omega) (by omega),z9 (show ¬ (at':Int)≤(l.length:Int) - 1 by omega),z68]
  rw[hf,hal,Xe]; rfl
theorem tN(k x:Nat)(h:x<128):Bn k x=[(x:Int)]:=by
 cases k with
 | zero=>rfl
 | succ k=>exact z19 h
theorem Hh(k x:Nat)(h: ¬ x<128):Bn (k+1) x=((128+x % 128:Nat):Int)::Bn k (x / 128):=z14 h
theorem PV: ∀(k x:Nat),x<128 ^ (k+1)→Bn (k+1) x=Bn k x
 | 0,x,h=>by rw[tN _ x (by simpa using h),tN _ x (by simpa using h)]
 | k+1,x,h=>by
  by_cases h2:x<128
  ·rw[tN _ x h2,tN _ x h2]
  ·rw[Hh _ x h2,Hh _ x h2,PV k (x / 128)]
   rw[z182]at h; exact Xl (by rw[Ta]; exact h)
theorem Cj: ∀ {l:List Int},(∀x∈l,0≤x∧x<256)→ ∃s,uQ l=some s∧(s.map fun c=>((c.toNat:Nat):Int))=l
 | [],_=>⟨[],rfl,rfl⟩
 | x::r,h=>by
  have hx:=h x z34; obtain⟨s,h1,h2⟩:=Cj (l:=r) (fun e he=>h e (z29 _ he))
  refine⟨UInt8.ofNat x.toNat::s, ?_, ?_⟩
  ·show(if 0≤x∧x<256 then(uQ r).map (UInt8.ofNat x.toNat:: ·)else none)=_
   rw[z19 hx,h1]; rfl
  ·simp only[z52,h2,z148]
   congr 1; omega
theorem YL(l:List Int)(a b:Nat)(hab:a≤b)(hb:b≤l.length):sub l (some (a:Int)) (some (b:Int))=some ((l.drop a).take (b - a)):=by
 unfold sub bnd; simp only[z69]; rw[z19 ⟨by omega,by omega,by omega⟩]
 simp only[z36,z35]
def putB(fs:List aD)(ps:List aA):List Int:=bif xT fs ps&&ps.all (wG 400)then nD fs ps else []
theorem It: ∀ {a b:List Int} {s:List UInt8},uQ a=some s→uQ b=some s→a=b
 | [],[],s,_,_=>rfl
 | [],y::b,s,h1,h2=>by
  cases h1; simp only[uQ]at h2; split at h2
  ·obtain⟨t,_,ht⟩:=z26.1 h2
   cases ht
  ·cases h2
 | x::a,[],s,h1,h2=>by
  cases h2; simp only[uQ]at h1; split at h1
  ·obtain⟨t,_,ht⟩:=z26.1 h1
   cases ht
  ·cases h1
 | x::a,y::b,s,h1,h2=>by
  simp only[uQ]at h1 h2; split at h1
  ·rename_i hx
   split at h2
   ·rename_i hy
    obtain⟨t,ht,rfl⟩:=z26.1 h1; obtain⟨u,hu,he⟩:=z26.1 h2; simp only[RI]at he; obtain⟨he,rfl⟩:=he; have:=It ht hu; subst this; have:=congrArg UInt8.toNat he; simp only[z148]at this; congr 1; omega
   ·cases h2
  ·cases h1
theorem JZ: ∀(k x:Nat),x<128 ^ (k+1)→ ∀e∈Bn k x,0≤e∧e<256
 | 0,x,h,e,he=>by
  simp only[Bn,z67]at he; subst he; simp only[z28,Nat.pow_one]at h; omega
 | k+1,x,h,e,he=>by
  unfold Bn at he; split at he
  ·simp only[z67]at he; omega
  ·rcases Qg.1 he with rfl | he
   ·have:=TZ x (show 0<128 by omega); omega
   ·refine JZ k (x / 128) ?_ e he
    rw[z182]at h; exact Xl (by rw[Ta]; exact h)
theorem jJ(v:Int): ∀e∈mP v,0≤e∧e<256:=by
 have hc:=EN v; have hz:=OH hc.1 hc.2; exact JZ 6 _ (by omega)
theorem BW(s:List UInt8): ∀e∈uJ s,0≤e∧e<256:=fun e he=>by
 rcases z91.1 he with h | h
 ·exact jJ _ e h
 ·obtain⟨c,_,rfl⟩:=z50.1 h
  have:=c.toNat_lt; omega
theorem jE{a b:List Int}(ha: ∀e∈a,0≤e∧e<256)(hb: ∀e∈b,0≤e∧e<256): ∀e∈a++b,0≤e∧e<256:=fun e he=>(z91.1 he).elim (ha e) (hb e)
theorem Ko{α:Type}{f:α→List Int}(l:List α)(h: ∀a, ∀e∈f a,0≤e∧e<256): ∀e∈l.flatMap f,0≤e∧e<256:=fun e he=>by
 obtain⟨a,_,h2⟩:=List.mem_flatMap.1 he; exact h a e h2
mutual
theorem Eh: ∀(a:aA), ∀e∈kU a,0≤e∧e<256
 | .mk a b s l=>jE (jJ _) (jE (jJ _) (jE (BW _) (jE (jJ _) (CT l))))
theorem CT: ∀(l:List aA), ∀e∈tU l,0≤e∧e<256
 | []=>fun e he=>by cases he
 | x::r=>jE (Eh x) (CT r)
end
theorem Ps(fs:List aD)(ps:List aA): ∀e∈putB fs ps,0≤e∧e<256:=by
 unfold putB; cases xT fs ps&&ps.all (wG 400)with
 | false=>intro e he; cases he
 | true=>exact jE (jJ _) (jE (Ko _ fun f=>jE (BW _) (jE (jJ _) (jE (jJ _) (jE (jJ _) (Ko _ fun x=>jE (jJ _) (jE (jJ _) (jE (BW _) (jJ _)))))))) (jE (jJ _) (Ko _ Eh)))
theorem Yn(a b:List Int)(ha: ∀e∈a,0≤e∧e<256)(hb: ∀e∈b,0≤e∧e<256):((uQ a).bind fun v=>(uQ b).bind fun w=>some (decide (v=w)))=some (decide (a=b)):=by
 obtain⟨s,s1,s2⟩:=Cj ha; obtain⟨t,t1,t2⟩:=Cj hb; rw[s1,t1,z8,z8]; congr 1
 refine decide_eq_decide.2 ⟨fun h=> ?_,fun h=> ?_⟩
 ·subst h; exact It s1 t1
 ·subst h; rw[s1]at t1; cases t1; rfl
def sm(v:Int):Prop:= -1000000000000≤v∧v≤1000000000000
theorem Sk{v:Int}(h:sm v):kV v=v:=by
 obtain⟨h1,h2⟩:=h; have e:(if(1000000000000:Int)<v then(1000000000000:Int)else v)=v:=z14 (by omega)
 unfold kV; rw[e]; by_cases c:v > -1000000000000
 ·rw[z19 c]
 ·rw[z14 c]; omega
theorem WB{v:Int}(h:sm v):zig v=if v<0 then -2*v - 1 else 2*v:=by
 obtain⟨h1,h2⟩:=h; unfold zig; by_cases h:v<0
 ·rw[z13 h,z15,z19 h,wrap_i64 (n:=(-2)*v) (by omega) (by omega),wrap_i64 (by omega) (by omega)]
 ·rw[z9 h,z11,z14 h,wrap_i64 (by omega) (by omega)]
theorem Jc: ∀ {a b:List UInt8},(a.map fun c=>((c.toNat:Nat):Int))=(b.map fun c=>((c.toNat:Nat):Int))→a=b
 | [],[],_=>rfl
 | [],_::_,h=>by simp at h
 | _::_,[],h=>by simp at h
 | x::a,y::b,h=>by
  simp only[z52,RI]at h; rw[UInt8.toNat_inj.1 (show x.toNat=y.toNat by omega),Jc h.2]
structure smI (x:aE):Prop where
 f0:sm x.f0
 f1:sm x.f1
 f2:x.f2.length≤1000000000000
 f3:sm x.f3
structure smF (x:aD):Prop where
 f0:x.f0.length≤1000000000000
 f1:sm x.f1
 f2:sm x.f2
 f3:x.f3.length≤1000000000000
 is: ∀i∈x.f3,smI i
theorem pick{k c:Int}{a b:Bool}{P:Prop}(h:(bif decide (k=c)then a else b)=true)(h1:k=c→a=true→P)(h2:b=true→P):P:=by
 by_cases e:k=c
 ·rw[z13 e,z15]at h; exact h1 e h
 ·rw[z9 e,z11]at h; exact h2 h
theorem sW{v:Int}(h1: -1000000000000≤v)(h2:v≤1000000000000):sm v:=⟨h1,h2⟩
theorem US{k m:Int}{s:List UInt8}{ne:Int}(h:KP k m s ne=true):sm k∧sm m:=by
 unfold KP at h; have z: ∀ {c:Int} {b:Bool},k=c→ -20≤c→c≤20→(decide (m=0)&&b)=true→sm k∧sm m:=fun e h1 h2 h=>by
  simp only[z7,z23]at h; exact⟨sW (by omega) (by omega),sW (by omega) (by omega)⟩
 refine pick h (fun e h=> ?_) fun h=>pick h (fun e h=>z e (by omega) (by omega) h) fun h=>pick h (fun e h=>z e (by omega) (by omega) h) fun h=>pick h (fun e h=>z e (by omega) (by omega) h) fun h=>pick h (fun e h=>z e (by omega) (by omega) h) fun h=>pick h (fun e h=>z e (by omega) (by omega) h) fun h=>pick h (fun e h=>z e (by omega) (by omega) h) fun h=>pick h (fun e h=>z e (by omega) (by omega) h) fun h=>pick h (fun e h=>z e (by omega) (by omega) h) fun h=>by cases h
 simp only[z7,z23]at h; exact⟨sW (by omega) (by omega),sW (by omega) (by omega)⟩
theorem Ud{sl k m:Int}{s:List UInt8}{ne:Int}(hs:sl≤400)(h:Hp sl k m s ne=true):sm k∧sm m:=by
 unfold Hp at h; refine pick h (fun e h=> ?_) (fun h=> ?_)
 ·simp only[z7,z23]at h
  exact⟨sW (by omega) (by omega),sW (by omega) (by omega)⟩
 ·simp only[z7]at h
  exact US h.2
theorem NV{fs:List aD}{i:aE}(ha: ∀f∈fs,0≤f.f1∧f.f1≤4)(h:tT fs i=true):sm i.f1∧i.f3=0:=by
 unfold tT at h; split at h
 ·rename_i f e
  simp only[z7,z23]at h; have:=ha f (z20 e); exact⟨sW (by omega) (by omega),h.2.2⟩
 ·cases h
theorem VE{fs:List aD}{ps:List aA}{sl:Int}{to:Bool}{i:aE}(ha: ∀f∈fs,0≤f.f1∧f.f1≤4)(hs0:0≤sl)(hs:sl≤400)(hp:ps.length≤2000)(ht:to=true→sm i.f3)(hw:i.f2.length≤1000000000000)(h:rY fs ps sl to i=true):smI i:=by
 obtain⟨o1,o2⟩:=Km h; have o0:sm i.f0:=sW (by omega) (by omega)
 have z:sm 0:=sW (by omega) (by omega)
 have hz: ∀ {v:Int},v=0→sm v:=fun e=>by rw[e]; exact z
 unfold rY at h; refine pick h (fun _ h=> ?_) fun h=>pick h (fun _ h=> ?_) fun h=>pick h (fun _ h=> ?_) fun h=>pick h (fun _ h=> ?_) fun h=>pick h (fun _ h=> ?_) fun h=>pick h (fun _ h=> ?_) fun h=>pick h (fun _ h=> ?_) fun h=>pick h (fun _ h=> ?_) fun h=>pick h (fun _ h=> ?_) fun h=>pick h (fun _ h=> ?_) fun h=> ?_
 ·simp only[z7,z23]at h
  exact⟨o0,sW (by omega) (by omega),hw,hz h.1.2⟩
 ·simp only[z7,z23]at h
  exact⟨o0,hz h.1,hw,hz h.2.2⟩
 ·simp only[z7,z23]at h
  have:=h.2.2; rw[wrap_i64 (by omega) (by omega)]at this
  exact⟨o0,sW (by omega) (by omega),hw,hz h.1.2⟩
 ·simp only[z7,z23]at h
  exact⟨o0,sW (by omega) (by omega),hw,hz h.1.2⟩
 ·simp only[z7,z23]at h
  exact⟨o0,sW (by omega) (by omega),hw,hz h.1.2⟩
 ·simp only[z7,z23]at h
  exact⟨o0,sW (by omega) (by omega),hw,hz h.1.2⟩
 ·simp only[z7,z23]at h
  exact⟨o0,hz h.1,hw,hz h.2.2⟩
 ·obtain⟨h1,h2⟩:=NV ha h
  exact⟨o0,h1,hw,hz h2⟩
 ·simp only[z7]at h
  have h2:=h.2; unfold BS at h2; simp only[z7,z23]at h2; have:=h2.1.2; rw[wrap_i64 (by omega) (by omega)]at this
  exact⟨o0,sW (by omega) (by omega),hw,ht h.1.2⟩
 ·simp only[z7,z23]at h
  exact⟨o0,hz h.2,hw,ht h.1.2⟩
 ·simp only[z7,z23]at h
  exact⟨o0,hz h.2.1,hw,hz h.1.2⟩

def shp(pat:Bool)(k m:Int)(s:List UInt8)(ne nc:Int):Bool:=
 bif decide (k=9)then(!pat&&KP k m s ne)&&(decide (1≤nc)&&decide (nc≤6))
 else !decide (0<nc)&&(KP k m s ne&&(bif pat then !decide (6<k)else !(decide (k=3)&&decide (s=[95]))))
theorem NO(n:Nat)(k m:Int)(s:List UInt8)(l:List aB)(c:List aC)(pat:Bool)(h:s.length<n)(hn:s.length<4611686018427387904):mD n k m s l c pat=some (shp pat k m s l.length c.length):=by
 unfold mD shp KP; rw[AZ n s h hn,Hs n s h hn,PK n s]; simp only[pI,z8]; generalize (l.length:Int)=ne; generalize (c.length:Int)=nc; by_cases h1:k=1
 ·subst h1
  cases decide (0<nc)<;>cases decide (0≤m)<;>cases decide (m≤1000000000000)<;>cases decide (s=[])<;>cases decide (ne=0)<;>cases pat<;>rfl
 by_cases h2:k=2
 ·subst h2
  cases decide (0<nc)<;>cases decide (m=0)<;>cases gR s<;>cases decide (ne=0)<;>cases pat<;>rfl
 by_cases h3:k=3
 ·subst h3
  cases decide (0<nc)<;>cases decide (m=0)<;>cases Ji s<;>cases decide (ne=0)<;>cases pat<;>cases decide (s=[95])<;>rfl
 by_cases h4:k=4
 ·subst h4
  cases decide (0<nc)<;>cases decide (m=0)<;>cases decide (s=[])<;>cases decide (ne≤20)<;>cases pat<;>rfl
 by_cases h5:k=5
 ·subst h5
  cases decide (0<nc)<;>cases decide (m=0)<;>cases decide (s=[])<;>cases decide (ne≤20)<;>cases pat<;>rfl
 by_cases h6:k=6
 ·subst h6
  cases decide (0<nc)<;>cases decide (m=0)<;>cases decide (s=[])<;>cases decide (2≤ne)<;>cases decide (ne≤6)<;>cases pat<;>rfl
 by_cases h7:k=7
 ·subst h7
  cases decide (0<nc)<;>cases decide (m=0)<;>cases Mr s<;>cases decide (ne=2)<;>cases pat<;>rfl
 by_cases h8:k=8
 ·subst h8
  cases decide (0<nc)<;>cases decide (m=0)<;>cases gR s<;>cases decide (ne≤4)<;>cases pat<;>rfl
 by_cases h9:k=9
 ·subst h9
  cases decide (m=0)<;>cases decide (s=[])<;>cases decide (ne=1)<;>cases decide (1≤nc)<;>cases decide (nc≤6)<;>cases pat<;>rfl
 rw[z9 h1,z9 h2,z9 h3,z9 h4,z9 h5,z9 h6,z9 h7,z9 h8,z9 h9]; cases decide (0<nc)<;>cases decide (m=0)<;>rfl
mutual
def yE:aB→List (List UInt8)
 | .mk k _ s l _=>bif decide (k=3)then(bif decide (s=[95])then []else [s])else sV l
def sV:List aB→List (List UInt8)
 | []=> []
 | x::r=>yE x++sV r
end
theorem YJ(a:aB):yE a=bif decide (a.f0=3)then(bif decide (a.f2=[95])then []else [a.f2])else sV a.f3:=by cases a; simp only[yE]; rfl
theorem Ir: ∀(a b:List aB),sV (a++b)=sV a++sV b
 | [],b=>rfl
 | x::r,b=>by simp only[z84,sV,Ir r b,z56]
theorem Pj(a:aB):sV [a]=yE a:=by simp only[sV,z92]
mutual
theorem MD: ∀e,(yE e).length≤bR e
 | .mk k m s l c=>by
  have:=Dz l; simp only[yE,bR]; cases decide (k=3)<;>cases decide (s=[95])<;>simp<;>omega
theorem Dz: ∀l,(sV l).length≤BL l
 | []=>by simp [sV]
 | x::r=>by have:=MD x; have:=Dz r; simp only[sV,BL,z17]; omega
end
mutual
def yD:aB→Nat
 | .mk _ _ _ l c=>1+zC l+Lh c
def zC:List aB→Nat
 | []=>0
 | x::r=>yD x+zC r
def Lh:List aC→Nat
 | []=>0
 | x::r=>OE x+Lh r
def OE:aC→Nat
 | .two p x=>yD p+yD x
end
theorem Sv(a:aB):yD a=1+zC a.f3+Lh a.f4:=by cases a; simp only[yD]; rfl
theorem Zx(a:aC):OE a=yD a.p+yD a.x:=by cases a; simp only[OE]; rfl
theorem Ip: ∀l,zC l=GY yD l
 | []=>rfl
 | x::r=>by simp only[zC,GY,Ip r]
theorem Jb: ∀l,Lh l=GY OE l
 | []=>rfl
 | x::r=>by simp only[Lh,GY,Jb r]
def xok:Nat→Bool→aB→Bool
 | 0,_,_=>false
 | d+1,pat,e=>shp pat e.f0 e.f1 e.f2 e.f3.length e.f4.length&&(e.f3.all (xok d pat)&&e.f4.all (fun c=>Vt (yE c.p)&&(xok d true c.p&&xok d false c.x)))
def cok(d:Nat)(c:aC):Bool:=Vt (yE c.p)&&(xok d true c.p&&xok d false c.x)
theorem RZ(d:Nat)(pat:Bool)(e:aB):xok (d+1) pat e=(shp pat e.f0 e.f1 e.f2 e.f3.length e.f4.length&&(e.f3.all (xok d pat)&&e.f4.all (cok d))):=rfl

theorem PX{α:Type}(w:α→Nat): ∀(l:List α) (i:Nat),dl w (l.take i)≤dl w l
 | [],i=>by simp
 | a::r,0=>by simp only[Xc,dl]; omega
 | a::r,i+1=>by have:=PX w r i; simp only[z143,dl]; omega
theorem yM: ∀(n:Nat),n≤1099511627776→ ∀(a:aB),bR a<n→iD n a.f0 a.f1 a.f2 a.f3 a.f4=some (yE a)
 | 0,_,a,h=>by omega
 | n+1,hn,a,h=>by
  have ih:=yM n (by omega)
  rw[BB,YJ]; unfold nQ; rw[Gx,tB,rM]at h; have h2:=bO bR a.f3; cases decide (a.f0=3)with
  | true=>
   simp only[z15]; have hap:dF 16 ([]:List (List UInt8)) [a.f2]=some [a.f2]:=qP (by simp) (by simp [maxLen])
   rw[hap]; cases decide (a.f2=[95])<;>rfl
  | false=>
   simp only[z11]; generalize a.f3=l at h h2; have hl:=Cm (body:=kB n (iD n) l) (fun i=>(sV (l.take i),(i:Int))) (len:=l.length) (r:=(sV l,(l.length:Int),false)) (fun i hi=>by
    have ha:l[i]? =some l[i]:=z12 hi
    generalize l[i]=b at ha; have hd:=dE bR (z20 ha); have e:sV (l.take (i+1))=sV (l.take i)++yE b:=by rw[←tL ha,Ir,Pj]
    have hb:=Dz (l.take (i+1)); have hb2:BL (l.take (i+1))≤dl bR l:=by
     rw[tB]; exact PX bR l (i+1)
    rw[e,z17]at hb; have hap:dF 16 (sV (l.take i)) (yE b)=some (sV (l.take (i+1))):=by
     rw[e]; exact qP (by omega) (by simp only[maxLen]; omega)
    simp only[kB,bW ha,z15,bP,ha,z8,ih b (by omega),hap,aP (show i<4611686018427387904 by omega)]) (by simp only[kB,aN,z11,z72]) (n:=n) (by omega)
   refine(congrArg (fun q=>Option.bind q _) hl).trans ?_
   rfl
def val2:Int⊕(Int×Int×Bool)→Int
 | .inl v=>v
 | .inr (v,_,_)=>v
theorem MA: ∀(n:Nat),n≤1099511627776→ ∀(a:aB) (pat:Bool) (d:Nat) (t:Int),d≤10→ -1≤t→t≤300→bR a<n→dA n a.f0 a.f1 a.f2 a.f3 a.f4 pat (d:Int) t=some (tk (xok d pat a) (yD a) t)
 | 0,_,a,pat,d,t,hd,t0,t1,h=>by omega
 | n+1,hn,a,pat,d,t,hd,t0,t1,h=>by
  have ih:=MA n (by omega)
  rw[Az]; unfold nO; rw[Gx,tB,rM]at h; have hl:=bO bR a.f3; have hl2:=bO cS a.f4; rw[NO n a.f0 a.f1 a.f2 a.f3 a.f4 pat (by omega) (by omega)]
  have hp:=Sv a; cases d with
  | zero=>
   rw[z13 (show((0:Nat):Int)<1 by omega)]
   have e:tk (xok 0 pat a) (yD a) t= -1:=rfl; rw[e]; rfl
  | succ d=>
   rw[z9 (show ¬ ((d+1:Nat):Int)<1 by omega)]
   by_cases ht:t<1
   ·rw[z13 ht,Sz _ _ (by omega)]; rfl
   rw[z9 ht,RZ]; generalize yD a=q at hp ⊢; simp only[z11,z8]; cases hs:shp pat a.f0 a.f1 a.f2 a.f3.length a.f4.length with
   | false=>rfl
   | true=>
    simp only[z37,z11,z32]; generalize a.f3=l at h hl hp ⊢; generalize a.f4=c at h hl2 hp ⊢; have e1:IntKind.wrap .i64 (((d+1:Nat):Int) - 1)=(d:Int):=by rw[wrap_i64 (by omega) (by omega)]; omega
    rw[wrap_i64 (n:=t - 1) (by omega) (by omega)]
    obtain⟨x,h1,h2⟩:=AW (body:=fU n (dA n) pat ((d+1:Nat):Int) l) l (xok d pat) yD (fun t r=>r.1=t) (fun i b t hb q0 q1=>by
     have hm:=dE bR (z20 hb); have hi:=bK hb; left
     simp only[fU,bW hb,z15,bP,hb,z8,z13 q0,e1,ih b pat d t (by omega) (by omega) q1 (by omega),aP (show i<4611686018427387904 by omega)]) (fun i t ht hi=>⟨(t,(i:Int),false),by
      simp only[fU,z13 (show(i:Int)<(l.length:Int)by omega),z15,z8,z9 (show ¬ 0≤t by omega),z11],rfl⟩) (fun t=>⟨(t,(l.length:Int),false),by simp only[fU,aN,z11,z8],rfl⟩) l 0 (t - 1) n rfl (by omega) (by omega) (by omega) (by omega)
    have h1:loopN (fU n (dA n) pat ((d+1:Nat):Int) l) n (t - 1,(0:Int))=some x:=h1; rw[h1]; obtain⟨x1,x2,x3⟩:=x; simp only at h2; subst h2; simp only[z8]; rw[HC (xok d pat) yD l (by omega), ←Ip]
    have hb:=Tp (l.all (xok d pat)) (zC l) (t - 1) (by omega)
    obtain⟨y,h3,h4⟩:=AW (body:=fT n (dA n) ((d+1:Nat):Int) c) c (cok d) OE (fun t r=>val2 r=t) (fun i b t hc q0 q1=>by
     have hm:=dE cS (z20 hc); have hi:=bK hc; have hw:=Dy b; have v1:iD n b.f0 b.f1 b.f2 b.f3 b.f4=some (yE b.p):=yM n (by omega) b.p (by omega)
     have hvl:=MD b.p; have v2:dA n b.f0 b.f1 b.f2 b.f3 b.f4 true (d:Int) t=some (tk (xok d true b.p) (yD b.p) t):=ih b.p true d t (by omega) (by omega) q1 (by omega)
     have hb1:=Tp (xok d true b.p) (yD b.p) t (by omega)
     have v3:dA n b.f5 b.f6 b.f7 b.f8 b.f9 false (d:Int) (tk (xok d true b.p) (yD b.p) t)=some (tk (xok d false b.x) (yD b.x) (tk (xok d true b.p) (yD b.p) t)):=ih b.x false d _ (by omega) hb1.1 (by omega) (by omega)
     have hcc:=Zx b; have hpp:=Sv b.p; unfold cok; simp only[fT,bW hc,z15,bP,hc,z8,z13 q0,v1,QK n (yE b.p) (by omega) (by omega),e1,v2,v3,aP (show i<4611686018427387904 by omega)]
     cases ho:Vt (yE b.p)with
     | false=>
      right
      exact⟨.inl (-1),rfl,rfl,by unfold tk; rfl⟩
     | true=>
      left
      simp only[z37,z11,z32]; by_cases g:0≤tk (xok d true b.p) (yD b.p) t
      ·rw[z13 g]
       simp only[z15,z8,z10,Sum.inl.injEq,z41,Vg]; unfold tk at g ⊢; cases hx:xok d true b.p with
       | false=>rw[hx]at g; simp at g
       | true=>
        rw[hx,z32]at g; simp only[z32]; by_cases z:(yD b.p:Int)≤t
        ·rw[z13 z,z15]
         by_cases z2:(yD b.x:Int)≤t - yD b.p
         ·rw[z13 z2,z13 (show(OE b:Int)≤t by omega)]
          cases xok d false b.x
          ·rfl
          ·simp only[Qf,z15]; omega
         ·rw[z9 z2,z9 (show ¬ (OE b:Int)≤t by omega)]
          cases xok d false b.x<;>rfl
        ·rw[z9 z]at g; simp at g
      ·rw[z9 g]
       have g1:tk (xok d true b.p) (yD b.p) t= -1:=by omega
       simp only[z11,z8,z10,Sum.inl.injEq,z41,Vg]; rw[g1]; unfold tk at g ⊢; cases hx:xok d true b.p with
       | false=>rfl
       | true=>
        rw[hx,z32]at g; by_cases z:(yD b.p:Int)≤t
        ·rw[z13 z,z15]at g; omega
        ·rw[z9 (show ¬ (OE b:Int)≤t by omega),z68]; rfl) (fun i t ht hi=>⟨.inr (t,(i:Int),false),by
      simp only[fT,z13 (show(i:Int)<(c.length:Int)by omega),z15,z8,z9 (show ¬ 0≤t by omega),z11],rfl⟩) (fun t=>⟨.inr (t,(c.length:Int),false),by simp only[fT,aN,z11,z8],rfl⟩) c 0 (tk (l.all (xok d pat)) (zC l) (t - 1)) n rfl hb.1 (by omega) (by omega) (by omega)
    have h3:loopN (fT n (dA n) ((d+1:Nat):Int) c) n (tk (l.all (xok d pat)) (zC l) (t - 1),(0:Int))=some y:=h3; rw[h3]; simp only[z8]; have h5:some (val2 y)=some (tk (l.all (xok d pat)&&c.all (cok d)) q t):=by
     rw[h4]; congr 1
     by_cases g:0≤tk (l.all (xok d pat)) (zC l) (t - 1)
     ·rw[HC (cok d) OE c g, ←Jb]
      unfold tk at g ⊢; cases hx:l.all (xok d pat)with
      | false=>rw[hx]at g; simp at g
      | true=>
       rw[hx,z32]at g; simp only[z32]; by_cases z:(zC l:Int)≤t - 1
       ·rw[z13 z,z15]
        by_cases z2:(Lh c:Int)≤t - 1 - zC l
        ·rw[z13 z2,z13 (show(q:Int)≤t by omega)]
         cases c.all (cok d)
         ·rfl
         ·simp only[Qf,z15]; omega
        ·rw[z9 z2,z9 (show ¬ (q:Int)≤t by omega)]
         cases c.all (cok d)<;>rfl
       ·rw[z9 z]at g; simp at g
     ·have g1:tk (l.all (xok d pat)) (zC l) (t - 1)= -1:=by omega
      rw[g1,HW _ _ _ (by omega)]
      unfold tk at g ⊢; cases hx:l.all (xok d pat)with
      | false=>rfl
      | true=>
       rw[hx,z32]at g; by_cases z:(zC l:Int)≤t - 1
       ·rw[z13 z,z15]at g; omega
       ·rw[z9 (show ¬ (q:Int)≤t by omega),z68]; rfl
    rw[←h5]; rcases y with v | ⟨v,i,b⟩<;>rfl

def Gt{α:Type}(o:Option α)(Q:α→Prop):Prop:= ∃r,o=some r∧Q r
theorem Gt.pure{α:Type}{a:α}{Q:α→Prop}(h:Q a):Gt (some a) Q:=⟨a,rfl,h⟩
theorem Gt.bind{α β:Type}{o:Option α}{f:α→Option β}{P:α→Prop}{Q:β→Prop}(h:Gt o P)(hf: ∀r,P r→Gt (f r) Q):Gt (o.bind f) Q:=by
 obtain⟨r,rfl,h2⟩:=h; exact hf r h2
theorem Gt.cond{α:Type}{b:Bool}{x y:Option α}{Q:α→Prop}(h1:b=true→Gt x Q)(h0:b=false→Gt y Q):Gt (bif b then x else y) Q:=by
 cases b with
 | true=>exact h1 rfl
 | false=>exact h0 rfl
theorem Gt.mono{α:Type}{o:Option α}{P Q:α→Prop}(h:Gt o P)(hf: ∀r,P r→Q r):Gt o Q:=by
 obtain⟨r,e,h2⟩:=h; exact⟨r,e,hf r h2⟩
theorem Gt.of{α:Type}{o:Option α}{r:α}{Q:α→Prop}(e:o=some r)(h:Q r):Gt o Q:=⟨r,e,h⟩
def Rnd{σ ρ:Type}(I:Nat→σ→Prop)(Q:ρ→Prop)(m:Nat):σ⊕ρ→Prop
 | .inl s=> ∃m',m=m'+1∧I m' s
 | .inr r=>Q r
theorem Gt.loop{σ ρ:Type}{body:σ→Option (σ⊕ρ)}(I:Nat→σ→Prop)(Q:ρ→Prop)(hs: ∀m s,I m s→Gt (body s) (Rnd I Q m)): ∀ {n m:Nat} {s:σ},I m s→m<n→Gt (loopN body n s) Q
 | 0,m,s,h,hn=>by omega
 | n+1,m,s,h,hn=>by
  obtain⟨x,e,hx⟩:=hs m s h; unfold loopN; rw[e]; cases x with
  | inl s'=>
   obtain⟨m',rfl,h'⟩:=hx; exact Gt.loop I Q hs h' (by omega)
  | inr r=>exact⟨r,rfl,hx⟩
theorem OC{p:Prop} [Decidable p](h:decide p=true):p:=of_decide_eq_true h
theorem Qm{p:Prop} [Decidable p](h:decide p=false): ¬ p:=of_decide_eq_false h
structure Cur (b:List Int) (i:Int):Prop where
 len:b.length≤1048576
 at0:0≤i
theorem oE{α:Type}{k:Nat}{a b:List α}(h:a.length+b.length≤1048576000)(hk:k≤255):Gt (dF k a b) (fun r=>r=a++b):=by
 refine Gt.of (qP ?_ (by simp only[maxLen]; omega)) rfl
 have:(a.length+b.length)*k≤1048576000*255:=z178 h hk; omega
theorem Il{α:Type}{l:List α}{i:Int}(h0:0≤i)(h:i<l.length):Gt (ix l i) (fun a=>a∈l):=by
 obtain⟨k,rfl⟩: ∃k:Nat,i=k:=⟨i.toNat,by omega⟩
 rw[bP]; exact⟨_,z12 (by omega),z167 _⟩
theorem Pe(x:Int):0≤bits .and .i64 x 255∧bits .and .i64 x 255≤255:=Lk x 255 (by decide)
theorem sB{n:Nat}{b:List Int}{i h:Int}(hc:Cur b i):Gt (iC n b i h) (fun r=>(0≤r.1∧r.1≤255)∧Cur r.2.1 r.2.2.1):=by
 have h1:=hc.len; have h2:=hc.at0; unfold iC; refine Gt.cond (fun e=> ?_) (fun e=> ?_)
 ·have:=OC e
  refine Gt.bind (Il h2 this) fun a _=>Gt.pure ⟨Pe _,hc.len, ?_⟩
  show 0≤IntKind.wrap .i64 (i+1); rw[wrap_i64 (by omega) (by omega)]; omega
 ·exact Gt.pure ⟨Pe _,hc⟩
theorem YB{b:Bool}(h:b=true):Gt (ck b) (fun _=>True):=by subst h; exact⟨_,rfl,trivial⟩
theorem jK{n:Nat}{t:Int}{b:List Int}{i h:Int}(hc:Cur b i)(ht:0<t):Gt (aM n t b i h) (fun r=>(t≤256→0≤r.1∧r.1<t)∧Cur r.2.1 r.2.2.1):=by
 unfold aM; have e0:(!decide (t=0))=true:=by rw[z9 (by omega)]; rfl
 refine Gt.cond (fun e=> ?_) (fun _=>Gt.cond (fun e=> ?_) (fun e=> ?_))
 ·have:=OC e; omega
 ·refine Gt.bind (sB hc) fun r ⟨h1,h2⟩=>Gt.bind (YB e0) fun _ _=>Gt.pure ⟨fun _=>⟨z176 _ h1.1,z153 _ ht⟩,h2⟩
 ·have hn:=Qm e
  refine Gt.bind (sB hc) fun r ⟨h1,h2⟩=>Gt.bind (sB h2) fun r2 ⟨_,h4⟩=>Gt.bind (sB h4) fun r3 ⟨_,h6⟩=>Gt.bind (YB e0) fun _ _=>Gt.pure ⟨fun h=>absurd h hn,h6⟩
theorem MV{n:Nat}{t:Int}{b:List Int}{i h:Int}(hc:Cur b i)(ht:0<t):Gt (jI n t b i h) (fun r=>Cur r.2.1 r.2.2.1):=by
 unfold jI; exact Gt.bind (jK hc ht) fun r ⟨_,h2⟩=>Gt.pure h2
theorem vO{n:Nat}{l:List Int}{b:List Int}{i h:Int}(hc:Cur b i)(h0:0<l.length)(h1:l.length≤256):Gt (cX n l b i h) (fun r=>r.1∈l∧Cur r.2.1 r.2.2.1):=by
 unfold cX; refine Gt.bind (jK hc (by omega)) fun r ⟨h2,h3⟩=> ?_
 obtain⟨h4,h5⟩:=h2 (by omega)
 exact Gt.bind (Il h4 h5) fun a ha=>Gt.pure ⟨ha,h3⟩
theorem At{n K:Nat}{l:List (List UInt8)}{b:List Int}{i h:Int}(hc:Cur b i)(h0:0<l.length)(h1:l.length≤256)(hK: ∀s∈l,s.length≤K):Gt (bN n l b i h) (fun r=>r.1.length≤K∧Cur r.2.1 r.2.2.1):=by
 unfold bN; refine Gt.bind (jK hc (by omega)) fun r ⟨h2,h3⟩=> ?_
 obtain⟨h4,h5⟩:=h2 (by omega)
 exact Gt.bind (Il h4 h5) fun a ha=>Gt.pure ⟨hK a ha,h3⟩
theorem Uy{n:Nat}(hn:4001<n)(code:List Int)(hc:code.length≤1048576):Gt (pR n code) (fun r=>Cur r.1 r.2.1):=by
 unfold pR; refine Gt.bind (P:=fun _=>True) (Gt.loop (fun(m:Nat) (s:Int×Int)=>0≤s.2∧s.2+m=4001) (fun _=>True) (fun m s hs=> ?_) (m:=4001) (by simp) (by omega)) fun r _=>Gt.pure ⟨hc,Vh _⟩
 obtain⟨a,i⟩:=s; obtain⟨h1,h2⟩:=hs; unfold rV; simp only at h1 h2 ⊢; by_cases c1:i<code.length
 ·by_cases c2:i<4000
  ·rw[z13 c1,z13 c2]
   simp only[z15,z8]; refine Gt.bind (Il h1 c1) fun e _=>Gt.pure ⟨m - 1,by omega, ?_⟩
   simp only; rw[wrap_i64 (n:=i+1) (by omega) (by omega)]
   omega
  ·rw[z13 c1,z9 c2]
   simp only[z15,z11,z8]; exact Gt.pure trivial
 ·rw[z9 c1]
  simp only[z11,z8]; exact Gt.pure trivial
theorem Kq{α:Type}(w:α→Nat): ∀(a b:List α),dl w (a++b)+1=dl w a+dl w b
 | [],b=>by simp only[z76,dl]; omega
 | x::r,b=>by have:=Kq w r b; simp only[z84,dl]; omega
theorem kK{α:Type}(w:α→Nat)(l:List α)(a:α):dl w (l++[a])=dl w l+1+w a:=by
 have:=Kq w l [a]; simp only[dl]at this; omega
theorem LJ(k m:Int)(s:List UInt8)(l:List aB)(c:List aC):bR (.mk k m s l c)=3+s.length+dl bR l+dl cS c:=by rw[Gx,tB,rM]; rfl
def Nm(K:Nat)(l:List (List UInt8)):Prop:=l.length≤K∧ ∀s∈l,s.length≤5
theorem Nm.up{K K':Nat}{l:List (List UInt8)}(h:Nm K l)(hk:K≤K'):Nm K' l:=⟨z83 h.1 hk,h.2⟩
theorem Nm.app{K K':Nat}{l l':List (List UInt8)}(h:Nm K l)(h':Nm K' l'):Nm (K+K') (l++l'):=⟨by rw[z17]; exact Nat.add_le_add h.1 h'.1,fun s hs=>(z91.1 hs).elim (h.2 s) (h'.2 s)⟩
def kX:Nat→Nat
 | 0=>7
 | d+1=>7+2*kX d
def kY:Nat→Nat
 | 0=>1
 | d+1=>2*kY d
theorem kX_7: ∀d,7≤kX d
 | 0=>z39 _
 | d+1=>by simp only[kX]; omega
theorem Xy: ∀d,1≤kY d
 | 0=>z39 _
 | d+1=>by have:=Xy d; simp only[kY]; omega
def DP(B K:Nat)(r:Int×Int×List UInt8×List aB×List aC×List Int×Int×Int×List (List UInt8)):Prop:=bR (.mk r.1 r.2.1 r.2.2.1 r.2.2.2.1 r.2.2.2.2.1)≤B∧Cur r.2.2.2.2.2.1 r.2.2.2.2.2.2.1∧Nm K r.2.2.2.2.2.2.2.2
theorem DP.mk{B K:Nat}{k m:Int}{s:List UInt8}{l:List aB}{c:List aC}{b:List Int}{i h:Int}{ns:List (List UInt8)}(hw:3+s.length+dl bR l+dl cS c≤B)(hc:Cur b i)(hn:Nm K ns):DP B K (k,m,s,l,c,b,i,h,ns):=⟨by rw[LJ]; exact hw,hc,hn⟩
def DPS(X Y K m:Nat)(x:Int×Int×List UInt8×List aB×List aC×List Int×Int×Int×List (List UInt8)):Prop:=x.2.2.1=[]∧x.2.2.2.2.1=[]∧dl bR x.2.2.2.1+m*(1+X)≤1+2*(1+X)∧Cur x.2.2.2.2.2.1 x.2.2.2.2.2.2.1∧x.2.2.2.2.2.2.2.2.length+m*Y≤K+2*Y∧ ∀s∈x.2.2.2.2.2.2.2.2,s.length≤5
theorem SP(n d K:Nat)(hd:d≤2)(hK:K+10*d≤1000)(ih:d≠0→ ∀ {K':Nat} {b:List Int} {i h:Int} {ns:List (List UInt8)},K'+10*(d - 1)≤1000→Cur b i→Nm K' ns→Gt (eA n ((d - 1:Nat):Int) b i h ns) (DP (kX d) (K'+kY d)))(m:Nat)(s:Int×Int×Int×List UInt8×List aB×List aC×List Int×Int×Int×List (List UInt8))(hs:s.1+m=(2:Int)∧0≤s.1∧DPS (kX d) (kY d) K m s.2):Gt (oG n (eA n) (d:Int) s) (Rnd (fun m s=>s.1+m=(2:Int)∧0≤s.1∧DPS (kX d) (kY d) K m s.2) (fun r=>DPS (kX d) (kY d) K 0 r.2.2) m):=by
 obtain⟨v,w0,w1,w2,w3,w4,w5,w6,w7,w8⟩:=s; obtain⟨s1,s2,s3,s4,s5,s6,s7,s8⟩:=hs; simp only at s1 s2 s3 s4 s5 s6 s7 s8; subst s3; subst s4; have hX:kX d≤49:=by
  have:d=0∨d=1∨d=2:=by omega
  rcases this with e | e | e<;>rw[e]<;>simp [kX]
 have hY:1≤kY d:=Xy _; have hY2:kY d≤4:=by
  have:d=0∨d=1∨d=2:=by omega
  rcases this with e | e | e<;>rw[e]<;>simp [kY]
 have hl:=bO bR w3; unfold oG; simp only; by_cases c1:v<(2:Int)
 ·rw[z13 c1,z15]
  obtain⟨m',rfl⟩: ∃m',m=m'+1:=⟨m - 1,by omega⟩
  rw[z96]at s5 s7; have hm1:m'*(1+kX d)≥0:=z86 _; have hm2:m'*kY d≥0:=z86 _; refine Gt.bind (P:=DPS (kX d) (kY d) K m') (Gt.cond (fun e=> ?_) (fun e=> ?_)) fun r hr=> ?_
  ·have:=OC e
   have e1:IntKind.wrap .i64 ((d:Int) - 1)=((d - 1:Nat):Int):=by rw[wrap_i64 (by omega) (by omega)]; omega
   rw[e1]; refine Gt.bind (ih (by omega) (K':=w8.length) (by omega) s6 ⟨z39 _,s8⟩) fun r ⟨g1,g2,g3⟩=>Gt.bind (oE (by simp only[z21]; omega) (by omega)) fun q e=>Gt.pure ⟨rfl,rfl, ?_,g2, ?_,g3.2⟩
   ·subst e
    show dl bR (w3++[_])+m'*(1+kX d)≤_; rw[kK]; omega
   ·exact z83 (Nat.add_le_add_right g3.1 _) (by omega)
  ·refine Gt.bind (oE (by simp only[z21]; omega) (by omega)) fun q e=>Gt.pure ⟨rfl,rfl, ?_,s6, ?_,s8⟩
   ·subst e
    have:=kX_7 d; show dl bR (w3++[_])+m'*(1+kX d)≤_; rw[kK,LJ]; simp only[dl,z21]; omega
   ·show w8.length+m'*kY d≤_
    omega
  ·obtain⟨x0,x1,x2,x3,x4,x5,x6,x7,x8⟩:=r
   rw[wrap_i64 (n:=v+1) (by omega) (by omega)]
   refine Gt.pure ⟨m',rfl, ?_, ?_,hr⟩
   ·show v+1+(m':Int)=(2:Int)
    omega
   ·show 0≤v+1
    omega
 ·rw[z9 c1,z11]
  have:m=0:=by omega
  subst this; exact Gt.pure ⟨rfl,rfl,s5,s6,s7,s8⟩
theorem SO(n d K:Nat)(hd:d≤2)(hK:K+10*d≤1000)(c:Int×List Int×Int×Int)(hc2:c.1≤2)(ih:d≠0→ ∀ {K':Nat} {b:List Int} {i h:Int} {ns:List (List UInt8)},K'+10*(d - 1)≤1000→Cur b i→Nm K' ns→Gt (eA n ((d - 1:Nat):Int) b i h ns) (DP (kX d) (K'+kY d)))(m:Nat)(s:Int×Int×Int×List UInt8×List aB×List aC×List Int×Int×Int×List (List UInt8))(hs:s.1+m=c.1∧0≤s.1∧DPS (kX d) (kY d) K m s.2):Gt (oF n (eA n) (d:Int) c s) (Rnd (fun m s=>s.1+m=c.1∧0≤s.1∧DPS (kX d) (kY d) K m s.2) (fun r=>DPS (kX d) (kY d) K 0 r.2.2) m):=by
 obtain⟨v,w0,w1,w2,w3,w4,w5,w6,w7,w8⟩:=s; obtain⟨s1,s2,s3,s4,s5,s6,s7,s8⟩:=hs; simp only at s1 s2 s3 s4 s5 s6 s7 s8; subst s3; subst s4; have hX:kX d≤49:=by
  have:d=0∨d=1∨d=2:=by omega
  rcases this with e | e | e<;>rw[e]<;>simp [kX]
 have hY:1≤kY d:=Xy _; have hY2:kY d≤4:=by
  have:d=0∨d=1∨d=2:=by omega
  rcases this with e | e | e<;>rw[e]<;>simp [kY]
 have hl:=bO bR w3; unfold oF; simp only; by_cases c1:v<c.1
 ·rw[z13 c1,z15]
  obtain⟨m',rfl⟩: ∃m',m=m'+1:=⟨m - 1,by omega⟩
  rw[z96]at s5 s7; have hm1:m'*(1+kX d)≥0:=z86 _; have hm2:m'*kY d≥0:=z86 _; refine Gt.bind (P:=DPS (kX d) (kY d) K m') (Gt.cond (fun e=> ?_) (fun e=> ?_)) fun r hr=> ?_
  ·have:=OC e
   have e1:IntKind.wrap .i64 ((d:Int) - 1)=((d - 1:Nat):Int):=by rw[wrap_i64 (by omega) (by omega)]; omega
   rw[e1]; refine Gt.bind (ih (by omega) (K':=w8.length) (by omega) s6 ⟨z39 _,s8⟩) fun r ⟨g1,g2,g3⟩=>Gt.bind (oE (by simp only[z21]; omega) (by omega)) fun q e=>Gt.pure ⟨rfl,rfl, ?_,g2, ?_,g3.2⟩
   ·subst e
    show dl bR (w3++[_])+m'*(1+kX d)≤_; rw[kK]; omega
   ·exact z83 (Nat.add_le_add_right g3.1 _) (by omega)
  ·refine Gt.bind (oE (by simp only[z21]; omega) (by omega)) fun q e=>Gt.pure ⟨rfl,rfl, ?_,s6, ?_,s8⟩
   ·subst e
    have:=kX_7 d; show dl bR (w3++[_])+m'*(1+kX d)≤_; rw[kK,LJ]; simp only[dl,z21]; omega
   ·show w8.length+m'*kY d≤_
    omega
  ·obtain⟨x0,x1,x2,x3,x4,x5,x6,x7,x8⟩:=r
   rw[wrap_i64 (n:=v+1) (by omega) (by omega)]
   refine Gt.pure ⟨m',rfl, ?_, ?_,hr⟩
   ·show v+1+(m':Int)=c.1
    omega
   ·show 0≤v+1
    omega
 ·rw[z9 c1,z11]
  have:m=0:=by omega
  subst this; exact Gt.pure ⟨rfl,rfl,s5,s6,s7,s8⟩
theorem PJ: ∀(d n:Nat),d≤2→d+2000<n→n≤1099511627776→ ∀ {K:Nat} {b:List Int} {i h:Int} {ns:List (List UInt8)},K+10*d≤1000→Cur b i→Nm K ns→Gt (eA n (d:Int) b i h ns) (DP (kX (d+1)) (K+kY (d+1)))
 | d,0,_,hn,_=>by omega
 | d,n+1,hd,hn,hn2=>fun hK hc hm=>by
  rename_i K b i h ns; rw[Bs]; unfold pN; have hX:=kX_7 d; have hY:=Xy d; have eX:kX (d+1)=7+2*kX d:=rfl; have eY:kY (d+1)=2*kY d:=rfl; have one: ∀ {k m:Int} {s:List UInt8} {b:List Int} {i h:Int} {ns:List (List UInt8)},s.length≤5→Cur b i→Nm (K+1) ns→DP (kX (d+1)) (K+kY (d+1)) (k,m,s,[],[],b,i,h,ns):=fun hs hc hn=>DP.mk (by simp only[dl]; omega) hc (hn.up (by omega))
  have hm1:Nm (K+1) ns:=hm.up (by omega)
  have hml:=hm.1; have yE: ∀ {b:List Int} {i h:Int},Cur b i→Gt ((bN n ([([65]:List UInt8),([66]:List UInt8),([67]:List UInt8),([68]:List UInt8),([72]:List UInt8),([84]:List UInt8)]:List (List UInt8)) b i h).bind fun c33_10=>(gY n ns c33_10.1).bind fun c38_11=>bif c38_11 then some ((3:Int),(0:Int),([95]:List UInt8),([]:List aB),([]:List aC),c33_10.2.1,c33_10.2.2.1,c33_10.2.2.2,ns)else(dF 16 ns ([c33_10.1]:List (List UInt8))).bind fun v46_13=>some ((3:Int),(0:Int),c33_10.1,([]:List aB),([]:List aC),c33_10.2.1,c33_10.2.2.1,c33_10.2.2.2,v46_13)) (DP (kX (d+1)) (K+kY (d+1))):=fun hc=>by
   refine Gt.bind (At (K:=5) hc (by simp) (by simp) (by decide)) fun r ⟨h1,h2⟩=> ?_
   rw[MT n ns r.1 (by omega) (by omega),z8]
   refine Gt.cond (fun _=>Gt.pure (one (by simp) h2 hm1)) fun _=>Gt.bind (oE (by simp only[z21]; omega) (by omega)) fun q e=>Gt.pure (one h1 h2 ?_)
   subst e; exact hm.app ⟨z39 _,fun s hs=>by rw[z67.1 hs]; exact h1⟩
  refine Gt.bind (jK hc (by omega)) fun r ⟨_,h2⟩=> ?_
  refine Gt.cond (fun _=> ?_) fun _=>Gt.cond (fun _=> ?_) fun _=>Gt.cond (fun _=>Gt.pure (one (by simp) h2 hm1)) fun _=>Gt.cond (fun _=>yE h2) fun _=>Gt.cond (fun _=>yE h2) fun _=>Gt.cond (fun _=>yE h2) fun _=> ?_
  ·exact Gt.bind (jK h2 (by omega)) fun r ⟨_,h2⟩=>Gt.pure (one (by simp) h2 hm1)
  ·exact Gt.bind (At (K:=5) h2 (by simp) (by simp) (by decide)) fun r ⟨h1,h2⟩=>Gt.pure (one h1 h2 hm1)
  ·refine Gt.bind (vO h2 (by simp) (by simp)) fun r3 ⟨_,h3⟩=>Gt.bind (jK h3 (by omega)) fun r4 ⟨h4,h5⟩=> ?_
   obtain⟨h6,h7⟩:=h4 (by omega)
   have ih:d≠0→ ∀ {K':Nat} {b:List Int} {i h:Int} {ns:List (List UInt8)},K'+10*(d - 1)≤1000→Cur b i→Nm K' ns→Gt (eA n ((d - 1:Nat):Int) b i h ns) (DP (kX d) (K'+kY d)):=fun hd0=>by
    obtain⟨d',rfl⟩: ∃d',d=d'+1:=⟨d - 1,by omega⟩
    exact PJ d' n (by omega) (by omega) (by omega)
   have fin: ∀(r:Int×Bool×Int×Int×List UInt8×List aB×List aC×List Int×Int×Int×List (List UInt8)),DPS (kX d) (kY d) K 0 r.2.2→Gt ((fun(v10_37,v61_38,w8_39,w8_40,w8_41,w8_42,w8_43,w1000000_44,w1000000_45,w1000000_46,w1000001_47)=>some (w8_39,w8_40,w8_41,w8_42,w8_43,w1000000_44,w1000000_45,w1000000_46,w1000001_47)) r) (DP (kX (d+1)) (K+kY (d+1))):=fun r hr=>by
    obtain⟨x0,x1,x2,x3,x4,x5,x6,x7,x8,x9,x10⟩:=r; obtain⟨q1,q2,q3,q4,q5,q6⟩:=hr; simp only at q1 q2 q3 q4 q5 q6; subst q1; subst q2; exact Gt.pure (DP.mk (by simp only[dl,z53]; omega) q4 ⟨by omega,q6⟩)
   have st0: ∀(m:Nat) (k:Int),m≤2→DPS (kX d) (kY d) K m (k,(0:Int),([]:List UInt8),([]:List aB),([]:List aC),r4.2.1,r4.2.2.1,r4.2.2.2,ns):=fun m k hm2=>by
    have a1:m*(1+kX d)≤2*(1+kX d):=z57 _ hm2; have a2:m*kY d≤2*kY d:=z57 _ hm2; exact⟨rfl,rfl,by simp only[dl]; omega,h5,by simp only; omega,hm.2⟩
   refine Gt.cond (fun _=> ?_) fun _=> ?_
   ·exact Gt.bind (Gt.loop _ _ (fun m s hs=>SP n d K hd hK ih m s hs) (m:=2) ⟨rfl,Vh _,st0 2 _ (z39 _)⟩ (by omega)) fin
   ·exact Gt.bind (Gt.loop _ _ (fun m s hs=>SO n d K hd hK r4 (by omega) ih m s hs) (m:=r4.1.toNat) ⟨by simp only; omega,Vh _,st0 _ _ (by omega)⟩ (by omega)) fin
theorem WD(a0 a1:Int)(a2:List UInt8)(a3:List aB)(a4:List aC)(a5 a6:Int)(a7:List UInt8)(a8:List aB)(a9:List aC):cS (.mk a0 a1 a2 a3 a4 a5 a6 a7 a8 a9)=3+bR (.mk a0 a1 a2 a3 a4)+bR (.mk a5 a6 a7 a8 a9):=Dy _
theorem rI{α:Type}{l:List α}{i:Nat}{a:α}(b:Nat)(ha:l[i]? =some a)(hl:l.length≤20000000)(hb:b≤255):dF b (l.take i) [a]=some (l.take (i+1)):=by
 have hi:=bK ha; rw[←tL ha]; refine qP ?_ (by simp only[z64,z21,maxLen]; omega)
 have:((l.take i).length+[a].length)*b≤200000000*255:=z178 (by simp only[z64,z21]; omega) hb
 omega
def eB:Nat→Nat
 | 0=>10
 | d+1=>200+4*eB d
theorem eB_10: ∀d,10≤eB d
 | 0=>z39 _
 | d+1=>by simp only[eB]; omega
theorem Vx{d:Nat}(h:d≤3):eB d≤4840:=by
 have:d=0∨d=1∨d=2∨d=3:=by omega
 rcases this with e | e | e | e<;>rw[e]<;>simp [eB]
def DE(B:Nat)(r:Int×Int×List UInt8×List aB×List aC×List Int×Int×Int):Prop:=bR (.mk r.1 r.2.1 r.2.2.1 r.2.2.2.1 r.2.2.2.2.1)≤B∧Cur r.2.2.2.2.2.1 r.2.2.2.2.2.2.1
theorem DE.mk{B:Nat}{k m:Int}{s:List UInt8}{l:List aB}{c:List aC}{b:List Int}{i h:Int}(hw:3+s.length+dl bR l+dl cS c≤B)(hc:Cur b i):DE B (k,m,s,l,c,b,i,h):=⟨by rw[LJ]; exact hw,hc⟩
def ES(X m:Nat)(x:Int×Int×List UInt8×List aB×List aC×List Int×Int×Int):Prop:=x.2.2.1.length≤5∧x.2.2.2.2.1=[]∧dl bR x.2.2.2.1+m*(1+X)≤1+2*(1+X)∧Cur x.2.2.2.2.2.1 x.2.2.2.2.2.2.1
def CS(X m:Nat)(x:Int×Int×List UInt8×List aB×List aC×List Int×Int×Int):Prop:=x.2.2.1=[]∧dl bR x.2.2.2.1≤2+X∧dl cS x.2.2.2.2.1+m*(53+X)≤1+2*(53+X)∧Cur x.2.2.2.2.2.1 x.2.2.2.2.2.2.1
theorem QO(n d K:Nat)(ns:List (List UInt8))(hd:d≤2)(hK:K+10*d≤200)(hm:Nm K ns)(ih: ∀ {K':Nat} {b:List Int} {i h:Int} {ns:List (List UInt8)},K'+10*d≤200→Cur b i→Nm K' ns→Gt (bT n (d:Int) ns b i h) (DE (eB d)))(m:Nat)(hm2:m≤2)(s:Int×Int×Int×List UInt8×List aB×List aC×List Int×Int×Int)(hs:s.1=(m:Int)∧ES (eB d) m s.2):Gt (mV n (bT n) ((d+1:Nat):Int) ns s) (Rnd (fun m s=>m≤2∧s.1=(m:Int)∧ES (eB d) m s.2) (fun r=>ES (eB d) 0 r.2.2) m):=by
 obtain⟨v,w0,w1,w2,w3,w4,w5,w6,w7⟩:=s; obtain⟨s1,s3,s4,s5,s6⟩:=hs; simp only at s1 s3 s4 s5 s6; subst s4; have hX:=Vx (d:=d) (by omega)
 have hl:=bO bR w3; unfold mV; simp only; by_cases c1:(0:Int)<v
 ·rw[z13 c1,z15]
  obtain⟨m',rfl⟩: ∃m',m=m'+1:=⟨m - 1,by omega⟩
  rw[z96]at s5; have e1:IntKind.wrap .i64 (((d+1:Nat):Int) - 1)=(d:Int):=by rw[wrap_i64 (by omega) (by omega)]; omega
  rw[e1]; refine Gt.bind (ih hK s6 hm) fun r ⟨g1,g2⟩=>Gt.bind (oE (by simp only[z21]; omega) (by omega)) fun q e=> ?_
  rw[wrap_i64 (n:=v - 1) (by omega) (by omega)]
  subst e; have h5:dl bR (w3++[.mk r.1 r.2.1 r.2.2.1 r.2.2.2.1 r.2.2.2.2.1])+m'*(1+eB d)≤1+2*(1+eB d):=by rw[kK]; omega
  refine Gt.pure ⟨m',rfl,by omega,(by show v - 1=(m':Int); omega),s3,rfl,h5,g2⟩
 ·rw[z9 c1,z11]
  have:m=0:=by omega
  subst this; exact Gt.pure ⟨s3,rfl,s5,s6⟩
theorem QN(n d K:Nat)(ns:List (List UInt8))(hd:d≤2)(hK:K+10*d≤200)(hm:Nm K ns)(ih: ∀ {K':Nat} {b:List Int} {i h:Int} {ns:List (List UInt8)},K'+10*d≤200→Cur b i→Nm K' ns→Gt (bT n (d:Int) ns b i h) (DE (eB d)))(m:Nat)(hm2:m≤2)(s:Int×Int×Int×List UInt8×List aB×List aC×List Int×Int×Int)(hs:(s.1+m=2∧0≤s.1)∧ES (eB d) m s.2):Gt (mU n (bT n) ((d+1:Nat):Int) ns s) (Rnd (fun m s=>m≤2∧(s.1+m=2∧0≤s.1)∧ES (eB d) m s.2) (fun r=>ES (eB d) 0 r.2.2) m):=by
 obtain⟨v,w0,w1,w2,w3,w4,w5,w6,w7⟩:=s; obtain⟨⟨s1,s0⟩,s3,s4,s5,s6⟩:=hs; simp only at s1 s3 s4 s5 s6 s0; subst s4; have hX:=Vx (d:=d) (by omega)
 have hl:=bO bR w3; unfold mU; simp only; by_cases c1:v<(2:Int)
 ·rw[z13 c1,z15]
  obtain⟨m',rfl⟩: ∃m',m=m'+1:=⟨m - 1,by omega⟩
  rw[z96]at s5; have e1:IntKind.wrap .i64 (((d+1:Nat):Int) - 1)=(d:Int):=by rw[wrap_i64 (by omega) (by omega)]; omega
  rw[e1]; refine Gt.bind (ih hK s6 hm) fun r ⟨g1,g2⟩=>Gt.bind (oE (by simp only[z21]; omega) (by omega)) fun q e=> ?_
  rw[wrap_i64 (n:=v+1) (by omega) (by omega)]
  subst e; have h5:dl bR (w3++[.mk r.1 r.2.1 r.2.2.1 r.2.2.2.1 r.2.2.2.2.1])+m'*(1+eB d)≤1+2*(1+eB d):=by rw[kK]; omega
  refine Gt.pure ⟨m',rfl,by omega,⟨(by show v+1+(m':Int)=2; omega),(by show 0≤v+1; omega)⟩,s3,rfl,h5,g2⟩
 ·rw[z9 c1,z11]
  have:m=0:=by omega
  subst this; exact Gt.pure ⟨s3,rfl,s5,s6⟩
theorem QM(n d K:Nat)(ns:List (List UInt8))(hd:d≤2)(hK:K+10*d≤200)(hm:Nm K ns)(ih: ∀ {K':Nat} {b:List Int} {i h:Int} {ns:List (List UInt8)},K'+10*d≤200→Cur b i→Nm K' ns→Gt (bT n (d:Int) ns b i h) (DE (eB d)))(m:Nat)(hm2:m≤2)(s:Int×Int×Int×List UInt8×List aB×List aC×List Int×Int×Int)(hs:(s.1+m=1∧0≤s.1)∧ES (eB d) m s.2):Gt (mT n (bT n) ((d+1:Nat):Int) ns s) (Rnd (fun m s=>m≤2∧(s.1+m=1∧0≤s.1)∧ES (eB d) m s.2) (fun r=>ES (eB d) 0 r.2.2) m):=by
 obtain⟨v,w0,w1,w2,w3,w4,w5,w6,w7⟩:=s; obtain⟨⟨s1,s0⟩,s3,s4,s5,s6⟩:=hs; simp only at s1 s3 s4 s5 s6 s0; subst s4; have hX:=Vx (d:=d) (by omega)
 have hl:=bO bR w3; unfold mT; simp only; by_cases c1:v<(1:Int)
 ·rw[z13 c1,z15]
  obtain⟨m',rfl⟩: ∃m',m=m'+1:=⟨m - 1,by omega⟩
  rw[z96]at s5; have e1:IntKind.wrap .i64 (((d+1:Nat):Int) - 1)=(d:Int):=by rw[wrap_i64 (by omega) (by omega)]; omega
  rw[e1]; refine Gt.bind (ih hK s6 hm) fun r ⟨g1,g2⟩=>Gt.bind (oE (by simp only[z21]; omega) (by omega)) fun q e=> ?_
  rw[wrap_i64 (n:=v+1) (by omega) (by omega)]
  subst e; have h5:dl bR (w3++[.mk r.1 r.2.1 r.2.2.1 r.2.2.2.1 r.2.2.2.2.1])+m'*(1+eB d)≤1+2*(1+eB d):=by rw[kK]; omega
  refine Gt.pure ⟨m',rfl,by omega,⟨(by show v+1+(m':Int)=1; omega),(by show 0≤v+1; omega)⟩,s3,rfl,h5,g2⟩
 ·rw[z9 c1,z11]
  have:m=0:=by omega
  subst this; exact Gt.pure ⟨s3,rfl,s5,s6⟩
theorem QL(n d K:Nat)(ns:List (List UInt8))(hd:d≤2)(hn:2010<n)(hn2:n≤1099511627776)(hK:K+10*(d+1)≤200)(hm:Nm K ns)(ih: ∀ {K':Nat} {b:List Int} {i h:Int} {ns:List (List UInt8)},K'+10*d≤200→Cur b i→Nm K' ns→Gt (bT n (d:Int) ns b i h) (DE (eB d)))(m:Nat)(hm2:m≤2)(s:Int×Int×Int×List UInt8×List aB×List aC×List Int×Int×Int)(hs:s.1=(m:Int)∧CS (eB d) m s.2):Gt (mS n (bT n) ((d+1:Nat):Int) ns s) (Rnd (fun m s=>m≤2∧s.1=(m:Int)∧CS (eB d) m s.2) (fun r=>CS (eB d) 0 r.2.2) m):=by
 obtain⟨v,w0,w1,w2,w3,w4,w5,w6,w7⟩:=s; obtain⟨s1,s3,s4,s5,s6⟩:=hs; simp only at s1 s3 s4 s5 s6; subst s3; have hX:=Vx (d:=d) (by omega)
 have hl:=bO cS w4; have hml:=hm.1; unfold mS; simp only; by_cases c1:(0:Int)<v
 ·rw[z13 c1,z15]
  obtain⟨m',rfl⟩: ∃m',m=m'+1:=⟨m - 1,by omega⟩
  rw[z96]at s5; have e1:IntKind.wrap .i64 (((d+1:Nat):Int) - 1)=(d:Int):=by rw[wrap_i64 (by omega) (by omega)]; omega
  rw[e1]; refine Gt.bind (PJ 1 n (by omega) (by omega) hn2 (K:=0) (by omega) s6 ⟨z39 _,fun s hs=>by cases hs⟩) fun r ⟨f1,f2,f3⟩=> ?_
  have f3l:=f3.1; have e2:kY (1+1)=4:=rfl; have e3:kX (1+1)=49:=rfl; refine Gt.bind (oE (by simp only[z53]; omega) (by omega)) fun q1 e=> ?_
  rw[z76]at e; subst e; refine Gt.bind (oE (by omega) (by omega)) fun q2 e=> ?_
  subst e; refine Gt.bind (ih (K':=K+4) (by omega) f2 ((hm.app f3).up (by omega))) fun r2 ⟨g1,g2⟩=>Gt.bind (oE (by simp only[z21]; omega) (by omega)) fun q e=> ?_
  rw[wrap_i64 (n:=v - 1) (by omega) (by omega)]
  subst e; have h5:dl cS (w4++[.mk r.1 r.2.1 r.2.2.1 r.2.2.2.1 r.2.2.2.2.1 r2.1 r2.2.1 r2.2.2.1 r2.2.2.2.1 r2.2.2.2.2.1])+m'*(53+eB d)≤1+2*(53+eB d):=by rw[kK,WD]; omega
  exact Gt.pure ⟨m',rfl,by omega,(by show v - 1=(m':Int); omega),rfl,s4,h5,g2⟩
 ·rw[z9 c1,z11]
  have:m=0:=by omega
  subst this; exact Gt.pure ⟨rfl,s4,s5,s6⟩
theorem Kk{n:Nat}{x:Int}:Gt (cW n x) (fun r=>r=(1,x,[],[],[])):=Gt.pure rfl
theorem Yf{n:Nat}{s:List UInt8}:Gt (mO n s) (fun r=>r=(2,0,s,[],[])):=Gt.pure rfl
theorem MU: ∀(d n:Nat),d≤3→d+2100<n→n≤1099511627776→ ∀ {K:Nat} {b:List Int} {i h:Int} {ns:List (List UInt8)},K+10*d≤200→Cur b i→Nm K ns→Gt (bT n (d:Int) ns b i h) (DE (eB d))
 | d,0,_,hn,_=>by omega
 | d,n+1,hd,hn,hn2=>fun hK hc hm=>by
  rename_i K b i h ns; rw[BA]; unfold nP; have hX:=eB_10 d; have hml:=hm.1; have one: ∀ {k m:Int} {s:List UInt8} {b:List Int} {i h:Int},s.length≤5→Cur b i→DE (eB d) (k,m,s,[],[],b,i,h):=fun hs hc=>DE.mk (by simp only[dl]; omega) hc
  have ints: ∀ {b:List Int} {i h:Int},Cur b i→Gt ((cX n ([(0:Int),(1:Int),(2:Int),(5:Int),(40:Int)]:List Int) b i h).bind fun c28_5=>(cW n c28_5.1).bind fun c29_6=>some (c29_6.1,c29_6.2.1,c29_6.2.2.1,c29_6.2.2.2.1,c29_6.2.2.2.2,c28_5.2.1,c28_5.2.2.1,c28_5.2.2.2)) (DE (eB d)):=fun hc=>
   Gt.bind (vO hc (by simp) (by simp)) fun r ⟨_,h2⟩=>Gt.bind Kk fun q e=>by subst e; exact Gt.pure (one (by simp) h2)
  have atoms: ∀ {b:List Int} {i h:Int},Cur b i→Gt ((bN n ([([111,107]:List UInt8),([97]:List UInt8),([115,116,111,112]:List UInt8),([116,114,117,101]:List UInt8)]:List (List UInt8)) b i h).bind fun c34_8=>(mO n c34_8.1).bind fun c35_9=>some (c35_9.1,c35_9.2.1,c35_9.2.2.1,c35_9.2.2.2.1,c35_9.2.2.2.2,c34_8.2.1,c34_8.2.2.1,c34_8.2.2.2)) (DE (eB d)):=fun hc=>
   Gt.bind (At (K:=5) hc (by simp) (by simp) (by decide)) fun r ⟨h1,h2⟩=>Gt.bind Yf fun q e=>by subst e; exact Gt.pure (one h1 h2)
  have yE: ∀ {b:List Int} {i h:Int},Cur b i→Gt (bif decide ((0:Int)<(ns.length:Int))then(aM n (ns.length:Int) b i h).bind fun c47_12=>(ix ns c47_12.1).bind fun e48_13=>some ((3:Int),(0:Int),e48_13,([]:List aB),([]:List aC),c47_12.2.1,c47_12.2.2.1,c47_12.2.2.2)else(aM n (4:Int) b i h).bind fun c52_14=>(cW n c52_14.1).bind fun c53_15=>some (c53_15.1,c53_15.2.1,c53_15.2.2.1,c53_15.2.2.2.1,c53_15.2.2.2.2,c52_14.2.1,c52_14.2.2.1,c52_14.2.2.2)) (DE (eB d)):=fun hc=>by
   refine Gt.cond (fun e=> ?_) fun _=> ?_
   ·have:=OC e
    refine Gt.bind (jK hc this) fun r ⟨h1,h2⟩=> ?_
    obtain⟨h3,h4⟩:=h1 (by omega)
    exact Gt.bind (Il h3 h4) fun a ha=>Gt.pure (one (hm.2 a ha) h2)
   ·exact Gt.bind (jK hc (by omega)) fun r ⟨_,h2⟩=>Gt.bind Kk fun q e=>by subst e; exact Gt.pure (one (by simp) h2)
  refine Gt.bind (jK hc (by omega)) fun r ⟨_,h2⟩=>Gt.cond (fun e0=> ?_) fun e0=> ?_
  ·refine Gt.bind (jK h2 (by omega)) fun r2 ⟨h4,h5⟩=> ?_
   obtain⟨h6,h7⟩:=h4 (by omega)
   refine Gt.cond (fun _=>ints h5) fun q0=>Gt.cond (fun _=>atoms h5) fun q1=>Gt.cond (fun _=>yE h5) fun q2=>Gt.cond (fun _=>yE h5) fun q3=> ?_
   have:=Qm q0; have:=Qm q1; have:=Qm q2; have:=Qm q3; omega
  ·have:=Qm e0
   obtain⟨d',rfl⟩: ∃d',d=d'+1:=⟨d - 1,by omega⟩
   have e1:IntKind.wrap .i64 (((d'+1:Nat):Int) - 1)=(d':Int):=by rw[wrap_i64 (by omega) (by omega)]; omega
   have eX:eB (d'+1)=200+4*eB d':=rfl; have ih: ∀ {K':Nat} {b:List Int} {i h:Int} {ns:List (List UInt8)},K'+10*d'≤200→Cur b i→Nm K' ns→Gt (bT n (d':Int) ns b i h) (DE (eB d')):=MU d' n (by omega) (by omega) (by omega)
   rw[e1]; have ops: ∀ {b:List Int} {i h:Int},Cur b i→Gt ((bN n ([([43]:List UInt8),([45]:List UInt8),([42]:List UInt8),([61,61]:List UInt8),([60]:List UInt8),([43]:List UInt8)]:List (List UInt8)) b i h).bind fun c59_29=>(bT n (d':Int) ns c59_29.2.1 c59_29.2.2.1 c59_29.2.2.2).bind fun c64_30=>(bT n (d':Int) ns c64_30.2.2.2.2.2.1 c64_30.2.2.2.2.2.2.1 c64_30.2.2.2.2.2.2.2).bind fun c69_31=>some ((7:Int),(0:Int),c59_29.1,([aB.mk c64_30.1 c64_30.2.1 c64_30.2.2.1 c64_30.2.2.2.1 c64_30.2.2.2.2.1,aB.mk c69_31.1 c69_31.2.1 c69_31.2.2.1 c69_31.2.2.2.1 c69_31.2.2.2.2.1]:List aB),([]:List aC),c69_31.2.2.2.2.2.1,c69_31.2.2.2.2.2.2.1,c69_31.2.2.2.2.2.2.2)) (DE (eB (d'+1))):=fun hc=>
    Gt.bind (At (K:=5) hc (by simp) (by simp) (by decide)) fun r ⟨h1,h2⟩=>Gt.bind (ih (by omega) h2 hm) fun r1 ⟨f1,f2⟩=>Gt.bind (ih (by omega) f2 hm) fun r2 ⟨g1,g2⟩=>Gt.pure (DE.mk (by simp only[dl]; omega) g2)
   have fin: ∀ {x:Int×Int×List UInt8×List aB×List aC×List Int×Int×Int},ES (eB d') 0 x→DE (eB (d'+1)) x:=fun {x} hx=>by
    obtain⟨x2,x3,x4,x5,x6,x7,x8,x9⟩:=x; obtain⟨q1,q2,q3,q4⟩:=hx; simp only at q1 q2 q3 q4; subst q2; exact DE.mk (by simp only[dl]; omega) q4
   refine Gt.cond (fun _=>ints h2) fun _=>Gt.cond (fun _=>atoms h2) fun _=>Gt.cond (fun _=>yE h2) fun _=>Gt.cond (fun _=>yE h2) fun _=>Gt.cond (fun _=>yE h2) fun _=>Gt.cond (fun _=>ops h2) fun _=>Gt.cond (fun _=>ops h2) fun _=>Gt.cond (fun _=> ?_) fun _=>Gt.cond (fun _=> ?_) fun _=>Gt.cond (fun _=> ?_) fun _=> ?_
   ·refine Gt.bind (vO h2 (by simp) (by simp)) fun r3 ⟨_,h3⟩=>Gt.bind (jK h3 (by omega)) fun r4 ⟨h4,h5⟩=> ?_
    obtain⟨h6,h7⟩:=h4 (by omega)
    refine Gt.bind (Gt.loop _ _ (fun m s hs=>QO n d' K ns (by omega) (by omega) hm ih m hs.1 s hs.2) (m:=r4.1.toNat) ⟨by omega,by simp only; omega,by simp,rfl, ?_,h5⟩ (by omega)) fun r hr=> ?_
    ·have a1:r4.1.toNat*(1+eB d')≤2*(1+eB d'):=z57 _ (by omega)
     simp only[dl]; omega
    ·obtain⟨x0,x1,x2,x3,x4,x5,x6,x7,x8,x9⟩:=r
     exact Gt.pure (fin hr)
   ·refine Gt.bind (ih (by omega) h2 hm) fun r1 ⟨f1,f2⟩=>Gt.bind (ih (by omega) f2 hm) fun r2 ⟨g1,g2⟩=>Gt.pure (DE.mk ?_ g2)
    simp only[dl,z53]; rw[LJ 5 0]; simp only[dl,z53]; omega
   ·refine Gt.bind (At (K:=5) h2 (by simp) (by simp) (by decide)) fun r3 ⟨h3,h4⟩=>Gt.cond (fun _=> ?_) fun _=> ?_
    ·refine Gt.bind (Gt.loop _ _ (fun m s hs=>QN n d' K ns (by omega) (by omega) hm ih m hs.1 s hs.2) (m:=2) ⟨by omega,⟨by simp,by simp⟩,h3,rfl, ?_,h4⟩ (by omega)) fun r hr=> ?_
     ·simp only[dl]; omega
     ·obtain⟨x0,x1,x2,x3,x4,x5,x6,x7,x8,x9⟩:=r
      exact Gt.pure (fin hr)
    ·refine Gt.bind (Gt.loop _ _ (fun m s hs=>QM n d' K ns (by omega) (by omega) hm ih m hs.1 s hs.2) (m:=1) ⟨by omega,⟨by simp,by simp⟩,h3,rfl, ?_,h4⟩ (by omega)) fun r hr=> ?_
     ·simp only[dl]; omega
     ·obtain⟨x0,x1,x2,x3,x4,x5,x6,x7,x8,x9⟩:=r
      exact Gt.pure (fin hr)
   ·refine Gt.bind (ih (by omega) h2 hm) fun r1 ⟨f1,f2⟩=>Gt.bind (jK f2 (by omega)) fun r4 ⟨h4,h5⟩=> ?_
    obtain⟨h6,h7⟩:=h4 (by omega)
    rw[wrap_i64 (n:=1+r4.1) (by omega) (by omega)]
    refine Gt.bind (Gt.loop _ _ (fun m s hs=>QL n d' K ns (by omega) (by omega) (by omega) (by omega) hm ih m hs.1 s hs.2) (m:=(1+r4.1).toNat) ⟨by omega,by simp only; omega,rfl, ?_, ?_,h5⟩ (by omega)) fun r hr=> ?_
    ·simp only[dl]; omega
    ·have a1:(1+r4.1).toNat*(53+eB d')≤2*(53+eB d'):=z57 _ (by omega)
     simp only[dl]; omega
    ·obtain⟨x0,x1,x2,x3,x4,x5,x6,x7,x8,x9⟩:=r
     obtain⟨q1,q2,q3,q4⟩:=hr; simp only at q1 q2 q3 q4 ⊢; subst q1; have hl:=bO cS x6; have hX5:=Vx (d:=d') (by omega)
     refine Gt.bind (MV q4 (by omega)) fun r5 h8=>Gt.cond (fun _=> ?_) fun _=>Gt.pure (DE.mk (by simp only[z53]; omega) h8)
     refine Gt.bind (ih (by omega) h8 hm) fun r6 ⟨g1,g2⟩=>Gt.bind (oE (by simp only[z21]; omega) (by omega)) fun q e=>Gt.pure (DE.mk ?_ g2)
     subst e; rw[kK,WD,LJ 3 0]; simp only[dl,z53,z21]; omega
theorem vX{α:Type}(w:α→Nat)(b:α): ∀(l:List α) (k:Nat),dl w (l.set k b)≤dl w l+w b
 | [],k=>by simp [dl]
 | x::r,0=>by simp only[Xi,dl]; omega
 | x::r,k+1=>by have:=vX w b r k; simp only[Vr,dl]; omega
theorem JR{n K:Nat}(hn:10000<n)(hn2:n≤1099511627776)(hK:K≤100){b:List Int}{i h:Int}{ns:List (List UInt8)}(hc:Cur b i)(hm:Nm K ns):Gt (kE n ns b i h) (DE 4840):=by
 unfold kE; refine Gt.bind (MU 3 n (by omega) (by omega) hn2 (by omega) hc hm) fun r ⟨h1,h2⟩=> ?_
 have e3:eB 3=4840:=rfl; have hx:=MA n hn2 (.mk r.1 r.2.1 r.2.2.1 r.2.2.2.1 r.2.2.2.2.1) false 10 300 (by omega) (by omega) (by omega) (by omega)
 have hx:dA n r.1 r.2.1 r.2.2.1 r.2.2.2.1 r.2.2.2.2.1 false (10:Int) 300=_:=hx; unfold qS; rw[hx]; simp only[z8]; refine Gt.cond (fun _=>Gt.bind Kk fun q e=> ?_) fun _=>Gt.pure ⟨z83 h1 (by omega),h2⟩
 subst e; exact Gt.pure (DE.mk (by simp only[dl,z53]; omega) h2)
theorem Gt.list{α σ ρ:Type}{body:σ→Option (σ⊕ρ)}(L:List α)(I:Nat→σ→Prop)(Q:ρ→Prop)(hs: ∀(i:Nat) a s,L[i]? =some a→I i s→Gt (body s) (fun o=> ∃s',o= .inl s'∧I (i+1) s'))(he: ∀s,I L.length s→Gt (body s) (fun o=> ∃r,o= .inr r∧Q r)){n:Nat}{s:σ}(h:I 0 s)(hn:L.length<n):Gt (loopN body n s) Q:=by
 refine Gt.loop (fun m s=> ∃i,i+m=L.length∧I i s) Q (fun m s ⟨i,h1,h2⟩=> ?_) (m:=L.length) ⟨0,by omega,h⟩ hn
 cases m with
 | zero=>
  have:i=L.length:=by omega
  subst this; exact(he s h2).mono fun o ⟨r,e,hr⟩=>by subst e; exact hr
 | succ m=>
  have hi:i<L.length:=by omega
  exact(hs i _ s (z12 hi) h2).mono fun o ⟨s',e,hs'⟩=>by subst e; exact⟨m,rfl,i+1,by omega,hs'⟩
theorem wH{α:Type}(w:α→Nat){L:List α}{i:Nat}{a:α}(h:L[i]? =some a):dl w (L.take (i+1))=dl w (L.take i)+1+w a:=by
 rw[←tL h,kK]
theorem xF{α:Type}(w:α→Nat)(L:List α)(i:Nat):dl w (L.take i)≤dl w L:=by
 have:=Kq w (L.take i) (L.drop i); rw[Xn]at this; have:=bO w (L.drop i); omega
theorem Ih{α:Type}(w:α→Nat)(L:List α):1≤dl w L:=by have:=bO w L; omega
theorem Od(k m:Int)(s:List UInt8)(l:List aA):cB (.mk k m s l)=3+s.length+dl cB l:=by
 simp only[cB,Ch]
theorem KX(a:aB):bR a=3+a.f2.length+dl bR a.f3+dl cS a.f4:=by rw[Gx,tB,rM]
def PQ(e:aB)(ins:List aE)(pats:List aA)(N:Nat)(r:Int×Int×List UInt8×List aA×List aE×List aA×Int×List (List UInt8)×List Int):Prop:=
 cB (.mk r.1 r.2.1 r.2.2.1 r.2.2.2.1)≤bR e∧r.2.2.2.2.1=ins∧r.2.2.2.2.2.1=pats∧r.2.2.2.2.2.2.2.1.length≤r.2.2.2.2.2.2.2.2.length∧r.2.2.2.2.2.2.2.2.length≤N+bR e
def PI(L:List aB)(K:Nat)(s0:List UInt8)(ins:List aE)(pats:List aA)(N:Nat)(i:Nat)(s:Int×Int×Int×List UInt8×List aA×List aE×List aA×Int×List (List UInt8)×List Int):Prop:=
 s.1=i∧s.2.2.2.1.length≤s0.length∧dl cB s.2.2.2.2.1≤dl bR (L.take i)∧s.2.2.2.2.2.1=ins∧s.2.2.2.2.2.2.1=pats∧s.2.2.2.2.2.2.2.2.1.length≤s.2.2.2.2.2.2.2.2.2.length∧s.2.2.2.2.2.2.2.2.2.length≤N+K+dl bR (L.take i)
theorem NN{n:Nat}(e:aB){N K:Nat}{ins:List aE}{pats:List aA}(hn:e.f3.length<n)(hB:N+2*bR e≤1000000)(hK:K≤1)
  (ih: ∀a∈e.f3, ∀(dS:List (List UInt8)) (slots:List Int) (k:Int),dS.length≤slots.length→slots.length+2*bR a≤1000000→Gt (gE n a.f0 a.f1 a.f2 a.f3 a.f4 ins pats k dS slots) (PQ a ins pats slots.length))
  {s:Int×Int×Int×List UInt8×List aA×List aE×List aA×Int×List (List UInt8)×List Int}(h:PI e.f3 K e.f2 ins pats N 0 s):
  Gt (loopN (fF n (gE n) e.f3) n s) (fun r=>PQ e ins pats N r.2.2):=by
 have hw:=KX e; have hl:=bO bR e.f3; have hc:=Ih cS e.f4; refine Gt.list e.f3 (PI e.f3 K e.f2 ins pats N) _ (fun i a s ha ⟨h1,h2,h3,h4,h5,h6,h7⟩=> ?_) (fun s ⟨h1,h2,h3,h4,h5,h6,h7⟩=> ?_) h (by omega)
 ·obtain⟨v,w0,w1,w2,w3,w4,w5,w6,w7,w8⟩:=s
  simp only at h1 h2 h3 h4 h5 h6 h7; subst h1 h4 h5; have hd:=dE bR (z20 ha); have ht:=wH bR ha; have ht2:=xF bR e.f3 (i+1); have hi:=bK ha; have hp:=bO cB w3; unfold fF; simp only[bW ha,z15,bP,ha,z8]; refine Gt.bind (ih a (z20 ha) w7 w8 w6 h6 (by omega)) fun r ⟨g1,g2,g3,g4,g5⟩=>Gt.bind (oE (by simp only[z21]; omega) (by omega)) fun q eq=>Gt.pure ⟨_,rfl, ?_⟩
  subst eq; refine⟨aP (by omega),h2, ?_,g2,g3,g4, ?_⟩
  ·simp only[kK]; omega
  ·simp only; omega
 ·obtain⟨v,w0,w1,w2,w3,w4,w5,w6,w7,w8⟩:=s
  simp only at h1 h2 h3 h4 h5 h6 h7; subst h1; unfold fF; simp only[aN,z11]; rw[z72]at h3 h7; refine Gt.pure ⟨_,rfl, ?_,h4,h5,h6, ?_⟩
  ·simp only[Od]; omega
  ·simp only; omega
theorem PH: ∀(n:Nat),n≤1099511627776→ ∀(e:aB) (ins:List aE) (pats:List aA) (dS:List (List UInt8)) (slots:List Int) (k:Int),bR e<n→dS.length≤slots.length→slots.length+2*bR e≤1000000→
  Gt (gE n e.f0 e.f1 e.f2 e.f3 e.f4 ins pats k dS slots) (PQ e ins pats slots.length)
 | 0,_,e,_,_,_,_,_,h,_,_=>by omega
 | n+1,hn,e,ins,pats,dS,slots,k,h,hns,hB=>by
  have hw:=KX e; have hc:=Ih cS e.f4; have ih: ∀a∈e.f3, ∀(dS:List (List UInt8)) (slots:List Int) (k:Int),dS.length≤slots.length→slots.length+2*bR a≤1000000→Gt (gE n a.f0 a.f1 a.f2 a.f3 a.f4 ins pats k dS slots) (PQ a ins pats slots.length):=fun a ha dS slots k h1 h2=>by
   have hd:=dE bR ha; exact PH n (by omega) a ins pats dS slots k (by omega) h1 h2
  have hlen:=bO bR e.f3; have h2:rU=fF:=rfl; have h3:rT=fF:=rfl; rw[Br]; unfold pM; rw[h2,h3]
  have fin: ∀ {K:Nat} {s:Int×Int×Int×List UInt8×List aA×List aE×List aA×Int×List (List UInt8)×List Int},K≤1→PI e.f3 K e.f2 ins pats slots.length 0 s→
    Gt ((loopN (fF n (gE n) e.f3) n s).bind fun(_,_,a,b,c,d,f,g,h,i,j)=>some (a,b,c,d,f,g,h,i,j)) (PQ e ins pats slots.length):=fun hK hI=>
   Gt.bind (NN e (by omega) hB hK ih hI) fun r hr=>by
    obtain⟨a1,a2,a3,a4,a5,a6,a7,a8,a9,a10,a11⟩:=r; exact Gt.pure hr
  have d0:dl bR (e.f3.take 0)=1:=rfl; refine Gt.cond (fun _=>Gt.cond (fun _=> ?_) (fun _=> ?_)) (fun _=> ?_)
  ·refine Gt.bind (oE (by simp only[z21]; omega) (by omega)) fun q e1=>Gt.bind (oE (by simp only[z21]; omega) (by omega)) fun q2 e2=>fin (K:=1) (by omega) ⟨rfl,z86 _,z39 _,rfl,rfl, ?_, ?_⟩
   ·subst e1 e2; simp only[z17,z21]; omega
   ·subst e2; simp only[z17,z21]; omega
  ·exact fin (K:=0) (by omega) ⟨rfl,z86 _,z39 _,rfl,rfl,hns,by simp only; omega⟩
  ·exact fin (K:=0) (by omega) ⟨rfl,z39 _,z39 _,rfl,rfl,hns,by simp only; omega⟩

theorem XV{α:Type}{l:List α}{k:Nat}(h:k<l.length):Gt (ix l (k:Int)) (fun a=>l[k]? =some a):=by
 rw[bP]; exact⟨_,z12 h,z12 h⟩
theorem zL{α:Type}{w:α→Nat}: ∀ {l:List α} {k:Nat} {a b:α},l[k]? =some a→w b=w a→dl w (l.set k b)=dl w l
 | [],k,a,b,h,_=>by simp at h
 | x::r,0,a,b,h,e=>by cases h; simp only[Xi,dl,e]
 | x::r,k+1,a,b,h,e=>by simp only[Vr,dl,zL (l:=r) (by simpa using h) e]
theorem Dh(a b d:Int)(s:List UInt8):iP (.mk a b s d)=4+s.length:=rfl
theorem AI{n:Nat}{a b d:Int}{s:List UInt8}{ins:List aE}{pats:List aA}{k:Int}(h:ins.length≤100000000):Gt (bS n a b s d ins pats k) (fun r=>r.1=ins++[.mk a b s d]∧r.2.1=pats):=by
 unfold bS; exact Gt.bind (oE (by simp only[z21]; omega) (by omega)) fun q e=>Gt.pure ⟨e,rfl⟩
theorem NL{n:Nat}{dS:List (List UInt8)}{slots:List Int}{s:List UInt8}(h:dS.length≤slots.length)(hb:slots.length≤1000000)(hn:dS.length<n):Gt (kZ n dS slots s) (fun _=>True):=by
 unfold kZ; have e0:IntKind.wrap .i64 ((dS.length:Int) - 1)=(dS.length:Int) - 1:=wrap_i64 (by omega) (by omega)
 rw[e0]; refine Gt.bind (P:=fun _=>True) (Gt.loop (fun m (v:Int)=>v+1=m∧m≤dS.length) (fun _=>True) (fun m v ⟨h1,h2⟩=> ?_) (m:=dS.length) ⟨by omega,z39 _⟩ hn) fun q _=>by cases q<;>exact Gt.pure trivial
 unfold oO; refine Gt.cond (fun e=> ?_) (fun _=>Gt.pure trivial)
 have e:=OC e; refine Gt.bind (Il e (by omega)) fun a _=>Gt.cond (fun _=>Gt.bind (Il e (by omega)) fun b _=>Gt.pure trivial) fun _=>Gt.pure ⟨m - 1,by omega, ?_,by omega⟩
 rw[wrap_i64 (by omega) (by omega)]; omega
def MQ(w:Nat)(ins:List aE)(pats:List aA)(r:List aE×List aA×Int):Prop:=
 ins.length≤r.1.length∧dl iP r.1≤dl iP ins+50*w∧dl cB r.2.1≤dl cB pats+50*w
def MHy(w N:Nat)(dS:List (List UInt8))(slots:List Int)(ins:List aE)(pats:List aA):Prop:=
 dS.length≤slots.length∧slots.length+2*w≤1000000∧dl iP ins+50*w≤N∧dl cB pats+50*w≤N∧N≤100000000
def Nt(n:Nat):Prop:= ∀(e:aB) (dS:List (List UInt8)) (slots:List Int) (ins:List aE) (pats:List aA) (k:Int) (N:Nat),slots.length+2*bR e+1<n→MHy (bR e) N dS slots ins pats→Gt (gA n e.f0 e.f1 e.f2 e.f3 e.f4 dS slots ins pats k) (MQ (bR e) ins pats)
def UG(n:Nat):Prop:= ∀(e:aB) (dS:List (List UInt8)) (slots:List Int) (ins:List aE) (pats:List aA) (k:Int) (N:Nat),slots.length+2*bR e<n→MHy (3+dl cS e.f4) N dS slots ins pats→dl cS e.f4+4≤bR e→slots.length+2*bR e≤1000000→Gt (lF n e.f0 e.f1 e.f2 e.f3 e.f4 dS slots ins pats k) (MQ (3+dl cS e.f4) ins pats)
theorem SI{n:Nat}(hm:Nt n)(hc:UG n):Nt (n+1):=fun e dS slots ins pats k N h ⟨h1,h2,h3,h4,h5⟩=>by
 have hw:=KX e; have p1:=Ih cS e.f4; have p2:=bO bR e.f3; rw[Aw]; unfold nL; have hloop:Gt (loopN (jV n (gA n) dS slots e.f3) n ((0:Int),ins,pats,k)) (fun r=>MQ (dl bR e.f3 - 1) ins pats r.2.2):=by
  refine Gt.list e.f3 (fun i s=>s.1=(i:Int)∧MQ (dl bR (e.f3.take i) - 1) ins pats s.2) _ (fun i a s ha hs=> ?_) (fun s hs=> ?_) ⟨rfl,z39 _,by simp,by simp⟩ (by omega)
  ·obtain⟨v,w0,w1,w2⟩:=s
   obtain⟨g1,g2,g3,g4⟩:=hs; simp only at g1 g2 g3 g4; subst g1; have hd:=dE bR (z20 ha); have ht:=wH bR ha; have ht2:=xF bR e.f3 (i+1); have ht3:=Ih bR (e.f3.take i); have hi:=bK ha; unfold jV; simp only[bW ha,z15,bP,ha,z8]; refine Gt.bind (hm a dS slots w0 w1 w2 N (by omega) ⟨h1,by omega,by omega,by omega,h5⟩) fun r ⟨q1,q2,q3⟩=>Gt.pure ⟨_,rfl,aP (by omega),by simp only; omega, ?_, ?_⟩
   ·simp only; omega
   ·simp only; omega
  ·obtain⟨v,w0,w1,w2⟩:=s
   obtain⟨g1,g2,g3,g4⟩:=hs; simp only at g1 g2 g3 g4; subst g1; unfold jV; simp only[aN,z11]; rw[z72]at g3 g4; exact Gt.pure ⟨_,rfl,g2,g3,g4⟩
 refine Gt.bind hloop fun r hr=> ?_
 ·obtain⟨v,b,w0,w1,w2⟩:=r
  obtain⟨g1,g2,g3⟩:=hr; simp only at g1 g2 g3; have p3:=bO iP w0; have emit: ∀(a b d:Int) (s:List UInt8),s.length≤e.f2.length→Gt ((bS n a b s d w0 w1 w2).bind fun c=>some (c.1,c.2.1,c.2.2)) (MQ (bR e) ins pats):=fun a b d s hs=>
   Gt.bind (AI (by omega)) fun r ⟨e1,e2⟩=>Gt.pure (by
    refine⟨?_, ?_, ?_⟩
    ·simp only[e1,z17,z21]; omega
    ·simp only[e1,kK,Dh]; omega
    ·simp only[e2]; omega)
  have z:([]:List UInt8).length≤e.f2.length:=z86 _; refine Gt.cond (fun _=>emit _ _ _ _ z) fun _=>Gt.cond (fun _=>emit _ _ _ _ (z39 _)) fun _=>Gt.cond (fun _=>Gt.bind (NL h1 (by omega) (by omega)) fun c _=>emit _ _ _ _ z) fun _=>Gt.cond (fun _=>emit _ _ _ _ z) fun _=>Gt.cond (fun _=>emit _ _ _ _ z) fun _=>Gt.cond (fun _=>emit _ _ _ _ z) fun _=>Gt.cond (fun _=>emit _ _ _ _ (z39 _)) fun _=>Gt.cond (fun _=>emit _ _ _ _ (z39 _)) fun _=>Gt.cond (fun _=> ?_) fun _=>Gt.pure ⟨g1,by simp only; omega,by simp only; omega⟩
  refine Gt.bind (hc e dS slots w0 w1 w2 N (by omega) ⟨h1,by omega,by omega,by omega,h5⟩ (by omega) (by omega)) fun r ⟨q1,q2,q3⟩=>Gt.pure ⟨by simp only; omega,by simp only; omega,by simp only; omega⟩

def CI(C:List aC)(ins:List aE)(pats:List aA)(i:Nat)(s:List Int×Int×List aE×List aA×Int):Prop:=
 s.2.1=i∧s.1.length≤i∧(∀j∈s.1,0≤j∧j<s.2.2.1.length)∧ins.length≤s.2.2.1.length∧dl iP s.2.2.1+50≤dl iP ins+50*dl cS (C.take i)∧dl cB s.2.2.2.1+50≤dl cB pats+50*dl cS (C.take i)
theorem QJ{n:Nat}(hm:Nt n)(e:aB)(dS:List (List UInt8))(slots:List Int)(ins:List aE)(pats:List aA)(k:Int)(N:Nat)(h:slots.length+2*bR e<n+1)(hn:n≤1099511627776)(hH:MHy (3+dl cS e.f4) N dS slots ins pats)(hw:dl cS e.f4+4≤bR e)(hs:slots.length+2*bR e≤1000000):
  Gt (loopN (kA n (gA n) dS slots e.f4) n (([]:List Int),(0:Int),ins,pats,k)) (fun r=>(∀j∈r.1,0≤j∧j<r.2.2.2.1.length)∧r.1.length≤e.f4.length∧ins.length≤r.2.2.2.1.length∧dl iP r.2.2.2.1+50≤dl iP ins+50*dl cS e.f4∧dl cB r.2.2.2.2.1+50≤dl cB pats+50*dl cS e.f4):=by
 obtain⟨h1,h2,h3,h4,h5⟩:=hH; have hc:=bO cS e.f4; refine Gt.list e.f4 (CI e.f4 ins pats) _ (fun i a s ha hs'=> ?_) (fun s hs'=> ?_) ⟨rfl,z39 _,(fun j hj=>by cases hj),z39 _,by simp [dl],by simp [dl]⟩ (by omega)
 ·obtain⟨js,v,w0,w1,w2⟩:=s
  obtain⟨g1,g2,g3,g4,g5,g6⟩:=hs'; simp only at g1 g2 g3 g4 g5 g6; subst g1; have hd:=dE cS (z20 ha); have ht:=wH cS ha; have ht2:=xF cS e.f4 (i+1); have hi:=bK ha; have hwc:=Dy a; have q1:=bO iP w0; have q2:=bO cB w1; unfold kA; simp only[bW ha,z15,bP,ha,z8]; refine Gt.bind (oE (by simp only[z53]; omega) (by omega)) fun inner e1=>Gt.bind (oE (by simp only[z53]; omega) (by omega)) fun at' e2=> ?_
  rw[z76]at e1 e2; subst e1 e2; refine Gt.bind (PH n hn a.p w0 w1 inner at' w2 (by omega) h1 (by omega)) fun p ⟨p1,p2,p3,p4,p5⟩=> ?_
  rw[p2,p3]; refine Gt.bind (AI (by omega)) fun c ⟨c1,c2⟩=> ?_
  rw[c2]; refine Gt.bind (oE (by simp only[z21]; omega) (by omega)) fun q eq=> ?_
  refine Gt.bind (XV (by subst eq; simp only[z17,z21]; omega)) fun z _=> ?_
  simp only[z8,z35]; have hp:dl cB (q.set w1.length (.mk p.1 p.2.1 p.2.2.1 p.2.2.2.1))≤dl cB w1+5+bR a.p:=by
   have:=vX cB (.mk p.1 p.2.1 p.2.2.1 p.2.2.2.1) q w1.length; have e3:dl cB q=dl cB w1+1+4:=by subst eq; rw[kK,Od]; rfl
   omega
  have hi1:dl iP c.1=dl iP w0+5:=by rw[c1,kK,Dh]; rfl
  have hl1:c.1.length=w0.length+1:=by rw[c1,z17,z21]
  refine Gt.bind (hm a.x p.2.2.2.2.2.2.2.1 p.2.2.2.2.2.2.2.2 c.1 _ c.2.2 N (by omega) ⟨p4,by omega,by omega,by omega,h5⟩) fun m ⟨m1,m2,m3⟩=> ?_
  have q3:=bO iP m.1; refine Gt.bind (oE (by simp only[z21]; omega) (by omega)) fun js' ej=>Gt.bind (AI (by omega)) fun c' ⟨c1',c2'⟩=> ?_
  have hl2:c'.1.length=m.1.length+1:=by rw[c1',z17,z21]
  have hi2:dl iP c'.1=dl iP m.1+5:=by rw[c1',kK,Dh]; rfl
  refine Gt.bind (XV (k:=w0.length) (by omega)) fun z hz=>Gt.pure ⟨_,rfl,aP (by omega), ?_, ?_, ?_, ?_, ?_⟩
  ·subst ej; simp only[z17,z21]; omega
  ·intro j hj
   simp only[z71]; subst ej; rcases z91.1 hj with hj | hj
   ·have:=g3 j hj; omega
   ·have:=z67.1 hj; omega
  ·simp only[z71]; omega
  ·simp only
   rw[zL (w:=iP) (b:= .mk z.f0 z.f1 z.f2 (c'.1.length:Int)) hz rfl]; omega
  ·simp only[c2']; omega
 ·obtain⟨js,v,w0,w1,w2⟩:=s
  obtain⟨g1,g2,g3,g4,g5,g6⟩:=hs'; simp only at g1 g2 g3 g4 g5 g6; subst g1; unfold kA; simp only[aN,z11]; rw[z72]at g5 g6; exact Gt.pure ⟨_,rfl,g3,g2,g4,g5,g6⟩
theorem SL{n:Nat}(hn:n≤1099511627776)(hm:Nt n):UG (n+1):=fun e dS slots ins pats k N h hH hw hs=>by
 have hc:=bO cS e.f4; have hc2:=Ih cS e.f4; rw[Ay]; unfold nN; refine Gt.bind (QJ hm e dS slots ins pats k N h hn hH hw hs) fun r hr=> ?_
 obtain⟨js,v,b,w0,w1,w2⟩:=r; obtain⟨g1,g2,g3,g4,g5⟩:=hr; simp only at g1 g2 g3 g4 g5; obtain⟨h1,h2,h3,h4,h5⟩:=hH; have q1:=bO iP w0; refine Gt.bind (AI (by omega)) fun c ⟨c1,c2⟩=> ?_
 have hl1:c.1.length=w0.length+1:=by rw[c1,z17,z21]
 have hi1:dl iP c.1=dl iP w0+5:=by rw[c1,kK,Dh]; rfl
 have hloop:Gt (loopN (jZ n js) n ((0:Int),c.1,c.2.1,c.2.2)) (fun r=>r.2.2.1.length=c.1.length∧dl iP r.2.2.1=dl iP c.1∧r.2.2.2.1=c.2.1):=by
  refine Gt.list js (fun i s=>s.1=(i:Int)∧s.2.1.length=c.1.length∧dl iP s.2.1=dl iP c.1∧s.2.2.1=c.2.1) _ (fun i a s ha hs'=> ?_) (fun s hs'=> ?_) ⟨rfl,rfl,rfl,rfl⟩ (by omega)
  ·obtain⟨v,u0,u1,u2⟩:=s
   obtain⟨k1,k2,k3,k4⟩:=hs'; simp only at k1 k2 k3 k4; subst k1; have hi:=bK ha; obtain⟨j0,j1⟩:=g1 a (z20 ha); obtain⟨j,rfl⟩: ∃j:Nat,a=j:=⟨a.toNat,by omega⟩
   unfold jZ; simp only[bW ha,z15,bP,ha,z8,z35]; have hj:j<u0.length:=by omega
   simp only[z12 hj,z8]
   refine Gt.pure ⟨_,rfl,aP (by omega),by simp only[z71]; exact k2, ?_,k4⟩
   simp only; rw[zL (w:=iP) (b:= .mk u0[j].f0 u0[j].f1 u0[j].f2 (u0.length:Int)) (z12 hj) rfl]; exact k3
  ·obtain⟨v,u0,u1,u2⟩:=s
   obtain⟨k1,k2,k3,k4⟩:=hs'; simp only at k1 k2 k3 k4; subst k1; unfold jZ; simp only[aN,z11]; exact Gt.pure ⟨_,rfl,k2,k3,k4⟩
 refine Gt.bind hloop fun r hr=> ?_
 obtain⟨v',b',u0,u1,u2⟩:=r; obtain⟨k1,k2,k3⟩:=hr; simp only at k1 k2 k3; exact Gt.pure ⟨by simp only; omega,by simp only; omega,by simp only[k3,c2]; omega⟩
theorem JI: ∀n,n≤1099511627776→Nt n∧UG n
 | 0,_=>⟨fun _ _ _ _ _ _ _ h _=>by omega,fun _ _ _ _ _ _ _ h _ _ _=>by omega⟩
 | n+1,hn=>by
  obtain⟨h1,h2⟩:=JI n (by omega)
  exact⟨SI h1 h2,SL (by omega) h1⟩
theorem QA{α:Type}(L M:List α)(hl:L.length=M.length){body:Int→Option (Int⊕(Bool⊕(Int×Bool)))}{n:Nat}
  (hs: ∀(i:Nat) x y,L[i]? =some x→M[i]? =some y→ ∃s:Bool,body (i:Int)=some (bif !s then .inr (.inl false)else .inl ((i+1:Nat):Int))∧(s=true↔x=y))
  (he:body (L.length:Int)=some (.inr (.inr ((L.length:Int),false))))(hn:L.length<n):
  ∃s:Bool,loopN body n (0:Int)=some (bif s then .inr ((L.length:Int),false)else .inl false)∧(s=true↔L=M):=by
 have key: ∀(m i n:Nat),i+m=L.length→m<n→ ∃s:Bool,loopN body n (i:Int)=some (bif s then .inr ((L.length:Int),false)else .inl false)∧(s=true↔L.drop i=M.drop i):=by
  intro m; induction m with
  | zero=>
   intro i n hi hn; obtain⟨n,rfl⟩: ∃k,n=k+1:=⟨n - 1,by omega⟩
   have:i=L.length:=by omega
   subst this; refine⟨true, ?_, ?_⟩
   ·unfold loopN; rw[he]; rfl
   ·rw[Xe,hl,Xe]; simp
  | succ m ih=>
   intro i n hi hn; obtain⟨n,rfl⟩: ∃k,n=k+1:=⟨n - 1,by omega⟩
   have hi1:i<L.length:=by omega
   have hi2:i<M.length:=by omega
   obtain⟨s,h1,h2⟩:=hs i L[i] M[i] (z12 hi1) (z12 hi2)
   rw[z89 hi1,z89 hi2]; unfold loopN; rw[h1]; cases s with
   | false=>
    refine⟨false,rfl, ?_⟩
    simp only[RI]; exact⟨(fun h=>nomatch h),fun h=>by have:=h2.2 h.1; cases this⟩
   | true=>
    obtain⟨t,t1,t2⟩:=ih (i+1) n (by omega) (by omega)
    refine⟨t,t1, ?_⟩
    rw[t2]; simp only[RI,h2.1 rfl,Nv]
 obtain⟨s,h1,h2⟩:=key L.length 0 n (by omega) hn
 exact⟨s,h1,by simpa using h2⟩
def tA(o:Option Bool)(p:Prop):Prop:= ∃s:Bool,o=some s∧(s=true↔p)
theorem tA.iff{o:Option Bool}{p q:Prop}(h:tA o p)(e:p↔q):tA o q:=by
 obtain⟨s,h1,h2⟩:=h; exact⟨s,h1,h2.trans e⟩
theorem BY{α:Type}(L M:List α){body:Int→Option (Int⊕(Bool⊕(Int×Bool)))}{n:Nat}(hl:L.length=M.length)
  (hs: ∀(i:Nat) x y,L[i]? =some x→M[i]? =some y→ ∃s:Bool,body (i:Int)=some (bif !s then .inr (.inl false)else .inl ((i+1:Nat):Int))∧(s=true↔x=y))
  (he:body (L.length:Int)=some (.inr (.inr ((L.length:Int),false))))(hn:L.length<n){f:Bool⊕(Int×Bool)→Option Bool}{o:Option Bool}{p:Prop}(hf:f (.inl false)=some false)(hr:f (.inr ((L.length:Int),false))=o)(ho:tA o p):
  tA ((loopN body n (0:Int)).bind f) (L=M∧p):=by
 obtain⟨s,h1,h2⟩:=QA L M hl hs he hn; rw[h1,z8]; cases s with
 | false=>exact⟨false,hf,⟨(fun h=>nomatch h),fun h=>h2.2 h.1⟩⟩
 | true=>
  rw[z15,hr]; exact ho.iff ⟨fun h=>⟨h2.1 rfl,h⟩,fun h=>h.2⟩
theorem BX:tA (some true) True:=⟨true,rfl,by simp⟩
theorem uB{c:Bool}{o:Option Bool}{p q:Prop}(h:p→tA o q)(e:c=true↔p):tA (bif c then o else some false) (p∧q):=by
 cases c with
 | false=>exact⟨false,rfl,⟨(fun h=>nomatch h),fun h=>e.2 h.1⟩⟩
 | true=>exact(h (e.1 rfl)).iff ⟨fun h=>⟨e.1 rfl,h⟩,fun h=>h.2⟩
theorem rB{o:Option Bool}{p:Prop}{f:Bool→Option Bool}(h:tA o p)(hf: ∀c,f c=some c):tA (o.bind f) p:=by
 obtain⟨s,rfl,h2⟩:=h; exact⟨s,hf s,h2⟩
theorem Uu{α:Type}{a b:List α}:(decide ((a.length:Int)=(b.length:Int)))=true↔a.length=b.length:=by
 rw[z23]; omega
theorem EA{α:Type}{a b:List α}{o:Option Bool}{q:Prop}(h:a.length=b.length→tA o (a=b∧q)):tA (bif !decide ((a.length:Int)=(b.length:Int))then some false else o) (a=b∧q):=by
 by_cases e:a.length=b.length
 ·rw[Uu.2 e]; exact h e
 ·rw[z9 (by omega)]
  exact⟨false,rfl,⟨(fun h=>nomatch h),fun h=>absurd (congrArg List.length h.1) e⟩⟩
theorem VB(x y:aE):(decide (x.f0=y.f0)&&(decide (x.f1=y.f1)&&(decide (x.f2=y.f2)&&(decide (x.f3=y.f3)&&true))))=true↔x=y:=by
 simp only[z7,z23,Vg]; cases x; cases y; simp only[aE.mk.injEq]
theorem Le{n:Nat}(a b:List aE)(hn:a.length<n)(hn2:n≤1099511627776):tA (gP n a b) (a=b):=by
 unfold gP; refine(EA fun hl=>BY a b hl (fun i x y hx hy=>⟨_, ?_,VB x y⟩) ?_ hn rfl rfl BX).iff (by simp)
 ·have:=bK hx
  simp only[gQ,bW hx,z15,bP,hx,hy,z8,aP (show i<4611686018427387904 by omega)]
  exact(Cs _ _ _)
 ·simp only[gQ,aN,z11]
theorem Pq{n:Nat}(x y:aD)(hn:x.f3.length<n)(hn2:n≤1099511627776):tA (jB n x.f0 x.f1 x.f2 x.f3 y.f0 y.f1 y.f2 y.f3) (x=y):=by
 unfold jB; refine(rB (uB (fun _=>uB (fun _=>uB (fun _=>rB (Le _ _ hn hn2) fun _=>rfl) z98) z98) z98) fun _=>rfl).iff ?_
 cases x; cases y; simp only[aD.mk.injEq]
theorem Ug(x y:aA):x.f0=y.f0∧x.f1=y.f1∧x.f2=y.f2∧x.f3=y.f3↔x=y:=by
 cases x; cases y; simp only[aA.mk.injEq]; rfl
theorem EW: ∀(n:Nat),n≤1099511627776→(∀x y:aA,2*cB x<n→tA (kG n x.f0 x.f1 x.f2 x.f3 y.f0 y.f1 y.f2 y.f3) (x=y))∧(∀L M:List aA,2*dl cB L<n→tA (cE n L M) (L=M))
 | 0,_=>⟨fun x y h=>by omega,fun x y h=>by omega⟩
 | n+1,hn=>by
  obtain⟨i1,i2⟩:=EW n (by omega)
  refine⟨fun x y h=> ?_,fun L M h=> ?_⟩
  ·rw[yS]at h
   rw[zU]; unfold mA; exact(rB (uB (fun _=>uB (fun _=>uB (fun _=>rB (i2 _ _ (by omega)) fun _=>rfl) z98) z98) z98) fun _=>rfl).iff (Ug x y)
  ·have hl:=bO cB L
   rw[rL]; unfold dW; refine(EA fun hl=>BY L M hl (fun i x y hx hy=> ?_) ?_ (by omega) rfl rfl BX).iff (by simp)
   ·have:=bK hx
    have hd:=dE cB (z20 hx); obtain⟨s,h1,h2⟩:=i1 x y (by omega)
    refine⟨s, ?_,h2⟩
    simp only[eG,bW hx,z15,bP,hx,hy,z8,h1,aP (show i<4611686018427387904 by omega)]
    exact(Cs _ _ _)
   ·simp only[eG,aN,z11]
theorem DD{n:Nat}(hn:n≤1099511627776){fs gs:List aD}{ps qs:List aA}(h1:dl wFn fs<n)(h2:2*dl cB ps<n):tA (lB n fs ps gs qs) (fs=gs∧ps=qs):=by
 unfold lB; have hl:=bO wFn fs; have hf:tA (dX n fs gs) (fs=gs):=by
  unfold dX; refine(EA fun hl2=>BY fs gs hl2 (fun i x y hx hy=> ?_) ?_ (by omega) rfl rfl BX).iff (by simp)
  ·have:=bK hx
   have hd:=dE wFn (z20 hx); rw[Dt]at hd; have hd2:=bO iP x.f3; obtain⟨s,h1,h2⟩:=Pq (n:=n) x y (by omega) hn
   refine⟨s, ?_,h2⟩
   simp only[eF,bW hx,z15,bP,hx,hy,z8,h1,aP (show i<4611686018427387904 by omega)]
   exact(Cs _ _ _)
  ·simp only[eF,aN,z11]
 obtain⟨s,e,e2⟩:=hf; rw[e,z8]; exact rB (uB (fun _=>rB ((EW n hn).2 ps qs h2) fun _=>rfl) e2) fun _=>rfl
theorem HG(a:aA):aA.mk a.f0 a.f1 a.f2 a.f3=a:=by cases a; rfl
theorem TU(a:aD):aD.mk a.f0 a.f1 a.f2 a.f3=a:=by cases a; rfl
theorem CO: ∀(n:Nat),n≤1099511627776→ ∀a:aA,cB a<n→cB a≤20000000→eD n a.f0 a.f1 a.f2 a.f3=some (a.f0,a.f1,a.f2,a.f3)
 | 0,_=>fun a h=>by omega
 | n+1,hn=>fun a h hb=>by
  have ih:=CO n (by omega)
  rw[yS]at h hb; have hl:=bO cB a.f3; rw[xL]; unfold jT; obtain⟨r,e,hr⟩:=Gt.list (body:=eT n (eD n) a.f3) a.f3 (fun i s=>s=((i:Int),a.f0,a.f1,a.f2,a.f3.take i)) (fun r=>r=((a.f3.length:Int),false,a.f0,a.f1,a.f2,a.f3)) (fun i x s hx hs=>by
   subst hs; have hd:=dE cB (z20 hx); have hi:=bK hx; refine⟨_, ?_,_,rfl,rfl⟩
   simp only[eT,bW hx,z15,bP,hx,z8,ih x (by omega) (by omega),HG,rI 56 hx (by omega) (by omega),aP (show i<4611686018427387904 by omega)]) (fun s hs=>by
   subst hs; refine⟨_, ?_,_,rfl,rfl⟩
   simp only[eT,aN,z11,z72]) (n:=n) rfl (by omega)
  have e:loopN (eT n (eD n) a.f3) n ((0:Int),a.f0,a.f1,a.f2,([]:List aA))=some r:=e; rw[e,hr]; rfl
theorem VZ{α:Type}{k:Nat}{b:List α}(h:b.length≤1048576000)(hk:k≤255):dF k ([]:List α) b=some b:=by
 obtain⟨r,e,e2⟩:=oE (k:=k) (a:=[]) (b:=b) (by simpa using h) hk
 rw[e,e2,z76]
theorem QI{n:Nat}(hn:n≤1099511627776){fs:List aD}{ps:List aA}(h1:dl wFn fs<n)(h2:dl cB ps<n)(b1:dl wFn fs≤20000000)(b2:dl cB ps≤20000000):nU n fs ps=some (fs,ps):=by
 unfold nU; have hl:=bO wFn fs; have hp:=bO cB ps; obtain⟨r,e,hr⟩:=Gt.list (body:=hG n fs) fs (fun i s=>s=((i:Int),fs.take i,[])) (fun r=>r=((fs.length:Int),false,fs,[])) (fun i x s hx hs=>by
  subst hs; have hd:=dE wFn (z20 hx); have hi:=bK hx; rw[Dt]at hd; have hd2:=bO iP x.f3; refine⟨_, ?_,_,rfl,rfl⟩
  simp only[hG,bW hx,z15,bP,hx,z8,VZ (b:=x.f3) (k:=40) (by omega) (by omega),TU,rI 56 hx (by omega) (by omega),aP (show i<4611686018427387904 by omega)]) (fun s hs=>by
  subst hs; refine⟨_, ?_,_,rfl,rfl⟩
  simp only[hG,aN,z11,z72]) (n:=n) rfl (by omega)
 have e:loopN (hG n fs) n ((0:Int),([]:List aD),([]:List aA))=some r:=e; rw[e,hr]; simp only[z8]; obtain⟨r,e,hr⟩:=Gt.list (body:=gZ n ps) ps (fun i s=>s=((i:Int),fs,ps.take i)) (fun r=>r=((ps.length:Int),false,fs,ps)) (fun i x s hx hs=>by
  subst hs; have hd:=dE cB (z20 hx); have hi:=bK hx; refine⟨_, ?_,_,rfl,rfl⟩
  simp only[gZ,bW hx,z15,bP,hx,z8,CO n hn x (by omega) (by omega),HG,rI 56 hx (by omega) (by omega),aP (show i<4611686018427387904 by omega)]) (fun s hs=>by
  subst hs; refine⟨_, ?_,_,rfl,rfl⟩
  simp only[gZ,aN,z11,z72]) (n:=n) rfl (by omega)
 have e:loopN (gZ n ps) n ((0:Int),fs,([]:List aA))=some r:=e; rw[e,hr]; rfl
theorem vV{n:Nat}{t:Int}{b:List Int}{i h:Int}(hc:Cur b i)(ht:0<t):Gt (aM n t b i h) (fun r=>(0≤r.1∧r.1<t)∧Cur r.2.1 r.2.2.1):=by
 unfold aM; have e0:(!decide (t=0))=true:=by rw[z9 (by omega)]; rfl
 refine Gt.cond (fun e=> ?_) (fun _=>Gt.cond (fun e=> ?_) (fun e=> ?_))
 ·have:=OC e; omega
 ·refine Gt.bind (sB hc) fun r ⟨h1,h2⟩=>Gt.bind (YB e0) fun _ _=>Gt.pure ⟨⟨z176 _ h1.1,z153 _ ht⟩,h2⟩
 ·refine Gt.bind (sB hc) fun r ⟨h1,h2⟩=>Gt.bind (sB h2) fun r2 ⟨h3,h4⟩=>Gt.bind (sB h4) fun r3 ⟨h5,h6⟩=>Gt.bind (YB e0) fun _ _=>Gt.pure ⟨⟨z176 _ ?_,z153 _ ht⟩,h6⟩
  rw[wrap_i64 (n:=r.1*65536) (by omega) (by omega),wrap_i64 (n:=r2.1*256) (by omega) (by omega),wrap_i64 (n:=r.1*65536+r2.1*256) (by omega) (by omega),wrap_i64 (by omega) (by omega)]
  omega
structure WA (a:bJ):Prop where
 f0:a.f0.length≤1
 f1:a.f1.length≤2
 f2:bR (.mk a.f2 a.f3 a.f4 a.f5 a.f6)≤4840
theorem Mo{α:Type}{P:α→Prop}{l:List α}{a:α}(h: ∀x∈l,P x)(ha:P a): ∀x∈l++[a],P x:=fun x hx=>by
 rcases z91.1 hx with h1 | h1
 ·exact h x h1
 ·rw[z67.1 h1]; exact ha
theorem SN{n:Nat}(hn:20000<n)(hn2:n≤1099511627776){b:List Int}{i h:Int}(hc:Cur b i):Gt (nW n b i h) (fun r=>(∀a∈r.1,WA a)∧r.1.length≤3∧Cur r.2.1 r.2.2.1):=by
 unfold nW; have hx1: ∀x∈([([102]:List UInt8),([103]:List UInt8),([104]:List UInt8)]:List (List UInt8)),x.length≤1:=by decide
 refine Gt.bind (P:=fun r=>(∀a∈r.2.2.1,WA a)∧r.2.2.1.length≤3∧Cur r.2.2.2.1 r.2.2.2.2.1) (Gt.loop (fun(m:Nat) (s:Int×(List bJ)×(List Int)×Int×Int)=>s.1+m=3∧0≤s.1∧(∀a∈s.2.1,WA a)∧s.2.1.length+m≤3∧Cur s.2.2.1 s.2.2.2.1) _ (fun m s hs=> ?_) (m:=3) ⟨rfl,Vh _,(fun a ha=>nomatch ha),z39 _,hc⟩ (by omega)) fun r hr=> ?_
 ·obtain⟨v,w0,w1,w2,w3⟩:=s
  obtain⟨s1,s2,s3,s4,s5⟩:=hs; simp only at s1 s2 s3 s4 s5; unfold qA; refine Gt.cond (fun e=> ?_) (fun e=> ?_)
  ·have e:=OC e
   obtain⟨m',rfl⟩: ∃m',m=m'+1:=⟨m - 1,by omega⟩
   refine Gt.bind (P:=fun r=>(∀a∈r.1,WA a)∧r.1.length≤w0.length+1∧Cur r.2.2.2.2.2.2.2.2.1 r.2.2.2.2.2.2.2.2.2.1) (Gt.bind (Il s2 (by simpa using e)) fun a ha=>Gt.cond (fun _=> ?_) (fun _=> ?_)) fun r hr=> ?_
   ·refine Gt.bind (JR (K:=2) (by omega) hn2 (by omega) s5 ⟨by simp,by decide⟩) fun r ⟨h1,h2⟩=>Gt.bind (oE (by simp only[z21]; omega) (by omega)) fun q eq=>Gt.pure ?_
    subst eq; exact⟨Mo s3 ⟨hx1 a ha,by simp,h1⟩,by simp,h2⟩
   ·refine Gt.bind (JR (K:=2) (by omega) hn2 (by omega) s5 ⟨by simp,by decide⟩) fun r ⟨h1,h2⟩=>Gt.bind (oE (by simp only[z21]; omega) (by omega)) fun q eq=>Gt.pure ?_
    subst eq; exact⟨Mo s3 ⟨hx1 a ha,by simp,h1⟩,by simp,h2⟩
   ·obtain⟨a0,a1,a2,a3,a4,a5,a6,a7,a8,a9,a10⟩:=r
    obtain⟨h1,h2,h3⟩:=hr; simp only at h1 h2 h3; refine Gt.pure ⟨m',rfl, ?_, ?_,h1,by simp only; omega,h3⟩
    ·show IntKind.wrap .i64 (v+1)+(m':Int)=3
     rw[wrap_i64 (by omega) (by omega)]; omega
    ·show 0≤IntKind.wrap .i64 (v+1)
     rw[wrap_i64 (by omega) (by omega)]; omega
  ·exact Gt.pure ⟨s3,by simp only; omega,s5⟩
 ·obtain⟨a0,a1,a2,a3,a4,a5⟩:=r
  exact Gt.pure hr
def CB(B C:Nat)(r:List aD×List aA):Prop:=r.1.length≤3∧dl wFn r.1≤B∧dl cB r.2≤C
theorem UR{n:Nat}{a:bJ}(h:a.f1.length≤2)(hn:10<n):Gt (loopN (gM n a) n (([]:List Int),(0:Int))) (fun r=>r.1.length=a.f1.length):=by
 refine Gt.list a.f1 (fun i s=>s.2=(i:Int)∧s.1.length=i) _ (fun i x s hx hs=> ?_) (fun s hs=> ?_) ⟨rfl,rfl⟩ (by omega)
 ·obtain⟨w,v⟩:=s
  obtain⟨h1,h2⟩:=hs; simp only at h1 h2; subst h1; have hi:=bK hx; simp only[gM,bW hx,z15]; refine Gt.bind (oE (by simp only[z21]; omega) (by omega)) fun q eq=>Gt.pure ⟨_,rfl,aP (by omega), ?_⟩
  subst eq; simp only[z17,z21]; omega
 ·obtain⟨w,v⟩:=s
  obtain⟨h1,h2⟩:=hs; simp only at h1 h2; subst h1; simp only[gM,aN,z11]; exact Gt.pure ⟨_,rfl,h2⟩
theorem LZ{n:Nat}(hn:20000<n)(hn2:n≤1099511627776){fs:List bJ}(h: ∀a∈fs,WA a)(hl:fs.length≤3):Gt (jY n fs) (CB 800000 800000):=by
 unfold jY; obtain⟨hm,_⟩:=JI n hn2; refine Gt.bind (P:=fun r=>CB 800000 800000 (r.2.2.1,r.2.2.2)) (Gt.list fs (fun i s=>s.1=(i:Int)∧s.2.1.length=i∧dl wFn s.2.1≤1+i*250000∧dl cB s.2.2≤1+i*250000) _ (fun i a s ha hs=> ?_) (fun s hs=> ?_) ⟨rfl,rfl,by simp [dl],by simp [dl]⟩ (by omega)) fun r hr=> ?_
 ·obtain⟨v,w0,w1⟩:=s
  obtain⟨h1,h2,h3,h4⟩:=hs; simp only at h1 h2 h3 h4; subst h1; have hi:=bK ha; have hA:=h a (z20 ha); have hA0:=hA.f0; have hA1:=hA.f1; have hA2:=hA.f2; simp only[jN,bW ha,z15,bP,ha,z8]; have e0:dl iP ([]:List aE)=1:=rfl; refine Gt.bind (UR hA1 (by omega)) fun q hq=> ?_
  obtain⟨q0,q1,q2⟩:=q; simp only at hq; refine Gt.bind (hm (.mk a.f2 a.f3 a.f4 a.f5 a.f6) a.f1 q0 [] w1 _ 2000000 (by omega) ⟨by omega,by omega,by omega,by omega,by omega⟩) fun r ⟨r1,r2,r3⟩=> ?_
  have p3:=bO iP r.1; refine Gt.bind (AI (by omega)) fun t ⟨t1,t2⟩=>Gt.bind (oE (by simp only[z21]; omega) (by omega)) fun u eu=>Gt.pure ⟨_,rfl,aP (by omega), ?_, ?_, ?_⟩
  ·subst eu; simp only[z17,z21]; omega
  ·subst eu
   have e1: ∀x y z w,wFn (.mk x y z w)=3+x.length+dl iP w:=fun _ _ _ _=>rfl
   simp only[kK,e1,t1,Dh,z53]; omega
  ·simp only[t2]; omega
 ·obtain⟨v,w0,w1⟩:=s
  obtain⟨h1,h2,h3,h4⟩:=hs; simp only at h1 h2 h3 h4; subst h1; simp only[jN,aN,z11]; exact Gt.pure ⟨_,rfl,by simp only; omega,by simp only; omega,by simp only; omega⟩
 ·obtain⟨a0,a1,a2,a3⟩:=r
  exact Gt.pure hr
def CD(B C:Nat)(r:List aD×List aA×List Int×Int×Int):Prop:=CB B C (r.1,r.2.1)∧Cur r.2.2.1 r.2.2.2.1
theorem SK{n:Nat}(hn:20000<n)(hn2:n≤1099511627776){b:List Int}{i h:Int}(hc:Cur b i):Gt (nT n b i h) (CD 800000 800000):=by
 unfold nT; exact Gt.bind (SN hn hn2 hc) fun r ⟨h1,h2,h3⟩=>Gt.bind (LZ hn hn2 h1 h2) fun q hq=>Gt.pure ⟨hq,h3⟩
theorem set_o{α:Type}(w:α→Nat){l:List α}{k:Nat}{b:α}{B m:Nat}(h:dl w l≤B)(hb:w b≤m):dl w (l.set k b)≤B+m:=by
 have:=vX w b l k; omega
theorem SM{n B:Nat}(hn2:n≤1099511627776){fs:List aD}{ps:List aA}(hB:CB B B (fs,ps))(hB1:B≤10000000)(hn:B<n){b:List Int}{i h:Int}(hc:Cur b i):Gt (nV n fs ps b i h) (CD (3*B+10) (3*B+10)):=by
 obtain⟨b1,b2,b3⟩:=hB; simp only at b1 b2 b3; unfold nV; rw[QI hn2 (by omega) (by omega) (by omega) (by omega),z8]
 have keep: ∀ {b:List Int} {i h:Int},Cur b i→CD (3*B+10) (3*B+10) (fs,ps,b,i,h):=fun hc=>⟨⟨b1,by simp only; omega,by simp only; omega⟩,hc⟩
 refine Gt.cond (fun _=>Gt.pure (keep hc)) fun e=> ?_
 have e:=Qm e; simp only at e; refine Gt.bind (vV hc (by simp only; omega)) fun r ⟨⟨g1,g2⟩,g3⟩=> ?_
 refine Gt.bind (Il g1 g2) fun f hf=> ?_
 have hf2:=dE wFn hf; simp only at hf2; rw[Dt]at hf2; have hl:=bO iP f.f3; have hlp:=bO cB ps; refine Gt.cond (fun _=>Gt.pure (keep g3)) fun e2=> ?_
 have e2:=Qm e2; refine Gt.bind (vV g3 (by omega)) fun r2 ⟨⟨k1,k2⟩,k3⟩=>Gt.bind (vV k3 (by omega)) fun r3 ⟨_,m3⟩=> ?_
 have one: ∀ {b:List Int} {i h:Int} {k:Nat} {g:aD},Cur b i→wFn g≤2*B+10→Gt ((some (fs.set k g)).bind fun u=>some (u,ps,b,i,h)) (CD (3*B+10) (3*B+10)):=fun {b i h k g} hc hg=>Gt.pure ⟨⟨by simp only[z71]; exact b1,by have:=set_o wFn (k:=k) b2 hg; simp only; omega,by simp only; omega⟩,hc⟩
 have ins: ∀ {b:List Int} {i h:Int} {k j:Nat} {g:aE} {x:aE},Cur b i→x∈f.f3→g.f2=x.f2→Gt ((some (fs.set k (aD.mk f.f0 f.f1 f.f2 (f.f3.set j g)))).bind fun u=>some (u,ps,b,i,h)) (CD (3*B+10) (3*B+10)):=fun {b i h k j g x} hc hx hg=>one hc (by
  have h1:=vX iP g f.f3 j; have h2:=dE iP hx; rw[CW]at h1 h2; rw[hg]at h1; show 3+f.f0.length+dl iP (f.f3.set j g)≤_; omega)
 refine Gt.cond (fun _=>Gt.bind (vV m3 (by omega)) fun r4 ⟨_,c4⟩=>Gt.bind (Il k1 k2) fun x hx=>ins c4 hx rfl) fun _=> ?_
 refine Gt.cond (fun _=>Gt.bind (vO m3 (by simp) (by simp)) fun r4 ⟨_,c4⟩=>Gt.bind (Il k1 k2) fun x hx=>ins c4 hx rfl) fun _=> ?_
 refine Gt.cond (fun _=>Gt.bind (vO m3 (by simp) (by simp)) fun r4 ⟨_,c4⟩=>Gt.bind (Il k1 k2) fun x hx=>ins c4 hx rfl) fun _=> ?_
 refine Gt.cond (fun _=> ?_) fun _=> ?_
 ·obtain⟨k,hk⟩: ∃k:Nat,r2.1=k:=⟨r2.1.toNat,by omega⟩
  rw[hk]at k2 ⊢; have hs:sub f.f3 none (some (k:Int))=some (f.f3.take k):=TA (by omega)
  rw[hs,z8]; refine one m3 ?_
  have h1:=xF iP f.f3 k; show 3+f.f0.length+dl iP (f.f3.take k)≤_; omega
 refine Gt.cond (fun _=>Gt.bind (At (K:=4) m3 (by simp) (by simp) (by decide)) fun r4 ⟨c5,c4⟩=>one c4 ?_) fun _=> ?_
 ·show 3+r4.1.length+dl iP f.f3≤_
  omega
 refine Gt.cond (fun _=>Gt.bind (vO m3 (by simp) (by simp)) fun r4 ⟨_,c4⟩=>one c4 ?_) fun _=> ?_
 ·show 3+f.f0.length+dl iP f.f3≤_
  omega
 refine Gt.cond (fun _=>Gt.bind (vO m3 (by simp) (by simp)) fun r4 ⟨_,c4⟩=>one c4 ?_) fun _=> ?_
 ·show 3+f.f0.length+dl iP f.f3≤_
  omega
 refine Gt.cond (fun _=>Gt.cond (fun e5=> ?_) fun _=>Gt.pure (keep m3)) fun _=>Gt.pure (keep m3)
 have e5:=OC e5; refine Gt.bind (vV m3 (by omega)) fun r4 ⟨_,c4⟩=>Gt.bind (vO c4 (by simp) (by simp)) fun r5 ⟨_,c5⟩=>Gt.bind (Il (by omega) e5) fun x hx=>Gt.pure ⟨⟨b1,by simp only; omega, ?_⟩,c5⟩
 have:=vX cB (.mk r4.1 r5.1 [] []) ps (Int.toNat 0); rw[yS]at this; have z:dl cB ([]:List aA)=1:=rfl; simp only[z53]at this ⊢; show dl cB (ps.set (Int.toNat 0) _)≤_; have q:(aA.mk r4.1 r5.1 [] []).f2.length+dl cB (aA.mk r4.1 r5.1 [] []).f3=1:=rfl; omega
theorem Ux{n:Nat}(hn:10000000<n)(hn2:n≤1099511627776){b:List Int}{i h:Int}(hc:Cur b i):Gt (pQ n b i h) (CD 2400010 2400010):=by
 unfold pQ; refine Gt.bind (SK (by omega) hn2 hc) fun r ⟨h1,h2⟩=>Gt.bind (MV h2 (by omega)) fun r2 h3=>Gt.cond (fun _=> ?_) fun _=>Gt.pure ⟨⟨h1.1,z83 h1.2.1 (by omega),z83 h1.2.2 (by omega)⟩,h3⟩
 exact Gt.bind (SM hn2 h1 (by omega) (by omega) h3) fun q hq=>Gt.pure hq
end Go.Own.Q
