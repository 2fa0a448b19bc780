/- Loops over lists and small things, in plain Lean. No conditions. -/
import Derived.Test.YtjfgchodolnmcaaW26W
set_option linter.unusedVariables false
set_option linter.unusedSimpArgs false
set_option linter.unnecessarySimpa false
namespace Go.Own.Q
open Go Go.Proofs
theorem sW{σ ρ:Type}{body:σ→Option (σ⊕ρ)}(st:Nat→σ){len:Nat}{r:ρ}(hs: ∀i,i<len→body (st i)=some (.inl (st (i+1))))(he:body (st len)=some (.inr r)){n:Nat}(hn:len<n):loopN body n (st 0)=some r:=by
 have key: ∀k i,i+k=len→ ∀n,k<n→loopN body n (st i)=some r:=by
  intro k; induction k with
  | zero=>
   intro i hi n hn; obtain⟨m,rfl⟩: ∃m,n=m+1:=⟨n - 1,by omega⟩
   have:i=len:=by omega
   subst this; simp only[loopN,he]
  | succ k ih=>
   intro i hi n hn; obtain⟨m,rfl⟩: ∃m,n=m+1:=⟨n - 1,by omega⟩
   simp only[loopN,hs i (by omega)]
   exact ih (i+1) (by omega) m (by omega)
 exact key len 0 (by omega) n hn

def nK{α σ ρ:Type}(f:σ→α→σ⊕ρ):List α→σ→σ⊕ρ
 | [],s=> .inl s
 | a::r,s=>match f s a with
  | .inl s'=>nK f r s'
  | .inr q=> .inr q
theorem Gl{α σ τ ρ κ:Type}{body:σ→Option (σ⊕ρ)}(l:List α)(f:τ→α→τ⊕κ)(enc:τ→Nat→σ)(fin:τ→ρ)(out:κ→ρ)(I:τ→Prop)(hs: ∀(i:Nat) a t,l[i]? =some a→I t→(∃t',f t a= .inl t'∧I t'∧body (enc t i)=some (.inl (enc t' (i+1))))∨(∃q,f t a= .inr q∧body (enc t i)=some (.inr (out q))))
  (he: ∀t,I t→body (enc t l.length)=some (.inr (fin t))){n:Nat}(hn:l.length<n){t0:τ}(h0:I t0):loopN body n (enc t0 0)=some (match nK f l t0 with | .inl t=>fin t | .inr q=>out q):=by
 have key: ∀(r:List α) (i:Nat) (t:τ) (n:Nat),l.drop i=r→I t→r.length<n→i≤l.length→loopN body n (enc t i)=some (match nK f r t with | .inl t=>fin t | .inr q=>out q):=by
  intro r; induction r with
  | nil=>
   intro i t n hr ht hn hi; obtain⟨m,rfl⟩: ∃m,n=m+1:=⟨n - 1,by simp at hn; omega⟩
   have:i=l.length:=by
    have:=congrArg List.length hr; simp at this; omega
   subst this; simp only[loopN,he t ht,nK]
  | cons a r ih=>
   intro i t n hr ht hn hi; obtain⟨m,rfl⟩: ∃m,n=m+1:=⟨n - 1,by simp at hn; omega⟩
   have hil:i<l.length:=by
    have:=congrArg List.length hr; simp at this; omega
   have ha:l[i]? =some a:=by
    have:=congrArg (·[0]?) hr
    simpa using this
   have hr':l.drop (i+1)=r:=by
    have:=congrArg List.tail hr; simpa using this
   rcases hs i a t ha ht with⟨t',h1,h2,h3⟩ | ⟨q,h1,h3⟩
   ·simp only[loopN,h3,nK,h1]
    exact ih (i+1) t' m hr' h2 (by simp at hn; omega) (by omega)
   ·simp only[loopN,h3,nK,h1]
 exact key l 0 t0 n rfl h0 hn (by omega)

theorem dR{α:Type}(l:List α)(i:Nat):ix l (i:Int)=l[i]? :=by
 unfold ix; rw[z19 (by omega)]
 simp
theorem Eh(s:List UInt8)(i:Nat):ixs s (i:Int)=(s[i]?).map fun b=>(b.toNat:Int):=by
 unfold ixs; rw[z19 (by omega)]
 simp
theorem bC{i:Nat}(h:i<4611686018427387904):IntKind.wrap .i64 ((i:Int)+1)=((i+1:Nat):Int):=by
 rw[wrap_i64 (by omega) (by omega)]; omega
theorem oH{α:Type}{l:List α}{i:Nat}{a:α}(h:l[i]? =some a):l.take i++[a]=l.take (i+1):=by
 rw[List.take_add_one,h]; rfl
theorem mX{α:Type}{b:Nat}{l1 l2:List α}(h:(l1.length+l2.length)*b≤140737488355328)(h2:l1.length+l2.length≤maxLen):fE b l1 l2=some (l1++l2):=by
 unfold fE; rw[z19 ⟨h2,h⟩]
theorem gG{α:Type}{l:List α}{i:Nat}{a:α}(h:l[i]? =some a):i<l.length:=(z95.1 h).1
theorem eT{α:Type}{l:List α}{i:Nat}{a:α}(h:l[i]? =some a):decide ((i:Int)<(l.length:Int))=true:=by
 have:=gG h; exact z11 (by omega)
theorem bB{k:Nat}:decide ((k:Int)<(k:Int))=false:=z9 (by omega)
theorem PC{α:Type}(c:Bool)(a b:α):(bif c then some a else some b)=some (bif c then a else b):=by cases c<;>rfl
def Hk{α:Type}(z:α→Nat):List α→Nat
 | []=>0
 | a::r=>z a+Hk z r
def dl{α:Type}(d:α→Nat):List α→Nat
 | []=>1
 | a::r=>1+d a+dl d r
theorem dZ{α:Type}(d:α→Nat){a:α}: ∀ {l:List α},a∈l→d a<dl d l
 | b::r,h=>by
  cases h with
  | head=>simp only[dl]; omega
  | tail _ h=>have:=dZ d h; simp only[dl]; omega
theorem aW{α:Type}(d:α→Nat): ∀l:List α,l.length<dl d l
 | []=>by simp [dl]
 | b::r=>by have:=aW d r; simp only[dl,z43]; omega
theorem Lv{α:Type}{body:Int→Option (Int⊕(Bool⊕(Int×Bool)))}(l:List α)(hs: ∀(i:Nat) a,l[i]? =some a→body (i:Int)=some (.inl ((i+1:Nat):Int)))(he:body (l.length:Int)=some (.inr (.inr ((l.length:Int),false)))){n:Nat}(hn:l.length<n):loopN body n (0:Int)=some (.inr ((l.length:Int),false)):=
 sW (body:=body) (fun i=>(i:Int)) (len:=l.length) (fun i hi=>hs i _ (z14 hi)) he hn
theorem Qi{α:Type}{body:Int→Option (Int⊕(Bool⊕(Int×Bool)))}(l:List α)(ok:α→Bool)(hs: ∀(i:Nat) a,l[i]? =some a→body (i:Int)=some (if ok a then .inl ((i+1:Nat):Int)else .inr (.inl false)))(he:body (l.length:Int)=some (.inr (.inr ((l.length:Int),false)))){n:Nat}(hn:l.length<n):loopN body n (0:Int)=some (if l.all ok then .inr ((l.length:Int),false)else .inl false):=by
 have h:=Gl (body:=body) l (fun(_:Unit) a=>if ok a then .inl ()else .inr ()) (fun _ i=>(i:Int)) (fun _=> .inr ((l.length:Int),false)) (fun _=> .inl false) (fun _=>True) (fun i a t ha _=>by
  by_cases c:ok a=true
  ·left; exact⟨(),z19 c,trivial,by rw[hs i a ha,z19 c]⟩
  ·right; exact⟨(),z13 c,by rw[hs i a ha,z13 c]⟩) (fun _ _=>he) hn (t0:=()) trivial
 have key: ∀l:List α,nK (fun(_:Unit) a=>if ok a then Sum.inl ()else Sum.inr ()) l ()=if l.all ok then .inl ()else .inr ():=by
  intro l; induction l with
  | nil=>rfl
  | cons a r ih=>
   simp only[nK,NJ]; by_cases c:ok a=true
   ·rw[z19 c]; simp only[ih,c,z44]
   ·rw[z13 c]; simp [c]
 refine h.trans ?_
 rw[key l]; by_cases c:l.all ok=true
 ·rw[z19 c,z19 c]
 ·rw[z13 c,z13 c]
theorem EG{α σ τ ρ κ:Type}{body:σ→Option (σ⊕ρ)}(l:List α)(f:τ→α→τ⊕κ)(enc:τ→Nat→σ)(fin:τ→ρ)(Out:κ→ρ→Prop)(I:τ→Prop)(hs: ∀(i:Nat) a t,l[i]? =some a→I t→(∃t',f t a= .inl t'∧I t'∧body (enc t i)=some (.inl (enc t' (i+1))))∨(∃q r,f t a= .inr q∧body (enc t i)=some (.inr r)∧Out q r))
  (he: ∀t,I t→body (enc t l.length)=some (.inr (fin t))){n:Nat}(hn:l.length<n){t0:τ}(h0:I t0): ∃r,loopN body n (enc t0 0)=some r∧(match nK f l t0 with | .inl t=>r=fin t | .inr q=>Out q r):=by
 have key: ∀(r:List α) (i:Nat) (t:τ) (n:Nat),l.drop i=r→I t→r.length<n→i≤l.length→ ∃x,loopN body n (enc t i)=some x∧(match nK f r t with | .inl t=>x=fin t | .inr q=>Out q x):=by
  intro r; induction r with
  | nil=>
   intro i t n hr ht hn hi; obtain⟨m,rfl⟩: ∃m,n=m+1:=⟨n - 1,by simp at hn; omega⟩
   have:i=l.length:=by
    have:=congrArg List.length hr; simp at this; omega
   subst this; simp only[loopN,he t ht,nK]; exact⟨_,rfl,rfl⟩
  | cons a r ih=>
   intro i t n hr ht hn hi; obtain⟨m,rfl⟩: ∃m,n=m+1:=⟨n - 1,by simp at hn; omega⟩
   have hil:i<l.length:=by
    have:=congrArg List.length hr; simp at this; omega
   have ha:l[i]? =some a:=by
    have:=congrArg (·[0]?) hr
    simpa using this
   have hr':l.drop (i+1)=r:=by
    have:=congrArg List.tail hr; simpa using this
   rcases hs i a t ha ht with⟨t',h1,h2,h3⟩ | ⟨q,x,h1,h3,h4⟩
   ·simp only[loopN,h3,nK,h1]
    exact ih (i+1) t' m hr' h2 (by simp at hn; omega) (by omega)
   ·simp only[loopN,h3,nK,h1]
    exact⟨x,rfl,h4⟩
 exact key l 0 t0 n rfl h0 hn (by omega)
def zQ{α:Type}(ok:Nat→α→Bool):Nat→List α→Bool
 | _,[]=>true
 | i,a::r=>ok i a&&zQ ok (i+1) r
theorem Ae{α:Type}{body:Int→Option (Int⊕(Bool⊕(Int×Bool)))}(l:List α)(ok:Nat→α→Bool)(hs: ∀(i:Nat) a,l[i]? =some a→body (i:Int)=some (if ok i a then .inl ((i+1:Nat):Int)else .inr (.inl false)))(he:body (l.length:Int)=some (.inr (.inr ((l.length:Int),false)))){n:Nat}(hn:l.length<n):loopN body n (0:Int)=some (if zQ ok 0 l then .inr ((l.length:Int),false)else .inl false):=by
 have key: ∀(r:List α) (i n:Nat),l.drop i=r→r.length<n→i≤l.length→loopN body n (i:Int)=some (if zQ ok i r then .inr ((l.length:Int),false)else .inl false):=by
  intro r; induction r with
  | nil=>
   intro i n hr hn hi; obtain⟨m,rfl⟩: ∃m,n=m+1:=⟨n - 1,by simp at hn; omega⟩
   have:i=l.length:=by
    have:=congrArg List.length hr; simp at this; omega
   subst this; simp only[loopN,he,zQ,if_true]
  | cons a r ih=>
   intro i n hr hn hi; obtain⟨m,rfl⟩: ∃m,n=m+1:=⟨n - 1,by simp at hn; omega⟩
   have hil:i<l.length:=by
    have:=congrArg List.length hr; simp at this; omega
   have ha:l[i]? =some a:=by
    have:=congrArg (·[0]?) hr
    simpa using this
   have hr':l.drop (i+1)=r:=by
    have:=congrArg List.tail hr; simpa using this
   by_cases c:ok i a=true
   ·simp only[loopN,hs i a ha,z19 c,zQ,c,z44]
    exact ih (i+1) m hr' (by simp at hn; omega) (by omega)
   ·simp only[loopN,hs i a ha,z13 c,zQ]
    simp [c]
 exact key l 0 n rfl hn (by omega)
def JH{α:Type}(p:α→Bool):Nat→List α→Int
 | _,[]=> -1
 | i,a::r=>bif p a then(i:Int)else JH p (i+1) r
theorem sX{α:Type}(p:α→Bool): ∀(l:List α) (i:Nat),(JH p i l= -1∧ ∀a∈l,p a=false)∨ ∃k a,JH p i l=((i+k:Nat):Int)∧l[k]? =some a∧p a=true∧ ∀(j:Nat) b,j<k→l[j]? =some b→p b=false
 | [],i=> .inl ⟨rfl,by simp⟩
 | a::r,i=>by
  unfold JH; cases h:p a with
  | true=>exact .inr ⟨0,a,rfl,rfl,h,fun j b hj=>by omega⟩
  | false=>
   rw[z12]; rcases sX p r (i+1)with⟨h1,h2⟩ | ⟨k,b,h1,h2,h3,h4⟩
   ·exact .inl ⟨h1,fun b hb=>by
     rcases z98.1 hb with rfl | hb
     ·exact h
     ·exact h2 b hb⟩
   ·refine .inr ⟨k+1,b,by rw[h1]; omega,h2,h3,fun j c hj hc=> ?_⟩
    cases j with
    | zero=>simp only[z20,z10]at hc; subst hc; exact h
    | succ j=>exact h4 j c (by omega) hc
theorem xE{α σ ρ:Type}{body:σ→Option (σ⊕ρ)}(l:List α)(p:α→Bool)(enc:Nat→σ)(out:Nat→ρ)(fin:ρ)(hs: ∀(i:Nat) a,l[i]? =some a→body (enc i)=some (bif p a then .inr (out i)else .inl (enc (i+1))))(he:body (enc l.length)=some (.inr fin)){n:Nat}(hn:l.length<n):
  loopN body n (enc 0)=some (bif decide (JH p 0 l<0)then fin else out (JH p 0 l).toNat):=by
 have key: ∀(r:List α) (i n:Nat),l.drop i=r→r.length<n→i≤l.length→loopN body n (enc i)=some (bif decide (JH p i r<0)then fin else out (JH p i r).toNat):=by
  intro r; induction r with
  | nil=>
   intro i n hr hn hi; obtain⟨m,rfl⟩: ∃m,n=m+1:=⟨n - 1,by simp at hn; omega⟩
   have:i=l.length:=by
    have:=congrArg List.length hr; simp at this; omega
   subst this; simp only[loopN,he]; rfl
  | cons a r ih=>
   intro i n hr hn hi; obtain⟨m,rfl⟩: ∃m,n=m+1:=⟨n - 1,by simp at hn; omega⟩
   have hil:i<l.length:=by
    have:=congrArg List.length hr; simp at this; omega
   have ha:l[i]? =some a:=by
    have:=congrArg (·[0]?) hr
    simpa using this
   have hr':l.drop (i+1)=r:=by
    have:=congrArg List.tail hr; simpa using this
   have hf:JH p i (a::r)=bif p a then(i:Int)else JH p (i+1) r:=rfl
   rw[hf]; cases h:p a with
   | true=>
    simp only[loopN,hs i a ha,h,z17]; rw[z9 (by omega),z12,z68]
   | false=>
    simp only[loopN,hs i a ha,h,z12]; exact ih (i+1) m hr' (by simp at hn; omega) (by omega)
 exact key l 0 n rfl hn (by omega)
theorem MS{i:Nat}(h:i<4611686018427387904):IntKind.wrap .i64 (((i+1:Nat):Int) - 1)=(i:Int):=by
 rw[wrap_i64 (by omega) (by omega)]; omega
theorem Jx{α:Type}(ok:Nat→α→Bool): ∀(l:List α) (i:Nat),zQ ok i l=true↔ ∀(j:Nat) a,l[j]? =some a→ok (i+j) a=true
 | [],i=>by simp [zQ]
 | a::r,i=>by
  simp only[zQ,z7,Jx ok r (i+1)]; constructor
  ·rintro ⟨h1,h2⟩ j b hb
   cases j with
   | zero=>simp only[z20,z10]at hb; subst hb; exact h1
   | succ j=>have:=h2 j b hb; rwa[show i+1+j=i+(j+1)by omega]at this
  ·intro h
   refine⟨h 0 a rfl,fun j b hb=> ?_⟩
   have:=h (j+1) b hb; rwa[show i+(j+1)=i+1+j by omega]at this
theorem aQ(a:aB):aB.mk a.f0 a.f1 a.f2 a.f3=a:=by cases a; rfl
mutual
def aR:aB→Nat
 | .mk _ _ s l=>3+s.length+GC l
def GC:List aB→Nat
 | []=>1
 | x::r=>1+aR x+GC r
end
theorem eK: ∀l,GC l=dl aR l
 | []=>rfl
 | x::r=>by simp only[GC,dl,eK r]
theorem pB(a:aA):aA.mk a.f0 a.f1 a.f2 a.f3 a.f4=a:=by cases a; rfl
theorem AB(a:aC):aC.mk a.f0 a.f1 a.f2 a.f3 a.f4 a.f5 a.f6 a.f7 a.f8 a.f9=a:=by
 obtain⟨p,x⟩:=a; cases p; cases x; rfl
mutual
def aM:aA→Nat
 | .mk _ _ s l c=>3+s.length+yV l+qZ c
def yV:List aA→Nat
 | []=>1
 | x::r=>1+aM x+yV r
def qZ:List aC→Nat
 | []=>1
 | x::r=>1+dF x+qZ r
def dF:aC→Nat
 | .two p x=>3+aM p+aM x
end
theorem mF(a:aA):aM a=3+a.f2.length+yV a.f3+qZ a.f4:=by cases a; simp only[aM]; rfl
theorem wV(a:aC):dF a=3+aM a.p+aM a.x:=by obtain⟨p,x⟩:=a; simp only[dF]; rfl
theorem eM: ∀l,yV l=dl aM l
 | []=>rfl
 | x::r=>by simp only[yV,dl,eM r]
theorem cX: ∀l:List aC,qZ l=dl dF l
 | []=>rfl
 | x::r=>by
  have e:=cX r; have e1:qZ (x::r)=1+dF x+qZ r:=by simp only[qZ]
  rw[e1,e]; rfl
def eU:aG→Nat
 | .mk a0 a1 a2 a3 a4=>3+a0.length+aR (.mk a1 a2 a3 a4)
theorem sI(n:Nat)(x a b:Int):cH n x a b=some (decide (a≤x)&&decide (x≤b)):=by
 unfold cH; cases decide (a≤x)<;>rfl
theorem tY(n:Nat)(x a b:Int):cZ n x a b=some (decide (a≤x)&&decide (x≤b)):=by
 unfold cZ; cases decide (a≤x)<;>rfl
theorem EL(n:Nat)(x:Int):fZ n x=some (decide (97≤x)&&decide (x≤122)):=by
 unfold fZ; cases decide (97≤x)<;>rfl
theorem CL(n:Nat)(x:Int):eP n x=some (decide (48≤x)&&decide (x≤57)):=by
 unfold eP; cases decide (48≤x)<;>rfl
def oN(c:Int):Bool:=decide (97≤c)&&decide (c≤122)
def GS(c:Int):Bool:=decide (48≤c)&&decide (c≤57)
def HN(i:Nat)(c:UInt8):Bool:=oN c.toNat||(!decide (i=0)&&(GS c.toNat||decide ((c.toNat:Int)=95)))
def tG(s:List UInt8):Bool:=zQ HN 0 s&&(decide (1≤(s.length:Int))&&decide ((s.length:Int)≤20))
theorem EU(c:UInt8):IntKind.wrap .i64 ((c.toNat:Nat):Int)=c.toNat:=by
 have:=c.toNat_lt; exact wrap_i64 (by omega) (by omega)
theorem LW(i:Nat):decide ((i:Int)=0)=decide (i=0):=by
 by_cases h:i=0<;>simp [h]
theorem vC(n:Nat)(s:List UInt8)(h:s.length<n)(hn:s.length<4611686018427387904):jM n s=some (tG s):=by
 unfold jM; rw[Ae s HN (fun i c hc=>by
  have hi:=gG hc; simp only[kR,eT hc,z17,Eh,hc,z35,z8,sI,EU,bC (show i<4611686018427387904 by omega),LW]
  unfold HN oN GS; cases decide (97≤(c.toNat:Int))<;>cases decide ((c.toNat:Int)≤122)<;>cases decide (i=0)<;>cases decide (48≤(c.toNat:Int))<;>cases decide ((c.toNat:Int)≤57)<;>cases decide ((c.toNat:Int)=95)<;>rfl) (by simp only[kR,bB,z12]) h]
 unfold tG; by_cases c:zQ HN 0 s=true
 ·rw[z19 c,c]; simp only[z8,sI,z44]
 ·rw[z13 c]; simp only[z92]at c; rw[c]; rfl
theorem vG(n:Nat)(s:List UInt8)(h:s.length<n)(hn:s.length<4611686018427387904):jN n s=some (tG s):=by
 unfold jN; rw[Ae s HN (fun i c hc=>by
  have hi:=gG hc; simp only[kT,eT hc,z17,Eh,hc,z35,z8,EL,CL,bC (show i<4611686018427387904 by omega),LW]
  unfold HN oN GS; cases decide (97≤(c.toNat:Int))<;>cases decide ((c.toNat:Int)≤122)<;>cases decide (i=0)<;>cases decide (48≤(c.toNat:Int))<;>cases decide ((c.toNat:Int)≤57)<;>cases decide ((c.toNat:Int)=95)<;>rfl) (by simp only[kT,bB,z12]) h]
 unfold tG; by_cases c:zQ HN 0 s=true
 ·rw[z19 c,c]; simp only[z8,tY,z44]
 ·rw[z13 c]; simp only[z92]at c; rw[c]; rfl
def mR(c:Int):Bool:=(decide (65≤c)&&decide (c≤90))||decide (c=95)
theorem EM(n:Nat)(x:Int):iL n x=some (mR x):=by
 unfold iL mR; cases decide (65≤x)<;>cases decide (x≤90)<;>rfl
theorem KW(n:Nat)(c:UInt8):kE n (c.toNat:Int)=some (mR c.toNat):=by
 unfold kE mR; rw[EU,sI]; cases decide (65≤(c.toNat:Int))<;>cases decide ((c.toNat:Int)≤90)<;>rfl
theorem KV(n:Nat)(c:UInt8):kD n (c.toNat:Int)=some (oN c.toNat):=by
 unfold kD oN; rw[EU,sI]; rfl
theorem KX(n:Nat)(c:UInt8):kF n (c.toNat:Int)=some (GS c.toNat):=by
 unfold kF GS; rw[EU,sI]; rfl
theorem Il(n:Nat)(x:Int):fZ n x=some (oN x):=EL n x
theorem Mq(n:Nat)(x:Int):eP n x=some (GS x):=CL n x
def vT(c:UInt8):Bool:=oN c.toNat||(mR c.toNat||GS c.toNat)
theorem Fa(n:Nat)(x:Int):gF n x=some (oN x||(mR x||GS x)):=by
 unfold gF; rw[Il,EM,Mq]; cases oN x<;>cases mR x<;>cases GS x<;>rfl
def LG(i:Nat)(c:UInt8):Bool:=mR c.toNat||(!decide (i=0)&&(oN c.toNat||GS c.toNat))
def FS(s:List UInt8):Bool:=zQ LG 0 s&&(decide (1≤(s.length:Int))&&decide ((s.length:Int)≤20))
theorem FY(n:Nat)(s:List UInt8)(h:s.length<n)(hn:s.length<4611686018427387904):kC n s=some (FS s):=by
 unfold kC; rw[Ae s LG (fun i c hc=>by
  have hi:=gG hc; simp only[jU,eT hc,z17,Eh,hc,z35,z8,KW,KV,KX,bC (show i<4611686018427387904 by omega),LW]
  unfold LG; cases mR (c.toNat:Int)<;>cases decide (i=0)<;>cases oN (c.toNat:Int)<;>cases GS (c.toNat:Int)<;>rfl) (by simp only[jU,bB,z12]) h]
 unfold FS; by_cases c:zQ LG 0 s=true
 ·rw[z19 c,c]; simp only[z8,sI,z44]
 ·rw[z13 c]; simp only[z92]at c; rw[c]; rfl
theorem HD: ∀(r:List UInt8) (i:Nat),0<i→zQ LG i r=r.all vT
 | [],i,h=>rfl
 | c::r,i,h=>by
  have e:LG i c=vT c:=by
   unfold LG vT; rw[z9 (by omega)]
   cases mR (c.toNat:Int)<;>cases oN (c.toNat:Int)<;>cases GS (c.toNat:Int)<;>rfl
  simp only[zQ,NJ,HD r (i+1) (by omega),e]
theorem Fc(n:Nat)(s:List UInt8)(h:s.length<n)(hn:s.length<4611686018427387904):nF n s=some (FS s):=by
 unfold nF; rw[Qi s vT (fun i c hc=>by
  have hi:=gG hc; simp only[mD,eT hc,z17,Eh,hc,z35,z8,Fa,bC (show i<4611686018427387904 by omega)]
  unfold vT; cases oN (c.toNat:Int)<;>cases mR (c.toNat:Int)<;>cases GS (c.toNat:Int)<;>rfl) (by simp only[mD,bB,z12]) h]
 unfold FS; cases s with
 | nil=>rfl
 | cons c r=>
  have e:zQ LG 0 (c::r)=(mR c.toNat&&r.all vT):=by
   simp only[zQ,z32,HD r 1 (by omega)]
   unfold LG; rw[z11 rfl]; cases mR (c.toNat:Int)<;>rfl
  have e2:(c::r).all vT=(vT c&&r.all vT):=NJ; have i0:ixs (c::r) (0:Int)=some (c.toNat:Int):=rfl; have hw:mR c.toNat=true→vT c=true:=fun h=>by unfold vT; rw[h]; cases oN (c.toNat:Int)<;>rfl
  rw[e,e2]; generalize r.all vT=q; by_cases hq:(vT c&&q)=true
  ·rw[z19 hq]
   simp only[z8,tY,i0,EM]; have hq2:q=true:=by cases q with | true=>rfl | false=>simp at hq
   subst hq2; cases decide (1≤((c::r).length:Int))<;>cases decide (((c::r).length:Int)≤20)<;>cases mR (c.toNat:Int)<;>rfl
  ·rw[z13 hq]
   cases hl:mR (c.toNat:Int)with
   | false=>rfl
   | true=>
    rw[hw hl]at hq; cases q with
    | true=>simp at hq
    | false=>rfl
def pI(s:List UInt8):Bool:=tG s&&(!decide (s=[99,97,115,101])&&(!decide (s=[111,102])&& !decide (s=[101,110,100])))
theorem KG(n:Nat)(s:List UInt8)(h:s.length<n)(hn:s.length<4611686018427387904):iK n s=some (pI s):=by
 unfold iK pI; rw[vG n s h hn,z8]; generalize decide (s=[99,97,115,101])=a; generalize decide (s=[111,102])=b; generalize decide (s=[101,110,100])=c; cases tG s<;>cases a<;>cases b<;>cases c<;>rfl
theorem Mp(n:Nat)(s:List UInt8)(h:s.length<n)(hn:s.length<4611686018427387904):jL n s=some (pI s):=by
 unfold jL pI jT; rw[vC n s h hn,z8]; generalize decide (s=[99,97,115,101])=a; generalize decide (s=[111,102])=b; generalize decide (s=[101,110,100])=c; cases tG s<;>cases a<;>cases b<;>cases c<;>rfl
def Np(s:List UInt8):Bool:=decide (s=[43])||(decide (s=[45])||(decide (s=[42])||(decide (s=[61,61])||decide (s=[60]))))
theorem Qr(n:Nat)(s:List UInt8):oS n s=some (Np s):=by
 unfold oS Np; generalize decide (s=[43])=a; generalize decide (s=[45])=b; generalize decide (s=[42])=c; generalize decide (s=[61,61])=d; generalize decide (s=[60])=e; cases a<;>cases b<;>cases c<;>cases d<;>cases e<;>rfl
theorem Qo(n:Nat)(s:List UInt8):oR n s=some (Np s):=by
 unfold oR Np; generalize decide (s=[43])=a; generalize decide (s=[45])=b; generalize decide (s=[42])=c; generalize decide (s=[61,61])=d; generalize decide (s=[60])=e; cases a<;>cases b<;>cases c<;>cases d<;>cases e<;>rfl

theorem Of(n:Nat)(l:List (List UInt8))(s:List UInt8)(hn:l.length<n)(h2:n<4611686018427387904):eW n l s=some (JH (fun a=>decide (s=a)) 0 l):=by
 unfold eW; have e:=xE (body:=dH n l s) l (fun a=>decide (s=a)) (fun i=>(i:Int)) (fun i=>Sum.inl (i:Int)) (Sum.inr ((l.length:Int),false)) (fun i a ha=>by
  have hi:=gG ha; simp only[dH,eT ha,z17,dR,ha,z8,bC (show i<4611686018427387904 by omega)]
  cases decide (s=a)<;>rfl) (by simp only[dH,bB,z12]) hn
 refine(congrArg (fun q=>Option.bind q _) e).trans ?_
 rcases sX (fun a=>decide (s=a)) l 0 with⟨h,_⟩ | ⟨k,a,h,_⟩
 ·rw[h]; rfl
 ·rw[h,z9 (by omega)]
  simp only[z8,z12,z68]
theorem Ir(n:Nat)(l:List (List UInt8))(s:List UInt8)(hn:l.length<n)(h2:n<4611686018427387904):dI n l s=some (decide (s∈l)):=by
 unfold dI; rw[Of n l s hn h2]; simp only[z8,z10]; rcases sX (fun a=>decide (s=a)) l 0 with⟨h,h1⟩ | ⟨k,a,h,h1,h3,_⟩
 ·rw[h,z9 (by omega),z9 (fun hm=>by have:=h1 s hm; simp at this)]
 ·simp only[z28]at h3
  subst h3; rw[h,z11 (by omega),z11 (z24 h1)]
def LJ(l:List (List UInt8)):Bool:=zQ (fun i a=> !(decide (a∈l.take i))) 0 l
theorem ON(l:List (List UInt8)):LJ l=true↔l.Nodup:=by
 unfold LJ; rw[Jx,List.Nodup,List.pairwise_iff_getElem]; constructor
 ·intro h i j hi hj hij e
  have:=h j l[j] (z14 hj)
  simp only[z32,z37,z39]at this; exact this (by rw[←e]; exact z143.2 ⟨i,by omega,rfl⟩)
 ·intro h j a ha
  simp only[z32,z37,z39]; intro hm; obtain⟨i,hi,e⟩:=z143.1 hm; obtain⟨hj,rfl⟩:=z95.1 ha
  exact h i j (by omega) hj (by omega) e
theorem GD{α:Type}{l:List α}{i:Nat}(h:i≤l.length):sub l none (some (i:Int))=some (l.take i):=by
 unfold sub bnd; rw[z19 ⟨by simp,by simp only[z160,z63]; omega,by simp only[z63]; omega⟩]
 simp
theorem Ji(n:Nat)(l:List (List UInt8))(s:List UInt8)(hn:l.length<n)(h2:n<4611686018427387904):fJ n l s=some (decide (s∈l)):=by
 unfold fJ; have e:=xE (body:=jC n l s) l (fun a=>decide (a=s)) (fun i=>(i:Int)) (fun i=>Sum.inl true) (Sum.inr ((l.length:Int),false)) (fun i a ha=>by
  have hi:=gG ha; simp only[jC,eT ha,z17,dR,ha,z8,bC (show i<4611686018427387904 by omega)]
  cases decide (a=s)<;>rfl) (by simp only[jC,bB,z12]) hn
 refine(congrArg (fun q=>Option.bind q _) e).trans ?_
 rcases sX (fun a=>decide (a=s)) l 0 with⟨h,h1⟩ | ⟨k,a,h,h1,h3,_⟩
 ·rw[h,z11 (show(-1:Int)<0 by omega),z9 (show ¬ s∈l from fun hm=>by have:=h1 s hm; simp at this)]; rfl
 ·simp only[z28]at h3
  subst h3; rw[h,z9 (by omega),z11 (z24 h1)]
  rfl
theorem Gr(n:Nat)(l:List (List UInt8))(hn:l.length<n)(h2:n<4611686018427387904):jJ n l=some (LJ l):=by
 unfold jJ; rw[Ae l (fun i a=> !(decide (a∈l.take i))) (fun i a ha=>by
  have hi:=gG ha; simp only[kL,eT ha,z17,dR,ha,z8,bC (show i<4611686018427387904 by omega),GD (show i≤l.length by omega),Ji n (l.take i) a (by rw[z38]; omega) h2]
  cases decide (a∈l.take i)<;>rfl) (by simp only[kL,bB,z12]) hn]
 unfold LJ; cases zQ (fun i a=> !(decide (a∈l.take i))) 0 l<;>rfl
def uI(k m:Int)(s:List UInt8)(len:Nat):Bool:=
 bif decide (k=1)then((decide (-1000000000000≤m)&&decide (m≤1000000000000))&&decide (s=[]))&&decide ((len:Int)=0)
 else bif decide (k=2)then(tG s&&decide (m=0))&&decide ((len:Int)=0)
 else bif decide (k=3)then((decide (0≤m)&&decide (m≤1000000))&&decide (s=[]))&&decide ((len:Int)=0)
 else bif decide (k=4)then(decide (m=0)&&decide (s=[]))&&decide ((len:Int)≤20)
 else bif decide (k=5)then(decide (m=0)&&decide (s=[]))&&decide ((len:Int)≤60)
 else false
theorem KY(n:Nat)(k m:Int)(s:List UInt8)(l:List aB)(h:s.length<n)(hn:s.length<4611686018427387904):kG n k m s l=some (uI k m s l.length):=by
 unfold kG uI; rw[vC n s h hn]; simp only[sI,z8]; cases decide (k=1)<;>cases decide (k=2)<;>cases decide (k=3)<;>cases decide (k=4)<;>cases decide (k=5)<;>cases decide (-1000000000000≤m)<;>cases decide (m≤1000000000000)<;>cases decide (s=[])<;>cases decide (m=0)<;>cases decide (0≤m)<;>cases decide (m≤1000000)<;>cases tG s<;>rfl
theorem KQ(n:Nat)(k m:Int)(s:List UInt8)(l:List aB)(h:s.length<n)(hn:s.length<4611686018427387904):fC n k m s l=some (uI k m s l.length):=by
 unfold fC uI; rw[vG n s h hn]; simp only[tY,z8]; cases decide (k=1)<;>cases decide (k=2)<;>cases decide (k=3)<;>cases decide (k=4)<;>cases decide (k=5)<;>cases decide (-1000000000000≤m)<;>cases decide (m≤1000000000000)<;>cases decide (s=[])<;>cases decide (m=0)<;>cases decide (0≤m)<;>cases decide (m≤1000000)<;>cases tG s<;>rfl
mutual
def cnt:aB→Nat
 | .mk _ _ _ l=>1+rR l
def rR:List aB→Nat
 | []=>0
 | x::r=>cnt x+rR r
end
theorem Em(x:aB):1≤cnt x:=by cases x; simp only[cnt]; omega
theorem oM(x:aB)(r:List aB):rR (x::r)=cnt x+rR r:=by simp only[rR]
def okD:Nat→aB→Bool
 | 0,_=>false
 | d+1,x=>uI x.f0 x.f1 x.f2 x.f3.length&&x.f3.all (okD d)
def okN(d:Nat)(m:Int)(x:aB):Bool:=okD d x&&decide ((cnt x:Int)≤m)
def pW(x:aB):Bool:=okN 8 300 x
def JF(d:Nat)(m:Int)(l:List aB):Bool:=l.all (okD d)&&decide ((rR l:Int)≤m)
theorem JY(d:Nat){m:Int}(h:0≤m):JF d m []=true:=by
 simp [JF,rR,h]
theorem Gf(d:Nat)(m:Int)(x:aB)(r:List aB)(h:0≤m):JF d m (x::r)=(okN d m x&&JF d (m - cnt x) r):=by
 unfold JF okN; rw[oM,NJ]; by_cases h1:(rR r:Int)≤m - cnt x
 ·rw[z11 h1,z11 (show(cnt x:Int)≤m by omega),z11 (by omega)]
  cases okD d x<;>cases r.all (okD d)<;>rfl
 ·rw[z9 h1,z9 (show ¬ ((cnt x+rR r:Nat):Int)≤m by omega)]
  cases okD d x<;>cases r.all (okD d)<;>simp
theorem PP(d:Nat)(m:Int)(a0 a1:Int)(a2:List UInt8)(a3:List aB):okN (d+1) m (.mk a0 a1 a2 a3)=(uI a0 a1 a2 a3.length&&JF d (m - 1) a3):=by
 unfold okN JF; have e:cnt (.mk a0 a1 a2 a3)=1+rR a3:=by simp only[cnt]
 rw[e]; have e2:okD (d+1) (.mk a0 a1 a2 a3)=(uI a0 a1 a2 a3.length&&a3.all (okD d)):=rfl; rw[e2,TF]; congr 2
 by_cases h:(rR a3:Int)≤m - 1
 ·rw[z11 h,z11 (by omega)]
 ·rw[z9 h,z9 (by omega)]
theorem DK{d:Nat}{m:Int}{x:aB}(h:okN d m x=true):(cnt x:Int)≤m:=by
 unfold okN at h; simp only[z7,z28]at h; exact h.2
def mv(d:Nat)(x:aB):Int:=bif okN d 300 x then cnt x else 301
theorem mv_le(d:Nat)(x:aB):1≤mv d x∧mv d x≤301:=by
 unfold mv; cases h:okN d 300 x with
 | true=>have:=DK h; have:=Em x; simp only[z17]; omega
 | false=>simp only[z12]; omega
def Ks(d:Nat)(t:Int)(a:aB):Int⊕Unit:=bif decide (300<t+mv d a)then .inr ()else .inl (t+mv d a)
theorem AO(d:Nat): ∀(l:List aB) (t:Int),0≤t→t≤300→nK (Ks d) l t=bif JF d (300 - t) l then .inl (t+rR l)else .inr ()
 | [],t,h0,h1=>by rw[JY d (by omega)]; simp [nK,rR]
 | a::r,t,h0,h1=>by
  rw[Gf d _ _ _ (by omega)]
  have ec:=oM a r; generalize rR (a::r)=q at ec ⊢; have hp:=Em a; simp only[nK]; have key:okN d (300 - t) a=(okN d 300 a&&decide (t+cnt a≤300)):=by
   unfold okN; rw[TF]; congr 1
   by_cases h:(cnt a:Int)≤300 - t
   ·rw[z11 h,z11 (show(cnt a:Int)≤300 by omega),z11 (by omega)]; rfl
   ·rw[z9 h,z9 (show ¬ t+(cnt a:Int)≤300 by omega),z87]
  rw[key]; unfold Ks mv; cases h:okN d 300 a with
  | false=>
   rw[z12,z11 (by omega)]; rfl
  | true=>
   rw[z17,z44]; by_cases h2:t+(cnt a:Int)≤300
   ·rw[z11 h2,z9 (by omega),z12,z44]
    have ih:=AO d r (t+cnt a) (by omega) h2
    unfold Ks mv at ih; simp only; rw[ih,show(300 - t - (cnt a:Int))=300 - (t+cnt a)by omega,show t+(q:Int)=t+cnt a+rR r by omega]
   ·rw[z9 h2,z11 (by omega)]; rfl

theorem EF: ∀(n:Nat) (a0 a1:Int) (a2:List UInt8) (a3:List aB) (d:Nat),d≤8→aR (.mk a0 a1 a2 a3)<n→n<4611686018427387904→bR n a0 a1 a2 a3 (9 - (d:Int))=some (mv d (.mk a0 a1 a2 a3))
 | 0,a0,a1,a2,a3,d,hd,h,_=>by omega
 | n+1,a0,a1,a2,a3,d,hd,h,hn=>by
  rw[rL]; unfold eV; simp only[aR,eK]at h; have hl:=aW aR a3; rw[KQ n a0 a1 a2 a3 (by omega) (by omega)]
  cases d with
  | zero=>
   rw[z11 (show(8:Int)<9 - ((0:Nat):Int)by omega)]
   rfl
  | succ d=>
   rw[z9 (show ¬ (8:Int)<9 - ((d+1:Nat):Int)by omega)]
   have ec:cnt (.mk a0 a1 a2 a3)=1+rR a3:=by simp only[cnt]
   unfold mv; rw[PP]; generalize cnt (.mk a0 a1 a2 a3)=q at ec ⊢; simp only[z12,z8]; cases hs:uI a0 a1 a2 a3.length with
   | false=>rfl
   | true=>
    simp only[z34,z12,z44]; have h1:=Gl (body:=cM n (bR n) (9 - ((d+1:Nat):Int)) a3) a3 (Ks d) (fun t i=>(t,(i:Int))) (fun t=> .inr (t,(a3.length:Int),false)) (fun _=> .inl 301) (fun t=>1≤t∧t≤300) (fun i a t ha ht=>by
     have hm:=dZ aR (z24 ha); have hi:=gG ha; have e:IntKind.wrap .i64 (9 - ((d+1:Nat):Int)+1)=9 - (d:Int):=by rw[wrap_i64 (by omega) (by omega)]; omega
     have ih:=EF n a.f0 a.f1 a.f2 a.f3 d (by omega) (by rw[aQ]; omega) (by omega)
     rw[aQ]at ih; simp only[cM,eT ha,z17,dR,ha,z8,e,ih,bC (show i<4611686018427387904 by omega)]
     have hb:=mv_le d a; rw[wrap_i64 (n:=t+mv d a) (by omega) (by omega)]
     unfold Ks; generalize mv d a=g at hb; by_cases q:300<t+g
     ·right; exact⟨(),by rw[z11 q]; rfl,by rw[z11 q,z17]⟩
     ·left; exact⟨t+g,by rw[z9 q]; rfl,by omega,by rw[z9 q,z12]⟩) (fun t _=>by simp only[cM,bB,z12]) (n:=n) (by omega) (t0:=1) ⟨by omega,by omega⟩
    rw[AO d a3 1 (by omega) (by omega)]at h1
    have h1:loopN (cM n (bR n) (9 - ((d+1:Nat):Int)) a3) n ((1:Int),(0:Int))=_:=h1; rw[h1]; cases JF d (300 - 1) a3 with
    | true=>simp only[z17,z8,z10]; omega
    | false=>rfl
theorem vF(n:Nat)(a0 a1:Int)(a2:List UInt8)(a3:List aB)(h:aR (.mk a0 a1 a2 a3)<n)(hn:n<4611686018427387904):fT n a0 a1 a2 a3=some (pW (.mk a0 a1 a2 a3)):=by
 unfold fT pW; have h1:=EF n a0 a1 a2 a3 8 (by omega) h hn
 have h1:bR n a0 a1 a2 a3 (1:Int)=_:=h1; rw[h1]; unfold mv; simp only[z8,z10]; cases q:okN 8 300 (.mk a0 a1 a2 a3)with
 | true=>have:=DK q; rw[z17]; exact z11 this
 | false=>rfl

def lk(d:Nat)(x:aB)(t:Int):Int:=bif okN d t x then t - cnt x else -1
def lks(d:Nat)(l:List aB)(t:Int):Int:=bif JF d t l then t - rR l else -1
def DB(d:Nat)(t:Int)(a:aB):Int⊕Int:=bif decide (0≤t)then .inl (lk d a t)else .inr t
def La{α:Type}:α⊕α→α
 | .inl a=>a
 | .inr a=>a
theorem Bn(d:Nat): ∀(l:List aB) (t:Int), -1≤t→La (nK (DB d) l t)=bif decide (0≤t)then lks d l t else t
 | [],t,h0=>by
  by_cases h:0≤t
  ·rw[z11 h]; unfold lks; rw[JY d h]; simp [nK,La,rR]
  ·rw[z9 h]; rfl
 | a::r,t,h0=>by
  simp only[nK]; by_cases h:0≤t
  ·have e:DB d t a= .inl (lk d a t):=by unfold DB; rw[z11 h]; rfl
   rw[e,z11 h,z17]; simp only; unfold lks; rw[Gf d t a r h]; have ec:=oM a r; generalize rR (a::r)=q at ec ⊢; unfold lk; cases ha:okN d t a with
   | false=>
    rw[z12,Bn d r _ (by omega)]; rfl
   | true=>
    have:=DK ha; rw[z17,Bn d r _ (by omega),z11 (by omega),z17,z44]
    unfold lks; rw[show t - (q:Int)=t - cnt a - rR r by omega]
  ·have e:DB d t a= .inr t:=by unfold DB; rw[z9 h]; rfl
   rw[e,z9 h]; rfl
theorem Lw: ∀(n:Nat) (a0 a1:Int) (a2:List UInt8) (a3:List aB) (d:Nat) (t:Int),d≤8→ -1≤t→t≤300→aR (.mk a0 a1 a2 a3)<n→n<4611686018427387904→eD n a0 a1 a2 a3 (d:Int) t=some (lk d (.mk a0 a1 a2 a3) t)
 | 0,a0,a1,a2,a3,d,t,hd,_,_,h,_=>by omega
 | n+1,a0,a1,a2,a3,d,t,hd,t0,t1,h,hn=>by
  rw[yO]; unfold lM; simp only[aR,eK]at h; have hl:=aW aR a3; rw[KY n a0 a1 a2 a3 (by omega) (by omega)]
  have hp:=Em (.mk a0 a1 a2 a3); cases d with
  | zero=>
   rw[z11 (show((0:Nat):Int)<1 by omega)]
   rfl
  | succ d=>
   rw[z9 (show ¬ ((d+1:Nat):Int)<1 by omega)]
   by_cases ht:t<1
   ·rw[z11 ht]
    unfold lk; have:okN (d+1) t (.mk a0 a1 a2 a3)=false:=by
     cases q:okN (d+1) t (.mk a0 a1 a2 a3)with
     | false=>rfl
     | true=>have:=DK q; omega
    rw[this]; rfl
   rw[z9 ht]; have ec:cnt (.mk a0 a1 a2 a3)=1+rR a3:=by simp only[cnt]
   unfold lk; rw[PP]; generalize cnt (.mk a0 a1 a2 a3)=q at ec hp ⊢; simp only[z12,z8]; cases hs:uI a0 a1 a2 a3.length with
   | false=>rfl
   | true=>
    simp only[z34,z12,z44]; obtain⟨x,h1,h2⟩:=EG (body:=fM n (eD n) ((d+1:Nat):Int) a3) a3 (DB d) (fun t i=>(t,(i:Int))) (fun t=>(t,(a3.length:Int),false)) (fun q r=>r.1=q) (fun t=> -1≤t∧t≤300) (fun i a t ha ht=>by
     have hm:=dZ aR (z24 ha); have hi:=gG ha; have e:IntKind.wrap .i64 (((d+1:Nat):Int) - 1)=(d:Int):=by rw[wrap_i64 (by omega) (by omega)]; omega
     have ih:=Lw n a.f0 a.f1 a.f2 a.f3 d t (by omega) ht.1 ht.2 (by rw[aQ]; omega) (by omega)
     rw[aQ]at ih; simp only[fM,eT ha,z17,dR,ha,z8,e,ih,bC (show i<4611686018427387904 by omega)]
     unfold DB; by_cases q:0≤t
     ·left
      refine⟨lk d a t,by rw[z11 q]; rfl, ?_,by rw[z11 q,z17]⟩
      unfold lk; have:=Em a; cases q2:okN d t a with
      | false=>rw[z12]; omega
      | true=>have:=DK q2; rw[z17]; omega
     ·right
      exact⟨t,_,by rw[z9 q]; rfl,by rw[z9 q,z12],rfl⟩) (fun t _=>by simp only[fM,bB,z12,z8]) (n:=n) (by omega) (t0:=t - 1) ⟨by omega,by omega⟩
    have h1:loopN (fM n (eD n) ((d+1:Nat):Int) a3) n (t - 1,(0:Int))=_:=h1; rw[wrap_i64 (n:=t - 1) (by omega) (by omega),h1]
    have h3:x.1=La (nK (DB d) a3 (t - 1)):=by
     revert h2
     cases nK (DB d) a3 (t - 1)with
     | inl t'=>intro h2; rw[h2]; rfl
     | inr q=>exact id
    rw[Bn d a3 _ (by omega),z11 (by omega),z17]at h3
    obtain⟨x1,x2,x3⟩:=x; simp only at h3; subst h3; simp only[z8,z10]; unfold lks; cases JF d (t - 1) a3 with
    | true=>simp only[z17]; omega
    | false=>rfl
theorem vB(n:Nat)(a0 a1:Int)(a2:List UInt8)(a3:List aB)(h:aR (.mk a0 a1 a2 a3)<n)(hn:n<4611686018427387904):gP n a0 a1 a2 a3=some (pW (.mk a0 a1 a2 a3)):=by
 unfold gP pW; have h1:=Lw n a0 a1 a2 a3 8 300 (by omega) (by omega) (by omega) h hn
 have h1:eD n a0 a1 a2 a3 (8:Int) 300=_:=h1; rw[h1]; unfold lk; simp only[z8,z10]; cases q:okN 8 300 (.mk a0 a1 a2 a3)with
 | true=>have:=DK q; rw[z17]; exact z11 (by omega)
 | false=>rfl
theorem AT: ∀(n:Nat),n≤1099511627776→(∀(a0 a1:Int) (a2:List UInt8) (a3:List aB),aR (.mk a0 a1 a2 a3)<n→bZ n a0 a1 a2 a3=some (a0,a1,a2,a3))∧ ∀(l:List aB),dl aR l<n→fO n l=some l
 | 0,_=>⟨fun a0 a1 a2 a3 h=>by omega,fun l h=>by omega⟩
 | n+1,hn=>by
  obtain⟨ih1,ih2⟩:=AT n (by omega)
  refine⟨fun a0 a1 a2 a3 h=> ?_,fun l h=> ?_⟩
  ·rw[uW]
   unfold iY; simp only[aR,eK]at h; simp only[ih2 a3 (by omega),z8]
  ·rw[uE]
   unfold iB; have h2:=aW aR l; have hl:=sW (body:=fA n (bZ n) l) (fun i=>(l.take i,(i:Int))) (len:=l.length) (r:=(l,(l.length:Int),false)) (fun i hi=>by
    have ha:l[i]? =some l[i]:=z14 hi
    generalize l[i]=a at ha; have hd:=dZ aR (z24 ha); have hap:fE 56 (l.take i) [aB.mk a.f0 a.f1 a.f2 a.f3]=some (l.take (i+1)):=by
     rw[aQ, ←oH ha]; exact mX (by rw[z38]; simp only[z21]; omega) (by rw[z38]; simp only[z21,maxLen]; omega)
    simp only[fA,eT ha,z17,dR,ha,z8,ih1 a.f0 a.f1 a.f2 a.f3 (by rw[aQ]; omega),hap,bC (show i<4611686018427387904 by omega)]) (by simp only[fA,bB,z12,z93]) (n:=n) (by omega)
   refine(congrArg (fun q=>Option.bind q _) hl).trans ?_
   rfl
theorem CQ(n:Nat){a:aB}(h:aR a<n)(hn:n≤1099511627776):bZ n a.f0 a.f1 a.f2 a.f3=some (a.f0,a.f1,a.f2,a.f3):=(AT n hn).1 _ _ _ _ (by rw[aQ]; exact h)
theorem EI: ∀(n:Nat),n≤1099511627776→ ∀(a0 a1:Int) (a2:List UInt8) (a3:List aB),aR (.mk a0 a1 a2 a3)<n→dA n a0 a1 a2 a3=some (a0,a1,a2,a3)
 | 0,_=>fun a0 a1 a2 a3 h=>by omega
 | n+1,hn=>fun a0 a1 a2 l h=>by
  have ih1:=EI n (by omega)
  rw[yQ]; unfold lO; simp only[aR,eK]at h; have h2:=aW aR l; have hl:=sW (body:=iF n (dA n) l) (fun i=>((i:Int),a0,a1,a2,l.take i)) (len:=l.length) (r:=((l.length:Int),false,a0,a1,a2,l)) (fun i hi=>by
   have ha:l[i]? =some l[i]:=z14 hi
   generalize l[i]=a at ha; have hd:=dZ aR (z24 ha); have hap:fE 56 (l.take i) [aB.mk a.f0 a.f1 a.f2 a.f3]=some (l.take (i+1)):=by
    rw[aQ, ←oH ha]; exact mX (by rw[z38]; simp only[z21]; omega) (by rw[z38]; simp only[z21,maxLen]; omega)
   simp only[iF,eT ha,z17,dR,ha,z8,ih1 a.f0 a.f1 a.f2 a.f3 (by rw[aQ]; omega),hap,bC (show i<4611686018427387904 by omega)]) (by simp only[iF,bB,z12,z93]) (n:=n) (by omega)
  refine(congrArg (fun q=>Option.bind q _) hl).trans ?_
  rfl
theorem Bt(n:Nat){a:aB}(h:aR a<n)(hn:n≤1099511627776):dA n a.f0 a.f1 a.f2 a.f3=some (a.f0,a.f1,a.f2,a.f3):=EI n hn _ _ _ _ (by rw[aQ]; exact h)
def GP(k m:Int)(s:List UInt8)(ne:Int):Bool:=
 bif decide (k=1)then(decide (0≤m)&&decide (m≤1000000000000))&&(decide (s=[])&&decide (ne=0))
 else bif decide (k=2)then decide (m=0)&&(pI s&&decide (ne=0))
 else bif decide (k=3)then decide (m=0)&&(FS s&&decide (ne=0))
 else bif decide (k=4)then decide (m=0)&&(decide (s=[])&&decide (ne≤20))
 else bif decide (k=5)then decide (m=0)&&(decide (s=[])&&decide (ne≤20))
 else bif decide (k=6)then decide (m=0)&&(decide (s=[])&&(decide (2≤ne)&&decide (ne≤6)))
 else bif decide (k=7)then decide (m=0)&&(Np s&&decide (ne=2))
 else bif decide (k=8)then decide (m=0)&&(pI s&&decide (ne≤4))
 else bif decide (k=9)then decide (m=0)&&(decide (s=[])&&decide (ne=1))
 else false
theorem KK(n:Nat)(k m:Int)(s:List UInt8)(ne:Int)(h:s.length<n)(hn:s.length<4611686018427387904):kH n k m s ne=some (GP k m s ne):=by
 unfold kH GP; rw[KG n s h hn,Fc n s h hn,Qr n s]; simp only[tY,z8]; cases decide (k=1)with
 | true=>cases decide (0≤m)<;>cases decide (m≤1000000000000)<;>cases decide (s=[])<;>rfl
 | false=>
 cases decide (k=2)with
 | true=>cases decide (m=0)<;>cases pI s<;>rfl
 | false=>
 cases decide (k=3)with
 | true=>cases decide (m=0)<;>cases FS s<;>rfl
 | false=>
 cases decide (k=4)with
 | true=>cases decide (m=0)<;>cases decide (s=[])<;>rfl
 | false=>
 cases decide (k=5)with
 | true=>cases decide (m=0)<;>cases decide (s=[])<;>rfl
 | false=>
 cases decide (k=6)with
 | true=>cases decide (m=0)<;>cases decide (s=[])<;>rfl
 | false=>
 cases decide (k=7)with
 | true=>cases decide (m=0)<;>cases Np s<;>rfl
 | false=>
 cases decide (k=8)with
 | true=>cases decide (m=0)<;>cases pI s<;>rfl
 | false=>
 cases decide (k=9)with
 | true=>cases decide (m=0)<;>cases decide (s=[])<;>rfl
 | false=>rfl
def shp(pat:Bool)(k m:Int)(s:List UInt8)(ne nc:Int):Bool:=
 bif decide (k=9)then(!pat&&GP k m s ne)&&(decide (1≤nc)&&decide (nc≤6))
 else !decide (0<nc)&&(GP k m s ne&&(bif pat then !decide (6<k)else !(decide (k=3)&&decide (s=[95]))))
theorem KT(n:Nat)(k m:Int)(s:List UInt8)(l:List aA)(c:List aC)(pat:Bool)(h:s.length<n)(hn:s.length<4611686018427387904):kA n k m s l c pat=some (shp pat k m s l.length c.length):=by
 unfold kA shp GP; rw[Mp n s h hn,FY n s h hn,Qo n s]; simp only[sI,z8]; generalize (l.length:Int)=ne; generalize (c.length:Int)=nc; by_cases h1:k=1
 ·subst h1
  cases decide (0<nc)<;>cases decide (0≤m)<;>cases decide (m≤1000000000000)<;>cases decide (s=[])<;>cases decide (ne=0)<;>cases pat<;>rfl
 by_cases h2:k=2
 ·subst h2
  cases decide (0<nc)<;>cases decide (m=0)<;>cases pI s<;>cases decide (ne=0)<;>cases pat<;>rfl
 by_cases h3:k=3
 ·subst h3
  cases decide (0<nc)<;>cases decide (m=0)<;>cases FS s<;>cases decide (ne=0)<;>cases pat<;>cases decide (s=[95])<;>rfl
 by_cases h4:k=4
 ·subst h4
  cases decide (0<nc)<;>cases decide (m=0)<;>cases decide (s=[])<;>cases decide (ne≤20)<;>cases pat<;>rfl
 by_cases h5:k=5
 ·subst h5
  cases decide (0<nc)<;>cases decide (m=0)<;>cases decide (s=[])<;>cases decide (ne≤20)<;>cases pat<;>rfl
 by_cases h6:k=6
 ·subst h6
  cases decide (0<nc)<;>cases decide (m=0)<;>cases decide (s=[])<;>cases decide (2≤ne)<;>cases decide (ne≤6)<;>cases pat<;>rfl
 by_cases h7:k=7
 ·subst h7
  cases decide (0<nc)<;>cases decide (m=0)<;>cases Np s<;>cases decide (ne=2)<;>cases pat<;>rfl
 by_cases h8:k=8
 ·subst h8
  cases decide (0<nc)<;>cases decide (m=0)<;>cases pI s<;>cases decide (ne≤4)<;>cases pat<;>rfl
 by_cases h9:k=9
 ·subst h9
  cases decide (m=0)<;>cases decide (s=[])<;>cases decide (ne=1)<;>cases decide (1≤nc)<;>cases decide (nc≤6)<;>cases pat<;>rfl
 rw[z9 h1,z9 h2,z9 h3,z9 h4,z9 h5,z9 h6,z9 h7,z9 h8,z9 h9]; cases decide (0<nc)<;>cases decide (m=0)<;>rfl
theorem Hs(k m:Int)(s:List UInt8)(ne nc:Int):(!decide (6<k)&&(!decide (0<nc)&&GP k m s ne))=shp true k m s ne nc:=by
 unfold shp; by_cases h9:k=9
 ·subst h9; rfl
 ·rw[z9 h9]
  cases decide (6<k)<;>cases decide (0<nc)<;>cases GP k m s ne<;>rfl

mutual
def nJ:aA→List (List UInt8)
 | .mk k _ s l _=>bif decide (k=3)then(bif decide (s=[95])then []else [s])else iQ l
def iQ:List aA→List (List UInt8)
 | []=> []
 | x::r=>nJ x++iQ r
end
theorem PI(a:aA):nJ a=bif decide (a.f0=3)then(bif decide (a.f2=[95])then []else [a.f2])else iQ a.f3:=by cases a; simp only[nJ]; rfl
theorem GW: ∀(a b:List aA),iQ (a++b)=iQ a++iQ b
 | [],b=>rfl
 | x::r,b=>by simp only[z86,iQ,GW r b,z82]
theorem MT(a:aA):iQ [a]=nJ a:=by simp only[iQ,z90]
mutual
theorem Er: ∀e,(nJ e).length≤aM e
 | .mk k m s l c=>by
  have:=Bf l; simp only[nJ,aM]; cases decide (k=3)<;>cases decide (s=[95])<;>simp<;>omega
theorem Bf: ∀l,(iQ l).length≤yV l
 | []=>by simp [iQ]
 | x::r=>by have:=Er x; have:=Bf r; simp only[iQ,yV,z30]; omega
end
mutual
def mK:aA→Nat
 | .mk _ _ _ l c=>1+kJ l+HM c
def kJ:List aA→Nat
 | []=>0
 | x::r=>mK x+kJ r
def HM:List aC→Nat
 | []=>0
 | x::r=>LL x+HM r
def LL:aC→Nat
 | .two p x=>mK p+mK x
end
theorem LM(a:aA):mK a=1+kJ a.f3+HM a.f4:=by cases a; simp only[mK]; rfl
theorem VR(a:aC):LL a=mK a.p+mK a.x:=by cases a; simp only[LL]; rfl
theorem GU: ∀l,kJ l=Hk mK l
 | []=>rfl
 | x::r=>by simp only[kJ,Hk,GU r]
theorem HA: ∀l,HM l=Hk LL l
 | []=>rfl
 | x::r=>by simp only[HM,Hk,HA r]
def xok:Nat→Bool→aA→Bool
 | 0,_,_=>false
 | d+1,pat,e=>shp pat e.f0 e.f1 e.f2 e.f3.length e.f4.length&&(e.f3.all (xok d pat)&&e.f4.all (fun c=>LJ (nJ c.p)&&(xok d true c.p&&xok d false c.x)))
def cok(d:Nat)(c:aC):Bool:=LJ (nJ c.p)&&(xok d true c.p&&xok d false c.x)
theorem En(d:Nat)(pat:Bool)(e:aA):xok (d+1) pat e=(shp pat e.f0 e.f1 e.f2 e.f3.length e.f4.length&&(e.f3.all (xok d pat)&&e.f4.all (cok d))):=rfl
def uJ(e:aA):Bool:=(xok 10 true e&&decide ((mK e:Int)≤300))&&LJ (nJ e)

def tk(b:Bool)(c:Nat)(t:Int):Int:=bif b&&decide ((c:Int)≤t)then t - c else -1
theorem Ti(b:Bool)(c:Nat){t:Int}(h:t<c):tk b c t= -1:=by
 unfold tk; rw[z9 (by omega),z87]; rfl
theorem Ps(b:Bool)(c:Nat)(t:Int)(h: -1≤t): -1≤tk b c t∧tk b c t≤t:=by
 unfold tk; by_cases q:(b&&decide ((c:Int)≤t))=true
 ·rw[q]
  simp only[z7,z28]at q; simp only[z17]; omega
 ·rw[z92]at q; rw[q]; simp only[z12]; omega
def LH{α:Type}(ok:α→Bool)(c:α→Nat):List α→Int→Int
 | [],t=>t
 | a::r,t=>bif decide (0≤t)then LH ok c r (tk (ok a) (c a) t)else t
theorem Ex{α:Type}(ok:α→Bool)(c:α→Nat): ∀(l:List α) {t:Int},t<0→LH ok c l t=t
 | [],t,h=>rfl
 | a::r,t,h=>by unfold LH; rw[z9 (by omega)]; rfl
theorem Hv{α:Type}(ok:α→Bool)(c:α→Nat): ∀(l:List α) {t:Int},0≤t→LH ok c l t=tk (l.all ok) (Hk c l) t
 | [],t,h=>by
  unfold LH tk; rw[z11 (show((Hk c []:Nat):Int)≤t by simp only[Hk]; omega)]
  simp [Hk]
 | a::r,t,h=>by
  unfold LH; rw[z11 h,z17,NJ]; have e:Hk c (a::r)=c a+Hk c r:=rfl; rw[e]; by_cases q:(ok a&&decide ((c a:Int)≤t))=true
  ·have e1:tk (ok a) (c a) t=t - c a:=by unfold tk; rw[q]; rfl
   simp only[z7,z28]at q; rw[e1,Hv ok c r (by omega),q.1,z44]
   unfold tk; by_cases z:((Hk c r:Nat):Int)≤t - c a
   ·rw[z11 z,z11 (by omega)]
    cases r.all ok
    ·rfl
    ·simp only[Ni,z17]; omega
   ·rw[z9 z,z9 (by omega)]
    cases r.all ok<;>rfl
  ·have e1:tk (ok a) (c a) t= -1:=by unfold tk; rw[z92]at q; rw[q]; rfl
   rw[e1,Ex ok c r (by omega)]
   unfold tk; cases ha:ok a with
   | false=>rfl
   | true=>
    rw[ha,z44,z28]at q; rw[z9 (by omega),z87]; rfl
theorem Bm{α ρ:Type}{body:Int×Int→Option ((Int×Int)⊕ρ)}(l:List α)(ok:α→Bool)(c:α→Nat)(Out:Int→ρ→Prop)(hs: ∀(i:Nat) a (t:Int),l[i]? =some a→0≤t→t≤300→body (t,(i:Int))=some (.inl (tk (ok a) (c a) t,((i+1:Nat):Int)))∨(∃r,body (t,(i:Int))=some (.inr r)∧Out (-1) r∧tk (ok a) (c a) t= -1))
  (hn: ∀(i:Nat) (t:Int),t<0→i<l.length→ ∃r,body (t,(i:Int))=some (.inr r)∧Out t r)(he: ∀t:Int, ∃r,body (t,(l.length:Int))=some (.inr r)∧Out t r): ∀(r:List α) (i:Nat) (t:Int) (n:Nat),l.drop i=r→ -1≤t→t≤300→r.length<n→i≤l.length→ ∃x,loopN body n (t,(i:Int))=some x∧Out (LH ok c r t) x
 | [],i,t,n,hr,h0,h1,hm,hi=>by
  obtain⟨m,rfl⟩: ∃m,n=m+1:=⟨n - 1,by simp at hm; omega⟩
  have:i=l.length:=by
   have:=congrArg List.length hr; simp at this; omega
  subst this; obtain⟨x,h2,h3⟩:=he t; simp only[loopN,h2]; exact⟨x,rfl,h3⟩
 | a::r,i,t,n,hr,h0,h1,hm,hi=>by
  obtain⟨m,rfl⟩: ∃m,n=m+1:=⟨n - 1,by simp at hm; omega⟩
  have hil:i<l.length:=by
   have:=congrArg List.length hr; simp at this; omega
  have ha:l[i]? =some a:=by
   have:=congrArg (·[0]?) hr
   simpa using this
  have hr':l.drop (i+1)=r:=by
   have:=congrArg List.tail hr; simpa using this
  have e:LH ok c (a::r) t=bif decide (0≤t)then LH ok c r (tk (ok a) (c a) t)else t:=rfl
  rw[e]; by_cases q:0≤t
  ·rw[z11 q,z17]
   have hb:=Ps (ok a) (c a) t h0; rcases hs i a t ha q h1 with h2 | ⟨x,h2,h3,h4⟩
   ·simp only[loopN,h2]
    exact Bm l ok c Out hs hn he r (i+1) _ m hr' hb.1 (by omega) (by simp at hm; omega) (by omega)
   ·simp only[loopN,h2]
    rw[h4,Ex ok c r (by omega)]
    exact⟨x,rfl,h3⟩
  ·rw[z9 q,z12]
   obtain⟨x,h2,h3⟩:=hn i t (by omega) hil
   simp only[loopN,h2]; exact⟨x,rfl,h3⟩
theorem jX{α:Type}(w:α→Nat): ∀(l:List α) (i:Nat),dl w (l.take i)≤dl w l
 | [],i=>by simp
 | a::r,0=>by simp only[Pg,dl]; omega
 | a::r,i+1=>by have:=jX w r i; simp only[RX,dl]; omega
theorem mN{α:Type}(w:α→Nat){l:List α}{i:Nat}{a:α}(h:l[i]? =some a):dl w (l.take (i+1))=dl w (l.take i)+1+w a:=by
 rw[←oH h]; generalize l.take i=p; induction p with
 | nil=>simp only[Ph,dl]; omega
 | cons b r ih=>simp only[z86,dl,ih]; omega
theorem qH: ∀(n:Nat),n≤1099511627776→ ∀(a:aA),aM a<n→eE n a.f0 a.f1 a.f2 a.f3 a.f4=some (nJ a)
 | 0,_,a,h=>by omega
 | n+1,hn,a,h=>by
  have ih:=qH n (by omega)
  rw[yR,PI]; unfold lP; rw[mF,eM,cX]at h; have h2:=aW aM a.f3; cases decide (a.f0=3)with
  | true=>
   simp only[z17]; have hap:fE 16 ([]:List (List UInt8)) [a.f2]=some [a.f2]:=mX (by simp) (by simp [maxLen])
   rw[hap]; cases decide (a.f2=[95])<;>rfl
  | false=>
   simp only[z12]; generalize a.f3=l at h h2; have hl:=sW (body:=iG n (eE n) l) (fun i=>(iQ (l.take i),(i:Int))) (len:=l.length) (r:=(iQ l,(l.length:Int),false)) (fun i hi=>by
    have ha:l[i]? =some l[i]:=z14 hi
    generalize l[i]=b at ha; have hd:=dZ aM (z24 ha); have e:iQ (l.take (i+1))=iQ (l.take i)++nJ b:=by rw[←oH ha,GW,MT]
    have hb:=Bf (l.take (i+1)); have hb2:yV (l.take (i+1))≤dl aM l:=by
     rw[eM]; exact jX aM l (i+1)
    rw[e,z30]at hb; have hap:fE 16 (iQ (l.take i)) (nJ b)=some (iQ (l.take (i+1))):=by
     rw[e]; exact mX (by omega) (by simp only[maxLen]; omega)
    simp only[iG,eT ha,z17,dR,ha,z8,ih b (by omega),hap,bC (show i<4611686018427387904 by omega)]) (by simp only[iG,bB,z12,z93]) (n:=n) (by omega)
   refine(congrArg (fun q=>Option.bind q _) hl).trans ?_
   rfl
def val2:Int⊕(Int×Int×Bool)→Int
 | .inl v=>v
 | .inr (v,_,_)=>v
theorem Eo: ∀(n:Nat),n≤1099511627776→ ∀(a:aA) (pat:Bool) (d:Nat) (t:Int),d≤10→ -1≤t→t≤300→aM a<n→bQ n a.f0 a.f1 a.f2 a.f3 a.f4 pat (d:Int) t=some (tk (xok d pat a) (mK a) t)
 | 0,_,a,pat,d,t,hd,t0,t1,h=>by omega
 | n+1,hn,a,pat,d,t,hd,t0,t1,h=>by
  have ih:=Eo n (by omega)
  rw[yL]; unfold lJ; rw[mF,eM,cX]at h; have hl:=aW aM a.f3; have hl2:=aW dF a.f4; rw[KT n a.f0 a.f1 a.f2 a.f3 a.f4 pat (by omega) (by omega)]
  have hp:=LM a; cases d with
  | zero=>
   rw[z11 (show((0:Nat):Int)<1 by omega)]
   have e:tk (xok 0 pat a) (mK a) t= -1:=rfl; rw[e]; rfl
  | succ d=>
   rw[z9 (show ¬ ((d+1:Nat):Int)<1 by omega)]
   by_cases ht:t<1
   ·rw[z11 ht,Ti _ _ (by omega)]; rfl
   rw[z9 ht,En]; generalize mK a=q at hp ⊢; simp only[z12,z8]; cases hs:shp pat a.f0 a.f1 a.f2 a.f3.length a.f4.length with
   | false=>rfl
   | true=>
    simp only[z34,z12,z44]; generalize a.f3=l at h hl hp ⊢; generalize a.f4=c at h hl2 hp ⊢; have e1:IntKind.wrap .i64 (((d+1:Nat):Int) - 1)=(d:Int):=by rw[wrap_i64 (by omega) (by omega)]; omega
    rw[wrap_i64 (n:=t - 1) (by omega) (by omega)]
    obtain⟨x,h1,h2⟩:=Bm (body:=dW n (bQ n) pat ((d+1:Nat):Int) l) l (xok d pat) mK (fun t r=>r.1=t) (fun i b t hb q0 q1=>by
     have hm:=dZ aM (z24 hb); have hi:=gG hb; left
     simp only[dW,eT hb,z17,dR,hb,z8,z11 q0,e1,ih b pat d t (by omega) (by omega) q1 (by omega),bC (show i<4611686018427387904 by omega)]) (fun i t ht hi=>⟨(t,(i:Int),false),by
      simp only[dW,z11 (show(i:Int)<(l.length:Int)by omega),z17,z8,z9 (show ¬ 0≤t by omega),z12],rfl⟩) (fun t=>⟨(t,(l.length:Int),false),by simp only[dW,bB,z12,z8],rfl⟩) l 0 (t - 1) n rfl (by omega) (by omega) (by omega) (by omega)
    have h1:loopN (dW n (bQ n) pat ((d+1:Nat):Int) l) n (t - 1,(0:Int))=some x:=h1; rw[h1]; obtain⟨x1,x2,x3⟩:=x; simp only at h2; subst h2; simp only[z8]; rw[Hv (xok d pat) mK l (by omega), ←GU]
    have hb:=Ps (l.all (xok d pat)) (kJ l) (t - 1) (by omega)
    obtain⟨y,h3,h4⟩:=Bm (body:=dV n (bQ n) ((d+1:Nat):Int) c) c (cok d) LL (fun t r=>val2 r=t) (fun i b t hc q0 q1=>by
     have hm:=dZ dF (z24 hc); have hi:=gG hc; have hw:=wV b; have v1:eE n b.f0 b.f1 b.f2 b.f3 b.f4=some (nJ b.p):=qH n (by omega) b.p (by omega)
     have hvl:=Er b.p; have v2:bQ n b.f0 b.f1 b.f2 b.f3 b.f4 true (d:Int) t=some (tk (xok d true b.p) (mK b.p) t):=ih b.p true d t (by omega) (by omega) q1 (by omega)
     have hb1:=Ps (xok d true b.p) (mK b.p) t (by omega)
     have v3:bQ n b.f5 b.f6 b.f7 b.f8 b.f9 false (d:Int) (tk (xok d true b.p) (mK b.p) t)=some (tk (xok d false b.x) (mK b.x) (tk (xok d true b.p) (mK b.p) t)):=ih b.x false d _ (by omega) hb1.1 (by omega) (by omega)
     have hcc:=VR b; have hpp:=LM b.p; unfold cok; simp only[dV,eT hc,z17,dR,hc,z8,z11 q0,v1,Gr n (nJ b.p) (by omega) (by omega),e1,v2,v3,bC (show i<4611686018427387904 by omega)]
     cases ho:LJ (nJ b.p)with
     | false=>
      right
      exact⟨.inl (-1),rfl,rfl,by unfold tk; rfl⟩
     | true=>
      left
      simp only[z34,z12,z44]; by_cases g:0≤tk (xok d true b.p) (mK b.p) t
      ·rw[z11 g]
       simp only[z17,z8,z10,Sum.inl.injEq,z48,and_true]; unfold tk at g ⊢; cases hx:xok d true b.p with
       | false=>rw[hx]at g; simp at g
       | true=>
        rw[hx,z44]at g; simp only[z44]; by_cases z:(mK b.p:Int)≤t
        ·rw[z11 z,z17]
         by_cases z2:(mK b.x:Int)≤t - mK b.p
         ·rw[z11 z2,z11 (show(LL b:Int)≤t by omega)]
          cases xok d false b.x
          ·rfl
          ·simp only[Ni,z17]; omega
         ·rw[z9 z2,z9 (show ¬ (LL b:Int)≤t by omega)]
          cases xok d false b.x<;>rfl
        ·rw[z9 z]at g; simp at g
      ·rw[z9 g]
       have g1:tk (xok d true b.p) (mK b.p) t= -1:=by omega
       simp only[z12,z8,z10,Sum.inl.injEq,z48,and_true]; rw[g1]; unfold tk at g ⊢; cases hx:xok d true b.p with
       | false=>rfl
       | true=>
        rw[hx,z44]at g; by_cases z:(mK b.p:Int)≤t
        ·rw[z11 z,z17]at g; omega
        ·rw[z9 (show ¬ (LL b:Int)≤t by omega),z87]; rfl) (fun i t ht hi=>⟨.inr (t,(i:Int),false),by
      simp only[dV,z11 (show(i:Int)<(c.length:Int)by omega),z17,z8,z9 (show ¬ 0≤t by omega),z12],rfl⟩) (fun t=>⟨.inr (t,(c.length:Int),false),by simp only[dV,bB,z12,z8],rfl⟩) c 0 (tk (l.all (xok d pat)) (kJ l) (t - 1)) n rfl hb.1 (by omega) (by omega) (by omega)
    have h3:loopN (dV n (bQ n) ((d+1:Nat):Int) c) n (tk (l.all (xok d pat)) (kJ l) (t - 1),(0:Int))=some y:=h3; rw[h3]; simp only[z8]; have h5:some (val2 y)=some (tk (l.all (xok d pat)&&c.all (cok d)) q t):=by
     rw[h4]; congr 1
     by_cases g:0≤tk (l.all (xok d pat)) (kJ l) (t - 1)
     ·rw[Hv (cok d) LL c g, ←HA]
      unfold tk at g ⊢; cases hx:l.all (xok d pat)with
      | false=>rw[hx]at g; simp at g
      | true=>
       rw[hx,z44]at g; simp only[z44]; by_cases z:(kJ l:Int)≤t - 1
       ·rw[z11 z,z17]
        by_cases z2:(HM c:Int)≤t - 1 - kJ l
        ·rw[z11 z2,z11 (show(q:Int)≤t by omega)]
         cases c.all (cok d)
         ·rfl
         ·simp only[Ni,z17]; omega
        ·rw[z9 z2,z9 (show ¬ (q:Int)≤t by omega)]
         cases c.all (cok d)<;>rfl
       ·rw[z9 z]at g; simp at g
     ·have g1:tk (l.all (xok d pat)) (kJ l) (t - 1)= -1:=by omega
      rw[g1,Ex _ _ _ (by omega)]
      unfold tk at g ⊢; cases hx:l.all (xok d pat)with
      | false=>rfl
      | true=>
       rw[hx,z44]at g; by_cases z:(kJ l:Int)≤t - 1
       ·rw[z11 z,z17]at g; omega
       ·rw[z9 (show ¬ (q:Int)≤t by omega),z87]; rfl
    rw[←h5]; rcases y with v | ⟨v,i,b⟩<;>rfl
def fr:List (List UInt8)→List (List UInt8)→Bool
 | _,[]=>true
 | P,v::r=> !decide (v∈P)&&fr (P++[v]) r
theorem PZ: ∀(V W P:List (List UInt8)),fr P (V++W)=(fr P V&&fr (P++V) W)
 | [],W,P=>by simp [fr]
 | v::V,W,P=>by
  simp only[z86,fr,PZ V W (P++[v]),z82,TF,Ph]
theorem LY: ∀(V P:List (List UInt8)),P.Nodup→(fr P V=true↔(P++V).Nodup)
 | [],P,h=>by simp [fr,h]
 | v::V,P,h=>by
  simp only[fr,z7,z37,z39]; have e:P++v::V=(P++[v])++V:=by simp
  constructor
  ·rintro ⟨h1,h2⟩
   have hn:(P++[v]).Nodup:=by
    rw[z151]; exact⟨h,by simp,fun a ha b hb=>by simp only[z64]at hb; subst hb; exact fun e=>h1 (e ▸ ha)⟩
   rw[e]; exact(LY V _ hn).1 h2
  ·intro h2
   rw[e]at h2; have hn:=(z151.1 h2).1; refine⟨fun hm=> ?_,(LY V _ hn).2 h2⟩
   exact(z151.1 hn).2.2 v hm v (by simp) rfl
theorem UH(V:List (List UInt8)):fr [] V=LJ V:=by
 rw[TJ,LY V [] TG,ON]; simp

mutual
theorem JM: ∀e,(nJ e).length≤mK e
 | .mk k m s l c=>by
  have:=GV l; simp only[nJ,mK]; cases decide (k=3)<;>cases decide (s=[95])<;>simp<;>omega
theorem GV: ∀l,(iQ l).length≤kJ l
 | []=>by simp [iQ]
 | x::r=>by have:=JM x; have:=GV r; simp only[iQ,kJ,z30]; omega
end
abbrev JS:=Int×List (List UInt8)
def KD(d:Nat)(t:JS)(a:aA):JS⊕Unit:=bif xok d true a&&(decide (t.1+mK a≤300)&&fr t.2 (nJ a))then .inl (t.1+mK a,t.2++nJ a)else .inr ()
theorem Gs(d:Nat): ∀(l:List aA) (t:JS),t.1≤300→nK (KD d) l t=bif l.all (xok d true)&&(decide (t.1+kJ l≤300)&&fr t.2 (iQ l))then .inl (t.1+kJ l,t.2++iQ l)else .inr ()
 | [],t,h=>by
  have e:decide (t.1+((kJ []:Nat):Int)≤300)=true:=z11 (by simp only[kJ]; omega)
  rw[e]; simp [nK,iQ,fr,kJ]
 | a::r,t,h=>by
  simp only[nK]; have e1:kJ (a::r)=mK a+kJ r:=by simp only[kJ]
  have e2:iQ (a::r)=nJ a++iQ r:=by simp only[iQ]
  rw[e1,e2,PZ,NJ]; by_cases q:(xok d true a&&(decide (t.1+mK a≤300)&&fr t.2 (nJ a)))=true
  ·have e3:KD d t a= .inl (t.1+mK a,t.2++nJ a):=by unfold KD; rw[q]; rfl
   simp only[z7,z28]at q; obtain⟨q1,q2,q3⟩:=q; rw[e3,q1,q3,z44,z44]; simp only; rw[Gs d r _ q2]; simp only; rw[show t.1+((mK a+kJ r:Nat):Int)=t.1+mK a+kJ r by omega,z82]
  ·have e3:KD d t a= .inr ():=by unfold KD; rw[z92]at q; rw[q]; rfl
   rw[e3]; simp only; cases h1:xok d true a with
   | false=>rfl
   | true=>
    rw[h1,z44]at q; cases h3:fr t.2 (nJ a)with
    | false=>cases r.all (xok d true)<;>simp
    | true=>
     rw[h3,Ni,z28]at q; rw[z9 (show ¬ t.1+((mK a+kJ r:Nat):Int)≤300 by omega)]
     cases r.all (xok d true)<;>rfl
def jv:(Bool×Int×List (List UInt8))⊕(Int×Bool×Int×List (List UInt8))→Option (Bool×Int×List (List UInt8))
 | .inl (v,w,z)=>some (v,w,z)
 | .inr (_,_,w,z)=>some (true,w,z)
def pJ(b:Bool)(c:Int)(ns:List (List UInt8))(r:Bool×Int×List (List UInt8)):Prop:=r.1=b∧(b=true→r.2=(c,ns))
theorem AR: ∀(n:Nat),n≤1099511627776→ ∀(a:aA) (d:Nat) (c:Int) (ns:List (List UInt8)),d≤10→0≤c→c≤300→(ns.length:Int)≤c→aM a+400<n→ ∃r,bT n a.f0 a.f1 a.f2 a.f3 a.f4 (11 - (d:Int)) c ns=some r∧pJ (xok d true a&&(decide (c+mK a≤300)&&fr ns (nJ a))) (c+mK a) (ns++nJ a) r
 | 0,_,a,d,c,ns,hd,c0,c1,hns,h=>by omega
 | n+1,hn,a,d,c,ns,hd,c0,c1,hns,h=>by
  have ih:=AR n (by omega)
  rw[uD]; unfold iA; rw[mF,eM,cX]at h; have hl:=aW aM a.f3; have hp:=LM a; have hv:=PI a; rw[KK n _ _ _ _ (by omega) (by omega),wrap_i64 (n:=c+1) (by omega) (by omega)]
  cases d with
  | zero=>
   rw[z11 (show(10:Int)<11 - ((0:Nat):Int)by omega)]
   exact⟨_,rfl,rfl,fun h=>by cases h⟩
  | succ d=>
   rw[z9 (show ¬ (10:Int)<11 - ((d+1:Nat):Int)by omega),En]
   by_cases ht:300<c+1
   ·rw[z11 ht,z9 (show ¬ c+(mK a:Int)≤300 by omega)]
    refine⟨_,rfl, ?_, ?_⟩<;>cases shp true a.f0 a.f1 a.f2 a.f3.length a.f4.length<;>cases (a.f3.all (xok d true)&&a.f4.all (cok d))<;>simp
   rw[z9 ht]; have hsp:=Hs a.f0 a.f1 a.f2 a.f3.length a.f4.length; cases hs:shp true a.f0 a.f1 a.f2 a.f3.length a.f4.length with
   | false=>
    rw[hs]at hsp; refine⟨(false,c+1,ns), ?_,rfl,fun h=>by cases h⟩
    revert hsp
    cases decide (6<a.f0)<;>cases decide ((0:Int)<a.f4.length)<;>cases GP a.f0 a.f1 a.f2 a.f3.length<;>intro hsp<;>first | rfl | cases hsp
   | true=>
    rw[hs]at hsp; simp only[z7,z37]at hsp; obtain⟨p1,p2,p3⟩:=hsp; have hc0:a.f4=[]:=by
     rw[z39]at p2; cases hx:a.f4 with
     | nil=>rfl
     | cons x r=>rw[hx]at p2; simp only[z43]at p2; omega
    rw[p1,p2,p3]; have hcc:a.f4.all (cok d)=true:=by rw[hc0]; rfl
    have hcn:HM a.f4=0:=by rw[hc0]; rfl
    rw[hcc,Ni]; simp only[z12,z8,z34,z44]; generalize mK a=q at hp ⊢; have e1:IntKind.wrap .i64 (11 - ((d+1:Nat):Int)+1)=11 - (d:Int):=by rw[wrap_i64 (by omega) (by omega)]; omega
    have loop: ∀(l:List aA),dl aM l+401≤n→ ∀(body:Int×Int×List (List UInt8)→Option ((Int×Int×List (List UInt8))⊕((Bool×Int×List (List UInt8))⊕(Int×Bool×Int×List (List UInt8))))),(∀(i:Nat) b (t:JS),l[i]? =some b→body ((i:Int),t.1,t.2)=(bT n b.f0 b.f1 b.f2 b.f3 b.f4 (11 - (d:Int)) t.1 t.2).bind fun r=>bif !r.1 then some (.inr (.inl (false,r.2.1,r.2.2)))else some (.inl (((i+1:Nat):Int),r.2.1,r.2.2)))→(∀t:JS,body ((l.length:Int),t.1,t.2)=some (.inr (.inr ((l.length:Int),false,t.1,t.2))))→
      ∀t0:JS,0≤t0.1→t0.1≤300→(t0.2.length:Int)≤t0.1→ ∃x,loopN body n ((0:Int),t0.1,t0.2)=some x∧(match nK (KD d) l t0 with | .inl t=>x= .inr ((l.length:Int),false,t.1,t.2) | .inr _=> ∃u v,x= .inl (false,u,v)):=by
     intro l hw body hs he t0 g0 g1 g2; have hll:=aW aM l; obtain⟨x,x1,x2⟩:=EG (body:=body) l (KD d) (fun t i=>((i:Int),t.1,t.2)) (fun t=> .inr ((l.length:Int),false,t.1,t.2)) (fun _ x=> ∃u v,x= .inl (false,u,v)) (fun t=>0≤t.1∧t.1≤300∧(t.2.length:Int)≤t.1) (fun i b t hb ht=>by
      have hm:=dZ aM (z24 hb); obtain⟨r,r1,r2,r3⟩:=ih b d t.1 t.2 (by omega) ht.1 ht.2.1 ht.2.2 (by omega)
      rw[hs i b t hb,r1]; unfold KD; obtain⟨rb,rc,rn⟩:=r; simp only at r2 r3; simp only[z8]; rw[r2]; by_cases hz:(xok d true b&&(decide (t.1+mK b≤300)&&fr t.2 (nJ b)))=true
      ·left
       have r4:=r3 hz; simp only[z48]at r4; obtain⟨rfl,rfl⟩:=r4; rw[hz]; simp only[z7,z28]at hz; have hvc:=JM b; refine⟨_,rfl,⟨?_,hz.2.1, ?_⟩,rfl⟩
       ·show 0≤t.1+(mK b:Int); omega
       ·show((t.2++nJ b).length:Int)≤t.1+(mK b:Int)
        rw[z30]; omega
      ·right
       rw[z92]at hz; rw[hz]; exact⟨(),_,rfl,rfl,_,_,rfl⟩) (fun t _=>he t) (n:=n) (by omega) (t0:=t0) ⟨g0,g1,g2⟩
     refine⟨x,x1, ?_⟩
     revert x2
     cases nK (KD d) l t0<;>exact id
    have fin: ∀(t0:JS) (x:(Bool×Int×List (List UInt8))⊕(Int×Bool×Int×List (List UInt8))),t0.1=c+1→(match nK (KD d) a.f3 t0 with | .inl t=>x= .inr ((a.f3.length:Int),false,t.1,t.2) | .inr _=> ∃u v,x= .inl (false,u,v))→
      ∃r,jv x=some r∧pJ (a.f3.all (xok d true)&&(decide (c+(q:Int)≤300)&&fr t0.2 (iQ a.f3))) (c+q) (t0.2++iQ a.f3) r:=by
     intro t0 x e0 hx; rw[Gs d a.f3 t0 (by omega),e0,show c+1+(kJ a.f3:Int)=c+q by omega]at hx
     cases hz:(a.f3.all (xok d true)&&(decide (c+(q:Int)≤300)&&fr t0.2 (iQ a.f3)))with
     | true=>
      rw[hz]at hx; simp only[z17]at hx; subst hx; exact⟨_,rfl,rfl,fun _=>rfl⟩
     | false=>
      rw[hz]at hx; simp only[z12]at hx; obtain⟨u,v,rfl⟩:=hx; exact⟨_,rfl,rfl,fun h=>by cases h⟩
    by_cases h3:a.f0=3
    ·have hne:a.f3=[]:=by
      rw[h3]at p3; have e:GP 3 a.f1 a.f2 a.f3.length=(decide (a.f1=0)&&(FS a.f2&&decide ((a.f3.length:Int)=0))):=rfl; rw[e]at p3; simp only[z7,z28]at p3; have:=p3.2.2; cases hx:a.f3 with
      | nil=>rfl
      | cons x r=>rw[hx]at this; simp only[z43]at this; omega
     rw[z11 h3]; rw[z11 h3]at hv; simp only[z17]at hv; rw[hv]; have hvs:iQ a.f3=[]:=by rw[hne]; rfl
     cases hu:decide (a.f2=[95])with
     | true=>
      simp only[z34,z17,z8,z12]; obtain⟨x,x1,x2⟩:=loop a.f3 (by omega) (cB n (bT n) (11 - ((d+1:Nat):Int)) a.f3) (fun i b t hb=>by
       have hi:=gG hb; simp only[cB,eT hb,z17,dR,hb,z8,e1,bC (show i<4611686018427387904 by omega)]) (fun t=>by simp only[cB,bB,z12]) (c+1,ns) (by show 0≤c+1; omega) (by show c+1≤300; omega) (by show(ns.length:Int)≤c+1; omega)
      have f:=fin (c+1,ns) x rfl x2; rw[hvs]at f; rw[x1]; obtain⟨r,f1,f2⟩:=f; exact⟨r,by rcases x with⟨u,v,w⟩ | ⟨u,v,w,z⟩<;>exact f1,f2⟩
     | false=>
      simp only[z76,z17,z8]; rw[Ir n ns a.f2 (by omega) (by omega)]
      simp only[z8]; cases hm:decide (a.f2∈ns)with
      | true=>
       have e6:fr ns [a.f2]=false:=by simp only[fr,hm]; rfl
       have e7:(a.f3.all (xok d true)&&(decide (c+(q:Int)≤300)&&fr ns [a.f2]))=false:=by rw[e6]; cases a.f3.all (xok d true)<;>simp
       rw[z12,e7]; exact⟨_,rfl,rfl,fun h=>by cases h⟩
      | false=>
       have hap:fE 16 ns [a.f2]=some (ns++[a.f2]):=mX (by simp only[z21]; omega) (by simp only[z21,maxLen]; omega)
       rw[hap]; simp only[z12,z8]; obtain⟨x,x1,x2⟩:=loop a.f3 (by omega) (eZ n (bT n) (11 - ((d+1:Nat):Int)) a.f3) (fun i b t hb=>by
        have hi:=gG hb; simp only[eZ,eT hb,z17,dR,hb,z8,e1,bC (show i<4611686018427387904 by omega)]) (fun t=>by simp only[eZ,bB,z12]) (c+1,ns++[a.f2]) (by show 0≤c+1; omega) (by show c+1≤300; omega) (by show((ns++[a.f2]).length:Int)≤c+1; rw[z30,z21]; omega)
       have f:=fin (c+1,ns++[a.f2]) x rfl x2; rw[hvs,z90]at f; have e5:fr ns [a.f2]=fr (ns++[a.f2]) []:=by simp only[fr,hm]; rfl
       rw[e5,x1]; obtain⟨r,f1,f2⟩:=f; exact⟨r,by rcases x with⟨u,v,w⟩ | ⟨u,v,w,z⟩<;>exact f1,f2⟩
    ·rw[z9 h3]at hv ⊢
     simp only[z12]at hv; rw[hv]; simp only[z12,z8]; obtain⟨x,x1,x2⟩:=loop a.f3 (by omega) (cB n (bT n) (11 - ((d+1:Nat):Int)) a.f3) (fun i b t hb=>by
      have hi:=gG hb; simp only[cB,eT hb,z17,dR,hb,z8,e1,bC (show i<4611686018427387904 by omega)]) (fun t=>by simp only[cB,bB,z12]) (c+1,ns) (by show 0≤c+1; omega) (by show c+1≤300; omega) (by show(ns.length:Int)≤c+1; omega)
     have f:=fin (c+1,ns) x rfl x2; rw[x1]; obtain⟨r,f1,f2⟩:=f; exact⟨r,by rcases x with⟨u,v,w⟩ | ⟨u,v,w,z⟩<;>exact f1,f2⟩
theorem vV{α σ τ ρ κ:Type}{body:σ→Option (σ⊕ρ)}(l:List α)(f:τ→α→τ⊕κ)(enc:τ→Nat→σ)(fin:τ→ρ)(Out:κ→ρ→Prop)(I:Nat→τ→Prop)(hs: ∀(i:Nat) a t,l[i]? =some a→I i t→(∃t',f t a= .inl t'∧I (i+1) t'∧body (enc t i)=some (.inl (enc t' (i+1))))∨(∃q r,f t a= .inr q∧body (enc t i)=some (.inr r)∧Out q r))
  (he: ∀t,I l.length t→body (enc t l.length)=some (.inr (fin t))){n:Nat}(hn:l.length<n){t0:τ}(h0:I 0 t0): ∃r,loopN body n (enc t0 0)=some r∧(match nK f l t0 with | .inl t=>r=fin t∧I l.length t | .inr q=>Out q r):=by
 have key: ∀(r:List α) (i:Nat) (t:τ) (n:Nat),l.drop i=r→I i t→r.length<n→i≤l.length→ ∃x,loopN body n (enc t i)=some x∧(match nK f r t with | .inl t=>x=fin t∧I l.length t | .inr q=>Out q x):=by
  intro r; induction r with
  | nil=>
   intro i t n hr ht hn hi; obtain⟨m,rfl⟩: ∃m,n=m+1:=⟨n - 1,by simp at hn; omega⟩
   have:i=l.length:=by
    have:=congrArg List.length hr; simp at this; omega
   subst this; simp only[loopN,he t ht,nK]; exact⟨_,rfl,rfl,ht⟩
  | cons a r ih=>
   intro i t n hr ht hn hi; obtain⟨m,rfl⟩: ∃m,n=m+1:=⟨n - 1,by simp at hn; omega⟩
   have hil:i<l.length:=by
    have:=congrArg List.length hr; simp at this; omega
   have ha:l[i]? =some a:=by
    have:=congrArg (·[0]?) hr
    simpa using this
   have hr':l.drop (i+1)=r:=by
    have:=congrArg List.tail hr; simpa using this
   rcases hs i a t ha ht with⟨t',h1,h2,h3⟩ | ⟨q,x,h1,h3,h4⟩
   ·simp only[loopN,h3,nK,h1]
    exact ih (i+1) t' m hr' h2 (by simp at hn; omega) (by omega)
   ·simp only[loopN,h3,nK,h1]
    exact⟨x,rfl,h4⟩
 exact key l 0 t0 n rfl h0 hn (by omega)

abbrev Mt:=aA→aB→Option (List aG)
def mtL(f:Mt):List aA→List aB→Option (List aG)
 | [],_=>some []
 | x::r,t::ts=>(f x t).bind fun M=>(mtL f r ts).map (M++ ·)
 | _::_,[]=>none
def oU(l:List aB):aB:= .mk 5 0 [] l
def mt:Nat→Mt
 | 0,_,_=>none
 | d+1,p,t=>
  bif decide (p.f0=1)then(bif decide (t.f0=1)&&decide (t.f1=p.f1)then some []else none)
  else bif decide (p.f0=2)then(bif decide (t.f0=2)&&decide (t.f2=p.f2)then some []else none)
  else bif decide (p.f0=3)then some (bif decide (p.f2=[95])then []else [.mk p.f2 t.f0 t.f1 t.f2 t.f3])
  else bif decide (p.f0=4)then(bif decide (t.f0=4)&&decide ((t.f3.length:Int)=(p.f3.length:Int))then mtL (mt d) p.f3 t.f3 else none)
  else bif decide (p.f0=5)then(bif decide (t.f0=5)&&decide ((t.f3.length:Int)=(p.f3.length:Int))then mtL (mt d) p.f3 t.f3 else none)
  else(bif decide (t.f0=5)&& !decide ((t.f3.length:Int)<(p.f3.length:Int) - 1)then(mtL (mt d) (p.f3.take (p.f3.length - 1)) (t.f3.take (p.f3.length - 1))).bind fun M=>match p.f3[p.f3.length - 1]? with
    | some x=>(mt d x (oU (t.f3.drop (p.f3.length - 1)))).map (M++ ·)
    | none=>none
   else none)
theorem Jc(f:Mt): ∀(l:List aA) (ts:List aB),mtL f l (ts.take l.length)=mtL f l ts
 | [],ts=>rfl
 | x::r,[]=>by simp
 | x::r,t::ts=>by simp only[z43,RX,mtL,Jc f r ts]
theorem pK(a:aB):aR a=3+a.f2.length+GC a.f3:=by cases a; simp only[aR]; rfl
theorem kW{α:Type}(w:α→Nat): ∀(a b:List α),dl w (a++b)+1=dl w a+dl w b
 | [],b=>by simp only[Ph,dl]; omega
 | x::r,b=>by have:=kW w r b; simp only[z86,dl]; omega
theorem Kr{f:Mt}(hf: ∀a t M,f a t=some M→dl eU M≤1+aM a+aR t): ∀(l:List aA) (ts:List aB) (M:List aG),mtL f l ts=some M→dl eU M+1≤dl aM l+dl aR ts
 | [],ts,M,h=>by cases h; have:=aW aR ts; simp only[dl]; omega
 | x::r,[],M,h=>by cases h
 | x::r,t::ts,M,h=>by
  simp only[mtL,z18,z22]at h; obtain⟨A,h1,B,h2,rfl⟩:=h; have k1:=hf _ _ _ h1; have k2:=Kr hf r ts B h2; have k3:=kW eU A B; simp only[dl]; omega
theorem Ns: ∀(d:Nat) (a:aA) (t:aB) (M:List aG),mt d a t=some M→dl eU M≤1+aM a+aR t
 | 0,a,t,M,h=>by cases h
 | d+1,a,t,M,h=>by
  have ih:=Ns d; have hw:=mF a; have hv:=pK t; rw[eM,cX]at hw; rw[eK]at hv; unfold mt at h; have e0: ∀ {c:Bool},(bif c then some ([]:List aG)else none)=some M→dl eU M≤1:=fun {c} h=>by cases c<;>cases h; simp [dl]
  have e1: ∀ {c:Bool},(bif c then mtL (mt d) a.f3 t.f3 else none)=some M→dl eU M≤1+aM a+aR t:=fun {c} h=>by
   cases c with
   | false=>cases h
   | true=>have:=Kr ih _ _ _ h; omega
  cases h1:decide (a.f0=1)with
  | true=>rw[h1]at h; have:=e0 h; omega
  | false=>
  cases h2:decide (a.f0=2)with
  | true=>rw[h1,h2]at h; have:=e0 h; omega
  | false=>
  cases h3:decide (a.f0=3)with
  | true=>
   rw[h1,h2,h3]at h; simp only[z12,z17,z10]at h; subst h; cases decide (a.f2=[95])with
   | true=>simp only[z17,dl]; omega
   | false=>
    have e:eU (.mk a.f2 t.f0 t.f1 t.f2 t.f3)=3+a.f2.length+aR (.mk t.f0 t.f1 t.f2 t.f3):=rfl; rw[aQ]at e; have g:=aW aM a.f3; have g2:=aW dF a.f4; simp only[z12,dl]; rw[e]; omega
  | false=>
  cases h4:decide (a.f0=4)with
  | true=>rw[h1,h2,h3,h4]at h; exact e1 h
  | false=>
  cases h5:decide (a.f0=5)with
  | true=>rw[h1,h2,h3,h4,h5]at h; exact e1 h
  | false=>
  rw[h1,h2,h3,h4,h5]at h; simp only[z12]at h; cases h6:(decide (t.f0=5)&& !decide ((t.f3.length:Int)<(a.f3.length:Int) - 1))with
  | false=>rw[h6]at h; cases h
  | true=>
   rw[h6]at h; simp only[z17,z18]at h; obtain⟨A,k1,k2⟩:=h; have k3:=Kr ih _ _ _ k1; cases hx:a.f3[a.f3.length - 1]? with
   | none=>rw[hx]at k2; cases k2
   | some x=>
    rw[hx]at k2; simp only[z22]at k2; obtain⟨B,k4,rfl⟩:=k2; have k5:=ih _ _ _ k4; have k6:=kW eU A B; have k7:=kW aR (t.f3.take (a.f3.length - 1)) (t.f3.drop (a.f3.length - 1)); rw[z75]at k7; have k8:=mN aM hx; have k9:=jX aM a.f3 (a.f3.length - 1+1); have k10:aR (oU (t.f3.drop (a.f3.length - 1)))=3+dl aR (t.f3.drop (a.f3.length - 1)):=by
     unfold oU; rw[pK, ←eK]; rfl
    have g2:=aW dF a.f4; omega
theorem xU(n:Nat)(hn:n≤1099511627776)(a:aA)(h:aM a+400<n):iU n a.f0 a.f1 a.f2 a.f3 a.f4=some (uJ a):=by
 unfold iU uJ; obtain⟨r,r1,r2,r3⟩:=AR n hn a 10 0 [] (by omega) (by omega) (by omega) (by simp) h
 have r1:bT n a.f0 a.f1 a.f2 a.f3 a.f4 (1:Int) 0 []=some r:=r1; rw[r1]; simp only[z8,z10]; rw[r2,Int.zero_add,UH,TF]
theorem xL(n:Nat)(hn:n≤1099511627776)(a:aA)(h:aM a<n):iT n a.f0 a.f1 a.f2 a.f3 a.f4=some (uJ a):=by
 unfold iT uJ; have h1:=Eo n hn a true 10 300 (by omega) (by omega) (by omega) h
 have h1:bQ n a.f0 a.f1 a.f2 a.f3 a.f4 true (10:Int) 300=_:=h1; have hv:=Er a; rw[h1,qH n hn a h]; unfold tk; simp only[z8,Gr n (nJ a) (by omega) (by omega)]
 cases q:(xok 10 true a&&decide ((mK a:Int)≤300))with
 | true=>
  simp only[z7,z28]at q; rw[z17,z11 (by omega)]; rfl
 | false=>rfl

theorem Es{α:Type}{l:List α}{i:Nat}(h:i≤l.length):sub l (some (i:Int)) none=some (l.drop i):=by
 unfold sub bnd; rw[z19 ⟨by simp only[z63]; omega,by simp only[z160,z63]; omega,by simp⟩]
 simp only[z35,z63,z160,z68,z10]; exact List.take_of_length_le (by rw[z65]; omega)
def stp(d:Nat)(t:List aG)(a:aA×aB):List aG⊕Unit:=match mt d a.1 a.2 with
 | some M=> .inl (t++M)
 | none=> .inr ()
theorem Et(d:Nat): ∀(l:List aA) (ts:List aB) (b:List aG),l.length≤ts.length→nK (stp d) (l.zip ts) b=match mtL (mt d) l ts with | some M=> .inl (b++M) | none=> .inr ()
 | [],ts,b,h=>by simp [nK,mtL]
 | x::r,[],b,h=>by simp at h
 | x::r,t::ts,b,h=>by
  simp only[List.zip_cons_cons,nK,mtL]; have e:stp d b (x,t)=match mt d x t with | some M=> .inl (b++M) | none=> .inr ():=rfl
  rw[e]; cases mt d x t with
  | none=>rfl
  | some M=>
   simp only[z8]; rw[Et d r ts (b++M) (by simpa using h)]
   cases mtL (mt d) r ts with
   | none=>rfl
   | some N=>simp only[z35,z82]
def Res(o:Option (List aG))(b L:List aG)(ok:Bool):Prop:=match o with
 | some M=>L=b++M∧ok=true
 | none=>ok=false
theorem qY{d:Nat}{a:aA}(h:xok (d+1) true a=true):a.f3.all (xok d true)=true∧shp true a.f0 a.f1 a.f2 a.f3.length a.f4.length=true:=by
 rw[En]at h; simp only[z7]at h; exact⟨h.2.1,h.1⟩
theorem sU{k m:Int}{s:List UInt8}{ne nc:Int}(h:shp true k m s ne nc=true)(h1:k≠1)(h2:k≠2)(h3:k≠3)(h4:k≠4)(h5:k≠5):k=6∧2≤ne:=by
 rw[←Hs]at h; simp only[z7,z37,z39]at h; obtain⟨p1,p2,p3⟩:=h; unfold GP at p3; rw[z9 h1,z9 h2,z9 h3,z9 h4,z9 h5,z9 (show ¬ k=7 by omega),z9 (show ¬ k=8 by omega),z9 (show ¬ k=9 by omega)]at p3
 by_cases h6:k=6
 ·rw[z11 h6]at p3
  simp only[z17,z12,z7,z28]at p3; exact⟨h6,p3.2.2.1⟩
 ·rw[z9 h6]at p3; cases p3
theorem vE: ∀(n:Nat),n≤1099511627776→(∀(d:Nat) (a:aA) (t:aB) (b:List aG),xok d true a=true→aM a+aR t+2<n→b.length+aM a+aR t≤1099511627776→ ∃L ok,eG n a.f0 a.f1 a.f2 a.f3 a.f4 t.f0 t.f1 t.f2 t.f3 b=some (L,ok)∧Res (mt d a t) b L ok)∧
  (∀(d:Nat) (l:List aA) (ts:List aB) (b:List aG),l.all (xok d true)=true→l.length≤ts.length→dl aM l+dl aR ts+2<n→b.length+dl aM l+dl aR ts≤1099511627776→ ∃L ok,dM n l ts b=some (L,ok)∧Res (mtL (mt d) l ts) b L ok)
 | 0,_=>⟨fun d a t b hx h=>by omega,fun d l ts b hx hl h=>by omega⟩
 | n+1,hn=>by
  obtain⟨ih1,ih2⟩:=vE n (by omega)
  refine⟨fun d a t b hx h hB=> ?_,fun d l ts b hx hl h hB=> ?_⟩
  ·rw[zV]
   unfold nC; cases d with
   | zero=>cases hx
   | succ d=>
    obtain⟨hk,hs⟩:=qY hx; have hw:=mF a; have hv:=pK t; rw[eM,cX]at hw; rw[eK]at hv; have g1:=aW aM a.f3; have g2:=aW dF a.f4; have g3:=aW aR t.f3; unfold mt; by_cases h1:a.f0=1
    ·rw[z11 h1]
     refine⟨b,decide (t.f0=1)&&decide (t.f1=a.f1), ?_, ?_⟩
     ·cases decide (t.f0=1)<;>rfl
     ·cases decide (t.f0=1)<;>cases decide (t.f1=a.f1)<;>simp [Res]
    rw[z9 h1]; by_cases h2:a.f0=2
    ·rw[z11 h2]
     generalize decide (t.f2=a.f2)=z; refine⟨b,decide (t.f0=2)&&z, ?_, ?_⟩
     ·cases decide (t.f0=2)<;>rfl
     ·cases decide (t.f0=2)<;>cases z<;>simp [Res]
    rw[z9 h2]; by_cases h3:a.f0=3
    ·rw[z11 h3]
     simp only[z12,z17]; rw[CQ n (a:=t) (by omega) (by omega)]
     have hap:fE 72 b [aG.mk a.f2 t.f0 t.f1 t.f2 t.f3]=some (b++[.mk a.f2 t.f0 t.f1 t.f2 t.f3]):=mX (by simp only[z21]; omega) (by simp only[z21,maxLen]; omega)
     simp only[z8,hap]; generalize decide (a.f2=[95])=z; cases z with
     | true=>exact⟨b,true,rfl,by simp [Res]⟩
     | false=>exact⟨_,true,rfl,rfl,rfl⟩
    rw[z9 h3]; have tl: ∀(c:Bool),((t.f3.length:Int)=(a.f3.length:Int)→ ∃L ok,dM n a.f3 t.f3 b=some (L,ok)∧Res (mtL (mt d) a.f3 t.f3) b L ok)→ ∃L ok,((bif !c then some true else some (!decide ((t.f3.length:Int)=(a.f3.length:Int)))).bind fun v=>bif v then some (b,false)else(dM n a.f3 t.f3 b).bind fun c=>some (c.1,c.2))=some (L,ok)∧Res (bif c&&decide ((t.f3.length:Int)=(a.f3.length:Int))then mtL (mt d) a.f3 t.f3 else none) b L ok:=by
     intro c hc; cases c with
     | false=>exact⟨b,false,rfl,rfl⟩
     | true=>
      by_cases hq:(t.f3.length:Int)=(a.f3.length:Int)
      ·obtain⟨L,ok,e1,e2⟩:=hc hq
       rw[z11 hq,e1]; exact⟨L,ok,rfl,e2⟩
      ·rw[z9 hq]
       exact⟨b,false,rfl,rfl⟩
    by_cases h4:a.f0=4
    ·rw[z11 h4]
     exact tl _ fun hq=>ih2 d a.f3 t.f3 b hk (by omega) (by omega) (by omega)
    rw[z9 h4]; by_cases h5:a.f0=5
    ·rw[z11 h5]
     exact tl _ fun hq=>ih2 d a.f3 t.f3 b hk (by omega) (by omega) (by omega)
    rw[z9 h5]; obtain⟨_,hne⟩:=sU hs h1 h2 h3 h4 h5; have ew:IntKind.wrap .i64 ((a.f3.length:Int) - 1)=((a.f3.length - 1:Nat):Int):=by rw[wrap_i64 (by omega) (by omega)]; omega
    have em:(a.f3.length:Int) - 1=((a.f3.length - 1:Nat):Int):=by omega
    rw[ew,em]; simp only[z12]; cases h6:decide (t.f0=5)with
    | false=>exact⟨b,false,rfl,rfl⟩
    | true=>
     by_cases h7:(t.f3.length:Int)<((a.f3.length - 1:Nat):Int)
     ·rw[z11 h7]; exact⟨b,false,rfl,rfl⟩
     ·rw[z9 h7]
      have hp:a.f3.length - 1<a.f3.length:=by omega
      have hxl:a.f3[a.f3.length - 1]? =some a.f3[a.f3.length - 1]:=z14 hp
      generalize a.f3[a.f3.length - 1]=x at hxl; have k8:=mN aM hxl; have k9:=jX aM a.f3 (a.f3.length - 1+1); have k7:=kW aR (t.f3.take (a.f3.length - 1)) (t.f3.drop (a.f3.length - 1)); rw[z75]at k7; have k10:aR (oU (t.f3.drop (a.f3.length - 1)))=3+dl aR (t.f3.drop (a.f3.length - 1)):=by
       unfold oU; rw[pK, ←eK]; rfl
      have g4:=aW aR (t.f3.drop (a.f3.length - 1)); rw[GD (by omega),GD (by omega),Es (by omega),dR,hxl]
      simp only[z34,z12,z76,Ni,z17,z8]; have hk1:(a.f3.take (a.f3.length - 1)).all (xok d true)=true:=by
       rw[z15]at hk ⊢; exact fun y hy=>hk y (z96 hy)
      obtain⟨L,ok,e1,e2⟩:=ih2 d (a.f3.take (a.f3.length - 1)) (t.f3.take (a.f3.length - 1)) b hk1 (by simp only[z38]; omega) (by omega) (by omega)
      rw[e1]; simp only[z8]; cases hM:mtL (mt d) (a.f3.take (a.f3.length - 1)) (t.f3.take (a.f3.length - 1))with
      | none=>
       rw[hM]at e2; have e2:ok=false:=e2; subst e2; exact⟨L,false,rfl,rfl⟩
      | some M=>
       rw[hM]at e2; obtain⟨rfl,rfl⟩:L=b++M∧ok=true:=e2; have kM:=Kr (Ns d) _ _ _ hM; have kM2:=aW eU M; have hxx:xok d true x=true:=z15.1 hk x (z24 hxl); obtain⟨L2,ok2,f1,f2⟩:=ih1 d x (oU (t.f3.drop (a.f3.length - 1))) (b++M) hxx (by omega) (by rw[z30]; omega)
       have f1:eG n x.f0 x.f1 x.f2 x.f3 x.f4 5 0 [] (t.f3.drop (a.f3.length - 1)) (b++M)=some (L2,ok2):=f1; simp only[z34,z12,f1,z8]; refine⟨L2,ok2,rfl, ?_⟩
       cases hN:mt d x (oU (t.f3.drop (a.f3.length - 1)))with
       | none=>rw[hN]at f2; exact f2
       | some N=>
        rw[hN]at f2; obtain⟨rfl,rfl⟩:L2=b++M++N∧ok2=true:=f2; exact⟨by rw[z82],rfl⟩
  ·rw[uV]
   unfold iX; have g1:=aW aM l; have g3:=aW aR ts; have hz:(l.zip ts).length=l.length:=by rw[List.length_zip]; omega
   obtain⟨x,x1,x2⟩:=vV (body:=dU n (eG n) l ts) (l.zip ts) (stp d) (fun t i=>(t,(i:Int))) (fun t=> .inr (t,(l.length:Int),false)) (fun _ x=> ∃u,x= .inl (u,false)) (fun i t=>t.length+2≤b.length+dl aM (l.take i)+dl aR (ts.take i)) (fun i p t hp hI=>by
    obtain⟨ha,ht⟩:=z145.1 hp
    have hi:=gG ha; have m1:=dZ aM (z24 ha); have m2:=dZ aR (z24 ht); have q1:=mN aM ha; have q2:=mN aR ht; have q3:=jX aM l (i+1); have q4:=jX aR ts (i+1); obtain⟨L,ok,e1,e2⟩:=ih1 d p.1 p.2 t (z15.1 hx _ (z24 ha)) (by omega) (by omega)
    simp only[dU,eT ha,z17,dR,ha,ht,z8,e1,bC (show i<4611686018427387904 by omega)]
    unfold stp; cases hM:mt d p.1 p.2 with
    | none=>
     rw[hM]at e2; have e2:ok=false:=e2; subst e2; right; exact⟨(),_,rfl,rfl,_,rfl⟩
    | some M=>
     rw[hM]at e2; obtain⟨rfl,rfl⟩:L=t++M∧ok=true:=e2; have kM:=Ns d _ _ _ hM; have kM2:=aW eU M; left; exact⟨_,rfl,by rw[z30]; omega,rfl⟩) (fun t _=>by rw[hz]; simp only[dU,bB,z12]) (n:=n) (by omega) (t0:=b) (by simp only[Pg,dl]; omega)
   have x1:loopN (dU n (eG n) l ts) n (b,(0:Int))=some x:=x1; rw[x1]; rw[Et d l ts b hl]at x2; cases hM:mtL (mt d) l ts with
   | none=>
    rw[hM]at x2; obtain⟨u,rfl⟩: ∃u,x= .inl (u,false):=x2; exact⟨u,false,rfl,rfl⟩
   | some M=>
    rw[hM]at x2; obtain⟨rfl,_⟩:=x2; exact⟨b++M,true,rfl,rfl,rfl⟩
theorem vA: ∀(n:Nat),n≤1099511627776→(∀(d:Nat) (a:aA) (t:aB) (b:List aG),xok d true a=true→aM a+aR t+2<n→b.length+aM a+aR t≤1099511627776→ ∃L ok,cY n a.f0 a.f1 a.f2 a.f3 a.f4 t.f0 t.f1 t.f2 t.f3 b=some (ok,L)∧Res (mt d a t) b L ok)∧
  (∀(d:Nat) (l:List aA) (ts:List aB) (b:List aG),l.all (xok d true)=true→l.length≤ts.length→dl aM l+dl aR ts+2<n→b.length+dl aM l+dl aR ts≤1099511627776→ ∃L ok,fR n l ts b=some (ok,L)∧Res (mtL (mt d) l ts) b L ok)
 | 0,_=>⟨fun d a t b hx h=>by omega,fun d l ts b hx hl h=>by omega⟩
 | n+1,hn=>by
  obtain⟨ih1,ih2⟩:=vA n (by omega)
  refine⟨fun d a t b hx h hB=> ?_,fun d l ts b hx hl h hB=> ?_⟩
  ·rw[wF]
   unfold jZ; cases d with
   | zero=>cases hx
   | succ d=>
    obtain⟨hk,hs⟩:=qY hx; have hw:=mF a; have hv:=pK t; rw[eM,cX]at hw; rw[eK]at hv; have g1:=aW aM a.f3; have g2:=aW dF a.f4; have g3:=aW aR t.f3; unfold mt; by_cases h1:a.f0=1
    ·rw[z11 h1]
     refine⟨b,decide (t.f0=1)&&decide (t.f1=a.f1), ?_, ?_⟩
     ·cases decide (t.f0=1)<;>rfl
     ·cases decide (t.f0=1)<;>cases decide (t.f1=a.f1)<;>simp [Res]
    rw[z9 h1]; by_cases h2:a.f0=2
    ·rw[z11 h2]
     generalize decide (t.f2=a.f2)=z; refine⟨b,decide (t.f0=2)&&z, ?_, ?_⟩
     ·cases decide (t.f0=2)<;>rfl
     ·cases decide (t.f0=2)<;>cases z<;>simp [Res]
    rw[z9 h2]; by_cases h3:a.f0=3
    ·rw[z11 h3]
     simp only[z12,z17]; rw[Bt n (a:=t) (by omega) (by omega)]
     have hap:fE 72 b [aG.mk a.f2 t.f0 t.f1 t.f2 t.f3]=some (b++[.mk a.f2 t.f0 t.f1 t.f2 t.f3]):=mX (by simp only[z21]; omega) (by simp only[z21,maxLen]; omega)
     simp only[z8,hap]; generalize decide (a.f2=[95])=z; cases z with
     | true=>exact⟨b,true,rfl,by simp [Res]⟩
     | false=>exact⟨_,true,rfl,rfl,rfl⟩
    rw[z9 h3]; have tl: ∀(c:Bool),((t.f3.length:Int)=(a.f3.length:Int)→ ∃L ok,fR n a.f3 t.f3 b=some (ok,L)∧Res (mtL (mt d) a.f3 t.f3) b L ok)→ ∃L ok,((bif c then bif decide ((t.f3.length:Int)=(a.f3.length:Int))then(fR n a.f3 t.f3 b).bind fun c=>some (c.1,c.2)else some (false,b)else some (false,b)).bind fun(x,y)=>some (x,y))=some (ok,L)∧Res (bif c&&decide ((t.f3.length:Int)=(a.f3.length:Int))then mtL (mt d) a.f3 t.f3 else none) b L ok:=by
     intro c hc; cases c with
     | false=>exact⟨b,false,rfl,rfl⟩
     | true=>
      by_cases hq:(t.f3.length:Int)=(a.f3.length:Int)
      ·obtain⟨L,ok,e1,e2⟩:=hc hq
       rw[z11 hq,e1]; exact⟨L,ok,rfl,e2⟩
      ·rw[z9 hq]
       exact⟨b,false,rfl,rfl⟩
    by_cases h4:a.f0=4
    ·rw[z11 h4]
     exact tl _ fun hq=>ih2 d a.f3 t.f3 b hk (by omega) (by omega) (by omega)
    rw[z9 h4]; by_cases h5:a.f0=5
    ·rw[z11 h5]
     exact tl _ fun hq=>ih2 d a.f3 t.f3 b hk (by omega) (by omega) (by omega)
    rw[z9 h5]; obtain⟨_,hne⟩:=sU hs h1 h2 h3 h4 h5; have ew:IntKind.wrap .i64 ((a.f3.length:Int) - 1)=((a.f3.length - 1:Nat):Int):=by rw[wrap_i64 (by omega) (by omega)]; omega
    have em:(a.f3.length:Int) - 1=((a.f3.length - 1:Nat):Int):=by omega
    rw[ew,em]; simp only[z12]; cases h6:decide (t.f0=5)with
    | false=>exact⟨b,false,rfl,rfl⟩
    | true=>
     by_cases h7:(t.f3.length:Int)<((a.f3.length - 1:Nat):Int)
     ·rw[z11 h7]; exact⟨b,false,rfl,rfl⟩
     ·rw[z9 h7]
      have hp:a.f3.length - 1<a.f3.length:=by omega
      have hxl:a.f3[a.f3.length - 1]? =some a.f3[a.f3.length - 1]:=z14 hp
      generalize a.f3[a.f3.length - 1]=x at hxl; have k8:=mN aM hxl; have k9:=jX aM a.f3 (a.f3.length - 1+1); have k7:=kW aR (t.f3.take (a.f3.length - 1)) (t.f3.drop (a.f3.length - 1)); rw[z75]at k7; have k10:aR (oU (t.f3.drop (a.f3.length - 1)))=3+dl aR (t.f3.drop (a.f3.length - 1)):=by
       unfold oU; rw[pK, ←eK]; rfl
      have g4:=aW aR (t.f3.drop (a.f3.length - 1)); rw[GD (by omega),Es (by omega),dR,hxl]
      simp only[z34,z12,z76,Ni,z17,z8]; have hlt:(a.f3.take (a.f3.length - 1)).length=a.f3.length - 1:=by rw[z38]; omega
      have htk:=Jc (mt d) (a.f3.take (a.f3.length - 1)) t.f3; rw[hlt]at htk; rw[htk]; have hk1:(a.f3.take (a.f3.length - 1)).all (xok d true)=true:=by
       rw[z15]at hk ⊢; exact fun y hy=>hk y (z96 hy)
      obtain⟨L,ok,e1,e2⟩:=ih2 d (a.f3.take (a.f3.length - 1)) t.f3 b hk1 (by omega) (by omega) (by omega)
      rw[e1]; simp only[z8]; cases hM:mtL (mt d) (a.f3.take (a.f3.length - 1)) t.f3 with
      | none=>
       rw[hM]at e2; have e2:ok=false:=e2; subst e2; exact⟨L,false,rfl,rfl⟩
      | some M=>
       rw[hM]at e2; obtain⟨rfl,rfl⟩:L=b++M∧ok=true:=e2; have kM:=Kr (Ns d) _ _ _ (htk.trans hM); have kM2:=aW eU M; have hxx:xok d true x=true:=z15.1 hk x (z24 hxl); obtain⟨L2,ok2,f1,f2⟩:=ih1 d x (oU (t.f3.drop (a.f3.length - 1))) (b++M) hxx (by omega) (by rw[z30]; omega)
       have f1:cY n x.f0 x.f1 x.f2 x.f3 x.f4 5 0 [] (t.f3.drop (a.f3.length - 1)) (b++M)=some (ok2,L2):=f1; simp only[z34,z12,f1,z8]; refine⟨L2,ok2,rfl, ?_⟩
       cases hN:mt d x (oU (t.f3.drop (a.f3.length - 1)))with
       | none=>rw[hN]at f2; exact f2
       | some N=>
        rw[hN]at f2; obtain⟨rfl,rfl⟩:L2=b++M++N∧ok2=true:=f2; exact⟨by rw[z82],rfl⟩
  ·rw[yK]
   unfold lI; have g1:=aW aM l; have g3:=aW aR ts; have hz:(l.zip ts).length=l.length:=by rw[List.length_zip]; omega
   obtain⟨x,x1,x2⟩:=vV (body:=fK n (cY n) l ts) (l.zip ts) (stp d) (fun t i=>((i:Int),t)) (fun t=> .inr ((l.length:Int),false,t)) (fun _ x=> ∃u,x= .inl (false,u)) (fun i t=>t.length+2≤b.length+dl aM (l.take i)+dl aR (ts.take i)) (fun i p t hp hI=>by
    obtain⟨ha,ht⟩:=z145.1 hp
    have hi:=gG ha; have m1:=dZ aM (z24 ha); have m2:=dZ aR (z24 ht); have q1:=mN aM ha; have q2:=mN aR ht; have q3:=jX aM l (i+1); have q4:=jX aR ts (i+1); obtain⟨L,ok,e1,e2⟩:=ih1 d p.1 p.2 t (z15.1 hx _ (z24 ha)) (by omega) (by omega)
    simp only[fK,eT ha,z17,dR,ha,ht,z8,e1,bC (show i<4611686018427387904 by omega)]
    unfold stp; cases hM:mt d p.1 p.2 with
    | none=>
     rw[hM]at e2; have e2:ok=false:=e2; subst e2; right; exact⟨(),_,rfl,rfl,_,rfl⟩
    | some M=>
     rw[hM]at e2; obtain⟨rfl,rfl⟩:L=t++M∧ok=true:=e2; have kM:=Ns d _ _ _ hM; have kM2:=aW eU M; left; exact⟨_,rfl,by rw[z30]; omega,rfl⟩) (fun t _=>by rw[hz]; simp only[fK,bB,z12]) (n:=n) (by omega) (t0:=b) (by simp only[Pg,dl]; omega)
   have x1:loopN (fK n (cY n) l ts) n ((0:Int),b)=some x:=x1; rw[x1]; rw[Et d l ts b hl]at x2; cases hM:mtL (mt d) l ts with
   | none=>
    rw[hM]at x2; obtain⟨u,rfl⟩: ∃u,x= .inl (false,u):=x2; exact⟨u,false,rfl,rfl⟩
   | some M=>
    rw[hM]at x2; obtain⟨rfl,_⟩:=x2; exact⟨b++M,true,rfl,rfl,rfl⟩
def mH(a:aA)(t:aB):List aG×Bool:=bif uJ a&&pW t then(match mt 10 a t with | some M=>(M,true) | none=>([],false))else([],false)
theorem wZ{a:aA}(h:uJ a=true):xok 10 true a=true:=by
 unfold uJ at h; simp only[z7]at h; exact h.1.1
theorem Fd(n:Nat)(hn:n≤1099511627776)(a:aA)(t:aB)(h:aM a+aR t+400<n):lD n a.f0 a.f1 a.f2 a.f3 a.f4 t.f0 t.f1 t.f2 t.f3=some (mH a t):=by
 unfold lD mH; have hT:=vF n t.f0 t.f1 t.f2 t.f3 (by rw[aQ]; omega) (by omega)
 rw[aQ]at hT; rw[xU n hn a (by omega),hT]
 cases hp:uJ a with
 | false=>rfl
 | true=>
  cases ht:pW t with
  | false=>rfl
  | true=>
   obtain⟨L,ok,e1,e2⟩:=(vE n hn).1 10 a t [] (wZ hp) (by omega) (by simp only[z27]; omega)
   simp only[z8,z34,z12,e1,z94,z17]; cases hM:mt 10 a t with
   | none=>rw[hM]at e2; have e2:ok=false:=e2; subst e2; rfl
   | some M=>rw[hM]at e2; obtain⟨rfl,rfl⟩:L=[]++M∧ok=true:=e2; rfl
theorem FZ(n:Nat)(hn:n≤1099511627776)(a:aA)(t:aB)(h:aM a+aR t+400<n):lC n a.f0 a.f1 a.f2 a.f3 a.f4 t.f0 t.f1 t.f2 t.f3=some (mH a t):=by
 unfold lC mH; have hT:=vB n t.f0 t.f1 t.f2 t.f3 (by rw[aQ]; omega) (by omega)
 rw[aQ]at hT; rw[xL n hn a (by omega),hT]
 cases hp:uJ a with
 | false=>rfl
 | true=>
  cases ht:pW t with
  | false=>rfl
  | true=>
   obtain⟨L,ok,e1,e2⟩:=(vA n hn).1 10 a t [] (wZ hp) (by omega) (by simp only[z27]; omega)
   simp only[z8,z34,z12,e1,z94,z17]; cases hM:mt 10 a t with
   | none=>rw[hM]at e2; have e2:ok=false:=e2; subst e2; rfl
   | some M=>rw[hM]at e2; obtain⟨rfl,rfl⟩:L=[]++M∧ok=true:=e2; rfl
theorem Me(a:aA)(t:aB):dl eU (mH a t).1≤1+aM a+aR t:=by
 unfold mH; cases uJ a&&pW t with
 | false=>simp only[z12,dl]; omega
 | true=>
  rw[z17]; cases h:mt 10 a t with
  | none=>simp only[dl]; omega
  | some M=>exact Ns 10 a t M h
def Gt{α:Type}(o:Option α)(Q:α→Prop):Prop:= ∃r,o=some r∧Q r
theorem Gt.pure{α:Type}{a:α}{Q:α→Prop}(h:Q a):Gt (some a) Q:=⟨a,rfl,h⟩
theorem Gt.bind{α β:Type}{o:Option α}{f:α→Option β}{P:α→Prop}{Q:β→Prop}(h:Gt o P)(hf: ∀r,P r→Gt (f r) Q):Gt (o.bind f) Q:=by
 obtain⟨r,rfl,h2⟩:=h; exact hf r h2
theorem Gt.cond{α:Type}{b:Bool}{x y:Option α}{Q:α→Prop}(h1:b=true→Gt x Q)(h0:b=false→Gt y Q):Gt (bif b then x else y) Q:=by
 cases b with
 | true=>exact h1 rfl
 | false=>exact h0 rfl
theorem Gt.of{α:Type}{o:Option α}{r:α}{Q:α→Prop}(e:o=some r)(h:Q r):Gt o Q:=⟨r,e,h⟩
def Rnd{σ ρ:Type}(I:Nat→σ→Prop)(Q:ρ→Prop)(m:Nat):σ⊕ρ→Prop
 | .inl s=> ∃m',m=m'+1∧I m' s
 | .inr r=>Q r
theorem Gt.loop{σ ρ:Type}{body:σ→Option (σ⊕ρ)}(I:Nat→σ→Prop)(Q:ρ→Prop)(hs: ∀m s,I m s→Gt (body s) (Rnd I Q m)): ∀ {n m:Nat} {s:σ},I m s→m<n→Gt (loopN body n s) Q
 | 0,m,s,h,hn=>by omega
 | n+1,m,s,h,hn=>by
  obtain⟨x,e,hx⟩:=hs m s h; unfold loopN; rw[e]; cases x with
  | inl s'=>
   obtain⟨m',rfl,h'⟩:=hx; exact Gt.loop I Q hs h' (by omega)
  | inr r=>exact⟨r,rfl,hx⟩
theorem Nu{p:Prop} [Decidable p](h:decide p=true):p:=of_decide_eq_true h
theorem Po{p:Prop} [Decidable p](h:decide p=false): ¬ p:=of_decide_eq_false h
structure Cur (b:List Int) (i:Int):Prop where
 len:b.length≤1048576
 at0:0≤i
theorem jY{α:Type}{k:Nat}{a b:List α}(h:a.length+b.length≤1048576000)(hk:k≤255):Gt (fE k a b) (fun r=>r=a++b):=by
 refine Gt.of (mX ?_ (by simp only[maxLen]; omega)) rfl
 have:(a.length+b.length)*k≤1048576000*255:=Nat.mul_le_mul h hk; omega
theorem Pk{α:Type}{l:List α}{i:Int}(h0:0≤i)(h:i<l.length):Gt (ix l i) (fun a=>a∈l):=by
 obtain⟨k,rfl⟩: ∃k:Nat,i=k:=⟨i.toNat,by omega⟩
 rw[dR]; exact⟨_,z14 (by omega),z156 _⟩
theorem MM(x:Int):0≤bits .and .i64 x 255∧bits .and .i64 x 255≤255:=It x 255 (by decide)
theorem Ah{n:Nat}{b:List Int}{i h:Int}(hc:Cur b i):Gt (fS n b i h) (fun r=>(0≤r.1∧r.1≤255)∧Cur r.2.1 r.2.2.1):=by
 have h1:=hc.len; have h2:=hc.at0; unfold fS; refine Gt.cond (fun e=> ?_) (fun e=> ?_)
 ·have:=Nu e
  refine Gt.bind (Pk h2 this) fun a _=>Gt.pure ⟨MM _,hc.len, ?_⟩
  show 0≤IntKind.wrap .i64 (i+1); rw[wrap_i64 (by omega) (by omega)]; omega
 ·exact Gt.pure ⟨MM _,hc⟩
theorem ck_o{b:Bool}(h:b=true):Gt (ck b) (fun _=>True):=by subst h; exact⟨_,rfl,trivial⟩
theorem cC{n:Nat}{t:Int}{b:List Int}{i h:Int}(hc:Cur b i)(ht:0<t):Gt (aJ n t b i h) (fun r=>(t≤256→0≤r.1∧r.1<t)∧Cur r.2.1 r.2.2.1):=by
 unfold aJ; have e0:(!decide (t=0))=true:=by rw[z9 (by omega)]; rfl
 refine Gt.cond (fun e=> ?_) (fun _=>Gt.cond (fun e=> ?_) (fun e=> ?_))
 ·have:=Nu e; omega
 ·refine Gt.bind (Ah hc) fun r ⟨h1,h2⟩=>Gt.bind (ck_o e0) fun _ _=>Gt.pure ⟨fun _=>⟨Int.tmod_nonneg _ h1.1,Int.tmod_lt_of_pos _ ht⟩,h2⟩
 ·have hn:=Po e
  refine Gt.bind (Ah hc) fun r ⟨h1,h2⟩=>Gt.bind (Ah h2) fun r2 ⟨_,h4⟩=>Gt.bind (Ah h4) fun r3 ⟨_,h6⟩=>Gt.bind (ck_o e0) fun _ _=>Gt.pure ⟨fun h=>absurd h hn,h6⟩
theorem wP{n:Nat}{t:Int}{b:List Int}{i h:Int}(hc:Cur b i)(ht:0<t):Gt (cN n t b i h) (fun r=>Cur r.2.1 r.2.2.1):=by
 unfold cN; exact Gt.bind (cC hc ht) fun r ⟨_,h2⟩=>Gt.pure h2
theorem uP{n:Nat}{l:List Int}{b:List Int}{i h:Int}(hc:Cur b i)(h0:0<l.length)(h1:l.length≤256):Gt (bO n l b i h) (fun r=>r.1∈l∧Cur r.2.1 r.2.2.1):=by
 unfold bO; refine Gt.bind (cC hc (by omega)) fun r ⟨h2,h3⟩=> ?_
 obtain⟨h4,h5⟩:=h2 (by omega)
 exact Gt.bind (Pk h4 h5) fun a ha=>Gt.pure ⟨ha,h3⟩
theorem sH{n K:Nat}{l:List (List UInt8)}{b:List Int}{i h:Int}(hc:Cur b i)(h0:0<l.length)(h1:l.length≤256)(hK: ∀s∈l,s.length≤K):Gt (aV n l b i h) (fun r=>r.1.length≤K∧Cur r.2.1 r.2.2.1):=by
 unfold aV; refine Gt.bind (cC hc (by omega)) fun r ⟨h2,h3⟩=> ?_
 obtain⟨h4,h5⟩:=h2 (by omega)
 exact Gt.bind (Pk h4 h5) fun a ha=>Gt.pure ⟨hK a ha,h3⟩
theorem MC{n:Nat}(hn:4001<n)(code:List Int)(hc:code.length≤1048576):Gt (lB n code) (fun r=>Cur r.1 r.2.1):=by
 unfold lB; refine Gt.bind (P:=fun _=>True) (Gt.loop (fun(m:Nat) (s:Int×Int)=>0≤s.2∧s.2+m=4001) (fun _=>True) (fun m s hs=> ?_) (m:=4001) (by simp) (by omega)) fun r _=>Gt.pure ⟨hc,Pd _⟩
 obtain⟨a,i⟩:=s; obtain⟨h1,h2⟩:=hs; unfold oX; simp only at h1 h2 ⊢; by_cases c1:i<code.length
 ·by_cases c2:i<4000
  ·rw[z11 c1,z11 c2]
   simp only[z17,z8]; refine Gt.bind (Pk h1 c1) fun e _=>Gt.pure ⟨m - 1,by omega, ?_⟩
   simp only; rw[wrap_i64 (n:=i+1) (by omega) (by omega)]
   omega
  ·rw[z11 c1,z9 c2]
   simp only[z17,z12,z8]; exact Gt.pure trivial
 ·rw[z9 c1]
  simp only[z12,z8]; exact Gt.pure trivial
theorem AE(k m:Int)(s:List UInt8)(l:List aB):aR (.mk k m s l)=3+s.length+dl aR l:=by rw[pK,eK]; rfl
theorem iW{α:Type}(w:α→Nat)(l:List α)(a:α):dl w (l++[a])=dl w l+1+w a:=by
  have:=kW w l [a]; simp only[dl]at this; omega
def trB:Nat→Nat
  | 0=>9
  | d+1=>4+3*(1+trB d)
theorem Pr: ∀d,9≤trB d
  | 0=>z53 _
  | d+1=>by
    have:=Pr d; simp only[trB]; omega
def DT(B:Nat)(r:Int×Int×List UInt8×List aB×List Int×Int×Int):Prop:=aR (.mk r.1 r.2.1 r.2.2.1 r.2.2.2.1)≤B∧Cur r.2.2.2.2.1 r.2.2.2.2.2.1
theorem DT.mk{B:Nat}{k m:Int}{s:List UInt8}{l:List aB}{b:List Int}{i h:Int}(hw:3+s.length+dl aR l≤B)(hc:Cur b i):DT B (k,m,s,l,b,i,h):=⟨by rw[AE]; exact hw,hc⟩
theorem FE: ∀(d n:Nat),d≤3→d+6<n→ ∀ {b:List Int} {i h:Int},Cur b i→Gt (gO n (d:Int) b i h) (DT (trB d))
  | d,0,_,hn=>by omega
  | d,n+1,hd,hn=>fun hc=>by
    rw[yP]; unfold lN; have h9:=Pr d; have one: ∀ {k m:Int} {s:List UInt8} {b:List Int} {i h:Int},s.length≤5→Cur b i→DT (trB d) (k,m,s,[],b,i,h):=fun hs hc=>DT.mk (by simp only[dl]; omega) hc
    have nums: ∀ {b:List Int} {i h:Int},Cur b i→Gt ((aJ n (1000:Int) b i h).bind fun c=>(bO n ([(0:Int),(1:Int),(2:Int),((-1):Int),(7:Int),(1000000000000:Int),((-1000000000000):Int),c.1]:List Int) c.2.1 c.2.2.1 c.2.2.2).bind fun c17=>some ((1:Int),c17.1,([]:List UInt8),([]:List aB),c17.2.1,c17.2.2.1,c17.2.2.2)) (DT (trB d)):=fun hc=>
      Gt.bind (cC hc (by omega)) fun r ⟨_,h2⟩=>Gt.bind (uP h2 (by simp) (by simp)) fun r ⟨_,h2⟩=>Gt.pure (one (by simp) h2)
    have strs: ∀ {b:List Int} {i h:Int},Cur b i→Gt ((aV n ([([111,107]:List UInt8),([115,116,111,112]:List UInt8),([97]:List UInt8),([116,114,117,101]:List UInt8),([97,100,100]:List UInt8)]:List (List UInt8)) b i h).bind fun c24=>some ((2:Int),(0:Int),c24.1,([]:List aB),c24.2.1,c24.2.2.1,c24.2.2.2)) (DT (trB d)):=fun hc=>
      Gt.bind (sH (K:=5) hc (by simp) (by simp) (by decide)) fun r ⟨h1,h2⟩=>Gt.pure (one h1 h2)
    refine Gt.bind (cC hc (by omega)) fun r ⟨_,h2⟩=> ?_
    refine Gt.cond (fun _=>nums h2) fun _=>Gt.cond (fun _=>nums h2) fun _=>Gt.cond (fun _=>nums h2) fun _=>Gt.cond (fun _=>strs h2) fun _=>Gt.cond (fun _=>strs h2) fun _=>Gt.cond (fun _=> ?_) fun _=> ?_
    · exact Gt.bind (cC h2 (by omega)) fun r ⟨_,h2⟩=>Gt.pure (one (by simp) h2)
    · refine Gt.bind (uP h2 (by simp) (by simp)) fun r3 ⟨_,h3⟩=>Gt.bind (cC h3 (by omega)) fun r4 ⟨h4,h5⟩=> ?_
      obtain⟨h6,h7⟩:=h4 (by omega)
      refine Gt.bind (P:=fun r=>dl aR r.2.2.2.2.2.1≤1+3*(1+trB (d - 1))∧(d=0→r.2.2.2.2.2.1=[])∧r.2.2.2.2.1=[]∧Cur r.2.2.2.2.2.2.1 r.2.2.2.2.2.2.2.1) (Gt.loop (fun(m:Nat) (s:Int×Int×Int×List UInt8×List aB×List Int×Int×Int)=>s.1=(m:Int)∧dl aR s.2.2.2.2.1+m*(1+trB (d - 1))≤1+3*(1+trB (d - 1))∧(d=0→s.2.2.2.2.1=[])∧s.2.2.2.1=[]∧Cur s.2.2.2.2.2.1 s.2.2.2.2.2.2.1) _ (fun m s hs=> ?_) (m:=r4.1.toNat) ?_ (by omega)) fun r hr=> ?_
      · obtain⟨v,w5,w6,w7,w8,w9,w10,w11⟩:=s
        obtain⟨s1,s2,s3,s4,s5⟩:=hs; simp only at s1 s2 s3 s4 s5; subst s1; subst s4; unfold nQ; simp only; by_cases c1:(0:Int)<(m:Int)
        · rw[z11 c1]
          by_cases c2:(0:Int)<(d:Int)
          · rw[z11 c2]
            simp only[z17,z8]; obtain⟨m',rfl⟩: ∃m',m=m'+1:=⟨m - 1,by omega⟩
            have e1:IntKind.wrap .i64 ((d:Int) - 1)=((d - 1:Nat):Int):=by rw[wrap_i64 (by omega) (by omega)]; omega
            rw[e1,MS (by
                                  have:(m'+1)*10≤(m'+1)*(1+trB (d - 1)):=Nat.mul_le_mul_left _ (by have:=Pr (d - 1); omega)
                                  have:trB (d - 1)≤202:=by
                                    have:d - 1=0∨d - 1=1∨d - 1=2:=by omega
                                    rcases this with e | e | e<;>rw[e]<;>simp [trB]
                                  omega)]
            refine Gt.bind (FE (d - 1) n (by omega) (by omega) s5) fun r ⟨g1,g2⟩=> ?_
            have hb:trB (d - 1)≤202:=by
              have:d - 1=0∨d - 1=1∨d - 1=2:=by omega
              rcases this with e | e | e<;>rw[e]<;>simp [trB]
            have hl:=aW aR w8; refine Gt.bind (jY (by simp only[z21]; omega) (by omega)) fun q e=>Gt.pure ⟨m',rfl,rfl, ?_,fun e=>by omega,rfl,g2⟩
            subst e; show dl aR (w8++[_])+m'*(1+trB (d - 1))≤_; rw[iW]; rw[z85]at s2; omega
          · rw[z9 c2]
            simp only[z17,z12,z8]; refine Gt.pure ⟨?_,s3,rfl,s5⟩
            show dl aR w8≤_; omega
        · rw[z9 c1]
          simp only[z12,z8]; refine Gt.pure ⟨?_,s3,rfl,s5⟩
          show dl aR w8≤_; omega
      · refine⟨by simp only; omega, ?_,fun _=>rfl,rfl,h5⟩
        simp only[dl]; have:r4.1.toNat*(1+trB (d - 1))≤3*(1+trB (d - 1)):=z45 _ (by omega)
        omega
      · obtain⟨x0,x1,x2,x3,x4,x5,x6,x7,x8⟩:=r
        obtain⟨q1,q2,q3,q4⟩:=hr; simp only at q1 q2 q3 q4 ⊢; refine Gt.pure (DT.mk ?_ q4)
        rw[q3]; cases d with
        | zero=>rw[q2 rfl]; simp only[dl,z27,trB]; omega
        | succ d=>
          have e:trB (d+1)=4+3*(1+trB d):=rfl; simp only[z27,Nat.add_sub_cancel]at q1 ⊢; omega
theorem Oc{n B:Nat}{t:aB}(hn:aR t+20<n)(hn2:n≤1099511627776)(hw:aR t≤B)(hB:B≤100000){b:List Int}{i h:Int}(hc:Cur b i):Gt (lS n t.f0 t.f1 t.f2 t.f3 b i h) (DT (B+60)):=by
  unfold lS; rw[Bt n (a:=t) (by omega) (by omega)]
  rw[←aQ t,AE]at hw; have hl:=aW aR t.f3; simp only[z8]; refine Gt.bind (cC hc (by omega)) fun r ⟨_,h2⟩=> ?_
  refine Gt.cond (fun _=> ?_) fun _=>Gt.cond (fun _=> ?_) fun _=>Gt.cond (fun _=> ?_) fun _=>Gt.cond (fun _=> ?_) fun _=>Gt.cond (fun _=> ?_) fun _=> ?_
  · exact Gt.bind (cC h2 (by omega)) fun r ⟨_,h2⟩=>Gt.pure (DT.mk (by omega) h2)
  · exact Gt.bind (uP h2 (by simp) (by simp)) fun r ⟨_,h2⟩=>Gt.pure (DT.mk (by omega) h2)
  · exact Gt.bind (sH (K:=25) h2 (by simp) (by simp) (by decide)) fun r ⟨h1,h2⟩=>Gt.pure (DT.mk (by omega) h2)
  · refine Gt.bind (jY (by simp only[z21]; omega) (by omega)) fun q e=>Gt.pure (DT.mk ?_ h2)
    subst e; rw[iW,AE]; simp only[dl,z27]; omega
  · refine Gt.bind (P:=fun r=>aR (.mk r.2.2.1 r.2.2.2.1 r.2.2.2.2.1 r.2.2.2.2.2)≤B+60) (Gt.loop (fun(m:Nat) (s:Int×Int×Int×List UInt8×List aB)=>s.1+m=8∧0≤s.1∧aR (.mk s.2.1 s.2.2.1 s.2.2.2.1 s.2.2.2.2)+6*m≤B+48) _ (fun m s hs=> ?_) (m:=8) ?_ (by omega)) fun r hr=>Gt.pure ⟨hr,h2⟩
    · obtain⟨v,w1,w2,w3,w4⟩:=s
      obtain⟨s1,s2,s3⟩:=hs; simp only at s1 s2 s3; unfold nR; simp only; by_cases c1:v<(8:Int)
      · rw[z11 c1,z17,wrap_i64 (n:=v+1) (by omega) (by omega)]
        refine Gt.pure ⟨m - 1,by omega, ?_, ?_, ?_⟩
        · show v+1+((m - 1:Nat):Int)=8
          omega
        · show 0≤v+1
          omega
        · show aR (.mk 4 0 [] [.mk w1 w2 w3 w4])+6*(m - 1)≤B+48
          rw[AE]; simp only[dl,z27]; omega
      · rw[z9 c1,z12]
        refine Gt.pure ?_
        show aR (.mk w1 w2 w3 w4)≤B+60; omega
    · exact⟨by simp,by simp,by simp only; rw[AE]; omega⟩
  · exact Gt.pure (DT.mk (by omega) h2)
theorem MB{n:Nat}(hn:1000<n)(hn2:n≤1099511627776){b:List Int}{i h:Int}(hc:Cur b i):Gt (lA n b i h) (DT 700):=by
  unfold lA; have e3:trB 3=334:=rfl; refine Gt.bind (FE 3 n (by omega) (by omega) hc) fun r ⟨h1,h2⟩=>Gt.bind (wP h2 (by omega)) fun r2 h3=>Gt.cond (fun _=> ?_) fun _=> ?_
  · have:=Oc (n:=n) (B:=334) (t:= .mk r.1 r.2.1 r.2.2.1 r.2.2.2.1) (by omega) hn2 h1 (by omega) (b:=r2.2.1) (i:=r2.2.2.1) (h:=r2.2.2.2) h3
    exact Gt.bind this fun q ⟨g1,g2⟩=>Gt.pure ⟨z41 g1 (by omega),g2⟩
  · exact Gt.pure ⟨z41 h1 (by omega),h3⟩
theorem xV(k m:Int)(s:List UInt8)(l:List aA)(c:List aC):aM (.mk k m s l c)=3+s.length+dl aM l+dl dF c:=by rw[mF,eM,cX]; rfl
def Nm(K:Nat)(l:List (List UInt8)):Prop:=l.length≤K∧ ∀s∈l,s.length≤5
theorem Nm.up{K K':Nat}{l:List (List UInt8)}(h:Nm K l)(hk:K≤K'):Nm K' l:=⟨z41 h.1 hk,h.2⟩
theorem Nm.app{K K':Nat}{l l':List (List UInt8)}(h:Nm K l)(h':Nm K' l'):Nm (K+K') (l++l'):=⟨by rw[z30]; exact Nat.add_le_add h.1 h'.1,fun s hs=>(z78.1 hs).elim (h.2 s) (h'.2 s)⟩
def kX:Nat→Nat
 | 0=>7
 | d+1=>7+2*kX d
def kY:Nat→Nat
 | 0=>1
 | d+1=>2*kY d
theorem kX_7: ∀d,7≤kX d
 | 0=>z53 _
 | d+1=>by simp only[kX]; omega
theorem Ta: ∀d,1≤kY d
 | 0=>z53 _
 | d+1=>by have:=Ta d; simp only[kY]; omega
def DP(B K:Nat)(r:Int×Int×List UInt8×List aA×List aC×List Int×Int×Int×List (List UInt8)):Prop:=aM (.mk r.1 r.2.1 r.2.2.1 r.2.2.2.1 r.2.2.2.2.1)≤B∧Cur r.2.2.2.2.2.1 r.2.2.2.2.2.2.1∧Nm K r.2.2.2.2.2.2.2.2
theorem DP.mk{B K:Nat}{k m:Int}{s:List UInt8}{l:List aA}{c:List aC}{b:List Int}{i h:Int}{ns:List (List UInt8)}(hw:3+s.length+dl aM l+dl dF c≤B)(hc:Cur b i)(hn:Nm K ns):DP B K (k,m,s,l,c,b,i,h,ns):=⟨by rw[xV]; exact hw,hc,hn⟩
def PS(X Y K m:Nat)(x:Int×Int×List UInt8×List aA×List aC×List Int×Int×Int×List (List UInt8)):Prop:=x.2.2.1=[]∧x.2.2.2.2.1=[]∧dl aM x.2.2.2.1+m*(1+X)≤1+2*(1+X)∧Cur x.2.2.2.2.2.1 x.2.2.2.2.2.2.1∧x.2.2.2.2.2.2.2.2.length+m*Y≤K+2*Y∧ ∀s∈x.2.2.2.2.2.2.2.2,s.length≤5
theorem Ob(n d K:Nat)(hd:d≤2)(hK:K+10*d≤1000)(ih:d≠0→ ∀ {K':Nat} {b:List Int} {i h:Int} {ns:List (List UInt8)},K'+10*(d - 1)≤1000→Cur b i→Nm K' ns→Gt (cK n ((d - 1:Nat):Int) b i h ns) (DP (kX d) (K'+kY d)))(m:Nat)(s:Int×Int×Int×List UInt8×List aA×List aC×List Int×Int×Int×List (List UInt8))(hs:s.1+m=(2:Int)∧0≤s.1∧PS (kX d) (kY d) K m s.2):Gt (mB n (cK n) (d:Int) s) (Rnd (fun m s=>s.1+m=(2:Int)∧0≤s.1∧PS (kX d) (kY d) K m s.2) (fun r=>PS (kX d) (kY d) K 0 r.2.2) m):=by
 obtain⟨v,w0,w1,w2,w3,w4,w5,w6,w7,w8⟩:=s; obtain⟨s1,s2,s3,s4,s5,s6,s7,s8⟩:=hs; simp only at s1 s2 s3 s4 s5 s6 s7 s8; subst s3; subst s4; have hX:kX d≤49:=by
  have:d=0∨d=1∨d=2:=by omega
  rcases this with e | e | e<;>rw[e]<;>simp [kX]
 have hY:1≤kY d:=Ta _; have hY2:kY d≤4:=by
  have:d=0∨d=1∨d=2:=by omega
  rcases this with e | e | e<;>rw[e]<;>simp [kY]
 have hl:=aW aM w3; unfold mB; simp only; by_cases c1:v<(2:Int)
 ·rw[z11 c1,z17]
  obtain⟨m',rfl⟩: ∃m',m=m'+1:=⟨m - 1,by omega⟩
  rw[z85]at s5 s7; have hm1:m'*(1+kX d)≥0:=LD _; have hm2:m'*kY d≥0:=LD _; refine Gt.bind (P:=PS (kX d) (kY d) K m') (Gt.cond (fun e=> ?_) (fun e=> ?_)) fun r hr=> ?_
  ·have:=Nu e
   have e1:IntKind.wrap .i64 ((d:Int) - 1)=((d - 1:Nat):Int):=by rw[wrap_i64 (by omega) (by omega)]; omega
   rw[e1]; refine Gt.bind (ih (by omega) (K':=w8.length) (by omega) s6 ⟨z53 _,s8⟩) fun r ⟨g1,g2,g3⟩=>Gt.bind (jY (by simp only[z21]; omega) (by omega)) fun q e=>Gt.pure ⟨rfl,rfl, ?_,g2, ?_,g3.2⟩
   ·subst e
    show dl aM (w3++[_])+m'*(1+kX d)≤_; rw[iW]; omega
   ·exact z41 (Nat.add_le_add_right g3.1 _) (by omega)
  ·refine Gt.bind (jY (by simp only[z21]; omega) (by omega)) fun q e=>Gt.pure ⟨rfl,rfl, ?_,s6, ?_,s8⟩
   ·subst e
    have:=kX_7 d; show dl aM (w3++[_])+m'*(1+kX d)≤_; rw[iW,xV]; simp only[dl,z21]; omega
   ·show w8.length+m'*kY d≤_
    omega
  ·obtain⟨x0,x1,x2,x3,x4,x5,x6,x7,x8⟩:=r
   rw[wrap_i64 (n:=v+1) (by omega) (by omega)]
   refine Gt.pure ⟨m',rfl, ?_, ?_,hr⟩
   ·show v+1+(m':Int)=(2:Int)
    omega
   ·show 0≤v+1
    omega
 ·rw[z9 c1,z12]
  have:m=0:=by omega
  subst this; exact Gt.pure ⟨rfl,rfl,s5,s6,s7,s8⟩
theorem Oa(n d K:Nat)(hd:d≤2)(hK:K+10*d≤1000)(c:Int×List Int×Int×Int)(hc2:c.1≤2)(ih:d≠0→ ∀ {K':Nat} {b:List Int} {i h:Int} {ns:List (List UInt8)},K'+10*(d - 1)≤1000→Cur b i→Nm K' ns→Gt (cK n ((d - 1:Nat):Int) b i h ns) (DP (kX d) (K'+kY d)))(m:Nat)(s:Int×Int×Int×List UInt8×List aA×List aC×List Int×Int×Int×List (List UInt8))(hs:s.1+m=c.1∧0≤s.1∧PS (kX d) (kY d) K m s.2):Gt (mA n (cK n) (d:Int) c s) (Rnd (fun m s=>s.1+m=c.1∧0≤s.1∧PS (kX d) (kY d) K m s.2) (fun r=>PS (kX d) (kY d) K 0 r.2.2) m):=by
 obtain⟨v,w0,w1,w2,w3,w4,w5,w6,w7,w8⟩:=s; obtain⟨s1,s2,s3,s4,s5,s6,s7,s8⟩:=hs; simp only at s1 s2 s3 s4 s5 s6 s7 s8; subst s3; subst s4; have hX:kX d≤49:=by
  have:d=0∨d=1∨d=2:=by omega
  rcases this with e | e | e<;>rw[e]<;>simp [kX]
 have hY:1≤kY d:=Ta _; have hY2:kY d≤4:=by
  have:d=0∨d=1∨d=2:=by omega
  rcases this with e | e | e<;>rw[e]<;>simp [kY]
 have hl:=aW aM w3; unfold mA; simp only; by_cases c1:v<c.1
 ·rw[z11 c1,z17]
  obtain⟨m',rfl⟩: ∃m',m=m'+1:=⟨m - 1,by omega⟩
  rw[z85]at s5 s7; have hm1:m'*(1+kX d)≥0:=LD _; have hm2:m'*kY d≥0:=LD _; refine Gt.bind (P:=PS (kX d) (kY d) K m') (Gt.cond (fun e=> ?_) (fun e=> ?_)) fun r hr=> ?_
  ·have:=Nu e
   have e1:IntKind.wrap .i64 ((d:Int) - 1)=((d - 1:Nat):Int):=by rw[wrap_i64 (by omega) (by omega)]; omega
   rw[e1]; refine Gt.bind (ih (by omega) (K':=w8.length) (by omega) s6 ⟨z53 _,s8⟩) fun r ⟨g1,g2,g3⟩=>Gt.bind (jY (by simp only[z21]; omega) (by omega)) fun q e=>Gt.pure ⟨rfl,rfl, ?_,g2, ?_,g3.2⟩
   ·subst e
    show dl aM (w3++[_])+m'*(1+kX d)≤_; rw[iW]; omega
   ·exact z41 (Nat.add_le_add_right g3.1 _) (by omega)
  ·refine Gt.bind (jY (by simp only[z21]; omega) (by omega)) fun q e=>Gt.pure ⟨rfl,rfl, ?_,s6, ?_,s8⟩
   ·subst e
    have:=kX_7 d; show dl aM (w3++[_])+m'*(1+kX d)≤_; rw[iW,xV]; simp only[dl,z21]; omega
   ·show w8.length+m'*kY d≤_
    omega
  ·obtain⟨x0,x1,x2,x3,x4,x5,x6,x7,x8⟩:=r
   rw[wrap_i64 (n:=v+1) (by omega) (by omega)]
   refine Gt.pure ⟨m',rfl, ?_, ?_,hr⟩
   ·show v+1+(m':Int)=c.1
    omega
   ·show 0≤v+1
    omega
 ·rw[z9 c1,z12]
  have:m=0:=by omega
  subst this; exact Gt.pure ⟨rfl,rfl,s5,s6,s7,s8⟩
theorem Ef: ∀(d n:Nat),d≤2→d+2000<n→n≤1099511627776→ ∀ {K:Nat} {b:List Int} {i h:Int} {ns:List (List UInt8)},K+10*d≤1000→Cur b i→Nm K ns→Gt (cK n (d:Int) b i h ns) (DP (kX (d+1)) (K+kY (d+1)))
 | d,0,_,hn,_=>by omega
 | d,n+1,hd,hn,hn2=>fun hK hc hm=>by
  rename_i K b i h ns; rw[zU]; unfold nB; have hX:=kX_7 d; have hY:=Ta d; have eX:kX (d+1)=7+2*kX d:=rfl; have eY:kY (d+1)=2*kY d:=rfl; have one: ∀ {k m:Int} {s:List UInt8} {b:List Int} {i h:Int} {ns:List (List UInt8)},s.length≤5→Cur b i→Nm (K+1) ns→DP (kX (d+1)) (K+kY (d+1)) (k,m,s,[],[],b,i,h,ns):=fun hs hc hn=>DP.mk (by simp only[dl]; omega) hc (hn.up (by omega))
  have hm1:Nm (K+1) ns:=hm.up (by omega)
  have hml:=hm.1; have nJ: ∀ {b:List Int} {i h:Int},Cur b i→Gt ((aV n ([([65]:List UInt8),([66]:List UInt8),([67]:List UInt8),([68]:List UInt8),([72]:List UInt8),([84]:List UInt8)]:List (List UInt8)) b i h).bind fun c33_10=>(fJ n ns c33_10.1).bind fun c38_11=>bif c38_11 then some ((3:Int),(0:Int),([95]:List UInt8),([]:List aA),([]:List aC),c33_10.2.1,c33_10.2.2.1,c33_10.2.2.2,ns)else(fE 16 ns ([c33_10.1]:List (List UInt8))).bind fun v46_13=>some ((3:Int),(0:Int),c33_10.1,([]:List aA),([]:List aC),c33_10.2.1,c33_10.2.2.1,c33_10.2.2.2,v46_13)) (DP (kX (d+1)) (K+kY (d+1))):=fun hc=>by
   refine Gt.bind (sH (K:=5) hc (by simp) (by simp) (by decide)) fun r ⟨h1,h2⟩=> ?_
   rw[Ji n ns r.1 (by omega) (by omega),z8]
   refine Gt.cond (fun _=>Gt.pure (one (by simp) h2 hm1)) fun _=>Gt.bind (jY (by simp only[z21]; omega) (by omega)) fun q e=>Gt.pure (one h1 h2 ?_)
   subst e; exact hm.app ⟨z53 _,fun s hs=>by rw[z64.1 hs]; exact h1⟩
  refine Gt.bind (cC hc (by omega)) fun r ⟨_,h2⟩=> ?_
  refine Gt.cond (fun _=> ?_) fun _=>Gt.cond (fun _=> ?_) fun _=>Gt.cond (fun _=>Gt.pure (one (by simp) h2 hm1)) fun _=>Gt.cond (fun _=>nJ h2) fun _=>Gt.cond (fun _=>nJ h2) fun _=>Gt.cond (fun _=>nJ h2) fun _=> ?_
  ·exact Gt.bind (cC h2 (by omega)) fun r ⟨_,h2⟩=>Gt.pure (one (by simp) h2 hm1)
  ·exact Gt.bind (sH (K:=5) h2 (by simp) (by simp) (by decide)) fun r ⟨h1,h2⟩=>Gt.pure (one h1 h2 hm1)
  ·refine Gt.bind (uP h2 (by simp) (by simp)) fun r3 ⟨_,h3⟩=>Gt.bind (cC h3 (by omega)) fun r4 ⟨h4,h5⟩=> ?_
   obtain⟨h6,h7⟩:=h4 (by omega)
   have ih:d≠0→ ∀ {K':Nat} {b:List Int} {i h:Int} {ns:List (List UInt8)},K'+10*(d - 1)≤1000→Cur b i→Nm K' ns→Gt (cK n ((d - 1:Nat):Int) b i h ns) (DP (kX d) (K'+kY d)):=fun hd0=>by
    obtain⟨d',rfl⟩: ∃d',d=d'+1:=⟨d - 1,by omega⟩
    exact Ef d' n (by omega) (by omega) (by omega)
   have fin: ∀(r:Int×Bool×Int×Int×List UInt8×List aA×List aC×List Int×Int×Int×List (List UInt8)),PS (kX d) (kY d) K 0 r.2.2→Gt ((fun(v10_37,v61_38,w8_39,w8_40,w8_41,w8_42,w8_43,w1000000_44,w1000000_45,w1000000_46,w1000001_47)=>some (w8_39,w8_40,w8_41,w8_42,w8_43,w1000000_44,w1000000_45,w1000000_46,w1000001_47)) r) (DP (kX (d+1)) (K+kY (d+1))):=fun r hr=>by
    obtain⟨x0,x1,x2,x3,x4,x5,x6,x7,x8,x9,x10⟩:=r; obtain⟨q1,q2,q3,q4,q5,q6⟩:=hr; simp only at q1 q2 q3 q4 q5 q6; subst q1; subst q2; exact Gt.pure (DP.mk (by simp only[dl,z27]; omega) q4 ⟨by omega,q6⟩)
   have st0: ∀(m:Nat) (k:Int),m≤2→PS (kX d) (kY d) K m (k,(0:Int),([]:List UInt8),([]:List aA),([]:List aC),r4.2.1,r4.2.2.1,r4.2.2.2,ns):=fun m k hm2=>by
    have a1:m*(1+kX d)≤2*(1+kX d):=z45 _ hm2; have a2:m*kY d≤2*kY d:=z45 _ hm2; exact⟨rfl,rfl,by simp only[dl]; omega,h5,by simp only; omega,hm.2⟩
   refine Gt.cond (fun _=> ?_) fun _=> ?_
   ·exact Gt.bind (Gt.loop _ _ (fun m s hs=>Ob n d K hd hK ih m s hs) (m:=2) ⟨rfl,Pd _,st0 2 _ (z53 _)⟩ (by omega)) fin
   ·exact Gt.bind (Gt.loop _ _ (fun m s hs=>Oa n d K hd hK r4 (by omega) ih m s hs) (m:=r4.1.toNat) ⟨by simp only; omega,Pd _,st0 _ _ (by omega)⟩ (by omega)) fin
theorem NP(a0 a1:Int)(a2:List UInt8)(a3:List aA)(a4:List aC)(a5 a6:Int)(a7:List UInt8)(a8:List aA)(a9:List aC):dF (.mk a0 a1 a2 a3 a4 a5 a6 a7 a8 a9)=3+aM (.mk a0 a1 a2 a3 a4)+aM (.mk a5 a6 a7 a8 a9):=wV _
theorem GZ{α:Type}{l:List α}{i:Nat}{a:α}(b:Nat)(ha:l[i]? =some a)(hl:l.length≤20000000)(hb:b≤255):fE b (l.take i) [a]=some (l.take (i+1)):=by
 have hi:=gG ha; rw[←oH ha]; refine mX ?_ (by simp only[z38,z21,maxLen]; omega)
 have:((l.take i).length+[a].length)*b≤200000000*255:=Nat.mul_le_mul (by simp only[z38,z21]; omega) hb
 omega
theorem Bs: ∀(n:Nat),n≤1099511627776→ ∀(a:aA),aM a<n→aM a≤20000000→cE n a.f0 a.f1 a.f2 a.f3 a.f4=some (a.f0,a.f1,a.f2,a.f3,a.f4)
 | 0,_=>fun a h=>by omega
 | n+1,hn=>fun a h hb=>by
  have ih:=Bs n (by omega)
  rw[yN]; unfold lL; have hw:=mF a; rw[eM,cX]at hw; have g1:=aW aM a.f3; have g2:=aW dF a.f4; have hl:=sW (body:=iE n (cE n) a.f3) (fun i=>((i:Int),a.f0,a.f1,a.f2,a.f3.take i,([]:List aC))) (len:=a.f3.length) (r:=((a.f3.length:Int),false,a.f0,a.f1,a.f2,a.f3,[])) (fun i hi=>by
   have ha:a.f3[i]? =some a.f3[i]:=z14 hi
   generalize a.f3[i]=e at ha; have hd:=dZ aM (z24 ha); simp only[iE,eT ha,z17,dR,ha,z8,ih e (by omega) (by omega),pB,GZ 80 ha (by omega) (by omega),bC (show i<4611686018427387904 by omega)]) (by simp only[iE,bB,z12,z93]) (n:=n) (by omega)
  have hp:=sW (body:=iD n (cE n) a.f4) (fun i=>((i:Int),a.f0,a.f1,a.f2,a.f3,a.f4.take i)) (len:=a.f4.length) (r:=((a.f4.length:Int),false,a.f0,a.f1,a.f2,a.f3,a.f4)) (fun i hi=>by
   have ha:a.f4[i]? =some a.f4[i]:=z14 hi
   generalize a.f4[i]=e at ha; have hd:=dZ dF (z24 ha); have he:=wV e; have k1:cE n e.f0 e.f1 e.f2 e.f3 e.f4=some (e.f0,e.f1,e.f2,e.f3,e.f4):=ih e.p (by omega) (by omega)
   have k2:cE n e.f5 e.f6 e.f7 e.f8 e.f9=some (e.f5,e.f6,e.f7,e.f8,e.f9):=ih e.x (by omega) (by omega)
   simp only[iD,eT ha,z17,dR,ha,z8,k1,k2,AB,GZ 160 ha (by omega) (by omega),bC (show i<4611686018427387904 by omega)]) (by simp only[iD,bB,z12,z93]) (n:=n) (by omega)
  refine(congrArg (fun q=>Option.bind q _) hl).trans ?_
  simp only[z8]; refine(congrArg (fun q=>Option.bind q _) hp).trans ?_
  rfl
def eB:Nat→Nat
 | 0=>10
 | d+1=>200+4*eB d
theorem eB_10: ∀d,10≤eB d
 | 0=>z53 _
 | d+1=>by simp only[eB]; omega
theorem Re{d:Nat}(h:d≤3):eB d≤4840:=by
 have:d=0∨d=1∨d=2∨d=3:=by omega
 rcases this with e | e | e | e<;>rw[e]<;>simp [eB]
def DE(B:Nat)(r:Int×Int×List UInt8×List aA×List aC×List Int×Int×Int):Prop:=aM (.mk r.1 r.2.1 r.2.2.1 r.2.2.2.1 r.2.2.2.2.1)≤B∧Cur r.2.2.2.2.2.1 r.2.2.2.2.2.2.1
theorem DE.mk{B:Nat}{k m:Int}{s:List UInt8}{l:List aA}{c:List aC}{b:List Int}{i h:Int}(hw:3+s.length+dl aM l+dl dF c≤B)(hc:Cur b i):DE B (k,m,s,l,c,b,i,h):=⟨by rw[xV]; exact hw,hc⟩
def ES(X m:Nat)(x:Int×Int×List UInt8×List aA×List aC×List Int×Int×Int):Prop:=x.2.2.1.length≤5∧x.2.2.2.2.1=[]∧dl aM x.2.2.2.1+m*(1+X)≤1+2*(1+X)∧Cur x.2.2.2.2.2.1 x.2.2.2.2.2.2.1
def CS(X m:Nat)(x:Int×Int×List UInt8×List aA×List aC×List Int×Int×Int):Prop:=x.2.2.1=[]∧dl aM x.2.2.2.1≤2+X∧dl dF x.2.2.2.2.1+m*(53+X)≤1+2*(53+X)∧Cur x.2.2.2.2.2.1 x.2.2.2.2.2.2.1
theorem Mo(n d K:Nat)(ns:List (List UInt8))(hd:d≤2)(hK:K+10*d≤200)(hm:Nm K ns)(ih: ∀ {K':Nat} {b:List Int} {i h:Int} {ns:List (List UInt8)},K'+10*d≤200→Cur b i→Nm K' ns→Gt (bH n (d:Int) ns b i h) (DE (eB d)))(m:Nat)(hm2:m≤2)(s:Int×Int×Int×List UInt8×List aA×List aC×List Int×Int×Int)(hs:s.1=(m:Int)∧ES (eB d) m s.2):Gt (kQ n (bH n) ((d+1:Nat):Int) ns s) (Rnd (fun m s=>m≤2∧s.1=(m:Int)∧ES (eB d) m s.2) (fun r=>ES (eB d) 0 r.2.2) m):=by
 obtain⟨v,w0,w1,w2,w3,w4,w5,w6,w7⟩:=s; obtain⟨s1,s3,s4,s5,s6⟩:=hs; simp only at s1 s3 s4 s5 s6; subst s4; have hX:=Re (d:=d) (by omega)
 have hl:=aW aM w3; unfold kQ; simp only; by_cases c1:(0:Int)<v
 ·rw[z11 c1,z17]
  obtain⟨m',rfl⟩: ∃m',m=m'+1:=⟨m - 1,by omega⟩
  rw[z85]at s5; have e1:IntKind.wrap .i64 (((d+1:Nat):Int) - 1)=(d:Int):=by rw[wrap_i64 (by omega) (by omega)]; omega
  rw[e1]; refine Gt.bind (ih hK s6 hm) fun r ⟨g1,g2⟩=>Gt.bind (jY (by simp only[z21]; omega) (by omega)) fun q e=> ?_
  rw[wrap_i64 (n:=v - 1) (by omega) (by omega)]
  subst e; have h5:dl aM (w3++[.mk r.1 r.2.1 r.2.2.1 r.2.2.2.1 r.2.2.2.2.1])+m'*(1+eB d)≤1+2*(1+eB d):=by rw[iW]; omega
  refine Gt.pure ⟨m',rfl,by omega,(by show v - 1=(m':Int); omega),s3,rfl,h5,g2⟩
 ·rw[z9 c1,z12]
  have:m=0:=by omega
  subst this; exact Gt.pure ⟨s3,rfl,s5,s6⟩
theorem Mn(n d K:Nat)(ns:List (List UInt8))(hd:d≤2)(hK:K+10*d≤200)(hm:Nm K ns)(ih: ∀ {K':Nat} {b:List Int} {i h:Int} {ns:List (List UInt8)},K'+10*d≤200→Cur b i→Nm K' ns→Gt (bH n (d:Int) ns b i h) (DE (eB d)))(m:Nat)(hm2:m≤2)(s:Int×Int×Int×List UInt8×List aA×List aC×List Int×Int×Int)(hs:(s.1+m=2∧0≤s.1)∧ES (eB d) m s.2):Gt (kP n (bH n) ((d+1:Nat):Int) ns s) (Rnd (fun m s=>m≤2∧(s.1+m=2∧0≤s.1)∧ES (eB d) m s.2) (fun r=>ES (eB d) 0 r.2.2) m):=by
 obtain⟨v,w0,w1,w2,w3,w4,w5,w6,w7⟩:=s; obtain⟨⟨s1,s0⟩,s3,s4,s5,s6⟩:=hs; simp only at s1 s3 s4 s5 s6 s0; subst s4; have hX:=Re (d:=d) (by omega)
 have hl:=aW aM w3; unfold kP; simp only; by_cases c1:v<(2:Int)
 ·rw[z11 c1,z17]
  obtain⟨m',rfl⟩: ∃m',m=m'+1:=⟨m - 1,by omega⟩
  rw[z85]at s5; have e1:IntKind.wrap .i64 (((d+1:Nat):Int) - 1)=(d:Int):=by rw[wrap_i64 (by omega) (by omega)]; omega
  rw[e1]; refine Gt.bind (ih hK s6 hm) fun r ⟨g1,g2⟩=>Gt.bind (jY (by simp only[z21]; omega) (by omega)) fun q e=> ?_
  rw[wrap_i64 (n:=v+1) (by omega) (by omega)]
  subst e; have h5:dl aM (w3++[.mk r.1 r.2.1 r.2.2.1 r.2.2.2.1 r.2.2.2.2.1])+m'*(1+eB d)≤1+2*(1+eB d):=by rw[iW]; omega
  refine Gt.pure ⟨m',rfl,by omega,⟨(by show v+1+(m':Int)=2; omega),(by show 0≤v+1; omega)⟩,s3,rfl,h5,g2⟩
 ·rw[z9 c1,z12]
  have:m=0:=by omega
  subst this; exact Gt.pure ⟨s3,rfl,s5,s6⟩
theorem Mm(n d K:Nat)(ns:List (List UInt8))(hd:d≤2)(hK:K+10*d≤200)(hm:Nm K ns)(ih: ∀ {K':Nat} {b:List Int} {i h:Int} {ns:List (List UInt8)},K'+10*d≤200→Cur b i→Nm K' ns→Gt (bH n (d:Int) ns b i h) (DE (eB d)))(m:Nat)(hm2:m≤2)(s:Int×Int×Int×List UInt8×List aA×List aC×List Int×Int×Int)(hs:(s.1+m=1∧0≤s.1)∧ES (eB d) m s.2):Gt (kO n (bH n) ((d+1:Nat):Int) ns s) (Rnd (fun m s=>m≤2∧(s.1+m=1∧0≤s.1)∧ES (eB d) m s.2) (fun r=>ES (eB d) 0 r.2.2) m):=by
 obtain⟨v,w0,w1,w2,w3,w4,w5,w6,w7⟩:=s; obtain⟨⟨s1,s0⟩,s3,s4,s5,s6⟩:=hs; simp only at s1 s3 s4 s5 s6 s0; subst s4; have hX:=Re (d:=d) (by omega)
 have hl:=aW aM w3; unfold kO; simp only; by_cases c1:v<(1:Int)
 ·rw[z11 c1,z17]
  obtain⟨m',rfl⟩: ∃m',m=m'+1:=⟨m - 1,by omega⟩
  rw[z85]at s5; have e1:IntKind.wrap .i64 (((d+1:Nat):Int) - 1)=(d:Int):=by rw[wrap_i64 (by omega) (by omega)]; omega
  rw[e1]; refine Gt.bind (ih hK s6 hm) fun r ⟨g1,g2⟩=>Gt.bind (jY (by simp only[z21]; omega) (by omega)) fun q e=> ?_
  rw[wrap_i64 (n:=v+1) (by omega) (by omega)]
  subst e; have h5:dl aM (w3++[.mk r.1 r.2.1 r.2.2.1 r.2.2.2.1 r.2.2.2.2.1])+m'*(1+eB d)≤1+2*(1+eB d):=by rw[iW]; omega
  refine Gt.pure ⟨m',rfl,by omega,⟨(by show v+1+(m':Int)=1; omega),(by show 0≤v+1; omega)⟩,s3,rfl,h5,g2⟩
 ·rw[z9 c1,z12]
  have:m=0:=by omega
  subst this; exact Gt.pure ⟨s3,rfl,s5,s6⟩
theorem Ml(n d K:Nat)(ns:List (List UInt8))(hd:d≤2)(hn:2010<n)(hn2:n≤1099511627776)(hK:K+10*(d+1)≤200)(hm:Nm K ns)(ih: ∀ {K':Nat} {b:List Int} {i h:Int} {ns:List (List UInt8)},K'+10*d≤200→Cur b i→Nm K' ns→Gt (bH n (d:Int) ns b i h) (DE (eB d)))(m:Nat)(hm2:m≤2)(s:Int×Int×Int×List UInt8×List aA×List aC×List Int×Int×Int)(hs:s.1=(m:Int)∧CS (eB d) m s.2):Gt (kN n (bH n) ((d+1:Nat):Int) ns s) (Rnd (fun m s=>m≤2∧s.1=(m:Int)∧CS (eB d) m s.2) (fun r=>CS (eB d) 0 r.2.2) m):=by
 obtain⟨v,w0,w1,w2,w3,w4,w5,w6,w7⟩:=s; obtain⟨s1,s3,s4,s5,s6⟩:=hs; simp only at s1 s3 s4 s5 s6; subst s3; have hX:=Re (d:=d) (by omega)
 have hl:=aW dF w4; have hml:=hm.1; unfold kN; simp only; by_cases c1:(0:Int)<v
 ·rw[z11 c1,z17]
  obtain⟨m',rfl⟩: ∃m',m=m'+1:=⟨m - 1,by omega⟩
  rw[z85]at s5; have e1:IntKind.wrap .i64 (((d+1:Nat):Int) - 1)=(d:Int):=by rw[wrap_i64 (by omega) (by omega)]; omega
  rw[e1]; refine Gt.bind (Ef 1 n (by omega) (by omega) hn2 (K:=0) (by omega) s6 ⟨z53 _,fun s hs=>by cases hs⟩) fun r ⟨f1,f2,f3⟩=> ?_
  have f3l:=f3.1; have e2:kY (1+1)=4:=rfl; have e3:kX (1+1)=49:=rfl; refine Gt.bind (jY (by simp only[z27]; omega) (by omega)) fun q1 e=> ?_
  rw[Ph]at e; subst e; refine Gt.bind (jY (by omega) (by omega)) fun q2 e=> ?_
  subst e; refine Gt.bind (ih (K':=K+4) (by omega) f2 ((hm.app f3).up (by omega))) fun r2 ⟨g1,g2⟩=>Gt.bind (jY (by simp only[z21]; omega) (by omega)) fun q e=> ?_
  rw[wrap_i64 (n:=v - 1) (by omega) (by omega)]
  subst e; have h5:dl dF (w4++[.mk r.1 r.2.1 r.2.2.1 r.2.2.2.1 r.2.2.2.2.1 r2.1 r2.2.1 r2.2.2.1 r2.2.2.2.1 r2.2.2.2.2.1])+m'*(53+eB d)≤1+2*(53+eB d):=by rw[iW,NP]; omega
  exact Gt.pure ⟨m',rfl,by omega,(by show v - 1=(m':Int); omega),rfl,s4,h5,g2⟩
 ·rw[z9 c1,z12]
  have:m=0:=by omega
  subst this; exact Gt.pure ⟨rfl,s4,s5,s6⟩
theorem BT{n:Nat}{x:Int}:Gt (bN n x) (fun r=>r=(1,x,[],[],[])):=Gt.pure rfl
theorem UC{n:Nat}{s:List UInt8}:Gt (kK n s) (fun r=>r=(2,0,s,[],[])):=Gt.pure rfl
theorem Jj: ∀(d n:Nat),d≤3→d+2100<n→n≤1099511627776→ ∀ {K:Nat} {b:List Int} {i h:Int} {ns:List (List UInt8)},K+10*d≤200→Cur b i→Nm K ns→Gt (bH n (d:Int) ns b i h) (DE (eB d))
 | d,0,_,hn,_=>by omega
 | d,n+1,hd,hn,hn2=>fun hK hc hm=>by
  rename_i K b i h ns; rw[yM]; unfold lK; have hX:=eB_10 d; have hml:=hm.1; have one: ∀ {k m:Int} {s:List UInt8} {b:List Int} {i h:Int},s.length≤5→Cur b i→DE (eB d) (k,m,s,[],[],b,i,h):=fun hs hc=>DE.mk (by simp only[dl]; omega) hc
  have ints: ∀ {b:List Int} {i h:Int},Cur b i→Gt ((bO n ([(0:Int),(1:Int),(2:Int),(5:Int),(40:Int)]:List Int) b i h).bind fun c28_5=>(bN n c28_5.1).bind fun c29_6=>some (c29_6.1,c29_6.2.1,c29_6.2.2.1,c29_6.2.2.2.1,c29_6.2.2.2.2,c28_5.2.1,c28_5.2.2.1,c28_5.2.2.2)) (DE (eB d)):=fun hc=>
   Gt.bind (uP hc (by simp) (by simp)) fun r ⟨_,h2⟩=>Gt.bind BT fun q e=>by subst e; exact Gt.pure (one (by simp) h2)
  have atoms: ∀ {b:List Int} {i h:Int},Cur b i→Gt ((aV n ([([111,107]:List UInt8),([97]:List UInt8),([115,116,111,112]:List UInt8),([116,114,117,101]:List UInt8)]:List (List UInt8)) b i h).bind fun c34_8=>(kK n c34_8.1).bind fun c35_9=>some (c35_9.1,c35_9.2.1,c35_9.2.2.1,c35_9.2.2.2.1,c35_9.2.2.2.2,c34_8.2.1,c34_8.2.2.1,c34_8.2.2.2)) (DE (eB d)):=fun hc=>
   Gt.bind (sH (K:=5) hc (by simp) (by simp) (by decide)) fun r ⟨h1,h2⟩=>Gt.bind UC fun q e=>by subst e; exact Gt.pure (one h1 h2)
  have nJ: ∀ {b:List Int} {i h:Int},Cur b i→Gt (bif decide ((0:Int)<(ns.length:Int))then(aJ n (ns.length:Int) b i h).bind fun c47_12=>(ix ns c47_12.1).bind fun e48_13=>some ((3:Int),(0:Int),e48_13,([]:List aA),([]:List aC),c47_12.2.1,c47_12.2.2.1,c47_12.2.2.2)else(aJ n (4:Int) b i h).bind fun c52_14=>(bN n c52_14.1).bind fun c53_15=>some (c53_15.1,c53_15.2.1,c53_15.2.2.1,c53_15.2.2.2.1,c53_15.2.2.2.2,c52_14.2.1,c52_14.2.2.1,c52_14.2.2.2)) (DE (eB d)):=fun hc=>by
   refine Gt.cond (fun e=> ?_) fun _=> ?_
   ·have:=Nu e
    refine Gt.bind (cC hc this) fun r ⟨h1,h2⟩=> ?_
    obtain⟨h3,h4⟩:=h1 (by omega)
    exact Gt.bind (Pk h3 h4) fun a ha=>Gt.pure (one (hm.2 a ha) h2)
   ·exact Gt.bind (cC hc (by omega)) fun r ⟨_,h2⟩=>Gt.bind BT fun q e=>by subst e; exact Gt.pure (one (by simp) h2)
  refine Gt.bind (cC hc (by omega)) fun r ⟨_,h2⟩=>Gt.cond (fun e0=> ?_) fun e0=> ?_
  ·refine Gt.bind (cC h2 (by omega)) fun r2 ⟨h4,h5⟩=> ?_
   obtain⟨h6,h7⟩:=h4 (by omega)
   refine Gt.cond (fun _=>ints h5) fun q0=>Gt.cond (fun _=>atoms h5) fun q1=>Gt.cond (fun _=>nJ h5) fun q2=>Gt.cond (fun _=>nJ h5) fun q3=> ?_
   have:=Po q0; have:=Po q1; have:=Po q2; have:=Po q3; omega
  ·have:=Po e0
   obtain⟨d',rfl⟩: ∃d',d=d'+1:=⟨d - 1,by omega⟩
   have e1:IntKind.wrap .i64 (((d'+1:Nat):Int) - 1)=(d':Int):=by rw[wrap_i64 (by omega) (by omega)]; omega
   have eX:eB (d'+1)=200+4*eB d':=rfl; have ih: ∀ {K':Nat} {b:List Int} {i h:Int} {ns:List (List UInt8)},K'+10*d'≤200→Cur b i→Nm K' ns→Gt (bH n (d':Int) ns b i h) (DE (eB d')):=Jj d' n (by omega) (by omega) (by omega)
   rw[e1]; have ops: ∀ {b:List Int} {i h:Int},Cur b i→Gt ((aV n ([([43]:List UInt8),([45]:List UInt8),([42]:List UInt8),([61,61]:List UInt8),([60]:List UInt8),([43]:List UInt8)]:List (List UInt8)) b i h).bind fun c59_29=>(bH n (d':Int) ns c59_29.2.1 c59_29.2.2.1 c59_29.2.2.2).bind fun c64_30=>(bH n (d':Int) ns c64_30.2.2.2.2.2.1 c64_30.2.2.2.2.2.2.1 c64_30.2.2.2.2.2.2.2).bind fun c69_31=>some ((7:Int),(0:Int),c59_29.1,([aA.mk c64_30.1 c64_30.2.1 c64_30.2.2.1 c64_30.2.2.2.1 c64_30.2.2.2.2.1,aA.mk c69_31.1 c69_31.2.1 c69_31.2.2.1 c69_31.2.2.2.1 c69_31.2.2.2.2.1]:List aA),([]:List aC),c69_31.2.2.2.2.2.1,c69_31.2.2.2.2.2.2.1,c69_31.2.2.2.2.2.2.2)) (DE (eB (d'+1))):=fun hc=>
    Gt.bind (sH (K:=5) hc (by simp) (by simp) (by decide)) fun r ⟨h1,h2⟩=>Gt.bind (ih (by omega) h2 hm) fun r1 ⟨f1,f2⟩=>Gt.bind (ih (by omega) f2 hm) fun r2 ⟨g1,g2⟩=>Gt.pure (DE.mk (by simp only[dl]; omega) g2)
   have fin: ∀ {x:Int×Int×List UInt8×List aA×List aC×List Int×Int×Int},ES (eB d') 0 x→DE (eB (d'+1)) x:=fun {x} hx=>by
    obtain⟨x2,x3,x4,x5,x6,x7,x8,x9⟩:=x; obtain⟨q1,q2,q3,q4⟩:=hx; simp only at q1 q2 q3 q4; subst q2; exact DE.mk (by simp only[dl]; omega) q4
   refine Gt.cond (fun _=>ints h2) fun _=>Gt.cond (fun _=>atoms h2) fun _=>Gt.cond (fun _=>nJ h2) fun _=>Gt.cond (fun _=>nJ h2) fun _=>Gt.cond (fun _=>nJ h2) fun _=>Gt.cond (fun _=>ops h2) fun _=>Gt.cond (fun _=>ops h2) fun _=>Gt.cond (fun _=> ?_) fun _=>Gt.cond (fun _=> ?_) fun _=>Gt.cond (fun _=> ?_) fun _=> ?_
   ·refine Gt.bind (uP h2 (by simp) (by simp)) fun r3 ⟨_,h3⟩=>Gt.bind (cC h3 (by omega)) fun r4 ⟨h4,h5⟩=> ?_
    obtain⟨h6,h7⟩:=h4 (by omega)
    refine Gt.bind (Gt.loop _ _ (fun m s hs=>Mo n d' K ns (by omega) (by omega) hm ih m hs.1 s hs.2) (m:=r4.1.toNat) ⟨by omega,by simp only; omega,by simp,rfl, ?_,h5⟩ (by omega)) fun r hr=> ?_
    ·have a1:r4.1.toNat*(1+eB d')≤2*(1+eB d'):=z45 _ (by omega)
     simp only[dl]; omega
    ·obtain⟨x0,x1,x2,x3,x4,x5,x6,x7,x8,x9⟩:=r
     exact Gt.pure (fin hr)
   ·refine Gt.bind (ih (by omega) h2 hm) fun r1 ⟨f1,f2⟩=>Gt.bind (ih (by omega) f2 hm) fun r2 ⟨g1,g2⟩=>Gt.pure (DE.mk ?_ g2)
    simp only[dl,z27]; rw[xV 5 0]; simp only[dl,z27]; omega
   ·refine Gt.bind (sH (K:=5) h2 (by simp) (by simp) (by decide)) fun r3 ⟨h3,h4⟩=>Gt.cond (fun _=> ?_) fun _=> ?_
    ·refine Gt.bind (Gt.loop _ _ (fun m s hs=>Mn n d' K ns (by omega) (by omega) hm ih m hs.1 s hs.2) (m:=2) ⟨by omega,⟨by simp,by simp⟩,h3,rfl, ?_,h4⟩ (by omega)) fun r hr=> ?_
     ·simp only[dl]; omega
     ·obtain⟨x0,x1,x2,x3,x4,x5,x6,x7,x8,x9⟩:=r
      exact Gt.pure (fin hr)
    ·refine Gt.bind (Gt.loop _ _ (fun m s hs=>Mm n d' K ns (by omega) (by omega) hm ih m hs.1 s hs.2) (m:=1) ⟨by omega,⟨by simp,by simp⟩,h3,rfl, ?_,h4⟩ (by omega)) fun r hr=> ?_
     ·simp only[dl]; omega
     ·obtain⟨x0,x1,x2,x3,x4,x5,x6,x7,x8,x9⟩:=r
      exact Gt.pure (fin hr)
   ·refine Gt.bind (ih (by omega) h2 hm) fun r1 ⟨f1,f2⟩=>Gt.bind (cC f2 (by omega)) fun r4 ⟨h4,h5⟩=> ?_
    obtain⟨h6,h7⟩:=h4 (by omega)
    rw[wrap_i64 (n:=1+r4.1) (by omega) (by omega)]
    refine Gt.bind (Gt.loop _ _ (fun m s hs=>Ml n d' K ns (by omega) (by omega) (by omega) (by omega) hm ih m hs.1 s hs.2) (m:=(1+r4.1).toNat) ⟨by omega,by simp only; omega,rfl, ?_, ?_,h5⟩ (by omega)) fun r hr=> ?_
    ·simp only[dl]; omega
    ·have a1:(1+r4.1).toNat*(53+eB d')≤2*(53+eB d'):=z45 _ (by omega)
     simp only[dl]; omega
    ·obtain⟨x0,x1,x2,x3,x4,x5,x6,x7,x8,x9⟩:=r
     obtain⟨q1,q2,q3,q4⟩:=hr; simp only at q1 q2 q3 q4 ⊢; subst q1; have hl:=aW dF x6; have hX5:=Re (d:=d') (by omega)
     refine Gt.bind (wP q4 (by omega)) fun r5 h8=>Gt.cond (fun _=> ?_) fun _=>Gt.pure (DE.mk (by simp only[z27]; omega) h8)
     refine Gt.bind (ih (by omega) h8 hm) fun r6 ⟨g1,g2⟩=>Gt.bind (jY (by simp only[z21]; omega) (by omega)) fun q e=>Gt.pure (DE.mk ?_ g2)
     subst e; rw[iW,NP,xV 3 0]; simp only[dl,z27,z21]; omega
theorem Gy{α:Type}(w:α→Nat)(b:α): ∀(l:List α) (k:Nat),dl w (l.set k b)≤dl w l+w b
 | [],k=>by simp [dl]
 | x::r,0=>by simp only[z137,dl]; omega
 | x::r,k+1=>by have:=Gy w b r k; simp only[z138,dl]; omega
theorem Jk{n B:Nat}{a:aA}(hn:aM a+200<n)(hn2:n≤1099511627776)(hw:aM a≤B)(hB:B≤100000){b:List Int}{i h:Int}(hc:Cur b i):Gt (jK n a.f0 a.f1 a.f2 a.f3 a.f4 b i h) (DE (2*B+200)):=by
 unfold jK; have hcp:=Bs n hn2 a (by omega) (by omega)
 have hwa:aM (.mk a.f0 a.f1 a.f2 a.f3 a.f4)≤B:=by rw[pB]; exact hw
 have hw2:=hwa; rw[xV]at hw2; have g1:=aW aM a.f3; have g2:=aW dF a.f4; simp only[hcp,z8]; refine Gt.bind (cC hc (by omega)) fun r ⟨_,h2⟩=> ?_
 refine Gt.cond (fun _=> ?_) fun _=>Gt.cond (fun _=> ?_) fun _=>Gt.cond (fun _=> ?_) fun _=>Gt.cond (fun _=> ?_) fun _=>Gt.cond (fun _=> ?_) fun _=>Gt.cond (fun _=> ?_) fun _=>Gt.cond (fun _=> ?_) fun _=> ?_
 ·exact Gt.bind (cC h2 (by omega)) fun r ⟨_,h2⟩=>Gt.pure (DE.mk (by omega) h2)
 ·exact Gt.bind (uP h2 (by simp) (by simp)) fun r ⟨_,h2⟩=>Gt.pure (DE.mk (by omega) h2)
 ·exact Gt.bind (sH (K:=5) h2 (by simp) (by simp) (by decide)) fun r ⟨h1,h2⟩=>Gt.pure (DE.mk (by omega) h2)
 ·refine Gt.bind BT fun q e=> ?_
  subst e; refine Gt.bind (jY (by simp only[z21]; omega) (by omega)) fun q e=>Gt.pure (DE.mk ?_ h2)
  subst e; rw[iW,xV]; simp only[dl,z27]; omega
 ·refine Gt.bind BT fun q e=> ?_
  subst e; refine Gt.bind (jY (by simp only[z21]; omega) (by omega)) fun q e=>Gt.pure (DE.mk ?_ h2)
  subst e; rw[iW,NP,xV 1 1]; simp only[dl,z27]; omega
 ·refine Gt.bind (P:=fun r=>aM (.mk r.2.2.1 r.2.2.2.1 r.2.2.2.2.1 r.2.2.2.2.2.1 r.2.2.2.2.2.2)≤B+54) (Gt.loop (fun(m:Nat) (s:Int×Int×Int×List UInt8×List aA×List aC)=>s.1+m=9∧0≤s.1∧aM (.mk s.2.1 s.2.2.1 s.2.2.2.1 s.2.2.2.2.1 s.2.2.2.2.2)+6*m≤B+54) _ (fun m s hs=> ?_) (m:=9) ?_ (by omega)) fun r hr=>Gt.pure ⟨z41 hr (by omega),h2⟩
  ·obtain⟨v,w1,w2,w3,w4,w5⟩:=s
   obtain⟨s1,s2,s3⟩:=hs; simp only at s1 s2 s3; unfold nP; simp only; by_cases c1:v<(9:Int)
   ·rw[z11 c1,z17,wrap_i64 (n:=v+1) (by omega) (by omega)]
    refine Gt.pure ⟨m - 1,by omega, ?_, ?_, ?_⟩
    ·show v+1+((m - 1:Nat):Int)=9
     omega
    ·show 0≤v+1
     omega
    ·show aM (.mk 4 0 [] [.mk w1 w2 w3 w4 w5] [])+6*(m - 1)≤B+54
     rw[xV 4 0]; simp only[dl,z27]; omega
   ·rw[z9 c1,z12]
    refine Gt.pure ?_
    show aM (.mk w1 w2 w3 w4 w5)≤B+54; omega
  ·exact⟨by simp,by simp,by simp only; omega⟩
 ·refine Gt.cond (fun e=> ?_) fun _=>Gt.pure (DE.mk (by omega) h2)
  have:=Nu e; refine Gt.bind (Pk (Pd _) this) fun e he=>Gt.pure (DE.mk ?_ h2)
  have hd:=dZ dF he; have hec:=wV e; have hx:aM (.mk e.f5 e.f6 e.f7 e.f8 e.f9)=aM e.x:=congrArg aM (pB e.x); have hs:=Gy dF (aC.mk 4 0 [] [.mk 3 0 [65] [] [], .mk 3 0 [65] [] []] [] e.f5 e.f6 e.f7 e.f8 e.f9) a.f4 (Int.toNat 0); rw[NP,xV 4 0,hx]at hs; simp only[dl,z27,xV 3 0 [65] [] [],z21]at hs; omega
 ·exact Gt.pure (DE.mk (by omega) h2)
theorem Mk{n K:Nat}(hn:10000<n)(hn2:n≤1099511627776)(hK:K≤100){b:List Int}{i h:Int}{ns:List (List UInt8)}(hc:Cur b i)(hm:Nm K ns):Gt (kB n ns b i h) (DE 4840):=by
 unfold kB; refine Gt.bind (Jj 3 n (by omega) (by omega) hn2 (by omega) hc hm) fun r ⟨h1,h2⟩=> ?_
 have e3:eB 3=4840:=rfl; have hx:=Eo n hn2 (.mk r.1 r.2.1 r.2.2.1 r.2.2.2.1 r.2.2.2.2.1) false 10 300 (by omega) (by omega) (by omega) (by omega)
 have hx:bQ n r.1 r.2.1 r.2.2.1 r.2.2.2.1 r.2.2.2.2.1 false (10:Int) 300=_:=hx; unfold nW; rw[hx]; simp only[z8]; refine Gt.cond (fun _=>Gt.bind BT fun q e=> ?_) fun _=>Gt.pure ⟨z41 h1 (by omega),h2⟩
 subst e; exact Gt.pure (DE.mk (by simp only[dl,z27]; omega) h2)
theorem Qp{n:Nat}(hn:20000<n)(hn2:n≤1099511627776){b:List Int}{i h:Int}(hc:Cur b i):Gt (nE n b i h) (DE 9880):=by
 unfold nE; refine Gt.bind (Mk (K:=2) (by omega) hn2 (by omega) hc ⟨by simp,by decide⟩) fun r ⟨h1,h2⟩=>Gt.bind (wP h2 (by omega)) fun r2 h3=>Gt.cond (fun _=> ?_) fun _=>Gt.pure ⟨z41 h1 (by omega),h3⟩
 have:=Jk (n:=n) (B:=4840) (a:= .mk r.1 r.2.1 r.2.2.1 r.2.2.2.1 r.2.2.2.2.1) (by omega) hn2 h1 (by omega) (b:=r2.2.1) (i:=r2.2.2.1) (h:=r2.2.2.2) h3
 exact Gt.bind this fun q ⟨g1,g2⟩=>Gt.pure ⟨g1,g2⟩
theorem KU{n:Nat}(hn:20000<n)(hn2:n≤1099511627776){b:List Int}{i h:Int}(hc:Cur b i):Gt (jD n b i h) (DE 9880):=by
 unfold jD; have e3:kX (2+1)=105:=rfl; refine Gt.bind (Ef 2 n (by omega) (by omega) hn2 (K:=0) (by omega) hc ⟨z53 _,fun s hs=>by cases hs⟩) fun r ⟨h1,h2,_⟩=>Gt.bind (cC h2 (by omega)) fun r2 ⟨_,h3⟩=>Gt.cond (fun _=> ?_) fun _=>Gt.cond (fun _=> ?_) fun _=>Gt.cond (fun _=> ?_) fun _=>Gt.pure ⟨z41 h1 (by omega),h3⟩
 ·have:=Jk (n:=n) (B:=105) (a:= .mk r.1 r.2.1 r.2.2.1 r.2.2.2.1 r.2.2.2.2.1) (by omega) hn2 h1 (by omega) (b:=r2.2.1) (i:=r2.2.2.1) (h:=r2.2.2.2) h3
  exact Gt.bind this fun q ⟨g1,g2⟩=>Gt.pure ⟨z41 g1 (by omega),g2⟩
 ·have hcp:=Bs n hn2 (.mk r.1 r.2.1 r.2.2.1 r.2.2.2.1 r.2.2.2.2.1) (by omega) (by omega)
  have hcp:cE n r.1 r.2.1 r.2.2.1 r.2.2.2.1 r.2.2.2.2.1=some (r.1,r.2.1,r.2.2.1,r.2.2.2.1,r.2.2.2.2.1):=hcp; rw[hcp]; simp only[z8]; exact Gt.pure (DE.mk (by simp only[dl,z27]; omega) h3)
 ·exact Gt.bind (Qp hn hn2 h3) fun q ⟨g1,g2⟩=>Gt.pure ⟨g1,g2⟩
def FQ(B D:Nat):(Int×Int×List UInt8×List aB×List Int×Int×Int)⊕(Int×Bool×Int×Int×List UInt8×List aB×Int×Int×List UInt8×List aB×List Int×Int×Int)→Prop
 | .inl r=>DT B r
 | .inr r=>r.2.2.2.2.2.2.2.2.1=[]∧dl aR r.2.2.2.2.2.2.2.2.2.1≤40*D∧Cur r.2.2.2.2.2.2.2.2.2.2.1 r.2.2.2.2.2.2.2.2.2.2.2.1
def FI(E:List aA)(m:Nat)(s:Int×Int×Int×List UInt8×List aB×Int×Int×List UInt8×List aB×List Int×Int×Int):Prop:=s.1+m=E.length∧0≤s.1∧s.2.2.2.2.2.2.2.1=[]∧dl aR s.2.2.2.2.2.2.2.2.1≤40*dl aM (E.take s.1.toNat)∧Cur s.2.2.2.2.2.2.2.2.2.1 s.2.2.2.2.2.2.2.2.2.2.1
theorem OZ(n B:Nat)(k:Int)(E:List aA)(hE:dl aM E≤100000)(hB:3+40*dl aM E≤B)(ih: ∀(e:aA),e∈E→ ∀ {b:List Int} {i h:Int},Cur b i→Gt (cP n e.f0 e.f1 e.f2 e.f3 e.f4 b i h) (DT (40*aM e)))(m:Nat)(s:Int×Int×Int×List UInt8×List aB×Int×Int×List UInt8×List aB×List Int×Int×Int)(hs:FI E m s):Gt (lZ n (cP n) k E s) (Rnd (FI E) (FQ B (dl aM E)) m):=by
 obtain⟨v,w0,w1,w2,w3,w4,w5,w6,w7,w8,w9,w10⟩:=s; obtain⟨s1,s2,s3,s4,s5⟩:=hs; simp only at s1 s2 s3 s4 s5; subst s3; have hE1:=aW aM E; have hE2:=jX aM E v.toNat; have hl:=aW aR w7; unfold lZ; simp only; by_cases c1:v<(E.length:Int)
 ·rw[z11 c1,z17]
  obtain⟨j,rfl⟩: ∃j:Nat,v=j:=⟨v.toNat,by omega⟩
  have ha:E[j]? =some (E[j]'(by omega)):=z14 _
  generalize E[j]'(by omega)=e at ha
  have hem:=z24 ha; have hd:=dZ aM hem; have ht:=mN aM ha; have ht2:=jX aM E (j+1); rw[dR,ha,z8]; rw[z68]at s4 hE2; refine Gt.bind (ih e hem s5) fun r ⟨f1,f2⟩=> ?_
  have f3:=f1; rw[AE]at f3; have hl2:=aW aR r.2.2.2.1; refine Gt.bind (P:=fun _=>True) (Gt.cond (fun _=>Gt.pure trivial) fun _=>Gt.pure trivial) fun _ _=>Gt.cond (fun _=> ?_) fun _=> ?_
  ·refine Gt.cond (fun _=> ?_) fun _=> ?_
   ·refine Gt.bind (jY (by simp only[z27]; omega) (by omega)) fun q e=>Gt.pure (show DT _ _ from DT.mk ?_ f2)
    subst e; rw[z90]; simp only[z27]; omega
   ·refine Gt.bind (jY (by omega) (by omega)) fun q e=>Gt.pure (show DT _ _ from DT.mk ?_ f2)
    subst e; have:=kW aR w7 r.2.2.2.1; simp only[z27]; omega
  ·refine Gt.bind (jY (by simp only[z21]; omega) (by omega)) fun q e=> ?_
   subst e; rw[bC (by omega)]
   have h5:dl aR (w7++[.mk r.1 r.2.1 r.2.2.1 r.2.2.2.1])≤40*dl aM (E.take (j+1)):=by rw[iW]; omega
   exact Gt.pure ⟨m - 1,by omega,by simp only; omega,by simp only; omega,rfl,by simp only[z68]; exact h5,f2⟩
 ·rw[z9 c1,z12]
  exact Gt.pure ⟨rfl,z41 s4 (by omega),s5⟩
theorem OY(n B:Nat)(k:Int)(E:List aA)(hE:dl aM E≤100000)(hB:3+40*dl aM E≤B)(ih: ∀(e:aA),e∈E→ ∀ {b:List Int} {i h:Int},Cur b i→Gt (cP n e.f0 e.f1 e.f2 e.f3 e.f4 b i h) (DT (40*aM e)))(m:Nat)(s:Int×Int×Int×List UInt8×List aB×Int×Int×List UInt8×List aB×List Int×Int×Int)(hs:FI E m s):Gt (lY n (cP n) k E s) (Rnd (FI E) (FQ B (dl aM E)) m):=by
 obtain⟨v,w0,w1,w2,w3,w4,w5,w6,w7,w8,w9,w10⟩:=s; obtain⟨s1,s2,s3,s4,s5⟩:=hs; simp only at s1 s2 s3 s4 s5; subst s3; have hE1:=aW aM E; have hE2:=jX aM E v.toNat; have hl:=aW aR w7; unfold lY; simp only; by_cases c1:v<(E.length:Int)
 ·rw[z11 c1,z17]
  obtain⟨j,rfl⟩: ∃j:Nat,v=j:=⟨v.toNat,by omega⟩
  have ha:E[j]? =some (E[j]'(by omega)):=z14 _
  generalize E[j]'(by omega)=e at ha
  have hem:=z24 ha; have hd:=dZ aM hem; have ht:=mN aM ha; have ht2:=jX aM E (j+1); rw[dR,ha,z8]; rw[z68]at s4 hE2; refine Gt.bind (ih e hem s5) fun r ⟨f1,f2⟩=> ?_
  have f3:=f1; rw[AE]at f3; have hl2:=aW aR r.2.2.2.1; refine Gt.bind (P:=fun _=>True) (Gt.cond (fun _=>Gt.pure trivial) fun _=>Gt.pure trivial) fun _ _=>Gt.cond (fun _=> ?_) fun _=> ?_
  ·refine Gt.cond (fun _=> ?_) fun _=> ?_
   ·refine Gt.bind (jY (by simp only[z27]; omega) (by omega)) fun q e=>Gt.pure (show DT _ _ from DT.mk ?_ f2)
    subst e; rw[z90]; simp only[z27]; omega
   ·refine Gt.bind (jY (by omega) (by omega)) fun q e=>Gt.pure (show DT _ _ from DT.mk ?_ f2)
    subst e; have:=kW aR w7 r.2.2.2.1; simp only[z27]; omega
  ·refine Gt.bind (jY (by simp only[z21]; omega) (by omega)) fun q e=> ?_
   subst e; rw[bC (by omega)]
   have h5:dl aR (w7++[.mk r.1 r.2.1 r.2.2.1 r.2.2.2.1])≤40*dl aM (E.take (j+1)):=by rw[iW]; omega
   exact Gt.pure ⟨m - 1,by omega,by simp only; omega,by simp only; omega,rfl,by simp only[z68]; exact h5,f2⟩
 ·rw[z9 c1,z12]
  exact Gt.pure ⟨rfl,z41 s4 (by omega),s5⟩
theorem OX(n B:Nat)(E:List aA)(hE:dl aM E≤100000)(hB:3+40*dl aM E≤B)(ih: ∀(e:aA),e∈E→ ∀ {b:List Int} {i h:Int},Cur b i→Gt (cP n e.f0 e.f1 e.f2 e.f3 e.f4 b i h) (DT (40*aM e)))(m:Nat)(s:Int×Int×Int×List UInt8×List aB×Int×Int×List UInt8×List aB×List Int×Int×Int)(hs:FI E m s):Gt (lX n (cP n) E s) (Rnd (FI E) (FQ B (dl aM E)) m):=by
 obtain⟨v,w0,w1,w2,w3,w4,w5,w6,w7,w8,w9,w10⟩:=s; obtain⟨s1,s2,s3,s4,s5⟩:=hs; simp only at s1 s2 s3 s4 s5; subst s3; have hE1:=aW aM E; have hE2:=jX aM E v.toNat; have hl:=aW aR w7; unfold lX; simp only; by_cases c1:v<(E.length:Int)
 ·rw[z11 c1,z17]
  obtain⟨j,rfl⟩: ∃j:Nat,v=j:=⟨v.toNat,by omega⟩
  have ha:E[j]? =some (E[j]'(by omega)):=z14 _
  generalize E[j]'(by omega)=e at ha
  have hem:=z24 ha; have hd:=dZ aM hem; have ht:=mN aM ha; have ht2:=jX aM E (j+1); rw[dR,ha,z8]; rw[z68]at s4 hE2; refine Gt.bind (ih e hem s5) fun r ⟨f1,f2⟩=> ?_
  have f3:=f1; rw[AE]at f3; have hl2:=aW aR r.2.2.2.1; refine Gt.cond (fun _=> ?_) fun _=> ?_
  ·refine Gt.cond (fun _=> ?_) fun _=> ?_
   ·refine Gt.bind (jY (by simp only[z27]; omega) (by omega)) fun q e=>Gt.pure (show DT _ _ from DT.mk ?_ f2)
    subst e; rw[z90]; simp only[z27]; omega
   ·refine Gt.bind (jY (by omega) (by omega)) fun q e=>Gt.pure (show DT _ _ from DT.mk ?_ f2)
    subst e; have:=kW aR w7 r.2.2.2.1; simp only[z27]; omega
  ·refine Gt.bind (jY (by simp only[z21]; omega) (by omega)) fun q e=> ?_
   subst e; rw[bC (by omega)]
   have h5:dl aR (w7++[.mk r.1 r.2.1 r.2.2.1 r.2.2.2.1])≤40*dl aM (E.take (j+1)):=by rw[iW]; omega
   exact Gt.pure ⟨m - 1,by omega,by simp only; omega,by simp only; omega,rfl,by simp only[z68]; exact h5,f2⟩
 ·rw[z9 c1,z12]
  exact Gt.pure ⟨rfl,z41 s4 (by omega),s5⟩
theorem MA: ∀(n:Nat),n≤1099511627776→ ∀(p:aA),aM p+20<n→aM p≤100000→ ∀ {b:List Int} {i h:Int},Cur b i→Gt (cP n p.f0 p.f1 p.f2 p.f3 p.f4 b i h) (DT (40*aM p))
 | 0,_,p,h,_=>by omega
 | n+1,hn,p,hp,hb=>fun hc=>by
  rw[zT]; unfold nA; have hw:=mF p; rw[eM,cX]at hw; have g1:=aW aM p.f3; have g2:=aW dF p.f4; have ih: ∀(e:aA),e∈p.f3→ ∀ {b:List Int} {i h:Int},Cur b i→Gt (cP n e.f0 e.f1 e.f2 e.f3 e.f4 b i h) (DT (40*aM e)):=fun e he=>by
   have:=dZ aM he; intro b i h hc; exact MA n (by omega) e (by omega) (by omega) hc
  have st0: ∀(x y z:Int) {b:List Int} {i h:Int},Cur b i→FI p.f3 p.f3.length ((0:Int),x,y,([]:List UInt8),([]:List aB),z,(0:Int),([]:List UInt8),([]:List aB),b,i,h):=fun x y z b i h hc=>⟨by simp only; omega,Pd _,rfl,by simp only[Int.toNat_zero,Pg,dl]; omega,hc⟩
  refine Gt.cond (fun _=>Gt.pure (DT.mk (by simp only[dl,z27]; omega) hc)) fun _=>Gt.cond (fun _=>Gt.pure (DT.mk (by simp only[dl]; omega) hc)) fun _=>Gt.cond (fun _=> ?_) fun _=>Gt.cond (fun _=> ?_) fun _=>Gt.cond (fun _=> ?_) fun _=> ?_
  ·refine Gt.bind (Gt.loop _ _ (fun m s hs=>OZ n (40*aM p) p.f0 p.f3 (by omega) (by omega) ih m s hs) (m:=p.f3.length) (st0 _ _ _ hc) (by omega)) fun q hq=> ?_
   rcases q with⟨x0,x1,x2,x3,x4,x5,x6⟩ | ⟨x0,x1,x2,x3,x4,x5,x6,x7,x8,x9,x10,x11,x12⟩
   ·exact Gt.pure hq
   ·obtain⟨q1,q2,q3⟩:=hq
    simp only at q1 q2 q3; subst q1; exact Gt.pure (DT.mk (by simp only[z27]; omega) q3)
  ·refine Gt.bind (Gt.loop _ _ (fun m s hs=>OY n (40*aM p) p.f0 p.f3 (by omega) (by omega) ih m s hs) (m:=p.f3.length) (st0 _ _ _ hc) (by omega)) fun q hq=> ?_
   rcases q with⟨x0,x1,x2,x3,x4,x5,x6⟩ | ⟨x0,x1,x2,x3,x4,x5,x6,x7,x8,x9,x10,x11,x12⟩
   ·exact Gt.pure hq
   ·obtain⟨q1,q2,q3⟩:=hq
    simp only at q1 q2 q3; subst q1; exact Gt.pure (DT.mk (by simp only[z27]; omega) q3)
  ·refine Gt.bind (Gt.loop _ _ (fun m s hs=>OX n (40*aM p) p.f3 (by omega) (by omega) ih m s hs) (m:=p.f3.length) (st0 _ _ _ hc) (by omega)) fun q hq=> ?_
   rcases q with⟨x0,x1,x2,x3,x4,x5,x6⟩ | ⟨x0,x1,x2,x3,x4,x5,x6,x7,x8,x9,x10,x11,x12⟩
   ·exact Gt.pure hq
   ·obtain⟨q1,q2,q3⟩:=hq
    simp only at q1 q2 q3; subst q1; exact Gt.pure (DT.mk (by simp only[z27]; omega) q3)
  ·have e1:trB 1=34:=rfl
   exact Gt.bind (FE 1 n (by omega) (by omega) hc) fun r ⟨f1,f2⟩=>Gt.pure ⟨z41 f1 (by omega),f2⟩
def DM(r:Int×Int×List UInt8×List aA×List aC×Int×Int×List UInt8×List aB):Prop:=aM (.mk r.1 r.2.1 r.2.2.1 r.2.2.2.1 r.2.2.2.2.1)≤9880∧aR (.mk r.2.2.2.2.2.1 r.2.2.2.2.2.2.1 r.2.2.2.2.2.2.2.1 r.2.2.2.2.2.2.2.2)≤4200
theorem Iw{n:Nat}(hn:30000<n)(hn2:n≤1099511627776)(code:List Int)(hl:code.length≤1048576):Gt (iH n code) DM:=by
 unfold iH; have e3:kX (2+1)=105:=rfl; refine Gt.bind (MC (by omega) code hl) fun r0 h0=>Gt.bind (Ef 2 n (by omega) (by omega) hn2 (K:=0) (by omega) h0 ⟨z53 _,fun s hs=>by cases hs⟩) fun r ⟨h1,h2,_⟩=> ?_
 have hf:=MA n hn2 (.mk r.1 r.2.1 r.2.2.1 r.2.2.2.1 r.2.2.2.2.1) (by omega) (by omega) (b:=r.2.2.2.2.2.1) (i:=r.2.2.2.2.2.2.1) (h:=r.2.2.2.2.2.2.2.1) h2
 refine Gt.bind hf fun r2 ⟨f1,f2⟩=>Gt.bind (cC f2 (by omega)) fun r3 ⟨_,h3⟩=>Gt.cond (fun _=> ?_) fun _=>Gt.cond (fun _=> ?_) fun _=>Gt.pure ⟨z41 h1 (by omega),z41 f1 (by omega)⟩
 ·exact Gt.bind (MB (by omega) hn2 h3) fun q ⟨g1,g2⟩=>Gt.pure ⟨z41 h1 (by omega),z41 g1 (by omega)⟩
 ·exact Gt.bind (KU (by omega) hn2 h3) fun q ⟨g1,g2⟩=>Gt.pure ⟨g1,z41 f1 (by omega)⟩
theorem Tw{d:Nat}{p:aA}{t:aB}{M:List aG}(hx:xok (d+1) true p=true)(h:mt (d+1) p t=some M):
  (p.f0=1∧t.f0=1∧t.f1=p.f1∧M=[]∧p.f3=[])∨(p.f0=2∧t.f0=2∧t.f2=p.f2∧M=[]∧p.f3=[])∨(p.f0=3∧p.f2=[95]∧M=[])∨(p.f0=3∧p.f2≠[95]∧M=[.mk p.f2 t.f0 t.f1 t.f2 t.f3])∨
  ((p.f0=4∨p.f0=5)∧t.f0=p.f0∧t.f3.length=p.f3.length∧mtL (mt d) p.f3 t.f3=some M)∨
  (p.f0=6∧t.f0=5∧2≤p.f3.length∧p.f3.length - 1≤t.f3.length∧ ∃x A B,p.f3[p.f3.length - 1]? =some x∧mtL (mt d) (p.f3.take (p.f3.length - 1)) (t.f3.take (p.f3.length - 1))=some A∧mt d x (oU (t.f3.drop (p.f3.length - 1)))=some B∧M=A++B):=by
 obtain⟨hk,hs⟩:=qY hx; have h0:GP p.f0 p.f1 p.f2 p.f3.length=true:=by
  have:=hs; rw[←Hs]at this; simp only[z7]at this; exact this.2.2
 unfold mt at h; by_cases h1:p.f0=1
 ·rw[z11 h1,z17]at h
  rw[h1]at h0; simp only[GP,decide_true,z17,z7,z28]at h0; cases hq:decide (t.f0=1)&&decide (t.f1=p.f1)with
  | false=>rw[hq]at h; cases h
  | true=>
   rw[hq]at h; cases h; simp only[z7,z28]at hq; exact .inl ⟨h1,hq.1,hq.2,rfl,z71.1 (by omega)⟩
 rw[z9 h1,z12]at h; by_cases h2:p.f0=2
 ·rw[z11 h2,z17]at h
  rw[h2]at h0; simp only[GP,z9 (show ¬ (2:Int)=1 by omega),decide_true,z17,z12,z7,z28]at h0
  cases hq:decide (t.f0=2)&&decide (t.f2=p.f2)with
  | false=>rw[hq]at h; cases h
  | true=>
   rw[hq]at h; cases h; simp only[z7,z28]at hq; exact .inr (.inl ⟨h2,hq.1,hq.2,rfl,z71.1 (by omega)⟩)
 rw[z9 h2,z12]at h; by_cases h3:p.f0=3
 ·rw[z11 h3,z17]at h
  by_cases hq:p.f2=[95]
  ·rw[z11 hq]at h
   exact .inr (.inr (.inl ⟨h3,hq,by simpa using h.symm⟩))
  ·rw[z9 hq]at h
   exact .inr (.inr (.inr (.inl ⟨h3,hq,by simpa using h.symm⟩)))
 rw[z9 h3,z12]at h; refine .inr (.inr (.inr (.inr ?_)))
 by_cases h4:p.f0=4
 ·rw[z11 h4,z17]at h
  cases hq:decide (t.f0=4)&&decide ((t.f3.length:Int)=(p.f3.length:Int))with
  | false=>rw[hq]at h; cases h
  | true=>
   rw[hq]at h; simp only[z7,z28]at hq; exact .inl ⟨.inl h4,by omega,by omega,h⟩
 rw[z9 h4,z12]at h; by_cases h5:p.f0=5
 ·rw[z11 h5,z17]at h
  cases hq:decide (t.f0=5)&&decide ((t.f3.length:Int)=(p.f3.length:Int))with
  | false=>rw[hq]at h; cases h
  | true=>
   rw[hq]at h; simp only[z7,z28]at hq; exact .inl ⟨.inr h5,by omega,by omega,h⟩
 rw[z9 h5,z12]at h; obtain⟨h6,hne⟩:=sU hs h1 h2 h3 h4 h5; cases hq:decide (t.f0=5)&& !decide ((t.f3.length:Int)<(p.f3.length:Int) - 1)with
 | false=>rw[hq]at h; cases h
 | true=>
  rw[hq,z17]at h; simp only[z7,z28,z37,z39]at hq; obtain⟨A,hA,h⟩:=z18.1 h; cases hxl:p.f3[p.f3.length - 1]? with
  | none=>rw[hxl]at h; cases h
  | some x=>
   rw[hxl]at h; obtain⟨B,hB,e⟩:=z22.1 h; exact .inr ⟨h6,hq.1,by omega,by omega,x,A,B,rfl,hA,hB,e.symm⟩
def sS(b:aG):aB:= .mk b.f1 b.f2 b.f3 b.f4
theorem JZ: ∀ {d e:Nat} {x:aB},d≤e→okD d x=true→okD e x=true
 | 0,e,x,_,h=>by cases h
 | d+1,0,x,hd,h=>by omega
 | d+1,e+1,x,hd,h=>by
  simp only[okD,z7]at h ⊢; exact⟨h.1,z15.2 fun y hy=>JZ (by omega) (z15.1 h.2 y hy)⟩
theorem FC{e:Nat}{t:aB}(h:okD e t=true):uI t.f0 t.f1 t.f2 t.f3.length=true∧ ∀x∈t.f3,okD (e - 1) x=true:=by
 cases e with
 | zero=>cases h
 | succ e=>
  simp only[okD,z7]at h; exact⟨h.1,fun x hx=>z15.1 h.2 x hx⟩
theorem sh5{e:Nat}{t:aB}(h:okD e t=true)(hk:t.f0=5):t= .mk 5 0 [] t.f3∧t.f3.length≤60:=by
 have h1:=(FC h).1; obtain⟨k,m,s,l⟩:=t; have hk:k=5:=hk; subst hk; have h1:uI 5 m s l.length=true:=h1; simp only[uI,z9 (show ¬ (5:Int)=1 by omega),z9 (show ¬ (5:Int)=2 by omega),z9 (show ¬ (5:Int)=3 by omega),z9 (show ¬ (5:Int)=4 by omega),decide_true,z17,z12,z7,z28]at h1
 obtain⟨⟨hm,hs⟩,hl⟩:=h1; subst hs; subst hm; exact⟨rfl,by show l.length≤60; omega⟩
theorem QU{e k:Nat}{t:aB}(h:okD e t=true)(hk:t.f0=5):okD e (oU (t.f3.drop k))=true:=by
 have h1:=(sh5 h hk).2; have h2:=(FC h).2; cases e with
 | zero=>cases h
 | succ e=>
  simp only[okD,z7]; refine⟨?_,z15.2 fun x hx=>h2 x (List.mem_of_mem_drop hx)⟩
  show uI 5 0 [] (t.f3.drop k).length=true; simp only[uI,z65]; have:decide (((t.f3.length - k:Nat):Int)≤60)=true:=z11 (by omega)
  rw[this]; rfl
theorem Sy(t:aB):cnt t=1+rR t.f3:=by cases t; simp only[cnt]; rfl
theorem Gz: ∀(l:List aB) (k:Nat),rR (l.drop k)≤rR l
 | [],k=>by simp
 | x::r,0=>z53 _
 | x::r,k+1=>by have:=Gz r k; rw[z133,oM]; omega
def BOk(e c:Nat)(M:List aG):Prop:= ∀b∈M,okD e (sS b)=true∧cnt (sS b)≤c
theorem IC{f:Mt}{e:Nat}: ∀ {l:List aA} {ts:List aB} {M:List aG} {c:Nat},(∀x∈l, ∀t M,okD e t=true→f x t=some M→BOk e (cnt t) M)→(∀t∈ts,okD e t=true)→rR ts≤c→mtL f l ts=some M→BOk e c M
 | [],ts,M,c,_,_,_,h=>by cases h; exact fun b hb=>by cases hb
 | x::r,[],M,c,_,_,_,h=>by cases h
 | x::r,t::ts,M,c,hf,ht,hc,h=>by
  obtain⟨A,h1,h⟩:=z18.1 h; obtain⟨B,h2,e⟩:=z22.1 h; subst e; rw[oM]at hc; intro b hb; rcases z78.1 hb with hb | hb
  ·have:=hf x (z29 ..) t A (ht t (z29 ..)) h1 b hb
   exact⟨this.1,by omega⟩
  ·exact IC (fun y hy=>hf y (z25 _ hy)) (fun y hy=>ht y (z25 _ hy)) (by omega) h2 b hb
theorem PT: ∀(d e:Nat) (p:aA) (t:aB) (M:List aG),xok d true p=true→okD e t=true→mt d p t=some M→BOk e (cnt t) M
 | 0,e,p,t,M,hx,_,_=>by cases hx
 | d+1,e,p,t,M,hx,ht,h=>by
  have hk:=(qY hx).1; have ih: ∀x∈p.f3, ∀t M,okD e t=true→mt d x t=some M→BOk e (cnt t) M:=fun x hm t M ht h=>PT d e x t M (z15.1 hk x hm) ht h
  have hkd: ∀x∈t.f3,okD e x=true:=fun x hx=>JZ (Nat.sub_le _ _) ((FC ht).2 x hx)
  have hc:=Sy t; rcases Tw hx h with⟨e,_,_,rfl,e3⟩ | ⟨e,_,_,rfl,e3⟩ | ⟨e,e2,rfl⟩ | ⟨e,e2,rfl⟩ | ⟨e,_,_,hL⟩ | ⟨_,e5,_,_,x,A,B,hxl,hA,hB,rfl⟩
  ·exact fun b hb=>by cases hb
  ·exact fun b hb=>by cases hb
  ·exact fun b hb=>by cases hb
  ·intro b hb
   rw[z64.1 hb]; have et:sS (.mk p.f2 t.f0 t.f1 t.f2 t.f3)=t:=aQ t; rw[et]; exact⟨ht,z53 _⟩
  ·exact IC ih hkd (by omega) hL
  ·intro b hb
   rcases z78.1 hb with hb | hb
   ·refine IC (c:=cnt t) (fun y hy=>ih y (z96 hy)) (fun y hy=>hkd y (z96 hy)) ?_ hA b hb
    have h1: ∀(l:List aB) (k:Nat),rR (l.take k)≤rR l:=fun l=>by
     induction l with
     | nil=>intro k; simp
     | cons x r ihl=>
      intro k; cases k with
      | zero=>simp [rR]
      | succ k=>have:=ihl k; rw[RX,oM,oM]; omega
    have:=h1 t.f3 (p.f3.length - 1); omega
   ·have:=ih x (z24 hxl) _ B (QU ht e5) hB b hb
    refine⟨this.1,z41 this.2 ?_⟩
    have h2:cnt (oU (t.f3.drop (p.f3.length - 1)))=1+rR (t.f3.drop (p.f3.length - 1)):=Sy _; have:=Gz t.f3 (p.f3.length - 1); omega
abbrev Ft:=aA→Option aB
def flL(f:Ft):List aA→Option (List aB)
 | []=>some []
 | x::r=>(f x).bind fun t=>(flL f r).map (t:: ·)
def DF(L:List aB):Option aB:=match L[L.length - 1]? with
 | some x=>bif decide (x.f0=5)then some (.mk 5 0 [] (L.take (L.length - 1)++x.f3))else none
 | none=>none
def fl(f:List UInt8→Option aB):Nat→Ft
 | 0,_=>none
 | d+1,p=>bif decide (p.f0=1)then some (.mk 1 p.f1 [] [])else bif decide (p.f0=2)then some (.mk 2 0 p.f2 [])else bif decide (p.f0=3)then f p.f2
  else(flL (fl f d) p.f3).bind fun L=>bif decide (p.f0=4)then some (.mk 4 0 [] L)else bif decide (p.f0=5)then some (.mk 5 0 [] L)else DF L
theorem AL: ∀(n:Nat),n≤1099511627776→(∀(a:aB),aR a<n→dN n a.f0 a.f1 a.f2 a.f3 a.f0 a.f1 a.f2 a.f3=some true)∧ ∀(l:List aB),dl aR l<n→cI n l l=some true
 | 0,_=>⟨fun a h=>by omega,fun l h=>by omega⟩
 | n+1,hn=>by
  obtain⟨ih1,ih2⟩:=AL n (by omega)
  refine⟨fun a h=> ?_,fun l h=> ?_⟩
  ·rw[uX]
   unfold iZ; rw[pK,eK]at h; simp only[ih2 a.f3 (by omega),z8,decide_true,z17]
  ·rw[oP]
   unfold dC; have h2:=aW aR l; simp only[decide_true,z34,z12]; rw[Lv l (fun i a ha=>by
    have hd:=dZ aR (z24 ha); have hi:=gG ha; simp only[dG,eT ha,z17,dR,ha,z8,ih1 a (by omega),z34,z12,bC (show i<4611686018427387904 by omega)]) (by simp only[dG,bB,z12]) (by omega)]
   simp only[z8]
theorem II{α:Type}(p:α→Bool): ∀(l:List α) (k:Nat) (a:α),l[k]? =some a→p a=true→(∀(j:Nat) b,j<k→l[j]? =some b→p b=false)→l.find? p=some a
 | [],k,a,h,_,_=>by simp at h
 | x::r,0,a,h,hp,_=>by
  simp only[z20,z10]at h
  subst h; simp only[List.find?_cons,hp]
 | x::r,k+1,a,h,hp,hj=>by
  have h0:=hj 0 x (by omega) rfl
  simp only[List.find?_cons,h0]
  exact II p r k a (by simpa using h) hp fun j b hjk hb=>hj (j+1) b (by omega) (by simpa using hb)
def fnd(l:List aG)(s:List UInt8):Option aB:=(l.find? fun b=>decide (b.f0=s)).map sS
def Dv:Option aB→Int×Int×List UInt8×List aB×Bool
 | some t=>(t.f0,t.f1,t.f2,t.f3,true)
 | none=>(0,0,[],[],false)
theorem yA(a:aG):eU a=3+a.f0.length+aR (sS a):=by cases a; rfl
theorem HE(n:Nat)(l:List aG)(s:List UInt8)(h:dl eU l<n)(hn:n≤1099511627776):gQ n l s=some (Dv (fnd l s)):=by
 unfold gQ; have hl:=aW eU l; have hg: ∀ {i:Nat} {a:aG},l[i]? =some a→l.getD i ⟨[],0,0,[],[]⟩=a:=fun ha=>by rw[z80,ha]; rfl
 have e:=xE (body:=fP n l s) l (fun b=>decide (b.f0=s)) (fun i=>((i:Int),(0:Int),(0:Int),([]:List UInt8),([]:List aB))) (fun i=> .inl (true,(l.getD i ⟨[],0,0,[],[]⟩).f1,(l.getD i ⟨[],0,0,[],[]⟩).f2,(l.getD i ⟨[],0,0,[],[]⟩).f3,(l.getD i ⟨[],0,0,[],[]⟩).f4)) (.inr ((l.length:Int),false,0,0,[],[])) (fun i a ha=>by
  have hi:=gG ha; have hd:=dZ eU (z24 ha); rw[yA]at hd; have hcp:bZ n a.f1 a.f2 a.f3 a.f4=some (a.f1,a.f2,a.f3,a.f4):=CQ n (a:=sS a) (by omega) (by omega)
  simp only[fP,eT ha,z17,dR,ha,z8,hcp,hg ha,bC (show i<4611686018427387904 by omega)]
  cases decide (a.f0=s)<;>rfl) (by simp only[fP,bB,z12]) (n:=n) (by omega)
 have e:loopN (fP n l s) n ((0:Int),(0:Int),(0:Int),([]:List UInt8),([]:List aB))=_:=e; rw[e]; unfold fnd; rcases sX (fun b:aG=>decide (b.f0=s)) l 0 with⟨h1,h2⟩ | ⟨k,a,h1,h2,h3,h4⟩
 ·rw[h1,List.find?_eq_none.2 (fun b hb=>by rw[h2 b hb]; simp)]; rfl
 ·rw[h1,II _ l k a h2 h3 h4,z9 (by omega)]
  simp only[z12,z8,z32,z68,hg h2]; rfl
theorem Mz(n:Nat)(A B:List aB)(hn:5<n)(h:A.length+B.length≤1000000):eA n [A,B]=some (A++B):=by
 have i0:ix [A,B] (0:Int)=some A:=rfl; have i1:ix [A,B] (1:Int)=some B:=rfl; have d0:decide ((0:Int)<(([A,B]:List (List aB)).length:Int))=true:=by simp
 have d1:decide ((1:Int)<(([A,B]:List (List aB)).length:Int))=true:=by simp
 have d2:decide ((2:Int)<(([A,B]:List (List aB)).length:Int))=false:=by simp
 have w1:IntKind.wrap .i64 ((0:Int)+1)=1:=by rw[wrap_i64 (by omega) (by omega)]; rfl
 have w2:IntKind.wrap .i64 ((1:Int)+1)=2:=by rw[wrap_i64 (by omega) (by omega)]; rfl
 have w3:IntKind.wrap .i64 ((0:Int)+(A.length:Int))=(A.length:Int):=by rw[wrap_i64 (by omega) (by omega)]; omega
 have w4:IntKind.wrap .i64 ((A.length:Int)+(B.length:Int))=((A.length+B.length:Nat):Int):=by rw[wrap_i64 (by omega) (by omega)]; omega
 have r0:bL n [A,B] ((0:Int),(0:Int))=some (.inl ((A.length:Int),(1:Int))):=by
  simp only[bL,d0,z17,i0,z8,w3,w1,z9 (show ¬ (A.length:Int)<0 by omega),z12]
 have r1:bL n [A,B] ((A.length:Int),(1:Int))=some (.inl (((A.length+B.length:Nat):Int),(2:Int))):=by
  simp only[bL,d1,z17,i1,z8,w4,w2,z9 (show ¬ ((A.length+B.length:Nat):Int)<0 by omega),z12]
 have r2:bL n [A,B] (((A.length+B.length:Nat):Int),(2:Int))=some (.inr (((A.length+B.length:Nat):Int),(2:Int),false)):=by
  simp only[bL,d2,z12]
 have a1:fE 56 ([]:List aB) A=some A:=mX (by simp only[z27]; omega) (by simp only[z27,maxLen]; omega)
 have a2:fE 56 A B=some (A++B):=mX (by omega) (by simp only[maxLen]; omega)
 have q0:bK n [A,B] (([]:List aB),(0:Int))=some (.inl (A,(1:Int))):=by
  simp only[bK,d0,z17,i0,z8,a1,w1]
 have q1:bK n [A,B] (A,(1:Int))=some (.inl (A++B,(2:Int))):=by
  simp only[bK,d1,z17,i1,z8,a2,w2]
 have q2:bK n [A,B] (A++B,(2:Int))=some (.inr (A++B,(2:Int),false)):=by
  simp only[bK,d2,z12]
 have g1:fU n ([]:List aB) ((A.length+B.length:Nat):Int)=some []:=by
  unfold fU; rw[z11 (show(0:Int)≤((A.length+B.length:Nat):Int)by omega),z11 (by omega)]; rfl
 have L: ∀ {σ ρ:Type} {body:σ→Option (σ⊕ρ)} {s0 s1 s2:σ} {r:ρ} (_:body s0=some (.inl s1)) (_:body s1=some (.inl s2)) (_:body s2=some (.inr r)),loopN body n s0=some r:=fun h0 h1 h2=>by
  obtain⟨k,rfl⟩: ∃k,n=k+3:=⟨n - 3,by omega⟩
  simp only[loopN,h0,h1,h2]
 unfold eA; rw[L r0 r1 r2]; simp only[z8,g1]; rw[L q0 q1 q2]; rfl
theorem EQ{α:Type}(w:α→Nat){a:α}: ∀ {l:List α},a∈l→l.length+w a≤dl w l
 | x::r,h=>by
  have hl:=aW w r; rcases z98.1 h with rfl | h
  ·simp only[z43,dl]; omega
  ·have:=EQ w h
   simp only[z43,dl]; omega
theorem BU{g:Ft}: ∀ {l:List aA} {L:List aB},flL g l=some L→L.length=l.length∧ ∀x∈L, ∃y∈l,g y=some x
 | [],L,h=>by cases h; exact⟨rfl,fun x hx=>by cases hx⟩
 | y::r,L,h=>by
  obtain⟨t,h1,h⟩:=z18.1 h; obtain⟨L',h2,e⟩:=z22.1 h; subst e; obtain⟨k1,k2⟩:=BU h2; refine⟨by simp only[z43,k1],fun x hx=> ?_⟩
  rcases z98.1 hx with rfl | hx
  ·exact⟨y,z29 ..,h1⟩
  ·obtain⟨z,z1,z2⟩:=k2 x hx
   exact⟨z,z25 _ z1,z2⟩
theorem LZ(f:List UInt8→Option aB)(W:Nat)(hf: ∀s t,f s=some t→t.f3.length≤W): ∀(d:Nat) (p:aA) (t:aB),fl f d p=some t→t.f3.length≤W+aM p
 | 0,p,t,h=>by cases h
 | d+1,p,t,h=>by
  have hw:=mF p; rw[eM,cX]at hw; have g1:=aW aM p.f3; unfold fl at h; cases h1:decide (p.f0=1)with
  | true=>rw[h1]at h; cases h; simp [aB.f3]
  | false=>
  cases h2:decide (p.f0=2)with
  | true=>rw[h1,h2]at h; cases h; simp [aB.f3]
  | false=>
  cases h3:decide (p.f0=3)with
  | true=>rw[h1,h2,h3]at h; have:=hf _ _ h; omega
  | false=>
  rw[h1,h2,h3]at h; simp only[z12]at h; obtain⟨L,hL,h⟩:=z18.1 h; obtain⟨k1,k2⟩:=BU hL; cases h4:decide (p.f0=4)with
  | true=>rw[h4]at h; cases h; show L.length≤_; omega
  | false=>
  cases h5:decide (p.f0=5)with
  | true=>rw[h4,h5]at h; cases h; show L.length≤_; omega
  | false=>
  rw[h4,h5]at h; simp only[z12]at h; unfold DF at h; cases hx:L[L.length - 1]? with
  | none=>rw[hx]at h; cases h
  | some x=>
   rw[hx]at h; cases hq:decide (x.f0=5)with
   | false=>simp only[hq,z12]at h; cases h
   | true=>
    simp only[hq,z17]at h; cases h; obtain⟨y,y1,y2⟩:=k2 x (z24 hx); have q1:=LZ f W hf d y x y2; have q2:=EQ aM y1; show(L.take (L.length - 1)++x.f3).length≤_; rw[z30,z38]; omega
theorem My(n:Nat)(L:List aB)(hn:5<n)(h2:2≤L.length)(h3:L.length≤200000)(hx: ∀x∈L,x.f3.length≤500000):lU n L=some (Dv (DF L)):=by
 have hp:L.length - 1<L.length:=by omega
 have hxl:L[L.length - 1]? =some L[L.length - 1]:=z14 hp
 generalize L[L.length - 1]=x at hxl; have e1:IntKind.wrap .i64 ((L.length:Int) - 1)=((L.length - 1:Nat):Int):=by rw[wrap_i64 (by omega) (by omega)]; omega
 have h4:=hx x (z24 hxl); have hc:=Mz n (L.take (L.length - 1)) x.f3 hn (by rw[z38]; omega)
 unfold lU DF; rw[e1,dR,hxl]; simp only[z8]; cases decide (x.f0=5)with
 | false=>rfl
 | true=>
  rw[GD (by omega)]
  simp only[z34,z12,z8,hc]; rfl
def stF(g:Ft)(t:List aB)(a:aA):List aB⊕Unit:=match g a with
 | some x=> .inl (t++[x])
 | none=> .inr ()
theorem JN(g:Ft): ∀(l:List aA) (t:List aB),nK (stF g) l t=match flL g l with | some L=> .inl (t++L) | none=> .inr ()
 | [],t=>by simp [nK,flL]
 | x::r,t=>by
  have e:stF g t x=match g x with | some y=> .inl (t++[y]) | none=> .inr ():=rfl
  simp only[nK,flL,e]; cases g x with
  | none=>rfl
  | some y=>
   simp only[z8]; rw[JN g r (t++[y])]; cases flL g r with
   | none=>rfl
   | some L=>simp only[z35,z82,List.singleton_append]
theorem ME(l:List aG)(s:List UInt8)(t:aB)(h:fnd l s=some t):t.f3.length≤dl eU l:=by
 unfold fnd at h; obtain⟨b,hb,e⟩:=z22.1 h; have hd:=dZ eU (z114 hb)
 rw[yA]at hd; have hw:=pK (sS b); rw[eK]at hw; have:=aW aR (sS b).f3; subst e; omega
theorem Ju(l:List aG)(hB:dl eU l≤100000): ∀(n:Nat),n≤1099511627776→ ∀(d:Nat) (p:aA),xok d true p=true→aM p+dl eU l+10<n→aM p≤100000→fV n p.f0 p.f1 p.f2 p.f3 p.f4 l=some (Dv (fl (fnd l) d p))
 | 0,_,d,p,hx,h,_=>by omega
 | n+1,hn,0,p,hx,h,hb=>by cases hx
 | n+1,hn,d+1,p,hx,h,hb=>by
  obtain⟨hk,hs⟩:=qY hx; have hw:=mF p; rw[eM,cX]at hw; have g1:=aW aM p.f3; have ih: ∀x∈p.f3,fV n x.f0 x.f1 x.f2 x.f3 x.f4 l=some (Dv (fl (fnd l) d x)):=fun x hm=>by
   have:=dZ aM hm; exact Ju l hB n (by omega) d x (z15.1 hk x hm) (by omega) (by omega)
  rw[Av]; unfold oQ fl; by_cases h1:p.f0=1
  ·rw[z11 h1]; rfl
  rw[z9 h1]; by_cases h2:p.f0=2
  ·rw[z11 h2]; rfl
  rw[z9 h2]; by_cases h3:p.f0=3
  ·rw[z11 h3,HE n l p.f2 (by omega) (by omega)]; rfl
  rw[z9 h3]; simp only[z12]; obtain⟨x,x1,x2⟩:=vV (body:=gA n (fV n) l p.f3) p.f3 (stF (fl (fnd l) d)) (fun t i=>(t,(i:Int),(0:Int),(0:Int),([]:List UInt8),([]:List aB))) (fun t=> .inr (t,(p.f3.length:Int),false,0,0,[],[])) (fun _ x=>x= .inl (false,0,0,[],[])) (fun i t=>t.length=i) (fun i a t ha hI=>by
   have hi:=gG ha; have e:=ih a (z24 ha); have es:stF (fl (fnd l) d) t a=match fl (fnd l) d a with | some y=> .inl (t++[y]) | none=> .inr ():=rfl
   rw[es]; cases hf:fl (fnd l) d a with
   | none=>
    rw[hf]at e; right
    refine⟨(),_,rfl, ?_,rfl⟩
    simp only[gA,eT ha,z17,dR,ha,z8,e,Dv,z76]
   | some y=>
    rw[hf]at e; left
    have hap:fE 56 t [y]=some (t++[y]):=mX (by simp only[z21]; omega) (by simp only[z21,maxLen]; omega)
    refine⟨_,rfl,by simp only[z30,z21]; omega, ?_⟩
    simp only[gA,eT ha,z17,dR,ha,z8,e,Dv,z34,z12,aQ,hap,bC (show i<4611686018427387904 by omega)]) (fun t _=>by simp only[gA,bB,z12]) (n:=n) (by omega) (t0:=[]) rfl
  have x1:loopN (gA n (fV n) l p.f3) n (([]:List aB),(0:Int),(0:Int),(0:Int),([]:List UInt8),([]:List aB))=some x:=x1; rw[x1]; rw[JN]at x2; cases hL:flL (fl (fnd l) d) p.f3 with
  | none=>
   rw[hL]at x2; have x2:x= .inl (false,0,0,[],[]):=x2; subst x2; rfl
  | some L=>
   rw[hL]at x2; obtain⟨rfl,_⟩:=x2; simp only[z8,Ph]; by_cases h4:p.f0=4
   ·rw[z11 h4]; rfl
   rw[z9 h4]; by_cases h5:p.f0=5
   ·rw[z11 h5]; rfl
   rw[z9 h5]; obtain⟨_,hne⟩:=sU hs h1 h2 h3 h4 h5; obtain⟨k1,k2⟩:=BU hL; simp only[z12]; rw[My n L (by omega) (by omega) (by omega) (fun x hx=>by
    obtain⟨y,y1,y2⟩:=k2 x hx; have:=LZ (fnd l) (dl eU l) (ME l) d y x y2; have:=dZ aM y1; omega)]
   rfl
theorem Ej{g:Ft}{h:Mt}{P:aG→Prop}: ∀ {l:List aA} {L:List aB},(∀x∈l, ∀t,g x=some t→ ∃M,h x t=some M∧ ∀b∈M,P b)→flL g l=some L→ ∃M,mtL h l L=some M∧ ∀b∈M,P b
 | [],L,_,_=>⟨[],rfl,fun b hb=>nomatch hb⟩
 | x::r,L,hf,e=>by
  unfold flL at e; obtain⟨t,h1,e⟩:=z18.1 e; obtain⟨L',h2,e⟩:=z22.1 e; subst e; obtain⟨A,a1,a2⟩:=hf x z29 t h1; obtain⟨B,b1,b2⟩:=Ej (fun y hy=>hf y (z25 _ hy)) h2
  refine⟨A++B, ?_,fun b hb=>(z78.1 hb).elim (a2 b) (b2 b)⟩
  simp only[mtL,a1,b1,z8,z35]
theorem Jp{g:Ft}: ∀ {l:List aA} {L:List aB} (k:Nat),flL g l=some L→flL g (l.take k)=some (L.take k)∧ ∀y,l[k]? =some y→ ∃x,L[k]? =some x∧g y=some x
 | [],L,k,e=>by
  cases e; refine⟨by simp [flL],fun y hy=>by simp at hy⟩
 | x::r,L,k,e=>by
  unfold flL at e; obtain⟨t,h1,e⟩:=z18.1 e; obtain⟨L',h2,e⟩:=z22.1 e; subst e; cases k with
  | zero=>exact⟨rfl,fun y hy=>by cases hy; exact⟨t,rfl,h1⟩⟩
  | succ k=>
   obtain⟨q1,q2⟩:=Jp k h2; refine⟨by simp only[RX,flL,h1,q1,z8,z35],fun y hy=> ?_⟩
   obtain⟨x',p1,p2⟩:=q2 y (by simpa using hy)
   exact⟨x',by simpa using p1,p2⟩
theorem fl_5{f:List UInt8→Option aB}(hf: ∀s t,s≠[95]→f s=some t→t.f0=5→t=oU t.f3): ∀ {d:Nat} {y:aA} {x:aB},fl f d y=some x→x.f0=5→x=oU x.f3∨(y.f0=3∧y.f2=[95])
 | 0,y,x,h,_=>by cases h
 | d+1,y,x,h,h5=>by
  unfold fl at h; by_cases h1:y.f0=1
  ·rw[z11 h1]at h; cases h; cases h5
  rw[z9 h1,z12]at h; by_cases h2:y.f0=2
  ·rw[z11 h2]at h; cases h; cases h5
  rw[z9 h2,z12]at h; by_cases h3:y.f0=3
  ·rw[z11 h3,z17]at h
   by_cases hq:y.f2=[95]
   ·exact .inr ⟨h3,hq⟩
   ·exact .inl (hf _ _ hq h h5)
  rw[z9 h3,z12]at h; obtain⟨L,_,h⟩:=z18.1 h; left
  by_cases h4:y.f0=4
  ·rw[z11 h4]at h; cases h; cases h5
  rw[z9 h4,z12]at h; by_cases h6:y.f0=5
  ·rw[z11 h6]at h; cases h; rfl
  rw[z9 h6,z12]at h; unfold DF at h; split at h
  ·rename_i z hz
   cases hc:decide (z.f0=5)with
   | true=>rw[hc]at h; cases h; rfl
   | false=>rw[hc]at h; cases h
  ·cases h
theorem Sw{f:List UInt8→Option aB}(hf: ∀s t,s≠[95]→f s=some t→t.f0=5→t=oU t.f3): ∀(d:Nat) (p:aA) (t:aB),xok d true p=true→fl f d p=some t→ ∃M,mt d p t=some M∧ ∀b∈M,f b.f0=some (sS b)
 | 0,p,t,_,h=>by cases h
 | d+1,p,t,hx,h=>by
  obtain⟨hk,hs⟩:=qY hx; have ih: ∀x∈p.f3, ∀t,fl f d x=some t→ ∃M,mt d x t=some M∧ ∀b∈M,f b.f0=some (sS b):=fun x hm t h=>Sw hf d x t (z15.1 hk x hm) h
  unfold fl at h; unfold mt; by_cases h1:p.f0=1
  ·rw[z11 h1]at h ⊢
   cases h; refine⟨[], ?_,fun b hb=>nomatch hb⟩
   show(bif decide ((1:Int)=1)&&decide (p.f1=p.f1)then some []else none)=some []
   rw[z11 rfl,z11 rfl]; rfl
  rw[z9 h1,z12]at h ⊢; by_cases h2:p.f0=2
  ·rw[z11 h2]at h ⊢
   cases h; refine⟨[], ?_,fun b hb=>nomatch hb⟩
   show(bif decide ((2:Int)=2)&&decide (p.f2=p.f2)then some []else none)=some []
   rw[z11 rfl,z11 rfl]; rfl
  rw[z9 h2,z12]at h ⊢; by_cases h3:p.f0=3
  ·rw[z11 h3,z17]at h ⊢
   by_cases hq:p.f2=[95]
   ·rw[z11 hq]; exact⟨[],rfl,fun b hb=>nomatch hb⟩
   ·rw[z9 hq]
    refine⟨_,rfl,fun b hb=> ?_⟩
    rw[z12,z64]at hb; subst hb; have et:sS (.mk p.f2 t.f0 t.f1 t.f2 t.f3)=t:=aQ t; rw[et]; exact h
  rw[z9 h3,z12]at h ⊢; obtain⟨L,hL,h⟩:=z18.1 h; have hlen:=(BU hL).1; by_cases h4:p.f0=4
  ·rw[z11 h4,z17]at h ⊢
   cases h; show ∃M,(bif decide ((4:Int)=4)&&decide ((L.length:Int)=(p.f3.length:Int))then mtL (mt d) p.f3 L else none)=some M∧_
   rw[z11 rfl,z11 (by omega)]
   exact Ej ih hL
  rw[z9 h4,z12]at h ⊢; by_cases h5:p.f0=5
  ·rw[z11 h5,z17]at h ⊢
   cases h; show ∃M,(bif decide ((5:Int)=5)&&decide ((L.length:Int)=(p.f3.length:Int))then mtL (mt d) p.f3 L else none)=some M∧_
   rw[z11 rfl,z11 (by omega)]
   exact Ej ih hL
  rw[z9 h5,z12]at h ⊢; obtain⟨h6,h7⟩:=sU hs h1 h2 h3 h4 h5; generalize hn:p.f3.length - 1=k at*; have hk2:L.length - 1=k:=by omega
  unfold DF at h; rw[hk2]at h; split at h
  ·rename_i x hxx
   cases hc:decide (x.f0=5)with
   | false=>rw[hc]at h; cases h
   | true=>
    rw[hc]at h; cases h; have hx5:=of_decide_eq_true hc; have hy:p.f3[k]? =some p.f3[k]:=z14 (by omega)
    obtain⟨q1,q2⟩:=Jp k hL; obtain⟨x',x1,x2⟩:=q2 _ hy; rw[hxx]at x1; cases x1; have hym:p.f3[k]∈p.f3:=z156 _; obtain⟨A,a1,a2⟩:=Ej (fun z hz=>ih z (z96 hz)) q1
    have hB: ∃B,mt d p.f3[k] (oU x.f3)=some B∧ ∀b∈B,f b.f0=some (sS b):=by
     rcases fl_5 hf x2 hx5 with e | ⟨e1,e2⟩
     ·obtain⟨B,b1,b2⟩:=ih _ hym x x2
      rw[←e]; exact⟨B,b1,b2⟩
     ·cases d with
      | zero=>cases x2
      | succ d=>
       refine⟨[], ?_,fun b hb=>nomatch hb⟩
       unfold mt; rw[z9 (show ¬ p.f3[k].f0=1 by omega),z9 (show ¬ p.f3[k].f0=2 by omega),z11 e1,z11 e2]; rfl
    obtain⟨B,b1,b2⟩:=hB; have hlt:(L.take k).length=k:=by rw[z38]; omega
    refine⟨A++B, ?_,fun b hb=>(z78.1 hb).elim (a2 b) (b2 b)⟩
    show(bif decide ((5:Int)=5)&& !decide (((L.take k++x.f3).length:Int)<(p.f3.length:Int) - 1)then _ else none)=_
    have hge: ¬ (((L.take k++x.f3).length:Int)<(p.f3.length:Int) - 1):=by rw[z30,hlt]; omega
    rw[z11 rfl,z9 hge]; have t1:(L.take k++x.f3).take k=L.take k:=by rw[List.take_append_of_le_length (by omega),List.take_take,Nat.min_self]
    have t2:(L.take k++x.f3).drop k=x.f3:=by
     have e:=List.drop_left (l₁:=L.take k) (l₂:=x.f3); rw[hlt]at e; exact e
    have t0:(aB.mk 5 0 [] (L.take k++x.f3)).f3=L.take k++x.f3:=rfl; simp only[t0,z76,z94,z17,t1,a1,z8,hy,t2,b1,z35]
  ·cases h
theorem DX(n:Nat)(l:List aG)(s:List UInt8)(h:dl eU l<n)(hn:n≤1099511627776):lT n l s=some (Dv (fnd l s)):=by
 unfold lT; have hl:=aW eU l; have hg: ∀ {i:Nat} {a:aG},l[i]? =some a→l.getD i ⟨[],0,0,[],[]⟩=a:=fun ha=>by rw[z80,ha]; rfl
 have e:=xE (body:=fN n l s) l (fun b=>decide (b.f0=s)) (fun i=>((i:Int),(0:Int),(0:Int),([]:List UInt8),([]:List aB))) (fun i=> .inl (true,(l.getD i ⟨[],0,0,[],[]⟩).f1,(l.getD i ⟨[],0,0,[],[]⟩).f2,(l.getD i ⟨[],0,0,[],[]⟩).f3,(l.getD i ⟨[],0,0,[],[]⟩).f4)) (.inr ((l.length:Int),false,0,0,[],[])) (fun i a ha=>by
  have hi:=gG ha; have hd:=dZ eU (z24 ha); rw[yA]at hd; have hcp:dA n a.f1 a.f2 a.f3 a.f4=some (a.f1,a.f2,a.f3,a.f4):=Bt n (a:=sS a) (by omega) (by omega)
  simp only[fN,eT ha,z17,dR,ha,z8,hcp,hg ha,bC (show i<4611686018427387904 by omega)]
  cases decide (a.f0=s)<;>rfl) (by simp only[fN,bB,z12]) (n:=n) (by omega)
 have e:loopN (fN n l s) n ((0:Int),(0:Int),(0:Int),([]:List UInt8),([]:List aB))=_:=e; rw[e]; unfold fnd; rcases sX (fun b:aG=>decide (b.f0=s)) l 0 with⟨h1,h2⟩ | ⟨k,a,h1,h2,h3,h4⟩
 ·rw[h1,List.find?_eq_none.2 (fun b hb=>by rw[h2 b hb]; simp)]; rfl
 ·rw[h1,II _ l k a h2 h3 h4,z9 (by omega)]
  simp only[z12,z8,z32,z68,hg h2]; rfl
def OkR(o:Option aB)(r:Int×Int×List UInt8×List aB×Bool):Prop:=match o with
 | some t=>r=Dv (some t)
 | none=>r.2.2.2.2=false
theorem OkR.out(o:Option aB):OkR o (Dv o):=by cases o<;>rfl
theorem Jr{g:Ft}: ∀ {l:List aA} {i:Nat} {a:aA},l[i]? =some a→g a=none→flL g l=none
 | [],i,a,h,_=>by simp at h
 | x::r,0,a,h,e=>by cases h; simp only[flL,e,Option.bind_none]
 | x::r,i+1,a,h,e=>by
  have:=Jr (l:=r) (i:=i) (by simpa using h) e
  unfold flL; rw[this]; cases g x<;>rfl
theorem Jq{g:Ft}{a:aA}{y:aB}(h:g a=some y): ∀ {l:List aA} {T:List aB},flL g l=some T→flL g (l++[a])=some (T++[y])
 | [],T,e=>by cases e; simp [flL,h]
 | x::r,T,e=>by
  unfold flL at e; obtain⟨t,h1,e⟩:=z18.1 e; obtain⟨L',h2,e⟩:=z22.1 e; subst e; simp only[z86,flL,h1,Jq h h2,z8,z35]
theorem xK(l:List aG)(hB:dl eU l≤100000): ∀(n:Nat),n≤1099511627776→ ∀(d:Nat) (p:aA),xok d true p=true→aM p+dl eU l+10<n→aM p≤100000→Gt (eC n p.f0 p.f1 p.f2 p.f3 p.f4 l) (OkR (fl (fnd l) d p))
 | 0,_,d,p,hx,h,_=>by omega
 | n+1,hn,0,p,hx,h,hb=>by cases hx
 | n+1,hn,d+1,p,hx,h,hb=>by
  obtain⟨hk,hs⟩:=qY hx; have hw:=mF p; rw[eM,cX]at hw; have g1:=aW aM p.f3; have ih: ∀x∈p.f3,Gt (eC n x.f0 x.f1 x.f2 x.f3 x.f4 l) (OkR (fl (fnd l) d x)):=fun x hm=>by
   have:=dZ aM hm; exact xK l hB n (by omega) d x (z15.1 hk x hm) (by omega) (by omega)
  have hfl:=LZ (fnd l) (dl eU l) (ME l) d; have hb2:nO=iC:=rfl; rw[yJ]; unfold lH fl; rw[hb2]; by_cases h1:p.f0=1
  ·rw[z11 h1]; exact Gt.pure rfl
  rw[z9 h1]; by_cases h2:p.f0=2
  ·rw[z11 h2]; exact Gt.pure rfl
  rw[z9 h2]; by_cases h3:p.f0=3
  ·rw[z11 h3]
   simp only[z17,z12,DX n l p.f2 (by omega) (by omega),z8]
   exact Gt.pure (OkR.out _)
  rw[z9 h3]; simp only[z12]
  have loop: ∀(K:Int),(p.f0=4→K=4)→(p.f0≠4→K=5)→
    Gt ((loopN (iC n (eC n) p.f0 l p.f3) n ((0:Int),(0:Int),(0:Int),([]:List UInt8),([]:List aB),K,(0:Int),([]:List UInt8),([]:List aB))).bind fun q=>(match q with | .inl (v5,w1,w2,w3,w4)=>some (w1,w2,w3,w4,v5) | .inr (v7,v39,w1,w2,w3,w4,w6,w7,w8,w9)=>some (w6,w7,w8,w9,true)))
     (OkR ((flL (fl (fnd l) d) p.f3).bind fun L=>bif decide (p.f0=4)then some (.mk 4 0 [] L)else bif decide (p.f0=5)then some (.mk 5 0 [] L)else DF L)):=fun K hK4 hK5=>by
   have h45:p.f0=4∨p.f0=5∨(p.f0=6∧2≤p.f3.length):=by
    by_cases h4:p.f0=4
    ·exact .inl h4
    by_cases h5:p.f0=5
    ·exact .inr (.inl h5)
    obtain⟨h6,h7⟩:=sU hs h1 h2 h3 h4 h5; exact .inr (.inr ⟨h6,by omega⟩)
   generalize hR:(flL (fl (fnd l) d) p.f3).bind _=R; refine Gt.bind (P:=fun q=> ∃r,(match q with | .inl (v5,w1,w2,w3,w4)=>some (w1,w2,w3,w4,v5) | .inr (v7,v39,w1,w2,w3,w4,w6,w7,w8,w9)=>some (w6,w7,w8,w9,true))=some r∧OkR R r) (Gt.loop (fun(m:Nat) s=> ∃(i:Nat) (T:List aB),i+m=p.f3.length∧(p.f0=6→i<p.f3.length)∧s=((i:Int),(0:Int),(0:Int),([]:List UInt8),([]:List aB),K,(0:Int),([]:List UInt8),T)∧flL (fl (fnd l) d) (p.f3.take i)=some T) _ (fun m s hI=> ?_) (m:=p.f3.length) ⟨0,[],by omega,by omega,rfl,rfl⟩ (by omega)) fun q hq=> ?_
   ·obtain⟨i,T,i1,i2,rfl,i4⟩:=hI
    have hT:=(BU i4).1; rw[z38]at hT; unfold iC; by_cases hi:i<p.f3.length
    ·obtain⟨m',rfl⟩: ∃m',m=m'+1:=⟨m - 1,by omega⟩
     have ha:p.f3[i]? =some p.f3[i]:=z14 hi
     have hm:=z24 ha; obtain⟨r,e,hr⟩:=ih _ hm; simp only[eT ha,z17,dR,ha,z8,e]; cases hf:fl (fnd l) d p.f3[i]with
     | none=>
      rw[hf]at hr; have hr:r.2.2.2.2=false:=hr; rw[hr]; refine Gt.pure ⟨_,rfl, ?_⟩
      have:flL (fl (fnd l) d) p.f3=none:=Jr ha hf; rw[this]at hR; rw[←hR]; exact rfl
     | some y=>
      rw[hf]at hr; have hr:r=Dv (some y):=hr; subst hr; have hy:=hfl _ _ hf; have hwm:=dZ aM hm; have hsn:=Jq hf i4; rw[oH ha]at hsn; have hwr:IntKind.wrap .i64 ((p.f3.length:Int) - 1)=((p.f3.length - 1:Nat):Int):=by rw[wrap_i64 (by omega) (by omega)]; omega
      simp only[Dv,z34,z12,hwr,PC,z8]; refine Gt.cond (fun c=> ?_) (fun c=> ?_)
      ·by_cases h6:p.f0=6
       ·rw[z11 h6,z17]at c
        have c:=of_decide_eq_true c; refine Gt.bind (jY (by omega) (by omega)) fun v ev=>Gt.pure ⟨_,rfl, ?_⟩
        subst ev; have hlast:i+1=p.f3.length:=by omega
        rw[hlast,z93]at hsn; rw[hsn,z8,z9 (by omega),z9 (by omega)]at hR
        simp only[z12]at hR; rw[←hR,hK5 (by omega)]
        unfold DF; have e1:(T++[y]).length - 1=T.length:=by simp
        rw[e1,z62 (by omega),RQ]
        simp only[z20,List.take_left]
        by_cases h5:y.f0=5
        ·simp only[z11 h5]
         exact congrArg (fun b=>((5:Int),(0:Int),([]:List UInt8),T++y.f3,b)) (z11 h5)
        ·simp only[z9 h5]
         exact z9 h5
       ·rw[z9 h6,z12]at c; cases c
      ·refine Gt.bind (jY (by simp only[z21]; omega) (by omega)) fun v ev=>Gt.pure ⟨m',rfl,i+1,_,by omega,fun h6=> ?_,by rw[bC (by omega)], ?_⟩
       ·rw[z11 h6,z17]at c
        have c:=of_decide_eq_false c; have:=i2 h6; omega
       ·rw[ev,aQ]; exact hsn
    ·have hi2:i=p.f3.length:=by omega
     subst hi2; simp only[bB,z12]; refine Gt.pure ⟨_,rfl, ?_⟩
     rw[z93]at i4; rw[i4,z8]at hR; rcases h45 with h4 | h5 | ⟨h6,_⟩
     ·rw[z11 h4,z17]at hR
      rw[←hR,hK4 h4]; exact rfl
     ·rw[z9 (by omega),z11 h5,z12,z17]at hR
      rw[←hR,hK5 (by omega)]; exact rfl
     ·exact absurd (i2 h6) (Nat.lt_irrefl _)
   ·obtain⟨r,e,hr⟩:=hq
    exact⟨r,e,hr⟩
  by_cases h4:p.f0=4
  ·have:=loop 4 (fun _=>rfl) (fun h=>absurd h4 h)
   rw[z11 h4]at this ⊢; rw[h4]at this ⊢; exact this
  ·have:=loop 5 (fun h=>absurd h h4) (fun _=>rfl)
   rw[z9 h4]at this ⊢; exact this
theorem Sx{g:Ft}{W:Nat}: ∀ {l:List aA} {L:List aB},(∀x∈l, ∀t,g x=some t→aR t≤aM x*(W+1))→flL g l=some L→dl aR L≤dl aM l*(W+1)
 | [],L,_,e=>by
  cases e; show 1≤1*(W+1); omega
 | x::r,L,hf,e=>by
  unfold flL at e; obtain⟨t,h1,e⟩:=z18.1 e; obtain⟨L',h2,e⟩:=z22.1 e; subst e; have a:=hf x z29 t h1; have b:=Sx (fun y hy=>hf y (z25 _ hy)) h2
  have e1:dl aM (x::r)*(W+1)=aM x*(W+1)+(1+dl aM r)*(W+1):=by
   rw[←z81]; congr 1; simp only[dl]; omega
  have e2:(1+dl aM r)*(W+1)=1*(W+1)+dl aM r*(W+1):=z81 _ _ _; rw[e1,e2]; simp only[dl]; omega
theorem fl_w{f:List UInt8→Option aB}{W:Nat}(hW: ∀s t,f s=some t→aR t≤W): ∀(d:Nat) (p:aA) (t:aB),fl f d p=some t→aR t≤aM p*(W+1)
 | 0,p,t,h=>by cases h
 | d+1,p,t,h=>by
  have hw:=mF p; rw[eM,cX]at hw; have g1:=aW aM p.f3; have g2:=aW dF p.f4; have up: ∀ {k:Nat},k≤aM p→k*(W+1)≤aM p*(W+1):=fun h=>z45 _ h
  have one: ∀ {k:Nat},k≤k*(W+1):=fun {k}=>z153 _ (by omega)
  unfold fl at h; by_cases h1:p.f0=1
  ·rw[z11 h1]at h; cases h
   rw[AE]; have z:dl aR ([]:List aB)=1:=rfl; have:=one (k:=aM p); rw[z]; simp only[z27]; omega
  rw[z9 h1,z12]at h; by_cases h2:p.f0=2
  ·rw[z11 h2]at h; cases h
   rw[AE]; have z:dl aR ([]:List aB)=1:=rfl; have:=one (k:=aM p); rw[z]; omega
  rw[z9 h2,z12]at h; by_cases h3:p.f0=3
  ·rw[z11 h3,z17]at h
   have:=hW _ _ h; have:=up (k:=1) (by omega)
   omega
  rw[z9 h3,z12]at h; obtain⟨L,hL,h⟩:=z18.1 h; have hb:=Sx (W:=W) (fun x _ t=>fl_w hW d x t) hL
  have e3:(3+dl aM p.f3)*(W+1)=3*(W+1)+dl aM p.f3*(W+1):=z81 _ _ _; have hu:=up (k:=3+dl aM p.f3) (by omega)
  have mk: ∀ {k m:Int} {l:List aB},dl aR l≤dl aR L→aR (.mk k m [] l)≤aM p*(W+1):=fun {k m l} hl=>by
   rw[AE]; simp only[z27]; omega
  by_cases h4:p.f0=4
  ·rw[z11 h4]at h; cases h; exact mk (z53 _)
  rw[z9 h4,z12]at h; by_cases h5:p.f0=5
  ·rw[z11 h5]at h; cases h; exact mk (z53 _)
  rw[z9 h5,z12]at h; unfold DF at h; split at h
  ·rename_i x hx
   cases hc:decide (x.f0=5)with
   | false=>rw[hc]at h; cases h
   | true=>
    rw[hc]at h; cases h; refine mk ?_
    generalize L.length - 1=k at hx; have hk:=gG hx; have a1:=kW aR (L.take k) x.f3; have a2:=kW aR (L.take k) (L.drop k); rw[z75]at a2; have ex:x=L[k]:=by rw[z14 hk]at hx; exact(z46 hx).symm
    rw[z142 hk, ←ex]at a2; simp only[dl]at a2; have hwx:=pK x; rw[eK]at hwx; omega
  ·cases h
theorem fnd_w{l:List aG}: ∀s t,fnd l s=some t→aR t≤dl eU l:=fun s t h=>by
 unfold fnd at h; obtain⟨b,hb,e⟩:=z22.1 h; have hd:=dZ eU (z114 hb)
 rw[yA]at hd; subst e; omega
def LB(l:List aG):Prop:= ∀b∈l,b.f0≠[95]→b.f1=5→sS b=oU b.f4
theorem LB.fnd{l:List aG}(h:LB l): ∀s t,s≠[95]→fnd l s=some t→t.f0=5→t=oU t.f3:=fun s t hs he h5=>by
 unfold Q.fnd at he; obtain⟨b,hb,e⟩:=z22.1 he; have e0:=List.find?_some hb
 simp only[z28]at e0; subst e; exact h b (z114 hb) (by rw[e0]; exact hs) h5
theorem KS(p:aA)(t:aB):LB (mH p t).1:=by
 unfold mH; cases hq:uJ p&&pW t with
 | false=>exact fun b hb=>nomatch hb
 | true=>
  cases hM:mt 10 p t with
  | none=>exact fun b hb=>nomatch hb
  | some M=>
   rw[z7]at hq; have ht:=hq.2; unfold pW okN at ht; simp only[z7,z28]at ht; have hb:=PT 10 8 p t M (wZ hq.1) ht.1 hM; exact fun b hm _ h5=>(sh5 (hb b hm).1 h5).1
theorem Ki{n:Nat}(hn:200000<n)(hn2:n≤1099511627776){code:List Int}(hc:code.length≤1048576):Gt (jE n code) (fun r=>aM (.mk r.1 r.2.1 r.2.2.1 r.2.2.2.1 r.2.2.2.2.1)≤30000∧dl eU r.2.2.2.2.2≤90000∧LB r.2.2.2.2.2):=by
 unfold jE; refine Gt.bind (MC (by omega) code hc) fun r0 h0=>Gt.bind (Iw (by omega) hn2 code hc) fun r hr=> ?_
 obtain⟨hw,hv⟩:=hr; have e2:lC n r.1 r.2.1 r.2.2.1 r.2.2.2.1 r.2.2.2.2.1 r.2.2.2.2.2.1 r.2.2.2.2.2.2.1 r.2.2.2.2.2.2.2.1 r.2.2.2.2.2.2.2.2=some (mH (.mk r.1 r.2.1 r.2.2.1 r.2.2.2.1 r.2.2.2.2.1) (.mk r.2.2.2.2.2.1 r.2.2.2.2.2.2.1 r.2.2.2.2.2.2.2.1 r.2.2.2.2.2.2.2.2)):=FZ n hn2 (.mk r.1 r.2.1 r.2.2.1 r.2.2.2.1 r.2.2.2.2.1) (.mk r.2.2.2.2.2.1 r.2.2.2.2.2.2.1 r.2.2.2.2.2.2.2.1 r.2.2.2.2.2.2.2.2) (by omega)
 rw[e2,z8]; have hmw:=Me (.mk r.1 r.2.1 r.2.2.1 r.2.2.2.1 r.2.2.2.2.1) (.mk r.2.2.2.2.2.1 r.2.2.2.2.2.2.1 r.2.2.2.2.2.2.2.1 r.2.2.2.2.2.2.2.2); have hml:=KS (.mk r.1 r.2.1 r.2.2.1 r.2.2.2.1 r.2.2.2.2.1) (.mk r.2.2.2.2.2.1 r.2.2.2.2.2.2.1 r.2.2.2.2.2.2.2.1 r.2.2.2.2.2.2.2.2); generalize (mH (.mk r.1 r.2.1 r.2.2.1 r.2.2.2.1 r.2.2.2.2.1) (.mk r.2.2.2.2.2.1 r.2.2.2.2.2.2.1 r.2.2.2.2.2.2.2.1 r.2.2.2.2.2.2.2.2)).1=M at hmw hml ⊢; have fin: ∀(l:List aG) {b:List Int} {i h:Int},dl eU l≤90000→LB l→Cur b i→Gt ((bif decide ((0:Int)<(l.length:Int))then(cN n (4:Int) b i h).bind fun c=>some (c.1,c.2.1,c.2.2.1,c.2.2.2)else some (false,b,i,h)).bind fun(v,w10,w11,w12)=>bif v then(sub l (some (1:Int)) none).bind fun v38=>some (r.1,r.2.1,r.2.2.1,r.2.2.2.1,r.2.2.2.2.1,v38)else some (r.1,r.2.1,r.2.2.1,r.2.2.2.1,r.2.2.2.2.1,l)) (fun r=>aM (.mk r.1 r.2.1 r.2.2.1 r.2.2.2.1 r.2.2.2.2.1)≤30000∧dl eU r.2.2.2.2.2≤90000∧LB r.2.2.2.2.2):=fun l {b i h} h1 h2 h3=>by
  refine Gt.bind (P:=fun q=>q.1=true→0<l.length) (Gt.cond (fun c=>Gt.bind (wP h3 (by omega)) fun q _=>Gt.pure fun _=>by have:=Nu c; omega) fun _=>Gt.pure fun h=>nomatch h) fun q hq=> ?_
  obtain⟨q0,q1,q2,q3⟩:=q; refine Gt.cond (fun c=> ?_) fun _=>Gt.pure ⟨by simp only; omega,h1,h2⟩
  have hl:=hq c; have hs:sub l (some (1:Int)) none=some (l.drop 1):=Es (i:=1) (by omega)
  rw[hs,z8]; refine Gt.pure ⟨by simp only; omega, ?_,fun x hx=>h2 x (List.mem_of_mem_drop hx)⟩
  have:=kW eU (l.take 1) (l.drop 1); rw[z75]at this; have:=aW eU (l.take 1); simp only; omega
 refine Gt.bind (wP h0 (by omega)) fun r2 h2=>Gt.cond (fun _=> ?_) fun _=>fin M (by omega) hml h2
 have hMl:=aW eU M; refine Gt.bind (MB (by omega) hn2 h2) fun r3 ⟨t1,t2⟩=>Gt.bind (jY (by simp only[z21]; omega) (by omega)) fun v ev=>fin v ?_ ?_ t2
 ·subst ev
  have:=kW eU M [aG.mk [95] r3.1 r3.2.1 r3.2.2.1 r3.2.2.2.1]; have hwb:eU (aG.mk [95] r3.1 r3.2.1 r3.2.2.1 r3.2.2.2.1)=3+1+aR (.mk r3.1 r3.2.1 r3.2.2.1 r3.2.2.2.1):=yA _; simp only[dl]at this; omega
 ·subst ev
  intro b hb h95 h5; rcases z78.1 hb with hb | hb
  ·exact hml b hb h95 h5
  ·rw[z64]at hb
   subst hb; exact absurd rfl h95
theorem law(a:List Int)(ho:a.length≤maxLen∧ ∀x∈a,IntKind.u8.min≤x∧x≤IntKind.u8.max): ∃n,mC n a=some true:=by
 refine⟨1000000000000, ?_⟩
 generalize hN:(1000000000000:Nat)=n; have hn:n≤1099511627776:=by omega
 unfold mC tW; simp only[z8]; by_cases hz:(1048576:Int)<(a.length:Int)
 ·rw[z11 hz]; rfl
 rw[z9 hz,z12]; obtain⟨r,hr,hw,hd,hl⟩:=Ki (n:=n) (by omega) hn (code:=a) (by omega)
 rw[hr]; simp only[z8]; obtain⟨r0,r1,r2,r3,r4,l⟩:=r; simp only at hw hd hl ⊢; obtain⟨p,hp⟩: ∃p:aA,p= .mk r0 r1 r2 r3 r4:=⟨_,rfl⟩; rw[←hp]at hw; have k1:iU n r0 r1 r2 r3 r4=some (uJ p):=by subst hp; exact xU n hn (.mk r0 r1 r2 r3 r4) (by omega)
 have k2:iT n r0 r1 r2 r3 r4=some (uJ p):=by subst hp; exact xL n hn (.mk r0 r1 r2 r3 r4) (by omega)
 have zz:rP n (0:Int) (0:Int) [] []=some true:=rfl; unfold rQ rN; rw[k1,k2]; simp only[z8]; cases hq:uJ p with
 | false=>
  simp only[z76,z17,z8,TL,z34,z12,zz]
 | true=>
  have hx:=wZ hq; have f1:fV n r0 r1 r2 r3 r4 l=some (Dv (fl (fnd l) 10 p)):=by subst hp; exact Ju l (by omega) n hn 10 (.mk r0 r1 r2 r3 r4) hx (by omega) (by omega)
  have f2:Gt (eC n r0 r1 r2 r3 r4 l) (OkR (fl (fnd l) 10 p)):=by subst hp; exact xK l (by omega) n hn 10 (.mk r0 r1 r2 r3 r4) hx (by omega) (by omega)
  obtain⟨s,s1,s2⟩:=f2; rw[f1,s1]; simp only[z34,z12,z8]; cases hf:fl (fnd l) 10 p with
  | none=>
   rw[hf]at s2; have s2:s.2.2.2.2=false:=s2; simp only[Dv,s2,z76,z17,z8,TL,z34,z12,zz]
  | some t=>
   rw[hf]at s2; have s2:s=Dv (some t):=s2; subst s2; have htw:aR t≤30000*90001:=z41 (fl_w (W:=90000) (fun s t h=>z41 (fnd_w s t h) hd) 10 p t hf) (z45 _ hw)
   have o1:fT n t.f0 t.f1 t.f2 t.f3=some (pW t):=by
    rw[vF n t.f0 t.f1 t.f2 t.f3 (by rw[aQ]; omega) (by omega),aQ]
   have o2:gP n t.f0 t.f1 t.f2 t.f3=some (pW t):=by
    rw[vB n t.f0 t.f1 t.f2 t.f3 (by rw[aQ]; omega) (by omega),aQ]
   simp only[Dv,z34,z12,o1,o2,z8]; cases hk:pW t with
   | false=>
    simp only[z76,z17,z8,TL,z34,z12,zz]
   | true=>
    obtain⟨M,m1,m2⟩:=Sw (hl.fnd) 10 p t hx hf; have hm:mH p t=(M,true):=by unfold mH; rw[hq,hk,m1]; rfl
    have hMw:=Ns 10 p t M m1; have hMl:=aW eU M; have e1:lD n r0 r1 r2 r3 r4 t.f0 t.f1 t.f2 t.f3=some (mH p t):=by subst hp; exact Fd n hn (.mk r0 r1 r2 r3 r4) t (by omega)
    simp only[z34,z12,z8,TL,e1,hm,o1,hk]; rw[Lv M (fun i b hb=>by
     have hi:=gG hb; have hbm:=z24 hb; have hd2:=dZ eU hbm; rw[yA]at hd2; have q1:gQ n l b.f0=some (b.f1,b.f2,b.f3,b.f4,true):=by rw[HE n l b.f0 (by omega) hn,m2 b hbm]; rfl
     have q3:dN n b.f1 b.f2 b.f3 b.f4 b.f1 b.f2 b.f3 b.f4=some true:=(AL n hn).1 (sS b) (by omega)
     simp only[iP,eT hb,z17,dR,hb,q1,q3,z8,z34,z12,bC (show i<4611686018427387904 by omega)]) (by simp only[iP,bB,z12]) (by omega)]
    rfl
end Go.Own.Q
