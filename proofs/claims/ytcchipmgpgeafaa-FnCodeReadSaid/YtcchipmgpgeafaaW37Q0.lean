/- Loops over lists and small things, in plain Lean. No conditions. -/
import Derived.Test.YtcchipmgpgeafaaW37W
set_option linter.unusedVariables false
set_option linter.unusedSimpArgs false
set_option linter.unnecessarySimpa false
namespace Go.Own.Q
open Go Go.Proofs
theorem Bz{σ ρ:Type}{body:σ→Option (σ⊕ρ)}(st:Nat→σ){len:Nat}{r:ρ}(hs: ∀i,i<len→body (st i)=some (.inl (st (i+1))))(he:body (st len)=some (.inr r)){n:Nat}(hn:len<n):loopN body n (st 0)=some r:=by
 have key: ∀k i,i+k=len→ ∀n,k<n→loopN body n (st i)=some r:=by
  intro k; induction k with
  | zero=>
   intro i hi n hn; obtain⟨m,rfl⟩: ∃m,n=m+1:=⟨n - 1,by omega⟩
   have:i=len:=by omega
   subst this; simp only[loopN,he]
  | succ k ih=>
   intro i hi n hn; obtain⟨m,rfl⟩: ∃m,n=m+1:=⟨n - 1,by omega⟩
   simp only[loopN,hs i (by omega)]
   exact ih (i+1) (by omega) m (by omega)
 exact key len 0 (by omega) n hn

def Cw{α σ ρ:Type}(f:σ→α→σ⊕ρ):List α→σ→σ⊕ρ
 | [],s=> .inl s
 | a::r,s=>match f s a with
  | .inl s'=>Cw f r s'
  | .inr q=> .inr q
theorem Iy{α σ τ ρ κ:Type}{body:σ→Option (σ⊕ρ)}(l:List α)(f:τ→α→τ⊕κ)(enc:τ→Nat→σ)(fin:τ→ρ)(out:κ→ρ)(I:τ→Prop)(hs: ∀(i:Nat) a t,l[i]? =some a→I t→(∃t',f t a= .inl t'∧I t'∧body (enc t i)=some (.inl (enc t' (i+1))))∨(∃q,f t a= .inr q∧body (enc t i)=some (.inr (out q))))
  (he: ∀t,I t→body (enc t l.length)=some (.inr (fin t))){n:Nat}(hn:l.length<n){t0:τ}(h0:I t0):loopN body n (enc t0 0)=some (match Cw f l t0 with | .inl t=>fin t | .inr q=>out q):=by
 have key: ∀(r:List α) (i:Nat) (t:τ) (n:Nat),l.drop i=r→I t→r.length<n→i≤l.length→loopN body n (enc t i)=some (match Cw f r t with | .inl t=>fin t | .inr q=>out q):=by
  intro r; induction r with
  | nil=>
   intro i t n hr ht hn hi; obtain⟨m,rfl⟩: ∃m,n=m+1:=⟨n - 1,by simp at hn; omega⟩
   have:i=l.length:=by
    have:=congrArg List.length hr; simp at this; omega
   subst this; simp only[loopN,he t ht,Cw]
  | cons a r ih=>
   intro i t n hr ht hn hi; obtain⟨m,rfl⟩: ∃m,n=m+1:=⟨n - 1,by simp at hn; omega⟩
   have hil:i<l.length:=by
    have:=congrArg List.length hr; simp at this; omega
   have ha:l[i]? =some a:=by
    have:=congrArg (·[0]?) hr
    simpa using this
   have hr':l.drop (i+1)=r:=by
    have:=congrArg List.tail hr; simpa using this
   rcases hs i a t ha ht with⟨t',h1,h2,h3⟩ | ⟨q,h1,h3⟩
   ·simp only[loopN,h3,Cw,h1]
    exact ih (i+1) t' m hr' h2 (by simp at hn; omega) (by omega)
   ·simp only[loopN,h3,Cw,h1]
 exact key l 0 t0 n rfl h0 hn (by omega)

theorem bW{α:Type}(l:List α)(i:Nat):ix l (i:Int)=l[i]? :=by
 unfold ix; rw[z20 (by omega)]
 simp
theorem Gs(s:List UInt8)(i:Nat):ixs s (i:Int)=(s[i]?).map fun b=>(b.toNat:Int):=by
 unfold ixs; rw[z20 (by omega)]
 simp
theorem aN{i:Nat}(h:i<4611686018427387904):IntKind.wrap .i64 ((i:Int)+1)=((i+1:Nat):Int):=by
 rw[wrap_i64 (by omega) (by omega)]; omega
theorem As{α:Type}{l:List α}{i:Nat}{a:α}(h:l[i]? =some a):l.take i++[a]=l.take (i+1):=by
 rw[List.take_add_one,h]; rfl
theorem pZ{α:Type}{b:Nat}{l1 l2:List α}(h:(l1.length+l2.length)*b≤140737488355328)(h2:l1.length+l2.length≤maxLen):dG b l1 l2=some (l1++l2):=by
 unfold dG; rw[z20 ⟨h2,h⟩]
theorem cB{α:Type}{l:List α}{i:Nat}{a:α}(h:l[i]? =some a):i<l.length:=(Wg.1 h).1
theorem cX{α:Type}{l:List α}{i:Nat}{a:α}(h:l[i]? =some a):decide ((i:Int)<(l.length:Int))=true:=by
 have:=cB h; exact z11 (by omega)
theorem aO{k:Nat}:decide ((k:Int)<(k:Int))=false:=z9 (by omega)
theorem Me{α:Type}(c:Bool)(a b:α):(bif c then some a else some b)=some (bif c then a else b):=by cases c<;>rfl
def GD{α:Type}(z:α→Nat):List α→Nat
 | []=>0
 | a::r=>z a+GD z r
def dl{α:Type}(d:α→Nat):List α→Nat
 | []=>1
 | a::r=>1+d a+dl d r
theorem gI{α:Type}(d:α→Nat){a:α}: ∀ {l:List α},a∈l→d a<dl d l
 | b::r,h=>by
  cases h with
  | head=>simp only[dl]; omega
  | tail _ h=>have:=gI d h; simp only[dl]; omega
theorem cK{α:Type}(d:α→Nat): ∀l:List α,l.length<dl d l
 | []=>by simp [dl]
 | b::r=>by have:=cK d r; simp only[dl,z48]; omega
theorem Gm{α:Type}{body:Int→Option (Int⊕(Bool⊕(Int×Bool)))}(l:List α)(ok:α→Bool)(hs: ∀(i:Nat) a,l[i]? =some a→body (i:Int)=some (if ok a then .inl ((i+1:Nat):Int)else .inr (.inl false)))(he:body (l.length:Int)=some (.inr (.inr ((l.length:Int),false)))){n:Nat}(hn:l.length<n):loopN body n (0:Int)=some (if l.all ok then .inr ((l.length:Int),false)else .inl false):=by
 have h:=Iy (body:=body) l (fun(_:Unit) a=>if ok a then .inl ()else .inr ()) (fun _ i=>(i:Int)) (fun _=> .inr ((l.length:Int),false)) (fun _=> .inl false) (fun _=>True) (fun i a t ha _=>by
  by_cases c:ok a=true
  ·left; exact⟨(),z20 c,trivial,by rw[hs i a ha,z20 c]⟩
  ·right; exact⟨(),z15 c,by rw[hs i a ha,z15 c]⟩) (fun _ _=>he) hn (t0:=()) trivial
 have key: ∀l:List α,Cw (fun(_:Unit) a=>if ok a then Sum.inl ()else Sum.inr ()) l ()=if l.all ok then .inl ()else .inr ():=by
  intro l; induction l with
  | nil=>rfl
  | cons a r ih=>
   simp only[Cw,z94]; by_cases c:ok a=true
   ·rw[z20 c]; simp only[ih,c,z31]
   ·rw[z15 c]; simp [c]
 refine h.trans ?_
 rw[key l]; by_cases c:l.all ok=true
 ·rw[z20 c,z20 c]
 ·rw[z15 c,z15 c]
theorem NG{α σ τ ρ κ:Type}{body:σ→Option (σ⊕ρ)}(l:List α)(f:τ→α→τ⊕κ)(enc:τ→Nat→σ)(fin:τ→ρ)(Out:κ→ρ→Prop)(I:τ→Prop)(hs: ∀(i:Nat) a t,l[i]? =some a→I t→(∃t',f t a= .inl t'∧I t'∧body (enc t i)=some (.inl (enc t' (i+1))))∨(∃q r,f t a= .inr q∧body (enc t i)=some (.inr r)∧Out q r))
  (he: ∀t,I t→body (enc t l.length)=some (.inr (fin t))){n:Nat}(hn:l.length<n){t0:τ}(h0:I t0): ∃r,loopN body n (enc t0 0)=some r∧(match Cw f l t0 with | .inl t=>r=fin t | .inr q=>Out q r):=by
 have key: ∀(r:List α) (i:Nat) (t:τ) (n:Nat),l.drop i=r→I t→r.length<n→i≤l.length→ ∃x,loopN body n (enc t i)=some x∧(match Cw f r t with | .inl t=>x=fin t | .inr q=>Out q x):=by
  intro r; induction r with
  | nil=>
   intro i t n hr ht hn hi; obtain⟨m,rfl⟩: ∃m,n=m+1:=⟨n - 1,by simp at hn; omega⟩
   have:i=l.length:=by
    have:=congrArg List.length hr; simp at this; omega
   subst this; simp only[loopN,he t ht,Cw]; exact⟨_,rfl,rfl⟩
  | cons a r ih=>
   intro i t n hr ht hn hi; obtain⟨m,rfl⟩: ∃m,n=m+1:=⟨n - 1,by simp at hn; omega⟩
   have hil:i<l.length:=by
    have:=congrArg List.length hr; simp at this; omega
   have ha:l[i]? =some a:=by
    have:=congrArg (·[0]?) hr
    simpa using this
   have hr':l.drop (i+1)=r:=by
    have:=congrArg List.tail hr; simpa using this
   rcases hs i a t ha ht with⟨t',h1,h2,h3⟩ | ⟨q,x,h1,h3,h4⟩
   ·simp only[loopN,h3,Cw,h1]
    exact ih (i+1) t' m hr' h2 (by simp at hn; omega) (by omega)
   ·simp only[loopN,h3,Cw,h1]
    exact⟨x,rfl,h4⟩
 exact key l 0 t0 n rfl h0 hn (by omega)
def sV{α:Type}(ok:Nat→α→Bool):Nat→List α→Bool
 | _,[]=>true
 | i,a::r=>ok i a&&sV ok (i+1) r
theorem tO{α:Type}{body:Int→Option (Int⊕(Bool⊕(Int×Bool)))}(l:List α)(ok:Nat→α→Bool)(hs: ∀(i:Nat) a,l[i]? =some a→body (i:Int)=some (if ok i a then .inl ((i+1:Nat):Int)else .inr (.inl false)))(he:body (l.length:Int)=some (.inr (.inr ((l.length:Int),false)))){n:Nat}(hn:l.length<n):loopN body n (0:Int)=some (if sV ok 0 l then .inr ((l.length:Int),false)else .inl false):=by
 have key: ∀(r:List α) (i n:Nat),l.drop i=r→r.length<n→i≤l.length→loopN body n (i:Int)=some (if sV ok i r then .inr ((l.length:Int),false)else .inl false):=by
  intro r; induction r with
  | nil=>
   intro i n hr hn hi; obtain⟨m,rfl⟩: ∃m,n=m+1:=⟨n - 1,by simp at hn; omega⟩
   have:i=l.length:=by
    have:=congrArg List.length hr; simp at this; omega
   subst this; simp only[loopN,he,sV,if_true]
  | cons a r ih=>
   intro i n hr hn hi; obtain⟨m,rfl⟩: ∃m,n=m+1:=⟨n - 1,by simp at hn; omega⟩
   have hil:i<l.length:=by
    have:=congrArg List.length hr; simp at this; omega
   have ha:l[i]? =some a:=by
    have:=congrArg (·[0]?) hr
    simpa using this
   have hr':l.drop (i+1)=r:=by
    have:=congrArg List.tail hr; simpa using this
   by_cases c:ok i a=true
   ·simp only[loopN,hs i a ha,z20 c,sV,c,z31]
    exact ih (i+1) m hr' (by simp at hn; omega) (by omega)
   ·simp only[loopN,hs i a ha,z15 c,sV]
    simp [c]
 exact key l 0 n rfl hn (by omega)
def KL{α:Type}(p:α→Bool):Nat→List α→Int
 | _,[]=> -1
 | i,a::r=>bif p a then(i:Int)else KL p (i+1) r
theorem tQ{α:Type}(p:α→Bool): ∀(l:List α) (i:Nat),(KL p i l= -1∧ ∀a∈l,p a=false)∨ ∃k a,KL p i l=((i+k:Nat):Int)∧l[k]? =some a∧p a=true∧ ∀(j:Nat) b,j<k→l[j]? =some b→p b=false
 | [],i=> .inl ⟨rfl,by simp⟩
 | a::r,i=>by
  unfold KL; cases h:p a with
  | true=>exact .inr ⟨0,a,rfl,rfl,h,fun j b hj=>by omega⟩
  | false=>
   rw[z12]; rcases tQ p r (i+1)with⟨h1,h2⟩ | ⟨k,b,h1,h2,h3,h4⟩
   ·exact .inl ⟨h1,fun b hb=>by
     rcases Qh.1 hb with rfl | hb
     ·exact h
     ·exact h2 b hb⟩
   ·refine .inr ⟨k+1,b,by rw[h1]; omega,h2,h3,fun j c hj hc=> ?_⟩
    cases j with
    | zero=>simp only[z22,z10]at hc; subst hc; exact h
    | succ j=>exact h4 j c (by omega) hc
theorem zT{α σ ρ:Type}{body:σ→Option (σ⊕ρ)}(l:List α)(p:α→Bool)(enc:Nat→σ)(out:Nat→ρ)(fin:ρ)(hs: ∀(i:Nat) a,l[i]? =some a→body (enc i)=some (bif p a then .inr (out i)else .inl (enc (i+1))))(he:body (enc l.length)=some (.inr fin)){n:Nat}(hn:l.length<n):
  loopN body n (enc 0)=some (bif decide (KL p 0 l<0)then fin else out (KL p 0 l).toNat):=by
 have key: ∀(r:List α) (i n:Nat),l.drop i=r→r.length<n→i≤l.length→loopN body n (enc i)=some (bif decide (KL p i r<0)then fin else out (KL p i r).toNat):=by
  intro r; induction r with
  | nil=>
   intro i n hr hn hi; obtain⟨m,rfl⟩: ∃m,n=m+1:=⟨n - 1,by simp at hn; omega⟩
   have:i=l.length:=by
    have:=congrArg List.length hr; simp at this; omega
   subst this; simp only[loopN,he]; rfl
  | cons a r ih=>
   intro i n hr hn hi; obtain⟨m,rfl⟩: ∃m,n=m+1:=⟨n - 1,by simp at hn; omega⟩
   have hil:i<l.length:=by
    have:=congrArg List.length hr; simp at this; omega
   have ha:l[i]? =some a:=by
    have:=congrArg (·[0]?) hr
    simpa using this
   have hr':l.drop (i+1)=r:=by
    have:=congrArg List.tail hr; simpa using this
   have hf:KL p i (a::r)=bif p a then(i:Int)else KL p (i+1) r:=rfl
   rw[hf]; cases h:p a with
   | true=>
    simp only[loopN,hs i a ha,h,z16]; rw[z9 (by omega),z12,z34]
   | false=>
    simp only[loopN,hs i a ha,h,z12]; exact ih (i+1) m hr' (by simp at hn; omega) (by omega)
 exact key l 0 n rfl hn (by omega)
def Ji(bad:Nat→Bool):Nat→Nat→Bool
 | _,0=>false
 | s,k+1=>bad s||Ji bad (s+1) k
theorem JV(bad:Nat→Bool): ∀(k s:Nat),Ji bad s k=true↔ ∃i,s≤i∧i<s+k∧bad i=true
 | 0,s=>by simp only[Ji]; exact⟨nofun,fun⟨i,h1,h2,_⟩=>by omega⟩
 | k+1,s=>by
  simp only[Ji,z45,JV bad k (s+1)]; constructor
  ·rintro (h | ⟨i,h1,h2,h3⟩)
   ·exact⟨s,by omega,by omega,h⟩
   ·exact⟨i,by omega,by omega,h3⟩
  ·rintro ⟨i,h1,h2,h3⟩
   by_cases e:i=s
   ·subst e; exact .inl h3
   ·exact .inr ⟨i,by omega,by omega,h3⟩
theorem PB{σ ρ:Type}{body:σ→Option (σ⊕ρ)}(enc:Nat→σ)(bad:Nat→Bool)(out fin:ρ){len:Nat}: ∀(k s:Nat),s+k=len→(∀i,s≤i→i<len→body (enc i)=some (bif bad i then .inr out else .inl (enc (i+1))))→body (enc len)=some (.inr fin)→ ∀ {n:Nat},k<n→loopN body n (enc s)=some (bif Ji bad s k then out else fin)
 | 0,s,hk,hs,he,n,hn=>by
  obtain⟨m,rfl⟩: ∃m,n=m+1:=⟨n - 1,by omega⟩
  obtain rfl:s=len:=by omega
  simp only[loopN,he]; rfl
 | k+1,s,hk,hs,he,n,hn=>by
  obtain⟨m,rfl⟩: ∃m,n=m+1:=⟨n - 1,by omega⟩
  simp only[Ji]; cases h:bad s with
  | true=>simp only[loopN,hs s (by omega) (by omega),h,z16]; rfl
  | false=>
   simp only[loopN,hs s (by omega) (by omega),h,z12,z39]
   exact PB enc bad out fin k (s+1) (by omega) (fun i h1 h2=>hs i (by omega) h2) he (by omega)
theorem Ic{i:Nat}(h:i<4611686018427387904):IntKind.wrap .i64 (((i+1:Nat):Int) - 1)=(i:Int):=by
 rw[wrap_i64 (by omega) (by omega)]; omega
theorem oE{α:Type}(ok:Nat→α→Bool): ∀(l:List α) (i:Nat),sV ok i l=true↔ ∀(j:Nat) a,l[j]? =some a→ok (i+j) a=true
 | [],i=>by simp [sV]
 | a::r,i=>by
  simp only[sV,z7,oE ok r (i+1)]; constructor
  ·rintro ⟨h1,h2⟩ j b hb
   cases j with
   | zero=>simp only[z22,z10]at hb; subst hb; exact h1
   | succ j=>have:=h2 j b hb; rwa[show i+1+j=i+(j+1)by omega]at this
  ·intro h
   refine⟨h 0 a rfl,fun j b hb=> ?_⟩
   have:=h (j+1) b hb; rwa[show i+(j+1)=i+1+j by omega]at this
mutual
def bR:aB→Nat
 | .mk _ _ s l c=>3+s.length+Ae l+tK c
def Ae:List aB→Nat
 | []=>1
 | x::r=>1+bR x+Ae r
def tK:List aC→Nat
 | []=>1
 | x::r=>1+cP x+tK r
def cP:aC→Nat
 | .two p x=>3+bR p+bR x
end
theorem Ga(a:aB):bR a=3+a.f2.length+Ae a.f3+tK a.f4:=by cases a; simp only[bR]; rfl
theorem DW(a:aC):cP a=3+bR a.p+bR a.x:=by obtain⟨p,x⟩:=a; simp only[cP]; rfl
theorem sN: ∀l,Ae l=dl bR l
 | []=>rfl
 | x::r=>by simp only[Ae,dl,sN r]
theorem qZ: ∀l:List aC,tK l=dl cP l
 | []=>rfl
 | x::r=>by
  have e:=qZ r; have a:tK (x::r)=1+cP x+tK r:=by simp only[tK]
  rw[a,e]; rfl
def jX:aG→Nat
 | .mk a0 a1 a2 a3=>4+a2.length
theorem AK(a:aF):aF.mk a.f0 a.f1 a.f2 a.f3=a:=rfl
def wFn:aF→Nat
 | .mk a0 a1 a2 a3=>3+a0.length+dl jX a3
theorem oV(a:aA):aA.mk a.f0 a.f1 a.f2 a.f3=a:=by cases a; rfl
mutual
def cV:aA→Nat
 | .mk _ _ s l=>3+s.length+DQ l
def DQ:List aA→Nat
 | []=>1
 | x::r=>1+cV x+DQ r
end
theorem Bv: ∀l,DQ l=dl cV l
 | []=>rfl
 | x::r=>by simp only[DQ,dl,Bv r]
theorem mU(n:Nat)(x a b:Int):aT n x a b=some (decide (a≤x)&&decide (x≤b)):=by
 unfold aT; cases decide (a≤x)<;>rfl
theorem iP(n:Nat)(x a b:Int):aQ n x a b=some (decide (a≤x)&&decide (x≤b)):=by
 unfold aQ; cases decide (a≤x)<;>rfl
theorem GR(n:Nat)(x:Int):iJ n x=some (decide (97≤x)&&decide (x≤122)):=by
 unfold iJ; cases decide (97≤x)<;>rfl
theorem Dy(n:Nat)(x:Int):gH n x=some (decide (48≤x)&&decide (x≤57)):=by
 unfold gH; cases decide (48≤x)<;>rfl
def qX(c:Int):Bool:=decide (97≤c)&&decide (c≤122)
def IY(c:Int):Bool:=decide (48≤c)&&decide (c≤57)
def Jh(i:Nat)(c:UInt8):Bool:=qX c.toNat||(!decide (i=0)&&(IY c.toNat||decide ((c.toNat:Int)=95)))
def Bt(s:List UInt8):Bool:=sV Jh 0 s&&(decide (1≤(s.length:Int))&&decide ((s.length:Int)≤20))
theorem GZ(c:UInt8):IntKind.wrap .i64 ((c.toNat:Nat):Int)=c.toNat:=by
 have:=c.toNat_lt; exact wrap_i64 (by omega) (by omega)
theorem OO(i:Nat):decide ((i:Int)=0)=decide (i=0):=by
 by_cases h:i=0<;>simp [h]
theorem FP(n:Nat)(s:List UInt8)(h:s.length<n)(hn:s.length<4611686018427387904):nM n s=some (Bt s):=by
 unfold nM; rw[tO s Jh (fun i c a=>by
  have b:=cB a; simp only[mO,cX a,z16,Gs,a,z37,z8,mU,GZ,aN (show i<4611686018427387904 by omega),OO]
  unfold Jh qX IY; cases decide (97≤(c.toNat:Int))<;>cases decide ((c.toNat:Int)≤122)<;>cases decide (i=0)<;>cases decide (48≤(c.toNat:Int))<;>cases decide ((c.toNat:Int)≤57)<;>cases decide ((c.toNat:Int)=95)<;>rfl) (by simp only[mO,aO,z12]) h]
 unfold Bt; by_cases c:sV Jh 0 s=true
 ·rw[z20 c,c]; simp only[z8,mU,z31]
 ·rw[z15 c]; simp only[z92]at c; rw[c]; rfl
theorem FT(n:Nat)(s:List UInt8)(h:s.length<n)(hn:s.length<4611686018427387904):nN n s=some (Bt s):=by
 unfold nN; rw[tO s Jh (fun i c a=>by
  have b:=cB a; simp only[mP,cX a,z16,Gs,a,z37,z8,GR,Dy,aN (show i<4611686018427387904 by omega),OO]
  unfold Jh qX IY; cases decide (97≤(c.toNat:Int))<;>cases decide ((c.toNat:Int)≤122)<;>cases decide (i=0)<;>cases decide (48≤(c.toNat:Int))<;>cases decide ((c.toNat:Int)≤57)<;>cases decide ((c.toNat:Int)=95)<;>rfl) (by simp only[mP,aO,z12]) h]
 unfold Bt; by_cases c:sV Jh 0 s=true
 ·rw[z20 c,c]; simp only[z8,iP,z31]
 ·rw[z15 c]; simp only[z92]at c; rw[c]; rfl
def oJ(c:Int):Bool:=(decide (65≤c)&&decide (c≤90))||decide (c=95)
theorem GS(n:Nat)(x:Int):kA n x=some (oJ x):=by
 unfold kA oJ; cases decide (65≤x)<;>cases decide (x≤90)<;>rfl
theorem NN(n:Nat)(c:UInt8):lZ n (c.toNat:Int)=some (oJ c.toNat):=by
 unfold lZ oJ; rw[GZ,mU]; cases decide (65≤(c.toNat:Int))<;>cases decide ((c.toNat:Int)≤90)<;>rfl
theorem NM(n:Nat)(c:UInt8):lY n (c.toNat:Int)=some (qX c.toNat):=by
 unfold lY qX; rw[GZ,mU]; rfl
theorem NO(n:Nat)(c:UInt8):mA n (c.toNat:Int)=some (IY c.toNat):=by
 unfold mA IY; rw[GZ,mU]; rfl
theorem LP(n:Nat)(x:Int):iJ n x=some (qX x):=GR n x
theorem QO(n:Nat)(x:Int):gH n x=some (IY x):=Dy n x
def yC(c:UInt8):Bool:=qX c.toNat||(oJ c.toNat||IY c.toNat)
theorem Hd(n:Nat)(x:Int):iX n x=some (qX x||(oJ x||IY x)):=by
 unfold iX; rw[LP,GS,QO]; cases qX x<;>cases oJ x<;>cases IY x<;>rfl
def Nv(i:Nat)(c:UInt8):Bool:=oJ c.toNat||(!decide (i=0)&&(qX c.toNat||IY c.toNat))
def JY(s:List UInt8):Bool:=sV Nv 0 s&&(decide (1≤(s.length:Int))&&decide ((s.length:Int)≤20))
theorem Hc(n:Nat)(s:List UInt8)(h:s.length<n)(hn:s.length<4611686018427387904):lX n s=some (JY s):=by
 unfold lX; rw[tO s Nv (fun i c a=>by
  have b:=cB a; simp only[lI,cX a,z16,Gs,a,z37,z8,NN,NM,NO,aN (show i<4611686018427387904 by omega),OO]
  unfold Nv; cases oJ (c.toNat:Int)<;>cases decide (i=0)<;>cases qX (c.toNat:Int)<;>cases IY (c.toNat:Int)<;>rfl) (by simp only[lI,aO,z12]) h]
 unfold JY; by_cases c:sV Nv 0 s=true
 ·rw[z20 c,c]; simp only[z8,mU,z31]
 ·rw[z15 c]; simp only[z92]at c; rw[c]; rfl
theorem JX: ∀(r:List UInt8) (i:Nat),0<i→sV Nv i r=r.all yC
 | [],i,h=>rfl
 | c::r,i,h=>by
  have e:Nv i c=yC c:=by
   unfold Nv yC; rw[z9 (by omega)]
   cases oJ (c.toNat:Int)<;>cases qX (c.toNat:Int)<;>cases IY (c.toNat:Int)<;>rfl
  simp only[sV,z94,JX r (i+1) (by omega),e]
theorem Hf(n:Nat)(s:List UInt8)(h:s.length<n)(hn:s.length<4611686018427387904):pD n s=some (JY s):=by
 unfold pD; rw[Gm s yC (fun i c b=>by
  have k:=cB b; simp only[nT,cX b,z16,Gs,b,z37,z8,Hd,aN (show i<4611686018427387904 by omega)]
  unfold yC; cases qX (c.toNat:Int)<;>cases oJ (c.toNat:Int)<;>cases IY (c.toNat:Int)<;>rfl) (by simp only[nT,aO,z12]) h]
 unfold JY; cases s with
 | nil=>rfl
 | cons c r=>
  have e:sV Nv 0 (c::r)=(oJ c.toNat&&r.all yC):=by
   simp only[sV,z29,JX r 1 (by omega)]
   unfold Nv; rw[z11 rfl]; cases oJ (c.toNat:Int)<;>rfl
  have f:(c::r).all yC=(yC c&&r.all yC):=z94; have j:ixs (c::r) (0:Int)=some (c.toNat:Int):=rfl; have g:oJ c.toNat=true→yC c=true:=fun h=>by unfold yC; rw[h]; cases qX (c.toNat:Int)<;>rfl
  rw[e,f]; generalize r.all yC=q; by_cases a:(yC c&&q)=true
  ·rw[z20 a]
   simp only[z8,iP,j,GS]; have d:q=true:=by cases q with | true=>rfl | false=>simp at a
   subst d; cases decide (1≤((c::r).length:Int))<;>cases decide (((c::r).length:Int)≤20)<;>cases oJ (c.toNat:Int)<;>rfl
  ·rw[z15 a]
   cases hl:oJ (c.toNat:Int)with
   | false=>rfl
   | true=>
    rw[g hl]at a; cases q with
    | true=>simp at a
    | false=>rfl
def gN(s:List UInt8):Bool:=Bt s&&(!decide (s=[99,97,115,101])&&(!decide (s=[111,102])&& !decide (s=[101,110,100])))
theorem Aq(n:Nat)(s:List UInt8)(h:s.length<n)(hn:s.length<4611686018427387904):eV n s=some (gN s):=by
 unfold eV gN; rw[FT n s h hn,z8]; generalize decide (s=[99,97,115,101])=a; generalize decide (s=[111,102])=b; generalize decide (s=[101,110,100])=c; cases Bt s<;>cases a<;>cases b<;>cases c<;>rfl
theorem zV(n:Nat)(s:List UInt8)(h:s.length<n)(hn:s.length<4611686018427387904):eT n s=some (gN s):=by
 unfold eT gN lH; rw[FP n s h hn,z8]; generalize decide (s=[99,97,115,101])=a; generalize decide (s=[111,102])=b; generalize decide (s=[101,110,100])=c; cases Bt s<;>cases a<;>cases b<;>cases c<;>rfl
def Mk(s:List UInt8):Bool:=decide (s=[43])||(decide (s=[45])||(decide (s=[42])||(decide (s=[61,61])||decide (s=[60]))))
theorem PJ(n:Nat)(s:List UInt8):oG n s=some (Mk s):=by
 unfold oG Mk; generalize decide (s=[43])=a; generalize decide (s=[45])=b; generalize decide (s=[42])=c; generalize decide (s=[61,61])=d; generalize decide (s=[60])=e; cases a<;>cases b<;>cases c<;>cases d<;>cases e<;>rfl
theorem PG(n:Nat)(s:List UInt8):oF n s=some (Mk s):=by
 unfold oF Mk; generalize decide (s=[43])=a; generalize decide (s=[45])=b; generalize decide (s=[42])=c; generalize decide (s=[61,61])=d; generalize decide (s=[60])=e; cases a<;>cases b<;>cases c<;>cases d<;>cases e<;>rfl

def Vq(l:List (List UInt8)):Bool:=sV (fun i a=> !(decide (a∈l.take i))) 0 l
theorem TD{α:Type}{l:List α}{i:Nat}(h:i≤l.length):sub l none (some (i:Int))=some (l.take i):=by
 unfold sub bnd; rw[z20 ⟨by simp,by simp only[Option.getD_none,z73]; omega,by simp only[z73]; omega⟩]
 simp
theorem MJ(n:Nat)(l:List (List UInt8))(s:List UInt8)(hn:l.length<n)(f:n<4611686018427387904):gW n l s=some (decide (s∈l)):=by
 unfold gW; have e:=zT (body:=kR n l s) l (fun a=>decide (a=s)) (fun i=>(i:Int)) (fun i=>Sum.inl true) (Sum.inr ((l.length:Int),false)) (fun i a b=>by
  have g:=cB b; simp only[kR,cX b,z16,bW,b,z8,aN (show i<4611686018427387904 by omega)]
  cases decide (a=s)<;>rfl) (by simp only[kR,aO,z12]) hn
 refine(congrArg (fun q=>Option.bind q _) e).trans ?_
 rcases tQ (fun a=>decide (a=s)) l 0 with⟨h,h1⟩ | ⟨k,a,h,h1,c,_⟩
 ·rw[h,z11 (show(-1:Int)<0 by omega),z9 (show ¬ s∈l from fun d=>by have:=h1 s d; simp at this)]; rfl
 ·simp only[z26]at c
  subst c; rw[h,z9 (by omega),z11 (z25 h1)]
  rfl
theorem QJ(n:Nat)(l:List (List UInt8))(hn:l.length<n)(c:n<4611686018427387904):nK n l=some (Vq l):=by
 unfold nK; rw[tO l (fun i a=> !(decide (a∈l.take i))) (fun i a b=>by
  have d:=cB b; simp only[mI,cX b,z16,bW,b,z8,aN (show i<4611686018427387904 by omega),TD (show i≤l.length by omega),MJ n (l.take i) a (by rw[z62]; omega) c]
  cases decide (a∈l.take i)<;>rfl) (by simp only[mI,aO,z12]) hn]
 unfold Vq; cases sV (fun i a=> !(decide (a∈l.take i))) 0 l<;>rfl

def Qk(k m:Int)(s:List UInt8)(a:Int):Bool:=
 bif decide (k=1)then(decide (0≤m)&&decide (m≤1000000000000))&&(decide (s=[])&&decide (a=0))
 else bif decide (k=2)then decide (m=0)&&(gN s&&decide (a=0))
 else bif decide (k=3)then decide (m=0)&&(JY s&&decide (a=0))
 else bif decide (k=4)then decide (m=0)&&(decide (s=[])&&decide (a≤20))
 else bif decide (k=5)then decide (m=0)&&(decide (s=[])&&decide (a≤20))
 else bif decide (k=6)then decide (m=0)&&(decide (s=[])&&(decide (2≤a)&&decide (a≤6)))
 else bif decide (k=7)then decide (m=0)&&(Mk s&&decide (a=2))
 else bif decide (k=8)then decide (m=0)&&(gN s&&decide (a≤4))
 else bif decide (k=9)then decide (m=0)&&(decide (s=[])&&decide (a=1))
 else false
theorem Mx(n:Nat)(k m:Int)(s:List UInt8)(a:Int)(h:s.length<n)(hn:s.length<4611686018427387904):mD n k m s a=some (Qk k m s a):=by
 unfold mD Qk; rw[Aq n s h hn,Hf n s h hn,PJ n s]; simp only[iP,z8]; cases decide (k=1)with
 | true=>cases decide (0≤m)<;>cases decide (m≤1000000000000)<;>cases decide (s=[])<;>rfl
 | false=>
 cases decide (k=2)with
 | true=>cases decide (m=0)<;>cases gN s<;>rfl
 | false=>
 cases decide (k=3)with
 | true=>cases decide (m=0)<;>cases JY s<;>rfl
 | false=>
 cases decide (k=4)with
 | true=>cases decide (m=0)<;>cases decide (s=[])<;>rfl
 | false=>
 cases decide (k=5)with
 | true=>cases decide (m=0)<;>cases decide (s=[])<;>rfl
 | false=>
 cases decide (k=6)with
 | true=>cases decide (m=0)<;>cases decide (s=[])<;>rfl
 | false=>
 cases decide (k=7)with
 | true=>cases decide (m=0)<;>cases Mk s<;>rfl
 | false=>
 cases decide (k=8)with
 | true=>cases decide (m=0)<;>cases gN s<;>rfl
 | false=>
 cases decide (k=9)with
 | true=>cases decide (m=0)<;>cases decide (s=[])<;>rfl
 | false=>rfl
def tk(b:Bool)(c:Nat)(t:Int):Int:=bif b&&decide ((c:Int)≤t)then t - c else -1
theorem TB(b:Bool)(c:Nat){t:Int}(h:t<c):tk b c t= -1:=by
 unfold tk; rw[z9 (by omega),z58]; rfl
theorem Tr(b:Bool)(c:Nat)(t:Int)(h: -1≤t): -1≤tk b c t∧tk b c t≤t:=by
 unfold tk; by_cases q:(b&&decide ((c:Int)≤t))=true
 ·rw[q]
  simp only[z7,z26]at q; simp only[z16]; omega
 ·rw[z92]at q; rw[q]; simp only[z12]; omega
def Nw{α:Type}(b:α→Bool)(c:α→Nat):List α→Int→Int
 | [],t=>t
 | a::r,t=>bif decide (0≤t)then Nw b c r (tk (b a) (c a) t)else t
theorem HD{α:Type}(b:α→Bool)(c:α→Nat): ∀(l:List α) {t:Int},t<0→Nw b c l t=t
 | [],t,h=>rfl
 | a::r,t,h=>by unfold Nw; rw[z9 (by omega)]; rfl
theorem Gg{α:Type}(b:α→Bool)(c:α→Nat): ∀(l:List α) {t:Int},0≤t→Nw b c l t=tk (l.all b) (GD c l) t
 | [],t,h=>by
  unfold Nw tk; rw[z11 (show((GD c []:Nat):Int)≤t by simp only[GD]; omega)]
  simp [GD]
 | a::r,t,h=>by
  unfold Nw; rw[z11 h,z16,z94]; have e:GD c (a::r)=c a+GD c r:=rfl; rw[e]; by_cases q:(b a&&decide ((c a:Int)≤t))=true
  ·have d:tk (b a) (c a) t=t - c a:=by unfold tk; rw[q]; rfl
   simp only[z7,z26]at q; rw[d,Gg b c r (by omega),q.1,z31]
   unfold tk; by_cases z:((GD c r:Nat):Int)≤t - c a
   ·rw[z11 z,z11 (by omega)]
    cases r.all b
    ·rfl
    ·simp only[z84,z16]; omega
   ·rw[z9 z,z9 (by omega)]
    cases r.all b<;>rfl
  ·have d:tk (b a) (c a) t= -1:=by unfold tk; rw[z92]at q; rw[q]; rfl
   rw[d,HD b c r (by omega)]
   unfold tk; cases ha:b a with
   | false=>rfl
   | true=>
    rw[ha,z31,z26]at q; rw[z9 (by omega),z58]; rfl
theorem zR{α ρ:Type}{body:Int×Int→Option ((Int×Int)⊕ρ)}(l:List α)(d:α→Bool)(c:α→Nat)(b:Int→ρ→Prop)(s: ∀(i:Nat) a (t:Int),l[i]? =some a→0≤t→t≤300→body (t,(i:Int))=some (.inl (tk (d a) (c a) t,((i+1:Nat):Int)))∨(∃r,body (t,(i:Int))=some (.inr r)∧b (-1) r∧tk (d a) (c a) t= -1))
  (hn: ∀(i:Nat) (t:Int),t<0→i<l.length→ ∃r,body (t,(i:Int))=some (.inr r)∧b t r)(p: ∀t:Int, ∃r,body (t,(l.length:Int))=some (.inr r)∧b t r): ∀(r:List α) (i:Nat) (t:Int) (n:Nat),l.drop i=r→ -1≤t→t≤300→r.length<n→i≤l.length→ ∃x,loopN body n (t,(i:Int))=some x∧b (Nw d c r t) x
 | [],i,t,n,h,h0,h1,j,y=>by
  obtain⟨m,rfl⟩: ∃m,n=m+1:=⟨n - 1,by simp at j; omega⟩
  have:i=l.length:=by
   have:=congrArg List.length h; simp at this; omega
  subst this; obtain⟨x,f,g⟩:=p t; simp only[loopN,f]; exact⟨x,rfl,g⟩
 | a::r,i,t,n,h,h0,h1,j,y=>by
  obtain⟨m,rfl⟩: ∃m,n=m+1:=⟨n - 1,by simp at j; omega⟩
  have k:i<l.length:=by
   have:=congrArg List.length h; simp at this; omega
  have v:l[i]? =some a:=by
   have:=congrArg (·[0]?) h
   simpa using this
  have o:l.drop (i+1)=r:=by
   have:=congrArg List.tail h; simpa using this
  have e:Nw d c (a::r) t=bif decide (0≤t)then Nw d c r (tk (d a) (c a) t)else t:=rfl
  rw[e]; by_cases q:0≤t
  ·rw[z11 q,z16]
   have w:=Tr (d a) (c a) t h0; rcases s i a t v q h1 with f | ⟨x,f,g,u⟩
   ·simp only[loopN,f]
    exact zR l d c b s hn p r (i+1) _ m o w.1 (by omega) (by simp at j; omega) (by omega)
   ·simp only[loopN,f]
    rw[u,HD d c r (by omega)]
    exact⟨x,rfl,g⟩
  ·rw[z9 q,z12]
   obtain⟨x,f,g⟩:=hn i t (by omega) k
   simp only[loopN,f]; exact⟨x,rfl,g⟩
def Mi(sl k m:Int)(s:List UInt8)(a:Int):Bool:=bif decide (k=3)then decide (s=[])&&(decide (a=0)&&(decide (-1≤m)&&decide (m≤sl - 1)))else !decide (6<k)&&Qk k m s a
theorem NJ(n:Nat)(k m:Int)(s:List UInt8)(l:List aA)(sl:Int)(h0:0≤sl)(h1:sl≤400)(h:s.length<n)(hn:s.length<4611686018427387904):lV n k m s l sl=some (Mi sl k m s l.length):=by
 unfold lV Mi Qk; rw[zV n s h hn,wrap_i64 (n:=sl - 1) (by omega) (by omega)]
 simp only[mU,z8]; generalize (l.length:Int)=ne; by_cases h1:k=1
 ·subst h1
  cases decide (0≤m)<;>cases decide (m≤1000000000000)<;>cases decide (s=[])<;>cases decide (ne=0)<;>rfl
 by_cases a:k=2
 ·subst a
  cases decide (m=0)<;>cases gN s<;>cases decide (ne=0)<;>rfl
 by_cases b:k=3
 ·subst b
  cases decide (s=[])<;>cases decide (ne=0)<;>rfl
 by_cases c:k=4
 ·subst c
  cases decide (m=0)<;>cases decide (s=[])<;>cases decide (ne≤20)<;>rfl
 by_cases d:k=5
 ·subst d
  cases decide (m=0)<;>cases decide (s=[])<;>cases decide (ne≤20)<;>rfl
 by_cases e:k=6
 ·subst e
  cases decide (m=0)<;>cases decide (s=[])<;>cases decide (2≤ne)<;>cases decide (ne≤6)<;>rfl
 rw[z9 h1,z9 a,z9 b,z9 c,z9 d,z9 e]; simp only[z12]; by_cases f:6<k
 ·rw[z11 f]; rfl
 ·rw[z9 (show ¬ k=7 by omega),z9 (show ¬ k=8 by omega),z9 (show ¬ k=9 by omega)]
  cases decide (6<k)<;>rfl
mutual
def sT:aA→Nat
 | .mk _ _ _ l=>1+rT l
def rT:List aA→Nat
 | []=>0
 | x::r=>sT x+rT r
end
theorem TO(a:aA):sT a=1+rT a.f3:=by cases a; simp only[sT]; rfl
theorem Ip: ∀l,rT l=GD sT l
 | []=>rfl
 | x::r=>by simp only[rT,GD,Ip r]
theorem FE(a:aA):cV a=3+a.f2.length+dl cV a.f3:=by cases a; simp only[cV,Bv]; rfl
mutual
def pv:aA→List Int
 | .mk k m _ l=>bif decide (k=3)then [m]else pvs l
def pvs:List aA→List Int
 | []=> []
 | x::r=>pv x++pvs r
end
theorem pv_e(a:aA):pv a=bif decide (a.f0=3)then [a.f1]else pvs a.f3:=by cases a; simp only[pv]; rfl
mutual
def s9:aA→List Int
 | .mk k m _ l=>(bif decide (k=3)&& !decide (m= -1)then [m]else [])++s9s l
def s9s:List aA→List Int
 | []=> []
 | x::r=>s9 x++s9s r
end
theorem s9_e(a:aA):s9 a=(bif decide (a.f0=3)&& !decide (a.f1= -1)then [a.f1]else [])++s9s a.f3:=by cases a; simp only[s9]; rfl
theorem Of: ∀(a b:List aA),s9s (a++b)=s9s a++s9s b
 | [],b=>rfl
 | x::r,b=>by simp only[z91,s9s,Of r b,z56]
theorem UY(a:aA):s9s [a]=s9 a:=by simp only[s9s,z78]
mutual
theorem TH: ∀e,(s9 e).length≤cV e
 | .mk k m s l=>by
  have:=KS l; simp only[s9,cV,z19]; cases (decide (k=3)&& !decide (m= -1))<;>simp<;>omega
theorem KS: ∀l,(s9s l).length≤DQ l
 | []=>by simp [s9s]
 | x::r=>by have:=TH x; have:=KS r; simp only[s9s,DQ,z19]; omega
end
mutual
theorem TM: ∀e,(pv e).length≤sT e
 | .mk k m s l=>by
  have:=Oh l; simp only[pv,sT]; cases decide (k=3)<;>simp<;>omega
theorem Oh: ∀l,(pvs l).length≤rT l
 | []=>by simp [pvs]
 | x::r=>by have:=TM x; have:=Oh r; simp only[pvs,rT,z19]; omega
end
def pok:Nat→Int→aA→Bool
 | 0,_,_=>false
 | d+1,sl,p=>Mi sl p.f0 p.f1 p.f2 p.f3.length&&p.f3.all (pok d sl)
theorem MZ{α:Type}(w:α→Nat): ∀(l:List α) (i:Nat),dl w (l.take i)≤dl w l
 | [],i=>by simp
 | a::r,0=>by simp only[WR,dl]; omega
 | a::r,i+1=>by have:=MZ w r i; simp only[WZ,dl]; omega
theorem GO: ∀(n:Nat),n≤1099511627776→ ∀(a:aA),cV a<n→eU n a.f0 a.f1 a.f2 a.f3=some (s9 a)
 | 0,_,a,h=>by omega
 | n+1,hn,a,h=>by
  have u:=GO n (by omega)
  rw[yQ,s9_e]; unfold lT; rw[FE]at h; have o:=cK cV a.f3; have f: ∀(l:List aA) (P:List Int),P.length≤1→dl cV l+3<n+1→ ∀(body:List Int×Int→Option ((List Int×Int)⊕(List Int×Int×Bool))),(∀(i:Nat) b (L:List Int),l[i]? =some b→body (L,(i:Int))=(eU n b.f0 b.f1 b.f2 b.f3).bind fun c=>(dG 8 L c).bind fun v=>some (.inl (v,((i+1:Nat):Int))))→(∀L:List Int,body (L,(l.length:Int))=some (.inr (L,(l.length:Int),false)))→loopN body n (P,(0:Int))=some (P++s9s l,(l.length:Int),false):=by
   intro l P j x body t q; have o:=cK cV l; have s:=Bz (body:=body) (fun i=>(P++s9s (l.take i),(i:Int))) (len:=l.length) (r:=(P++s9s l,(l.length:Int),false)) (fun i m=>by
    have k:l[i]? =some l[i]:=z13 m
    generalize l[i]=b at k; have w:=gI cV (z25 k); have e:s9s (l.take (i+1))=s9s (l.take i)++s9 b:=by rw[←As k,Of,UY]
    have d:=KS (l.take (i+1)); have p:DQ (l.take (i+1))≤dl cV l:=by
     rw[Bv]; exact MZ cV l (i+1)
    rw[e,z19]at d; have g:dG 8 (P++s9s (l.take i)) (s9 b)=some (P++s9s (l.take (i+1))):=by
     rw[e, ←z56]; exact pZ (by rw[z19]; omega) (by rw[z19]; simp only[maxLen]; omega)
    rw[t i b _ k,u b (by omega),z8,g]; rfl) (by rw[Vj]; exact q _) (n:=n) (by omega)
   simpa [s9s]using s
  have b1:=fun P j=>f a.f3 P j (by omega) (iT n (eU n) a.f3) (fun i b L d=>by
   have m:=cB d; simp only[iT,cX d,z16,bW,d,z8,aN (show i<4611686018427387904 by omega)]) (fun L=>by simp only[iT,aO,z12])
  have b2:=fun P j=>f a.f3 P j (by omega) (iS n (eU n) a.f3) (fun i b L d=>by
   have m:=cB d; simp only[iS,cX d,z16,bW,d,z8,aN (show i<4611686018427387904 by omega)]) (fun L=>by simp only[iS,aO,z12])
  have g:dG 8 ([]:List Int) [a.f1]=some [a.f1]:=pZ (by simp) (by simp [maxLen])
  rw[g]; simp only[z8,b1 [a.f1] (by simp),b2 [] (by simp)]
  cases decide (a.f0=3)<;>cases decide (a.f1= -1)<;>rfl
theorem JD: ∀(n:Nat),n≤1099511627776→ ∀(a:aA) (sl:Int) (d:Nat) (t:Int),0≤sl→sl≤400→d≤10→ -1≤t→t≤300→cV a<n→fX n a.f0 a.f1 a.f2 a.f3 sl (d:Int) t=some (tk (pok d sl a) (sT a) t)
 | 0,_,a,sl,d,t,j,k,p,t0,B,h=>by omega
 | n+1,hn,a,sl,d,t,j,k,p,t0,B,h=>by
  have w:=JD n (by omega)
  rw[AS]; unfold nB; rw[FE]at h; have u:=cK cV a.f3; rw[NJ n a.f0 a.f1 a.f2 a.f3 sl j k (by omega) (by omega)]
  have f:=TO a; cases d with
  | zero=>
   rw[z11 (show((0:Nat):Int)<1 by omega)]
   have e:tk (pok 0 sl a) (sT a) t= -1:=rfl; rw[e]; rfl
  | succ d=>
   rw[z9 (show ¬ ((d+1:Nat):Int)<1 by omega)]
   by_cases g:t<1
   ·rw[z11 g,TB _ _ (by omega)]; rfl
   rw[z9 g]; have v:pok (d+1) sl a=(Mi sl a.f0 a.f1 a.f2 a.f3.length&&a.f3.all (pok d sl)):=rfl; rw[v]; rw[Ip]at f; generalize sT a=q at f ⊢; simp only[z12,z8]; cases hs:Mi sl a.f0 a.f1 a.f2 a.f3.length with
   | false=>rfl
   | true=>
    simp only[z38,z12,z31]; generalize a.f3=l at h u f ⊢; have o:IntKind.wrap .i64 (((d+1:Nat):Int) - 1)=(d:Int):=by rw[wrap_i64 (by omega) (by omega)]; omega
    rw[wrap_i64 (n:=t - 1) (by omega) (by omega)]
    obtain⟨x,h1,m⟩:=zR (body:=fK n (fX n) sl ((d+1:Nat):Int) l) l (pok d sl) sT (fun t r=>r.1=t) (fun i b t c y A=>by
     have C:=gI cV (z25 c); have s:=cB c; left
     simp only[fK,cX c,z16,bW,c,z8,z11 y,o,w b sl d t j k (by omega) (by omega) A (by omega),aN (show i<4611686018427387904 by omega)]) (fun i t g s=>⟨(t,(i:Int),false),by
      simp only[fK,z11 (show(i:Int)<(l.length:Int)by omega),z16,z8,z9 (show ¬ 0≤t by omega),z12],rfl⟩) (fun t=>⟨(t,(l.length:Int),false),by simp only[fK,aO,z12,z8],rfl⟩) l 0 (t - 1) n rfl (by omega) (by omega) (by omega) (by omega)
    have h1:loopN (fK n (fX n) sl ((d+1:Nat):Int) l) n (t - 1,(0:Int))=some x:=h1; rw[h1]; obtain⟨x1,D,E⟩:=x; simp only at m; subst m; simp only[z8,z10]; rw[Gg (pok d sl) sT l (by omega)]
    unfold tk; by_cases z:((GD sT l:Nat):Int)≤t - 1
    ·rw[z11 z,z11 (show(q:Int)≤t by omega)]
     cases l.all (pok d sl)
     ·rfl
     ·simp only[z84,z16]; omega
    ·rw[z9 z,z9 (show ¬ (q:Int)≤t by omega)]
     cases l.all (pok d sl)<;>rfl
def Qt(l:List Int):Bool:=sV (fun i a=> !(decide (a∈l.take i))) 0 l
theorem Pv(l:List Int):Qt l=true↔l.Nodup:=by
 unfold Qt; rw[oE,List.Nodup,List.pairwise_iff_getElem]; constructor
 ·intro h i j d b f e
  have:=h j l[j] (z13 b)
  simp only[z29,z40,z50]at this; exact this (by rw[←e]; exact z158.2 ⟨i,by omega,rfl⟩)
 ·intro h j a c
  simp only[z29,z40,z50]; intro g; obtain⟨i,d,e⟩:=z158.1 g; obtain⟨b,rfl⟩:=Wg.1 c
  exact h i j (by omega) b (by omega) e
theorem VY(a:Int)(l:List Int):(l.all fun b=> !decide (b=a))= !decide (a∈l):=by
 rw[RK,z18]; simp only[z40,z50]; exact⟨fun h d=>h a d rfl,fun h b c e=>h (e ▸ c)⟩
def yO(sl:Int)(p:aA):Bool:=(decide (0≤sl)&&decide (sl≤400))&&((pok 10 sl p&&decide ((sT p:Int)≤300))&&Qt (s9 p))
theorem vU(n:Nat)(hn:n≤1099511627776)(a:aA)(sl:Int)(h:cV a+400<n):iI n a.f0 a.f1 a.f2 a.f3 sl=some (yO sl a):=by
 unfold iI yO; rw[mU,z8]; by_cases f:0≤sl∧sl≤400
 ·have h1:=JD n hn a sl 10 300 f.1 f.2 (by omega) (by omega) (by omega) (by omega)
  have h1:fX n a.f0 a.f1 a.f2 a.f3 sl (10:Int) 300=_:=h1; have p:=TH a; rw[z11 f.1,z11 f.2,h1,GO n hn a (by omega)]
  unfold tk; simp only[z86,z38,z12,z8,z31]; cases q:(pok 10 sl a&&decide ((sT a:Int)≤300))with
  | false=>rfl
  | true=>
   simp only[z7,z26]at q; rw[z16,z9 (show ¬ 300 - (sT a:Int)<0 by omega),z12,z31]
   generalize s9 a=l at p; rw[tO l (fun i b=> !decide (b∈l.take i)) (fun i b g=>by
    have r:=cB g; simp only[lK,cX g,z16]; have d:(l.take i).length=i:=by rw[z62]; omega
    have e:=Gm (body:=iW n l (i:Int)) (l.take i) (fun c=> !decide (c=b)) (fun j c k=>by
     have o:=cB k; rw[d]at o; have m:l[j]? =some c:=by rw[List.getElem?_take_of_lt o]at k; exact k
     simp only[iW,z11 (show(j:Int)<(i:Int)by omega),z16,bW,m,g,z8,aN (show j<4611686018427387904 by omega)]
     cases decide (c=b)<;>rfl) (by rw[d]; simp only[iW,aO,z12]) (n:=n) (by rw[d]; omega)
    rw[e,VY,aN (show i<4611686018427387904 by omega)]
    cases decide (b∈l.take i)<;>rfl) (by simp only[lK,aO,z12]) (by omega)]
   unfold Qt; cases sV (fun i b=> !decide (b∈l.take i)) 0 l<;>rfl
 ·have e:(decide (0≤sl)&&decide (sl≤400))=false:=by
   by_cases a:0≤sl
   ·rw[z9 (show ¬ sl≤400 from fun b=>f ⟨a,b⟩),z58]
   ·rw[z9 a]; rfl
  rw[e]; rfl
def frI:List Int→List Int→Bool
 | _,[]=>true
 | P,v::r=> !(decide (0≤v)&&decide (v∈P))&&frI (P++[v]) r
theorem PN: ∀(V W P:List Int),frI P (V++W)=(frI P V&&frI (P++V) W)
 | [],W,P=>by simp [frI]
 | v::V,W,P=>by
  simp only[z91,frI,PN V W (P++[v]),z56,Bool.and_assoc,z83]
def FM(l:List Int):List Int:=l.filter fun v=>decide (0≤v)
theorem yZ(a b:List Int):FM (a++b)=FM a++FM b:=WW ..
theorem Kf: ∀(V P:List Int),(FM P).Nodup→(frI P V=true↔(FM (P++V)).Nodup)
 | [],P,h=>by simp [frI,h]
 | v::V,P,h=>by
  have e:P++v::V=(P++[v])++V:=by simp
  rw[e]; unfold frI; by_cases d:0≤v
  ·have f:FM [v]=[v]:=by simp [FM,d]
   rw[z11 d,z31]; have j:v∈FM P↔v∈P:=by simp [FM,d]
   by_cases c:v∈P
   ·rw[z11 c]
    refine⟨fun h=>by simp at h,fun g=> ?_⟩
    rw[yZ,yZ,f]at g; have:=(z163.1 (z163.1 g).1).2.2 v (j.2 c) v (by simp)
    exact absurd rfl this
   ·rw[z9 c,z65,z31]
    refine Kf V _ ?_
    rw[yZ,f,z163]; exact⟨h,by simp,fun a k b i=>by simp only[z68]at i; subst i; exact fun e=>c (j.1 (e ▸ k))⟩
  ·have f:FM [v]=[]:=by simp [FM,d]
   rw[z9 d,z97,z65,z31]; refine Kf V _ ?_
   rw[yZ,f,z78]; exact h
theorem TG: ∀(d:Nat) (sl:Int) (a:aA),pok d sl a=true→s9 a=FM (pv a)
 | 0,sl,a,h=>by cases h
 | d+1,sl,a,h=>by
  have j:=TG d sl; have e:pok (d+1) sl a=(Mi sl a.f0 a.f1 a.f2 a.f3.length&&a.f3.all (pok d sl)):=rfl; rw[e,z7]at h; obtain⟨h1,g⟩:=h; rw[s9_e,pv_e]; have i: ∀l:List aA,l.all (pok d sl)=true→s9s l=FM (pvs l):=by
   intro l; induction l with
   | nil=>intro _; rfl
   | cons x r ihr=>
    intro h; simp only[z94,z7]at h; simp only[s9s,pvs,j x h.1,ihr h.2,yZ]
  unfold Mi at h1; by_cases f:a.f0=3
  ·rw[z11 f]at h1 ⊢
   simp only[z16,z7,z26]at h1; have c:a.f3=[]:=by
    cases e:a.f3 with
    | nil=>rfl
    | cons x r=>have:=h1.2.1; rw[e]at this; simp only[z48]at this; omega
   rw[c]; by_cases b:a.f1= -1
   ·rw[z11 b]; simp [s9s,FM,b]
   ·rw[z9 b]
    have:0≤a.f1:=by have:=h1.2.2.1; omega
    simp [s9s,FM,this]
  ·rw[z9 f]
   simp only[z97,z12,z83]; exact i _ g
abbrev PS:=Int×List Int
def RU(d:Nat)(sl:Int)(t:PS)(a:aA):PS⊕Unit:=bif pok d sl a&&(decide (t.1+sT a≤300)&&frI t.2 (pv a))then .inl (t.1+sT a,t.2++pv a)else .inr ()
theorem MU(d:Nat)(sl:Int): ∀(l:List aA) (t:PS),t.1≤300→Cw (RU d sl) l t=bif l.all (pok d sl)&&(decide (t.1+rT l≤300)&&frI t.2 (pvs l))then .inl (t.1+rT l,t.2++pvs l)else .inr ()
 | [],t,h=>by
  have e:decide (t.1+((rT []:Nat):Int)≤300)=true:=z11 (by simp only[rT]; omega)
  rw[e]; simp [Cw,pvs,frI,rT]
 | a::r,t,h=>by
  simp only[Cw]; have c:rT (a::r)=sT a+rT r:=by simp only[rT]
  have f:pvs (a::r)=pv a++pvs r:=by simp only[pvs]
  rw[c,f,PN,z94]; by_cases q:(pok d sl a&&(decide (t.1+sT a≤300)&&frI t.2 (pv a)))=true
  ·have b:RU d sl t a= .inl (t.1+sT a,t.2++pv a):=by unfold RU; rw[q]; rfl
   simp only[z7,z26]at q; obtain⟨g,i,j⟩:=q; rw[b,g,j,z31,z31]; simp only; rw[MU d sl r _ i]; simp only; rw[show t.1+((sT a+rT r:Nat):Int)=t.1+sT a+rT r by omega,z56]
  ·have b:RU d sl t a= .inr ():=by unfold RU; rw[z92]at q; rw[q]; rfl
   rw[b]; simp only; cases h1:pok d sl a with
   | false=>rfl
   | true=>
    rw[h1,z31]at q; cases h3:frI t.2 (pv a)with
    | false=>cases r.all (pok d sl)<;>simp
    | true=>
     rw[h3,z84,z26]at q; rw[z9 (show ¬ t.1+((sT a+rT r:Nat):Int)≤300 by omega)]
     cases r.all (pok d sl)<;>rfl
theorem QS(n:Nat)(l:List Int)(s:Int)(hn:l.length<n)(c:n<4611686018427387904):gL n l s=some (KL (fun a=>decide (s=a)) 0 l):=by
 unfold gL; have e:=zT (body:=eE n l s) l (fun a=>decide (s=a)) (fun i=>(i:Int)) (fun i=>Sum.inl (i:Int)) (Sum.inr ((l.length:Int),false)) (fun i a b=>by
  have d:=cB b; simp only[eE,cX b,z16,bW,b,z8,aN (show i<4611686018427387904 by omega)]
  cases decide (s=a)<;>rfl) (by simp only[eE,aO,z12]) hn
 refine(congrArg (fun q=>Option.bind q _) e).trans ?_
 rcases tQ (fun a=>decide (s=a)) l 0 with⟨h,_⟩ | ⟨k,a,h,_⟩
 ·rw[h]; rfl
 ·rw[h,z9 (by omega)]
  simp only[z8,z12,z34]
theorem Ju(n:Nat)(l:List Int)(s:Int)(hn:l.length<n)(c:n<4611686018427387904):eF n l s=some (decide (s∈l)):=by
 unfold eF; rw[QS n l s hn c]; simp only[z8,z10]; rcases tQ (fun a=>decide (s=a)) l 0 with⟨h,h1⟩ | ⟨k,a,h,h1,b,_⟩
 ·rw[h,z9 (by omega),z9 (fun d=>by have:=h1 s d; simp at this)]
 ·simp only[z26]at b
  subst b; rw[h,z11 (by omega),z11 (z25 h1)]
def fJ(b:Bool)(sl c:Int)(a:List Int)(r:Bool×Int×Int×List Int):Prop:=r.1=b∧(b=true→r.2=(sl,c,a))
theorem PR: ∀(n:Nat),n≤1099511627776→ ∀(a:aA) (d:Nat) (sl c:Int) (e:List Int),0≤sl→sl≤400→d≤10→0≤c→c≤300→(e.length:Int)≤c→cV a+400<n→ ∃r,cQ n a.f0 a.f1 a.f2 a.f3 (11 - (d:Int)) sl c e=some r∧fJ (pok d sl a&&(decide (c+sT a≤300)&&frI e (pv a))) sl (c+sT a) (e++pv a) r
 | 0,_,a,d,sl,c,e,E,F,K,G,H,s,h=>by omega
 | n+1,hn,a,d,sl,c,e,E,F,K,G,H,s,h=>by
  have P:=PR n (by omega)
  rw[uD]; unfold iB; rw[FE]at h; have L:=cK cV a.f3; have y:=TO a; have j:=pv_e a; rw[Mx n _ _ _ _ (by omega) (by omega),wrap_i64 (n:=c+1) (by omega) (by omega),wrap_i64 (n:=sl - 1) (by omega) (by omega),iP]
  cases d with
  | zero=>
   rw[z11 (show(10:Int)<11 - ((0:Nat):Int)by omega)]
   exact⟨_,rfl,rfl,fun h=>by cases h⟩
  | succ d=>
   rw[z9 (show ¬ (10:Int)<11 - ((d+1:Nat):Int)by omega)]
   have O:pok (d+1) sl a=(Mi sl a.f0 a.f1 a.f2 a.f3.length&&a.f3.all (pok d sl)):=rfl; rw[O]; by_cases g:300<c+1
   ·rw[z11 g,z9 (show ¬ c+(sT a:Int)≤300 by omega)]
    refine⟨_,rfl, ?_, ?_⟩<;>cases Mi sl a.f0 a.f1 a.f2 a.f3.length<;>cases a.f3.all (pok d sl)<;>simp
   rw[z9 g]; simp only[z12,z8]; unfold Mi; by_cases A:a.f0=3
   ·rw[z11 A]at j ⊢
    simp only[z16]at j ⊢; rw[j]; have hz: ∀r,r∈a.f3→ ¬ (a.f3.length:Int)=0:=fun r B h0=>by
     have:a.f3=[]:=z72.1 (by omega)
     rw[this]at B; simp at B
    generalize M:decide (a.f2=[])=z1; cases hr1:(decide (-1≤a.f1)&&decide (a.f1≤sl - 1))with
    | false=>
     refine⟨_,rfl, ?_,fun h=> ?_⟩
     ·cases z1<;>cases decide ((a.f3.length:Int)=0)<;>rfl
     ·revert h; cases z1<;>cases decide ((a.f3.length:Int)=0)<;>simp
    | true=>
    cases z1 with
    | false=>exact⟨_,rfl,rfl,fun h=>by cases h⟩
    | true=>
    by_cases h0:(a.f3.length:Int)=0
    ·have m:a.f3=[]:=z72.1 (by omega)
     rw[z11 h0,z9 (show ¬ (0:Int)<(a.f3.length:Int)by omega)]
     simp only[z38,z12,z31,m,List.all_nil,z8,z65]; have z:sT a=1:=by rw[y,m]; rfl
     rw[z]; have k:decide (c+((1:Nat):Int)≤300)=true:=z11 (by omega)
     rw[k,z31]; rw[Ju n e a.f1 (by omega) (by omega)]
     have p:dG 8 e [a.f1]=some (e++[a.f1]):=pZ (by simp only[z21]; omega) (by simp only[z21,maxLen]; omega)
     rw[p]; have J:frI e [a.f1]= !(decide (0≤a.f1)&&decide (a.f1∈e)):=by simp [frI]
     rw[J]; cases decide (0≤a.f1)<;>cases decide (a.f1∈e)<;>first | exact⟨_,rfl,rfl,fun _=>rfl⟩ | exact⟨_,rfl,rfl,fun h=>by cases h⟩
    ·rw[z9 h0,z11 (show(0:Int)<(a.f3.length:Int)by omega)]
     exact⟨_,rfl,rfl,fun h=>by cases h⟩
   ·rw[z9 A]at j ⊢
    simp only[z12]at j ⊢; rw[j]; cases h6:decide (6<a.f0)with
    | true=>exact⟨_,rfl,rfl,fun h=>by cases h⟩
    | false=>
    cases hs:Qk a.f0 a.f1 a.f2 a.f3.length with
    | false=>exact⟨_,rfl,rfl,fun h=>by cases h⟩
    | true=>
    simp only[z12,z8,z38,z65,z31]; generalize sT a=q at y ⊢; generalize a.f3=l at h L y ⊢; have I:IntKind.wrap .i64 (11 - ((d+1:Nat):Int)+1)=11 - (d:Int):=by rw[wrap_i64 (by omega) (by omega)]; omega
    obtain⟨x,x1,f⟩:=NG (body:=dT n (cQ n) (11 - ((d+1:Nat):Int)) l) l (RU d sl) (fun t i=>((i:Int),sl,t.1,t.2)) (fun t=> .inr ((l.length:Int),false,sl,t.1,t.2)) (fun _ x=> ∃u,x= .inl (false,u)) (fun t=>0≤t.1∧t.1≤300∧(t.2.length:Int)≤t.1) (fun i b t o g=>by
     have Q:=cB o; have R:=gI cV (z25 o); obtain⟨⟨S,rs,T,U⟩,r1,r2,C⟩:=P b d sl t.1 t.2 E F (by omega) g.1 g.2.1 g.2.2 (by omega)
     simp only at r2 C; simp only[dT,cX o,z16,bW,o,z8,I,r1,aN (show i<4611686018427387904 by omega)]
     rw[r2]; unfold RU; by_cases hz:(pok d sl b&&(decide (t.1+sT b≤300)&&frI t.2 (pv b)))=true
     ·left
      have D:=C hz; simp only[z41]at D; obtain⟨rfl,rfl,rfl⟩:=D; rw[hz]; simp only[z7,z26]at hz; have N:=TM b; refine⟨_,rfl,⟨?_,hz.2.1, ?_⟩,rfl⟩
      ·show 0≤t.1+(sT b:Int); omega
      ·show((t.2++pv b).length:Int)≤t.1+(sT b:Int)
       rw[z19]; omega
     ·right
      rw[z92]at hz; rw[hz]; exact⟨(),_,rfl,rfl,_,rfl⟩) (fun t _=>by simp only[dT,aO,z12]) (n:=n) (by omega) (t0:=(c+1,e)) ⟨by show 0≤c+1; omega,by show c+1≤300; omega,by show(e.length:Int)≤c+1; omega⟩
    have x1:loopN (dT n (cQ n) (11 - ((d+1:Nat):Int)) l) n ((0:Int),sl,c+1,e)=some x:=x1; rw[x1]; rw[MU d sl l (c+1,e) (by show c+1≤300; omega)]at f
    simp only at f; rw[show c+1+((rT l:Nat):Int)=c+(q:Int)by omega]at f
    cases hz:(l.all (pok d sl)&&(decide (c+(q:Int)≤300)&&frI e (pvs l)))with
    | true=>
     rw[hz]at f; simp only[z16]at f; subst f; exact⟨_,rfl,rfl,fun _=>rfl⟩
    | false=>
     rw[hz]at f; simp only[z12]at f; obtain⟨⟨u,v,w⟩,rfl⟩:=f; exact⟨_,rfl,rfl,fun h=>by cases h⟩
theorem vV(n:Nat)(hn:n≤1099511627776)(a:aA)(sl:Int)(h:cV a+400<n):iK n a.f0 a.f1 a.f2 a.f3 sl=some (yO sl a):=by
 unfold iK yO; rw[iP,z8]; by_cases c:0≤sl∧sl≤400
 ·obtain⟨r,r1,r2,d⟩:=PR n hn a 10 sl 0 [] c.1 c.2 (by omega) (by omega) (by omega) (by simp) h
  have r1:cQ n a.f0 a.f1 a.f2 a.f3 (1:Int) sl 0 []=some r:=r1; rw[z11 c.1,z11 c.2,r1]; simp only[z86,z16,z8,z10,z31]; rw[r2,Int.zero_add,Bool.and_assoc]; cases hp:pok 10 sl a with
  | false=>rfl
  | true=>
   congr 2
   rw[RK,Kf _ _ (by simp [FM]),Pv,z83,TG 10 sl a hp]
 ·have e:(decide (0≤sl)&&decide (sl≤400))=false:=by
   by_cases a:0≤sl
   ·rw[z9 (show ¬ sl≤400 from fun b=>c ⟨a,b⟩),z58]
   ·rw[z9 a]; rfl
  rw[e]; rfl
def oN(m:List aF)(s:List UInt8):Int:=KL (fun f=>decide (f.f0=s)) 0 m
theorem JK(m:List aF)(s:List UInt8):oN m s= -1∨ ∃(k:Nat) (f:aF),oN m s=(k:Int)∧m[k]? =some f:=by
 unfold oN; rcases tQ (fun f:aF=>decide (f.f0=s)) m 0 with⟨h,_⟩ | ⟨k,a,h,h1,_⟩
 ·exact .inl h
 ·exact .inr ⟨k,a,by rw[h]; simp,h1⟩
theorem JE(n:Nat)(m:List aF)(ps:List aA)(s:List UInt8)(h:m.length<n)(hn:n<4611686018427387904):jB n m ps s=some (oN m s):=by
 unfold jB oN; have e:=zT (body:=jQ n m s) m (fun f=>decide (f.f0=s)) (fun i=>(i:Int)) (fun i=>Sum.inl (i:Int)) (Sum.inr ((m.length:Int),false)) (fun i a b=>by
  have c:=cB b; simp only[jQ,cX b,z16,bW,b,z8,aN (show i<4611686018427387904 by omega)]
  cases decide (a.f0=s)<;>rfl) (by simp only[jQ,aO,z12]) h
 refine(congrArg (fun q=>Option.bind q _) e).trans ?_
 rcases tQ (fun f:aF=>decide (f.f0=s)) m 0 with⟨h,_⟩ | ⟨k,a,h,_⟩
 ·rw[h]; rfl
 ·rw[h,z9 (by omega)]
  simp only[z8,z12,z34]
theorem PP(n:Nat)(m:List aF)(ps:List aA)(s:List UInt8)(h:m.length<n)(hn:n<4611686018427387904):oH n s m ps=some (oN m s,m,ps):=by
 unfold oH gD oN; have e:=zT (body:=cC n m) m (fun f=>decide (f.f0=s)) (fun i=>((i:Int),s)) (fun i=>Sum.inl ((i:Int),s)) (Sum.inr ((m.length:Int),false,s)) (fun i a b=>by
  have c:=cB b; simp only[cC,qG,cX b,z16,bW,b,z8,aN (show i<4611686018427387904 by omega)]
  cases decide (a.f0=s)<;>rfl) (by simp only[cC,aO,z12]) h
 have e:loopN (cC n m) n ((0:Int),s)=_:=e; rw[e]; rcases tQ (fun f:aF=>decide (f.f0=s)) m 0 with⟨h,_⟩ | ⟨k,a,h,_⟩
 ·rw[h]; rfl
 ·rw[h,z9 (by omega)]
  simp only[z8,z12,z34]

def wZ(fs:List aF)(i:aG):Bool:=match fs[(oN fs i.f2).toNat]? with
 | some f=>decide (0≤oN fs i.f2)&&(decide (f.f1=i.f1)&&decide (i.f3=0))
 | none=>false
def Bn(ps:List aA)(sl:Int)(i:aG):Bool:=(decide (0≤i.f1)&&decide (i.f1≤IntKind.wrap .i64 ((ps.length:Int) - 1)))&&(match ps[i.f1.toNat]? with
 | some p=>yO sl p
 | none=>false)
def sI(fs:List aF)(ps:List aA)(sl:Int)(to:Bool)(i:aG):Bool:=
 bif decide (i.f0=1)then(decide (i.f2=[])&&decide (i.f3=0))&&(decide (0≤i.f1)&&decide (i.f1≤1000000000000))
 else bif decide (i.f0=2)then decide (i.f1=0)&&(gN i.f2&&decide (i.f3=0))
 else bif decide (i.f0=3)then(decide (i.f2=[])&&decide (i.f3=0))&&(decide (0≤i.f1)&&decide (i.f1≤IntKind.wrap .i64 (sl - 1)))
 else bif decide (i.f0=4)then(decide (i.f2=[])&&decide (i.f3=0))&&(decide (0≤i.f1)&&decide (i.f1≤20))
 else bif decide (i.f0=5)then(decide (i.f2=[])&&decide (i.f3=0))&&(decide (0≤i.f1)&&decide (i.f1≤20))
 else bif decide (i.f0=6)then(decide (i.f2=[])&&decide (i.f3=0))&&(decide (2≤i.f1)&&decide (i.f1≤6))
 else bif decide (i.f0=7)then decide (i.f1=0)&&(Mk i.f2&&decide (i.f3=0))
 else bif decide (i.f0=8)then wZ fs i
 else bif decide (i.f0=9)then(decide (i.f2=[])&&to)&&Bn ps sl i
 else bif decide (i.f0=10)then(decide (i.f2=[])&&to)&&decide (i.f1=0)
 else(decide (i.f2=[])&&decide (i.f3=0))&&(decide (i.f1=0)&&(decide (11≤i.f0)&&decide (i.f0≤12)))
theorem Bj(i:aG):jX i=4+i.f2.length:=rfl
theorem Md(fs:List aF)(i:aG):(bif decide ((0:Int)≤oN fs i.f2)then(ix fs (oN fs i.f2)).bind fun e=>bif decide (e.f1=i.f1)then some (decide (i.f3=(0:Int)))else some false else some false)=some (wZ fs i):=by
 unfold wZ; rcases JK fs i.f2 with e | ⟨k,f,e,a⟩
 ·rw[e]
  cases fs[(-1:Int).toNat]? <;>rfl
 ·rw[e,z34,a,bW,a,z11 (by omega)]
  simp only[z16,z8,z31]; cases decide (f.f1=i.f1)<;>rfl
theorem On(ps:List aA)(x:Int)(h0:0≤x)(h1:x≤IntKind.wrap .i64 ((ps.length:Int) - 1))(c:ps.length<4611686018427387904): ∃p,ps[x.toNat]? =some p∧ix ps x=some p:=by
 obtain⟨k,rfl⟩: ∃k:Nat,x=k:=⟨x.toNat,by omega⟩
 have a:k<ps.length:=by
  rcases z153 ps.length with h | h
  ·rw[h]at h1
   have:IntKind.wrap .i64 (((0:Nat):Int) - 1)= -1:=by decide
   omega
  ·have:IntKind.wrap .i64 ((ps.length:Int) - 1)=(ps.length:Int) - 1:=by
    obtain⟨m,b⟩: ∃m,ps.length=m+1:=⟨ps.length - 1,by omega⟩
    rw[b,Ic (by omega)]; omega
   omega
 exact⟨ps[k],by rw[z34]; exact z13 a,by rw[bW]; exact z13 a⟩
theorem Rw(n:Nat)(hn:n≤1099511627776)(ps:List aA)(sl:Int)(i:aG)(h:dl cV ps+400<n):((aQ n i.f1 (0:Int) (IntKind.wrap .i64 ((ps.length:Int) - (1:Int)))).bind fun c=>bif c then(ix ps i.f1).bind fun e=>(iK n e.f0 e.f1 e.f2 e.f3 sl).bind fun c=>some c else some false)=some (Bn ps sl i):=by
 rw[iP,z8]; unfold Bn; have d:=cK cV ps; cases h1:decide (0≤i.f1)&&decide (i.f1≤IntKind.wrap .i64 ((ps.length:Int) - 1))with
 | false=>rfl
 | true=>
  simp only[z7,z26]at h1; obtain⟨p,a,b⟩:=On ps i.f1 h1.1 h1.2 (by omega)
  have f:=gI cV (z25 a); rw[a,b]; simp only[z16,z8,z31,vV n hn p sl (by omega)]
theorem Rv(n:Nat)(hn:n≤1099511627776)(ps:List aA)(sl:Int)(i:aG)(h:dl cV ps+400<n):((aT n i.f1 (0:Int) (IntKind.wrap .i64 ((ps.length:Int) - (1:Int)))).bind fun c=>bif c then(ix ps i.f1).bind fun e=>(iI n e.f0 e.f1 e.f2 e.f3 sl).bind fun c=>some c else some false)=some (Bn ps sl i):=by
 rw[mU,z8]; unfold Bn; have d:=cK cV ps; cases h1:decide (0≤i.f1)&&decide (i.f1≤IntKind.wrap .i64 ((ps.length:Int) - 1))with
 | false=>rfl
 | true=>
  simp only[z7,z26]at h1; obtain⟨p,a,b⟩:=On ps i.f1 h1.1 h1.2 (by omega)
  have f:=gI cV (z25 a); rw[a,b]; simp only[z16,z8,z31,vU n hn p sl (by omega)]
theorem ST(n:Nat)(hn:n≤1099511627776)(fs:List aF)(ps:List aA)(l:List UInt8)(e sl:Int)(is:List aG)(i:aG)(h:dl cV ps+400<n)(f:fs.length<n)(g:jX i<n):mW n l e sl is i.f0 i.f1 i.f2 i.f3 fs ps=some (sI fs ps sl (decide (0≤i.f3)&&decide (i.f3≤IntKind.wrap .i64 ((is.length:Int) - 1))) i,fs,ps):=by
 rw[Bj]at g; unfold mW sI; rw[Rw n hn ps sl i h,PP n fs ps i.f2 f (by omega),Aq n i.f2 (by omega) (by omega),PJ]
 simp only[iP,z8,Md]; generalize wZ fs i=q1; generalize Bn ps sl i=q2; generalize gN i.f2=q3; generalize Mk i.f2=q4; generalize (decide (0≤i.f3)&&decide (i.f3≤IntKind.wrap .i64 ((is.length:Int) - 1)))=q5; generalize (decide (0≤i.f1)&&decide (i.f1≤IntKind.wrap .i64 (sl - 1)))=q6; generalize (decide (0≤i.f1)&&decide (i.f1≤1000000000000))=q7; generalize (decide (0≤i.f1)&&decide (i.f1≤20))=q8; generalize (decide (2≤i.f1)&&decide (i.f1≤6))=q9; generalize decide (i.f2=[])=b1; generalize decide (i.f3=0)=b2; generalize decide (i.f1=0)=b3; have k: ∀(c:Bool),(bif c then some b2 else some false:Option Bool)=some (c&&b2):=fun c=>by cases c<;>rfl
 cases decide (i.f0=1)with
 | true=>cases b1<;>cases b2<;>rfl
 | false=>
 cases decide (i.f0=2)with
 | true=>cases b1<;>cases b2<;>cases b3<;>cases q3<;>rfl
 | false=>
 cases decide (i.f0=3)with
 | true=>cases b1<;>cases b2<;>rfl
 | false=>
 cases decide (i.f0=4)with
 | true=>cases b1<;>cases b2<;>rfl
 | false=>
 cases decide (i.f0=5)with
 | true=>cases b1<;>cases b2<;>rfl
 | false=>
 cases decide (i.f0=6)with
 | true=>cases b1<;>cases b2<;>rfl
 | false=>
 cases decide (i.f0=7)with
 | true=>cases b1<;>cases b2<;>cases b3<;>cases q4<;>rfl
 | false=>
 cases decide (i.f0=8)with
 | true=>cases b1<;>rfl
 | false=>
 cases decide (i.f0=9)with
 | true=>cases b1<;>cases b2<;>cases q5<;>rfl
 | false=>
 cases decide (i.f0=10)with
 | true=>cases b1<;>cases b2<;>cases q5<;>cases b3<;>rfl
 | false=>
 by_cases a:i.f0=11
 ·rw[a]; cases b1<;>cases b2<;>cases b3<;>rfl
 ·rw[z9 a]
  by_cases b:i.f0=12
  ·rw[b]; cases b1<;>cases b2<;>cases b3<;>rfl
  ·have j:(decide (11≤i.f0)&&decide (i.f0≤12))=false:=by
    rw[z175]; by_cases d:11≤i.f0
    ·exact .inr (z9 (by omega))
    ·exact .inl (z9 d)
   rw[z9 b,j]; cases b1<;>cases b2<;>cases b3<;>rfl
theorem SK(n:Nat)(hn:n≤1099511627776)(fs:List aF)(ps:List aA)(g:List UInt8)(c sl:Int)(is:List aG)(a:Nat)(i:aG)(b:is[a]? =some i)(j:is.length<4611686018427387904)(h:dl cV ps+400<n)(d:fs.length<n)(e:jX i<n):mV n fs ps g c sl is (a:Int)=some (sI fs ps sl (decide (((a+1:Nat):Int)≤i.f3)&&decide (i.f3≤IntKind.wrap .i64 ((is.length:Int) - 1))) i):=by
 rw[Bj]at e; have f:=cB b; unfold mV sI; rw[bW,b,z8,Rv n hn ps sl i h,JE n fs ps i.f2 d (by omega),zV n i.f2 (by omega) (by omega),PG]
 simp only[mU,z8,Md,aN (show a<4611686018427387904 by omega)]
 generalize wZ fs i=q1; generalize Bn ps sl i=q2; generalize gN i.f2=q3; generalize Mk i.f2=q4; generalize (decide (((a+1:Nat):Int)≤i.f3)&&decide (i.f3≤IntKind.wrap .i64 ((is.length:Int) - 1)))=q5; generalize (decide (0≤i.f1)&&decide (i.f1≤IntKind.wrap .i64 (sl - 1)))=q6; generalize (decide (0≤i.f1)&&decide (i.f1≤1000000000000))=q7; generalize (decide (0≤i.f1)&&decide (i.f1≤20))=q8; generalize (decide (2≤i.f1)&&decide (i.f1≤6))=q9; generalize (decide (11≤i.f0)&&decide (i.f0≤12))=q10; generalize decide (i.f2=[])=b1; generalize decide (i.f3=0)=b2; generalize decide (i.f1=0)=b3; cases decide (i.f0=1)with
 | true=>cases b1<;>cases b2<;>rfl
 | false=>
 cases decide (i.f0=2)with
 | true=>cases b1<;>cases b2<;>cases b3<;>cases q3<;>cases q5<;>rfl
 | false=>
 cases decide (i.f0=3)with
 | true=>cases b1<;>cases b2<;>rfl
 | false=>
 cases decide (i.f0=4)with
 | true=>cases b1<;>cases b2<;>rfl
 | false=>
 cases decide (i.f0=5)with
 | true=>cases b1<;>cases b2<;>rfl
 | false=>
 cases decide (i.f0=6)with
 | true=>cases b1<;>cases b2<;>rfl
 | false=>
 cases decide (i.f0=7)with
 | true=>cases b1<;>cases b2<;>cases b3<;>cases q4<;>rfl
 | false=>
 cases decide (i.f0=8)with
 | true=>cases b1<;>rfl
 | false=>
 cases decide (i.f0=9)with
 | true=>cases b1<;>cases b2<;>cases q5<;>rfl
 | false=>
 cases decide (i.f0=10)with
 | true=>cases b1<;>cases b2<;>cases q5<;>cases b3<;>rfl
 | false=>cases b1<;>cases b2<;>cases b3<;>cases q10<;>rfl
theorem Gu(fs:List aF)(ps:List aA)(sl:Int)(to:Bool)(i:aG):sI fs ps sl to i=((!(decide (i.f0=9)||decide (i.f0=10))||to)&&sI fs ps sl true i):=by
 unfold sI; by_cases b:i.f0=9
 ·rw[b]
  cases to<;>cases decide (i.f2=[])<;>rfl
 by_cases a:i.f0=10
 ·rw[a]
  cases to<;>cases decide (i.f2=[])<;>rfl
 rw[z9 b,z9 a]; rfl
def sG(i:aG):Int:=
 bif decide (i.f0=4)then i.f1 else bif decide (i.f0=5)then i.f1 else bif decide (i.f0=6)then i.f1 else bif decide (i.f0=8)then i.f1 else bif decide (i.f0=7)then 2 else bif decide (i.f0=9)then 1 else bif decide (i.f0=12)then 1 else 0
theorem Ms(n:Nat)(i:aG):jZ n i.f0 i.f1 i.f2 i.f3=some (sG i):=by
 unfold jZ sG; simp only[Me]
theorem NH(n:Nat)(i:aG)(h1:1≤i.f0)(a:i.f0≤12): ∃g,lU n i.f0 i.f1 i.f2 i.f3=some (sG i,g)∧(i.f0≤8→g=1):=by
 have e:i.f0=1∨i.f0=2∨i.f0=3∨i.f0=4∨i.f0=5∨i.f0=6∨i.f0=7∨i.f0=8∨i.f0=9∨i.f0=10∨i.f0=11∨i.f0=12:=by omega
 unfold lU sG; rcases e with e | e | e | e | e | e | e | e | e | e | e | e<;>rw[e]<;>exact⟨_,rfl,fun h=>by first | rfl | omega⟩

def iQ(a:List Int)(p:Nat)(v:Int):Option (List Int):=match a[p]? with
 | none=>none
 | some x=>bif decide (x= -1)then some (a.set p v)else bif decide (x=v)then some a else none
theorem zU(n:Nat)(a:List Int)(p:Nat)(v:Int)(h:p<a.length): ∃l,fY n a (p:Int) v=some ((iQ a p v).isSome,l)∧l.length=a.length∧ ∀q,iQ a p v=some q→l=q:=by
 have e:a[p]? =some a[p]:=z13 h
 generalize a[p]=x at e; have c:(a.set p v)[p]? =some v:=z69 h
 unfold fY iQ; simp only[bW,e,z8,z34,c]; cases decide (x= -1)with
 | true=>exact⟨a.set p v,by simp,z74,fun q b=>by simpa using b⟩
 | false=>
  refine⟨a,by simp only[z12]; cases decide (x=v)<;>rfl,rfl,fun q b=> ?_⟩
  simp only[z12]at b; cases hx:decide (x=v)<;>rw[hx]at b
  ·cases b
  ·exact z47 b
theorem oM{a:List Int}{p:Nat}{v:Int}{q:List Int}(h:iQ a p v=some q):q.length=a.length:=by
 unfold iQ at h; cases e:a[p]? with
 | none=>rw[e]at h; cases h
 | some x=>
  rw[e]at h; simp only at h; cases h1:decide (x= -1)<;>rw[h1]at h
  ·cases h2:decide (x=v)<;>rw[h2]at h
   ·cases h
   ·cases h; rfl
  ·cases h; exact z74
theorem JS{a:List Int}{p:Nat}{v:Int}{q:List Int}(h:iQ a p v=some q):q[p]? =some v∧ ∀j,j≠p→q[j]? =a[j]? :=by
 unfold iQ at h; cases e:a[p]? with
 | none=>rw[e]at h; cases h
 | some x=>
  rw[e]at h; simp only at h; cases h1:decide (x= -1)<;>rw[h1]at h
  ·cases h2:decide (x=v)<;>rw[h2]at h
   ·cases h
   ·cases h
    have:=of_decide_eq_true h2; exact⟨by rw[e,this],fun _ _=>rfl⟩
  ·cases h
   exact⟨z69 (cB e),fun j b=>z93 (Ne.symm b)⟩
theorem wJ{b:List Int}{p:Nat}{v:Int}{q:List Int}(h:iQ b p v=some q){j:Nat}{x:Int}(a:b[j]? =some x)(c:x≠ -1):q[j]? =some x:=by
 by_cases e:j=p
 ·subst e
  unfold iQ at h; rw[a]at h; simp only[z9 c,z12]at h; cases h2:decide (x=v)<;>rw[h2]at h
  ·cases h
  ·cases h; exact a
 ·rw[(JS h).2 j e]; exact a
theorem NZ(f:List Int)(p q:Nat)(u v:Int)(j:u≠ -1)(k:v≠ -1):(iQ f q u).bind (fun l=>iQ l p v)=(iQ f p v).bind (fun l=>iQ l q u):=by
 by_cases e:p=q
 ·subst e
  unfold iQ; cases e:f[p]? with
  | none=>rfl
  | some x=>
   simp only; have i:=cB e; by_cases h1:x= -1
   ·rw[z11 h1]
    simp only[z16,z8,z69 i,z9 j,z9 k,z12]
    by_cases c:u=v
    ·subst c; rfl
    ·rw[z9 c,z9 (Ne.symm c)]; rfl
   ·rw[z9 h1]
    simp only[z12]; by_cases c:x=u
    ·by_cases d:x=v
     ·subst c; subst d; rfl
     ·rw[z11 c,z9 d]
      simp only[z16,z12,z8,e,z9 h1,z9 d,Vi]
    ·rw[z9 c]
     by_cases d:x=v
     ·rw[z11 d]
      simp only[z16,z12,z8,e,z9 h1,z9 c,Vi]
     ·rw[z9 d]; rfl
 ·have g: ∀(l:List Int) (a b:Nat) (w:Int),a≠b→(l.set a w)[b]? =l[b]? :=fun l a b w h=>z93 h
  unfold iQ; cases e1:f[q]? with
  | none=>
   cases e2:f[p]? with
   | none=>rfl
   | some y=>
    simp only[Vi]; cases decide (y= -1)with
    | true=>simp only[z16,z8,g _ _ _ _ e,e1]
    | false=>
     cases decide (y=v)with
     | true=>simp only[z16,z12,z8,e1]
     | false=>rfl
  | some x=>
   cases e2:f[p]? with
   | none=>
    simp only[Vi]; cases decide (x= -1)with
    | true=>simp only[z16,z8,g _ _ _ _ (Ne.symm e),e2]
    | false=>
     cases decide (x=u)with
     | true=>simp only[z16,z12,z8,e2]
     | false=>rfl
   | some y=>
    simp only; cases h1:decide (x= -1)<;>cases c:decide (y= -1)<;>cases d:decide (x=u)<;>cases h4:decide (y=v)<;>simp only[z16,z12,z8,Vi,g _ _ _ _ e,g _ _ _ _ (Ne.symm e),e1,e2,h1,c,d,h4,List.set_comm _ _ e]

def up(h t:Int):Int:=IntKind.wrap .i64 (IntKind.wrap .i64 (h - t)+1)
def BG(a:Nat)(i:aG)(h:Int)(b:List Int):Option (List Int):=
 bif decide (i.f0=11)then some b else bif decide (i.f0=12)then some b
 else bif decide (i.f0=10)then iQ b i.f3.toNat h
 else bif decide (i.f0=9)then(iQ b i.f3.toNat h).bind fun l=>iQ l (a+1) (IntKind.wrap .i64 (h - 1))
 else iQ b (a+1) (up h (sG i))
def Ln(i:aG)(h:Int):Bool:=decide (h<sG i)||(decide (300<h)||(decide (i.f0=12)&& !decide (h=1)))
def EL:Nat→List aG→List Int→Bool
 | _,[],_=>true
 | at',i::r,a=>match a[at']? with
  | none=>false
  | some h=>bif Ln i h then false else match BG at' i h a with
   | none=>false
   | some l=>EL (at'+1) r l
def wfI(len a:Nat)(i:aG):Prop:=1≤i.f0∧i.f0≤12∧((i.f0=9∨i.f0=10)→(a:Int)<i.f3∧i.f3<len)
theorem Ry{a:Nat}{i:aG}{h:Int}{b l:List Int}(e:BG a i h b=some l):l.length=b.length:=by
 unfold BG at e; cases h1:decide (i.f0=11)<;>rw[h1]at e
 ·cases h2:decide (i.f0=12)<;>rw[h2]at e
  ·cases h3:decide (i.f0=10)<;>rw[h3]at e
   ·cases h4:decide (i.f0=9)<;>rw[h4]at e
    ·exact oM e
    ·obtain⟨m,c,d⟩:=z14.1 e
     rw[oM d,oM c]
   ·exact oM e
  ·cases e; rfl
 ·cases e; rfl
def finS:(List Int×Bool)⊕(List Int×Int×Bool)→Option (List Int×Bool)
 | .inl t=>some (t.1,t.2)
 | .inr t=>some (t.1,true)
theorem UR(n:Nat)(is:List aG)(H:is.length<4611686018427387904)(M: ∀(k:Nat) i,is[k]? =some i→wfI is.length k i): ∀(r:List aG) (a:Nat) (b:List Int) (m:Nat),is.drop a=r→a≤is.length→b.length=is.length→r.length<m→ ∃q,loopN (dK n is) m (b,(a:Int))=some q∧ ∃l,finS q=some (l,EL a r b):=by
 intro r; induction r with
 | nil=>
  intro a b m A K u y; obtain⟨m,rfl⟩: ∃k,m=k+1:=⟨m - 1,by simp at y; omega⟩
  have:a=is.length:=by
   have:=congrArg List.length A; simp at this; omega
  subst this; refine⟨.inr (b,(is.length:Int),false), ?_,b,rfl⟩
  simp only[loopN,dK,u,aO,z12]
 | cons i r ih=>
  intro a b m A K u y; obtain⟨m,rfl⟩: ∃k,m=k+1:=⟨m - 1,by simp at y; omega⟩
  have D:is[a]? =some i:=by
   have:=congrArg (fun l=>l[0]?) A
   simpa [z43]using this
  have F:is.drop (a+1)=r:=by
   have:=congrArg (List.drop 1) A; simpa [RJ]using this
  have L:=cB D; have C:b[a]? =some b[a]:=z13 (by omega)
  generalize b[a]=h at C; obtain⟨Q,R,S⟩:=M a i D; obtain⟨g,I,J⟩:=NH n i Q R; have G:=aN (show a<4611686018427387904 by omega)
  have w: ∀l:List Int,l.length=is.length→(decide (((a+1:Nat):Int)<(l.length:Int))=decide (a+1<is.length)):=fun l H=>by
   rw[H]; by_cases c:a+1<is.length
   ·rw[z11 c,z11 (by omega)]
   ·rw[z9 c,z9 (by omega)]
  have t:(bif decide (h<sG i)then some true else bif decide ((300:Int)<h)then some true else bif decide (i.f0=(12:Int))then some (!decide (h=(1:Int)))else some false)=some (Ln i h):=by
   unfold Ln; generalize decide (h=1)=z; cases decide (h<sG i)<;>cases decide (300<h)<;>cases decide (i.f0=12)<;>rfl
  unfold EL; rw[C]; simp only[loopN,dK,z11 (show(a:Int)<(b.length:Int)by omega),z16,bW,D,C,z8,I,t,G,w b u]
  cases Ln i h with
  | true=>exact⟨_,rfl,b,rfl⟩
  | false=>
   simp only[z12,z38]; have d: ∀(l:List Int),l.length=is.length→BG a i h b=some l→ ∃q,loopN (dK n is) m (l,((a+1:Nat):Int))=some q∧ ∃l',finS q=some (l',(match BG a i h b with | none=>false | some l=>EL (a+1) r l)):=fun l h1 B=>by
    rw[B]; exact ih (a+1) l m F (by omega) h1 (by simp at y; omega)
   have e:BG a i h b=none→ ∀l:List Int, ∃q,(some (Sum.inl (l,false)):Option ((List Int×Bool)⊕(List Int×Int×Bool)))=some q∧ ∃l',finS q=some (l',(match BG a i h b with | none=>false | some l=>EL (a+1) r l)):=fun B l=>by
    rw[B]; exact⟨_,rfl,l,rfl⟩
   by_cases f:i.f0=11
   ·rw[z11 f]
    exact d b u (by unfold BG; rw[z11 f]; rfl)
   rw[z9 f]; by_cases o:i.f0=12
   ·rw[z11 o]
    exact d b u (by unfold BG; rw[z9 f,z11 o]; rfl)
   rw[z9 o]; by_cases p:i.f0=10
   ·rw[z11 p]
    obtain⟨k,v⟩: ∃k:Nat,i.f3=k:=⟨i.f3.toNat,by omega⟩
    have hn:BG a i h b=iQ b k h:=by
     unfold BG; rw[z9 f,z9 o,z11 p,v,z34]; rfl
    obtain⟨l,l1,l2,x⟩:=zU n b k h (by omega)
    rw[v,l1]; simp only[z12,z16,z8]; cases j:iQ b k h with
    | none=>exact e (by rw[hn,j]) l
    | some q=>
     have:=x q j; subst this; exact d l (by omega) (by rw[hn,j])
   rw[z9 p]; by_cases s:i.f0=9
   ·rw[z11 s]
    obtain⟨k,v⟩: ∃k:Nat,i.f3=k:=⟨i.f3.toNat,by omega⟩
    have N:=S (.inl s); have hn:BG a i h b=(iQ b k h).bind fun l=>iQ l (a+1) (IntKind.wrap .i64 (h - 1)):=by
     unfold BG; rw[z9 f,z9 o,z9 p,z11 s,v,z34]; rfl
    obtain⟨l,l1,l2,x⟩:=zU n b k h (by omega)
    rw[v,l1]; simp only[z12,z16,z8]; cases j:iQ b k h with
    | none=>exact e (by rw[hn,j]; rfl) l
    | some q=>
     have:=x q j; subst this; have E:decide (((a+1:Nat):Int)<(l.length:Int))=true:=z11 (by omega)
     simp only[Option.isSome_some,z16,E]; obtain⟨l',O,T,P⟩:=zU n l (a+1) (IntKind.wrap .i64 (h - 1)) (by omega)
     rw[O]; simp only[z8]; cases hd:iQ l (a+1) (IntKind.wrap .i64 (h - 1))with
     | none=>exact e (by rw[hn,j]; exact hd) l'
     | some q=>
      have:=P q hd; subst this; exact d l' (by omega) (by rw[hn,j]; exact hd)
   rw[z9 s]; have hn:BG a i h b=iQ b (a+1) (up h (sG i)):=by
    unfold BG; rw[z9 f,z9 o,z9 p,z9 s]; rfl
   rw[J (by omega)]
   simp only[z12]; by_cases j:a+1<is.length
   ·rw[z11 j]
    obtain⟨l,l1,l2,x⟩:=zU n b (a+1) (up h (sG i)) (by omega)
    have l1:fY n b ((a+1:Nat):Int) (IntKind.wrap .i64 (IntKind.wrap .i64 (h - sG i)+1))=_:=l1; simp only[z16,l1,z8]; cases j:iQ b (a+1) (up h (sG i))with
    | none=>exact e (by rw[hn,j]) l
    | some q=>
     have:=x q j; subst this; exact d l (by omega) (by rw[hn,j])
   ·rw[z9 j]
    have:iQ b (a+1) (up h (sG i))=none:=by
     unfold iQ; rw[z64 (by omega)]
    exact e (by rw[hn,this]) b
theorem TJ(z v:Int): ∀(L i:Nat),i<L→(List.replicate i v++List.replicate (L - i) z).set i v=List.replicate (i+1) v++List.replicate (L - (i+1)) z:=by
 intro L i h; obtain⟨k,b⟩: ∃k,L - i=k+1:=⟨L - i - 1,by omega⟩
 have a:L - (i+1)=k:=by omega
 rw[b,a,List.replicate_succ,List.set_append_right _ _ (by simp)]
 simp [List.replicate_succ',z56]
def start(L:Nat):List Int:=0::List.replicate (L - 1) (-1)
theorem Jo(n:Nat)(hn:n≤1099511627776)(p:List UInt8)(e sl:Int)(is:List aG)(h0:0<is.length)(h:is.length<n)(m: ∀(k:Nat) i,is[k]? =some i→wfI is.length k i): ∃l,jP n p e sl is=some (l,EL 0 is (start is.length)):=by
 unfold jP; have f:decide (0≤(is.length:Int)∧(is.length:Int)≤maxLen∧8*(is.length:Int)≤281474976710656)=true:=z11 ⟨by omega,by simp only[maxLen]; omega,by omega⟩
 obtain⟨k,d⟩: ∃k,is.length=k+1:=⟨is.length - 1,by omega⟩
 have b:=Bz (body:=eP n) (fun i=>(0::(List.replicate i (-1)++List.replicate (k - i) 0),((i+1:Nat):Int))) (len:=k) (r:=(start is.length,((k+1:Nat):Int),false)) (fun i j=>by
  have a:(0::(List.replicate i (-1)++List.replicate (k - i) 0):List Int).length=k+1:=by simp; omega
  have g: ∃y,(0::(List.replicate i (-1)++List.replicate (k - i) 0):List Int)[i+1]? =some y:=⟨_,z13 (by rw[a]; omega)⟩
  obtain⟨y,o⟩:=g; simp only[eP,a,z11 (show((i+1:Nat):Int)<((k+1:Nat):Int)by omega),z16,bW,o,z8,z34,aN (show i+1<4611686018427387904 by omega),Vl,TJ 0 (-1) k i j]) (by
  have a:(0::(List.replicate k (-1)++List.replicate (k - k) 0):List Int).length=k+1:=by simp
  simp only[eP,a,aO,z12]; simp [start,d]) (n:=n) (by omega)
 have b:loopN (eP n) n (List.replicate (Int.toNat (is.length:Int)) (0:Int),(1:Int))=some (start is.length,((k+1:Nat):Int),false):=by
  rw[←b,z34,d]; rfl
 rw[f,b]; simp only[ck,z16,z8]; obtain⟨q,c,l,s⟩:=UR n is (by omega) m is 0 (start is.length) n rfl (by omega) (by simp [start]; omega) h
 have c:loopN (dK n is) n (start is.length,(0:Int))=some q:=c; rw[c]; refine⟨l, ?_⟩
 cases q<;>exact s
def cA(hs:List Int)(p:Nat)(v:Int)(b:Bool):List Int×Bool:=bif decide (hs.length≤p)||decide (300<v)then(hs,true)else match hs[p]? with
 | none=>(hs,true)
 | some x=>bif decide (x<0)then(hs.set p v,b)else bif decide (x=v)then(hs,b)else(hs,true)
theorem CG(n:Nat)(hs:List Int)(p:Nat)(v:Int)(b:Bool):bJ n (p:Int) v hs b=some (cA hs p v b):=by
 unfold bJ cA; by_cases h:hs.length≤p
 ·rw[z11 h,z11 (show(hs.length:Int)≤p by omega)]; rfl
 rw[z9 h,z9 (show ¬ (hs.length:Int)≤p by omega)]
 have e:hs[p]? =some hs[p]:=z13 (by omega)
 generalize hs[p]=x at e; simp only[z12,z39,z8,bW,e,z34]; cases decide (300<v)<;>cases decide (x<0)<;>cases decide (x=v)<;>rfl
def lvA(at':Nat)(i:aG)(h:Int)(hs:List Int)(b:Bool):List Int×Bool:=
 bif decide (h<sG i)||((decide (i.f0=9)||decide (i.f0=10))&&decide (i.f3≤(at':Int)))then(hs,true)
 else bif decide (i.f0=9)then cA (cA hs (at'+1) (IntKind.wrap .i64 (h - 1)) b).1 i.f3.toNat h (cA hs (at'+1) (IntKind.wrap .i64 (h - 1)) b).2
 else bif decide (i.f0=10)then cA hs i.f3.toNat h b
 else bif decide (i.f0=11)then(hs,b)
 else bif decide (i.f0=12)then(hs,b|| !decide (h=1))
 else cA hs (at'+1) (up h (sG i)) b
theorem QC(n:Nat)(at':Nat)(i:aG)(h:Int)(hs:List Int)(b:Bool)(hg:hs[at']? =some h)(hl:at'<4611686018427387904):fC n (at':Int) i.f0 i.f1 i.f2 i.f3 hs b=some (lvA at' i h hs b):=by
 unfold fC lvA; have hup:IntKind.wrap .i64 (IntKind.wrap .i64 (h - sG i)+1)=up h (sG i):=rfl; simp only[bW,hg,z8,Ms,aN hl,CG,hup]; cases h0:decide (h<sG i)with
 | true=>rfl
 | false=>
 by_cases e9:i.f0=9
 ·rw[z11 e9]
  by_cases h2:i.f3≤(at':Int)
  ·rw[z11 h2]; rfl
  ·rw[z9 h2]
   obtain⟨k,hk⟩: ∃k:Nat,i.f3=k:=⟨i.f3.toNat,by omega⟩
   rw[hk]; simp only[z12,z16,z39,z58,z8,CG,z34]
 rw[z9 e9]; by_cases e10:i.f0=10
 ·rw[z11 e10]
  by_cases h2:i.f3≤(at':Int)
  ·rw[z11 h2]; rfl
  ·rw[z9 h2]
   obtain⟨k,hk⟩: ∃k:Nat,i.f3=k:=⟨i.f3.toNat,by omega⟩
   rw[hk]; simp only[z12,z16,z39,z58,z8,CG,z34]
 rw[z9 e10]; simp only[z12,z39,z97,z8]; generalize decide (h=1)=z; cases decide (i.f0=11)<;>cases decide (i.f0=12)<;>cases b<;>rfl
theorem Xj(hs:List Int)(p:Nat)(v:Int)(b:Bool):(cA hs p v b).1.length=hs.length:=by
 unfold cA; cases decide (hs.length≤p)||decide (300<v)with
 | true=>rfl
 | false=>
  cases hs[p]? with
  | none=>rfl
  | some x=>
   simp only[z12]; cases decide (x<0)<;>cases decide (x=v)<;>first | rfl | exact z74
theorem Un(at':Nat)(i:aG)(h:Int)(hs:List Int)(b:Bool):(lvA at' i h hs b).1.length=hs.length:=by
 unfold lvA; cases decide (h<sG i)||((decide (i.f0=9)||decide (i.f0=10))&&decide (i.f3≤(at':Int)))with
 | true=>rfl
 | false=>
  cases decide (i.f0=9)<;>cases decide (i.f0=10)<;>cases decide (i.f0=11)<;>cases decide (i.f0=12)<;>simp only[z12,z16,Xj]
def HY:Nat→List aG→List Int→Bool→Bool
 | _,[],_,b=> !b
 | at',i::r,hs,b=>bif b then false else match hs[at']? with
  | none=>false
  | some h=>bif decide (h<0)then false else HY (at'+1) r (lvA at' i h hs b).1 (lvA at' i h hs b).2
def finA:(List Int×Bool)⊕(Int×Bool×List Int×Bool)→Option (List Int×Bool)
 | .inl t=>some (t.1,t.2)
 | .inr t=>some (t.2.2.1, !t.2.2.2)
theorem VD(n:Nat)(is:List aG)(hl:is.length<4611686018427387904): ∀(r:List aG) (at':Nat) (hs:List Int) (b:Bool) (m:Nat),is.drop at'=r→at'≤is.length→hs.length=is.length→r.length<m→ ∃q,loopN (eQ n is) m ((at':Int),hs,b)=some q∧ ∃l,finA q=some (l,HY at' r hs b):=by
 intro r; induction r with
 | nil=>
  intro at' hs b m hr ha hh hm; obtain⟨m,rfl⟩: ∃k,m=k+1:=⟨m - 1,by simp at hm; omega⟩
  have:at'=is.length:=by
   have:=congrArg List.length hr; simp at this; omega
  subst this; refine⟨.inr ((is.length:Int),false,hs,b), ?_,hs,rfl⟩
  simp only[loopN,eQ,aO,z12]
 | cons i r ih=>
  intro at' hs b m hr ha hh hm; obtain⟨m,rfl⟩: ∃k,m=k+1:=⟨m - 1,by simp at hm; omega⟩
  have hi:is[at']? =some i:=by
   have:=congrArg (fun l=>l[0]?) hr
   simpa [z43]using this
  have hr2:is.drop (at'+1)=r:=by
   have:=congrArg (List.drop 1) hr; simpa [RJ]using this
  have hlt:=cB hi; have hg:hs[at']? =some hs[at']:=z13 (by omega)
  generalize hs[at']=h at hg; have hlv:=QC n at' i h hs b hg (by omega)
  unfold HY; rw[hg]; simp only[loopN,eQ,cX hi,z16,bW,hi,hg,z8,hlv,aN (show at'<4611686018427387904 by omega)]
  cases b with
  | true=>exact⟨_,rfl,[],rfl⟩
  | false=>
   simp only[z12,z8]; cases decide (h<0)with
   | true=>exact⟨_,rfl,[],rfl⟩
   | false=>exact ih (at'+1) _ _ m hr2 (by omega) (by rw[Un]; exact hh) (by simp at hm; omega)
theorem Js(n:Nat)(hn:n≤1099511627776)(nm:List UInt8)(ar sl:Int)(is:List aG)(h0:0<is.length)(h:is.length<n): ∃l,jV n nm ar sl is=some (l,HY 0 is (start is.length) false):=by
 unfold jV; have hc:decide (0≤(is.length:Int)∧(is.length:Int)≤maxLen∧8*(is.length:Int)≤281474976710656)=true:=z11 ⟨by omega,by simp only[maxLen]; omega,by omega⟩
 have e1:=Bz (body:=eS n is) (fun i=>((i:Int),(List.replicate i (-1)++List.replicate (is.length - i) 0),false)) (len:=is.length) (r:=((is.length:Int),false,List.replicate is.length (-1),false)) (fun i hi=>by
  have hx:(List.replicate i (-1)++List.replicate (is.length - i) 0:List Int).length=is.length:=by simp; omega
  obtain⟨y,hy⟩: ∃y,(List.replicate i (-1)++List.replicate (is.length - i) 0:List Int)[i]? =some y:=⟨_,z13 (by rw[hx]; omega)⟩
  simp only[eS,z176,z11 (show(i:Int)<(is.length:Int)by omega),z16,bW,hy,z8,z34,aN (show i<4611686018427387904 by omega),TJ 0 (-1) is.length i hi]) (by
  simp only[eS,z176,z34,aO,z12]; simp) (n:=n) (by omega)
 have e1:loopN (eS n is) n ((0:Int),List.replicate (Int.toNat (is.length:Int)) (0:Int),false)=some ((is.length:Int),false,List.replicate is.length (-1),false):=by
  rw[←e1,z34]; simp
 have e2:bJ n (0:Int) (0:Int) (List.replicate is.length (-1)) false=some (start is.length,false):=by
  have:=CG n (List.replicate is.length (-1)) 0 0 false; have:bJ n (0:Int) (0:Int) (List.replicate is.length (-1)) false=_:=this; rw[this]; obtain⟨k,hk⟩: ∃k,is.length=k+1:=⟨is.length - 1,by omega⟩
  rw[hk]; unfold cA start; simp [List.replicate_succ]
 rw[hc,e1]; simp only[ck,z16,z8,e2]; obtain⟨q,q1,l,q2⟩:=VD n is (by omega) is 0 (start is.length) false n rfl (by omega) (by simp [start]; omega) h
 have q1:loopN (eQ n is) n ((0:Int),start is.length,false)=some q:=q1; rw[q1]; refine⟨l, ?_⟩
 cases q<;>exact q2

theorem sO(at':Nat)(r:List aG)(hs:List Int):HY at' r hs true=false:=by
 cases r<;>rfl
def okH(hs:List Int):Prop:= ∀(j:Nat) x,hs[j]? =some x→ -1≤x∧x≤300
theorem Ug{hs:List Int}(h:okH hs){p:Nat}{v:Int}(h0: -1≤v)(h1:v≤300):okH (hs.set p v):=by
 intro j x hx; by_cases e:p=j
 ·subst e
  by_cases hp:p<hs.length
  ·rw[z69 hp]at hx; cases hx; exact⟨h0,h1⟩
  ·rw[z64 (by rw[z74]; omega)]at hx; cases hx
 ·rw[z93 e]at hx; exact h j x hx
theorem cA_P{hs:List Int}(h:okH hs)(p:Nat)(v:Int)(h0:0≤v)(h1:v≤300):(iQ hs p v=none∧ ∀b,(cA hs p v b).2=true)∨(∃l,iQ hs p v=some l∧okH l∧ ∀b,cA hs p v b=(l,b)):=by
 unfold iQ cA; cases e:hs[p]? with
 | none=>exact .inl ⟨rfl,fun b=>by cases decide (hs.length≤p)||decide (300<v)<;>rfl⟩
 | some x=>
  have hx:=h p x e; have hp:=cB e; simp only[z9 (show ¬ hs.length≤p by omega),z9 (show ¬ 300<v by omega),z181,z12]
  by_cases c:x= -1
  ·rw[z11 c,z11 (show x<0 by omega)]
   exact .inr ⟨_,rfl,Ug h (by omega) h1,fun b=>rfl⟩
  ·rw[z9 c,z9 (show ¬ x<0 by omega)]
   cases decide (x=v)with
   | true=>exact .inr ⟨_,rfl,h,fun b=>rfl⟩
   | false=>exact .inl ⟨rfl,fun b=>rfl⟩
theorem Xk(hs:List Int)(p:Nat)(v:Int):(cA hs p v true).2=true:=by
 unfold cA; cases decide (hs.length≤p)||decide (300<v)with
 | true=>rfl
 | false=>
  cases hs[p]? with
  | none=>rfl
  | some x=>simp only[z12]; cases decide (x<0)<;>cases decide (x=v)<;>rfl
theorem Ik: ∀(r:List aG) (at':Nat) (hs:List Int) (p:Nat) (v:Int),hs[p]? =some v→300<v→at'≤p→p<at'+r.length→EL at' r hs=false
 | [],at',hs,p,v,h,hv,h1,h2=>by simp at h2; omega
 | i::r,at',hs,p,v,h,hv,h1,h2=>by
  unfold EL; cases e:hs[at']? with
  | none=>rfl
  | some x=>
   simp only; by_cases hp:at'=p
   ·subst hp
    rw[h]at e; cases e; have:Ln i v=true:=by
     unfold Ln; rw[z11 hv,Bool.true_or,Qf]
    rw[this]; rfl
   ·cases Ln i x with
    | true=>rfl
    | false=>
     simp only[z12]; cases hn:BG at' i x hs with
     | none=>rfl
     | some l=>
      simp only; refine Ik r (at'+1) l p v ?_ hv (by omega) (by simp at h2; omega)
      unfold BG at hn; cases h1:decide (i.f0=11)<;>rw[h1]at hn
      ·cases h2:decide (i.f0=12)<;>rw[h2]at hn
       ·cases h3:decide (i.f0=10)<;>rw[h3]at hn
        ·cases h4:decide (i.f0=9)<;>rw[h4]at hn
         ·exact wJ hn h (by omega)
         ·obtain⟨m,m1,m2⟩:=z14.1 hn
          exact wJ m2 (wJ m1 h (by omega)) (by omega)
        ·exact wJ hn h (by omega)
       ·cases hn; exact h
      ·cases hn; exact h
theorem up_ok{h t:Int}(h0:t≤h)(h1:h≤300)(h2:0≤t)(h3:t≤20):up h t=h - t+1:=by
 unfold up; rw[wrap_i64 (n:=h - t) (by omega) (by omega),wrap_i64 (by omega) (by omega)]
theorem WF(L:Nat): ∀(r:List aG) (at':Nat) (hs:List Int),hs.length=L→at'+r.length=L→okH hs→(∀(k:Nat) i,r[k]? =some i→wfI L (at'+k) i∧0≤sG i∧sG i≤20)→HY at' r hs false=EL at' r hs
 | [],at',hs,_,_,_,_=>rfl
 | i::r,at',hs,hl,hr,ho,hw=>by
  have hr:at'+(r.length+1)=L:=hr; obtain⟨⟨w1,w2,w3⟩,t0,t1⟩:=hw 0 i rfl; have ih: ∀l:List Int,l.length=L→okH l→HY (at'+1) r l false=EL (at'+1) r l:=fun l h1 h2=>WF L r (at'+1) l h1 (by omega) h2 (fun k j hj=>by
   have:=hw (k+1) j (by simpa using hj)
   rwa[show at'+(k+1)=at'+1+k by omega]at this)
  have hg:hs[at']? =some hs[at']:=z13 (by omega)
  generalize hs[at']=h at hg; obtain⟨b0,b1⟩:=ho at' h hg; unfold HY EL; rw[hg]; simp only[z12]; cases hb:Ln i h with
  | true=>
   simp only[z16]; cases hn:decide (h<0)with
   | true=>rfl
   | false=>
    simp only[z12]; have:(lvA at' i h hs false).2=true:=by
     unfold lvA; unfold Ln at hb; rw[z9 (show ¬ 300<h by omega),z39,z45]at hb
     rcases hb with hb | hb
     ·rw[hb]; rfl
     ·rw[z7]at hb
      have e12:=of_decide_eq_true hb.1; cases decide (h<sG i)with
      | true=>rfl
      | false=>
       rw[e12]; exact hb.2
    rw[this,sO]
  | false=>
   simp only[z12]; unfold Ln at hb; rw[z51,z51]at hb; obtain⟨hb1,_,hb3⟩:=hb; have hb1:=of_decide_eq_false hb1; rw[z9 (show ¬ h<0 by omega)]
   simp only[z12]; unfold lvA; rw[z9 hb1,z39]; unfold BG; have one: ∀(p:Nat) (v:Int),0≤v→v≤300→HY (at'+1) r (cA hs p v false).1 (cA hs p v false).2=(match iQ hs p v with | none=>false | some l=>EL (at'+1) r l):=fun p v v0 v1=>by
    rcases cA_P ho p v v0 v1 with⟨c1,c2⟩ | ⟨l,c1,c2,c3⟩
    ·rw[c1,c2 false,sO]
    ·rw[c1,c3 false]
     exact ih l (by rw[oM c1,hl]) c2
   by_cases e9:i.f0=9
   ·have hw3:=w3 (.inl e9)
    have hh1:1≤h:=by
     have:sG i=1:=by unfold sG; rw[e9]; rfl
     omega
    rw[z9 (show ¬ i.f3≤(at':Int)by omega),z11 e9,z9 (show ¬ i.f0=11 by omega),z9 (show ¬ i.f0=12 by omega),z9 (show ¬ i.f0=10 by omega)]
    simp only[z12,z16,z58]; rw[wrap_i64 (n:=h - 1) (by omega) (by omega),NZ hs (at'+1) i.f3.toNat h (h - 1) (by omega) (by omega)]
    rcases cA_P ho (at'+1) (h - 1) (by omega) (by omega)with⟨c1,c2⟩ | ⟨l,c1,c2,c3⟩
    ·rw[c1,c2 false,Xk,sO]; rfl
    ·rw[c1,c3 false]
     simp only[z8]; rcases cA_P c2 i.f3.toNat h (by omega) (by omega)with⟨d1,d2⟩ | ⟨l',d1,d2,d3⟩
     ·rw[d1,d2 false,sO]
     ·rw[d1,d3 false]
      exact ih l' (by rw[oM d1,oM c1,hl]) d2
   rw[z9 e9]; by_cases e10:i.f0=10
   ·have hw3:=w3 (.inr e10)
    rw[z9 (show ¬ i.f3≤(at':Int)by omega),e10]
    exact one _ _ (by omega) b1
   rw[z9 e10]; by_cases e11:i.f0=11
   ·rw[e11]; exact ih hs hl ho
   rw[z9 e11]; by_cases e12:i.f0=12
   ·rw[e12]at hb3 ⊢
    have:h=1:=by simpa using hb3
    subst this; exact ih hs hl ho
   rw[z9 e12]; simp only[z12,z181,z97]; have hu:=up_ok (h:=h) (t:=sG i) (by omega) b1 t0 t1
   by_cases hv:up h (sG i)≤300
   ·exact one _ _ (by omega) hv
   ·have hc:cA hs (at'+1) (up h (sG i)) false=(hs,true):=by
     unfold cA; rw[z11 (show 300<up h (sG i)by omega),Qf]; rfl
    rw[hc,sO]; cases hp:iQ hs (at'+1) (up h (sG i))with
    | none=>rfl
    | some l=>
     have hgl:=(JS hp).1; have:=cB hgl; have:=oM hp; exact(Ik r (at'+1) l (at'+1) _ hgl (by omega) (by omega) (by omega)).symm
theorem Og: ∀(r:List aG) (at':Nat) (hs:List Int) (b:Bool),HY at' r hs b=true→ ∀(k:Nat) i,r[k]? =some i→(i.f0=9∨i.f0=10)→((at'+k:Nat):Int)<i.f3
 | [],_,_,_,_,k,i,hi,_=>by simp at hi
 | j::r,at',hs,b,h,k,i,hi,h9=>by
  unfold HY at h; cases b with
  | true=>cases h
  | false=>
   simp only[z12]at h; cases e:hs[at']? with
   | none=>rw[e]at h; cases h
   | some x=>
    rw[e]at h; simp only at h; cases hx:decide (x<0)<;>rw[hx]at h
    ·simp only[z12]at h
     cases k with
     | zero=>
      simp only[z22,z10]at hi
      subst hi; by_cases c:j.f3≤(at':Int)
      ·exfalso
       have hz:(decide (j.f0=9)||decide (j.f0=10))=true:=by
        rcases h9 with e | e<;>rw[e]<;>rfl
       have:lvA at' j x hs false=(hs,true):=by
        unfold lvA; rw[hz,z11 c,z31,Qf]; rfl
       rw[this,sO]at h; cases h
      ·simpa using c
     | succ k=>
      have:=Og r (at'+1) _ _ h k i (by simpa using hi) h9
      rwa[show at'+1+k=at'+(k+1)by omega]at this
    ·cases h
theorem Ij(L:Nat): ∀(r:List aG) (at':Nat) (hs:List Int),hs.length=L→at'+r.length=L→(∀(k:Nat) i,r[k]? =some i→wfI L (at'+k) i)→EL at' r hs=true→ ∀i,r[r.length - 1]? =some i→i.f0=11∨i.f0=12
 | [],_,_,_,_,_,_,i,hi=>by simp at hi
 | j::r,at',hs,hl,hr,hw,h,i,hi=>by
  have hr:at'+(r.length+1)=L:=hr; unfold EL at h; cases e:hs[at']? with
  | none=>rw[e]at h; cases h
  | some x=>
   rw[e]at h; simp only at h; cases hx:Ln j x<;>rw[hx]at h
   ·simp only[z12]at h
    cases hn:BG at' j x hs with
    | none=>rw[hn]at h; cases h
    | some l=>
     rw[hn]at h; simp only at h; have hl2:l.length=L:=by rw[Ry hn,hl]
     cases r with
     | nil=>
      simp only[z48,z53,z29,Te,z22,z10]at hi
      subst hi; simp only[z53,z29]at hr; obtain⟨w1,w2,w3⟩:=hw 0 j rfl; have hno: ∀(m:List Int) (v:Int),m.length=L→iQ m (at'+1) v=none:=fun m v hm=>by
       unfold iQ; rw[z64 (by omega)]
      by_cases e11:j.f0=11
      ·exact .inl e11
      by_cases e12:j.f0=12
      ·exact .inr e12
      exfalso
      unfold BG at hn; rw[z9 e11,z9 e12]at hn; by_cases e10:j.f0=10
      ·have:=w3 (.inr e10); omega
      by_cases e9:j.f0=9
      ·have:=w3 (.inl e9); omega
      rw[z9 e10,z9 e9]at hn; simp only[z12]at hn; rw[hno hs _ hl]at hn; cases hn
     | cons j2 r2=>
      refine Ij L (j2::r2) (at'+1) l hl2 (by simp at hr ⊢; omega) (fun k a ha=> ?_) h i ?_
      ·have:=hw (k+1) a (by simpa using ha)
       rwa[show at'+(k+1)=at'+1+k by omega]at this
      ·simpa using hi
   ·cases h
theorem Pw(L:Nat):okH (start L):=by
 intro j x hx; have:=z25 hx; unfold start at this; rw[Qh]at this; rcases this with rfl | h
 ·omega
 ·have:=List.eq_of_mem_replicate h
  omega
def toI(is:List aG)(i:aG):Bool:=decide (0≤i.f3)&&decide (i.f3≤IntKind.wrap .i64 ((is.length:Int) - 1))
def toS(is:List aG)(a:Nat)(i:aG):Bool:=decide (((a+1:Nat):Int)≤i.f3)&&decide (i.f3≤IntKind.wrap .i64 ((is.length:Int) - 1))
def yE(f:aF):Bool:=(decide (0≤f.f1)&&decide (f.f1≤4))&&((decide (f.f1≤f.f2)&&decide (f.f2≤400))&&(decide (1≤(f.f3.length:Int))&&decide ((f.f3.length:Int)≤1500)))
def hdB(fs:List aF)(j:Nat)(f:aF):Bool:=decide (oN fs f.f0=(j:Int))&&(gN f.f0&&yE f)
def fnI(fs:List aF)(ps:List aA)(f:aF):Bool:=(gN f.f0&&yE f)&&(f.f3.all (fun i=>sI fs ps f.f2 (toI f.f3 i) i)&&HY 0 f.f3 (start f.f3.length) false)
def Ty(is:List aG):Bool:=match is[is.length - 1]? with
 | some i=>decide (i.f0=12)||decide (i.f0=11)
 | none=>false
def Bp(fs:List aF)(ps:List aA)(f:aF):Bool:=sV (fun k i=>sI fs ps f.f2 (toS f.f3 k i) i) 0 f.f3
def fnS(fs:List aF)(ps:List aA)(j:Nat)(f:aF):Bool:=hdB fs j f&&(Bp fs ps f&&(EL 0 f.f3 (start f.f3.length)&&Ty f.f3))
theorem HU(f:aF):wFn f=3+f.f0.length+dl jX f.f3:=rfl
theorem VH(n:Nat)(hn:n≤1099511627776)(fs:List aF)(ps:List aA)(f:aF)(h:wFn f<n)(o:fs.length<n)(p:dl cV ps+400<n):rA n f.f0 f.f1 f.f2 f.f3 fs ps=some (fnI fs ps f,fs,ps):=by
 rw[HU]at h; have v:=cK jX f.f3; unfold rA fnI; have q:((eV n f.f0).bind fun b=>bif !b then some true else(aQ n f.f1 (0:Int) (4:Int)).bind fun c=>bif !c then some true else(aQ n f.f2 f.f1 (400:Int)).bind fun d=>bif !d then some true else(aQ n (f.f3.length:Int) (1:Int) (1500:Int)).bind fun g=>some (!g))=some (!(gN f.f0&&yE f)):=by
  unfold yE; simp only[Aq n f.f0 (by omega) (by omega),iP,z8]
  cases gN f.f0<;>cases (decide (0≤f.f1)&&decide (f.f1≤4))<;>cases (decide (f.f1≤f.f2)&&decide (f.f2≤400))<;>rfl
 rw[q,z8]; cases hp:(gN f.f0&&yE f)with
 | false=>rfl
 | true=>
  have h0:0<f.f3.length:=by
   unfold yE at hp; simp only[z7,z26]at hp; omega
  have e:=Iy (body:=kB n f.f0 f.f1 f.f2 f.f3) f.f3 (fun(_:Unit) i=>bif sI fs ps f.f2 (toI f.f3 i) i then Sum.inl ()else Sum.inr ()) (fun _ i=>((i:Int),fs,ps)) (fun _=>Sum.inr ((f.f3.length:Int),false,fs,ps)) (fun _=>Sum.inl (false,fs,ps)) (fun _=>True) (fun k i t j _=>by
   have u:=cB j; have w:=gI jX (z25 j); have m:=ST n hn fs ps f.f0 f.f1 f.f2 f.f3 i p o (by omega)
   have m:mW n f.f0 f.f1 f.f2 f.f3 i.f0 i.f1 i.f2 i.f3 fs ps=some (sI fs ps f.f2 (toI f.f3 i) i,fs,ps):=m; simp only[kB,cX j,z16,bW,j,z8,m,aN (show k<4611686018427387904 by omega)]
   cases sI fs ps f.f2 (toI f.f3 i) i with
   | true=>exact .inl ⟨(),rfl,trivial,rfl⟩
   | false=>exact .inr ⟨(),rfl,rfl⟩) (fun t _=>by simp only[kB,aO,z12]) (n:=n) (by omega) (t0:=()) trivial
  have e:loopN (kB n f.f0 f.f1 f.f2 f.f3) n ((0:Int),fs,ps)=_:=e; rw[e]; have s: ∀l:List aG,Cw (fun(_:Unit) i=>bif sI fs ps f.f2 (toI f.f3 i) i then(Sum.inl ():Unit⊕Unit)else Sum.inr ()) l ()=bif l.all (fun i=>sI fs ps f.f2 (toI f.f3 i) i)then .inl ()else .inr ():=fun l=>by
   induction l with
   | nil=>rfl
   | cons a r ih=>
    simp only[Cw,z94]; cases sI fs ps f.f2 (toI f.f3 a) a with
    | true=>exact ih
    | false=>rfl
  rw[s]; cases f.f3.all (fun i=>sI fs ps f.f2 (toI f.f3 i) i)with
  | false=>rfl
  | true=>
   obtain⟨l,l1⟩:=Js n hn f.f0 f.f1 f.f2 f.f3 h0 (by omega)
   simp only[z38,z12,z16,z8,l1,z31]
theorem PL{fs:List aF}{ps:List aA}{sl:Int}{to:Bool}{i:aG}(h:sI fs ps sl to i=true):1≤i.f0∧i.f0≤12:=by
 by_cases a:i.f0=1∨i.f0=2∨i.f0=3∨i.f0=4∨i.f0=5∨i.f0=6∨i.f0=7∨i.f0=8∨i.f0=9∨i.f0=10
 ·omega
 ·unfold sI at h
  rw[z9 (show ¬ i.f0=1 by omega),z9 (show ¬ i.f0=2 by omega),z9 (show ¬ i.f0=3 by omega),z9 (show ¬ i.f0=4 by omega),z9 (show ¬ i.f0=5 by omega),z9 (show ¬ i.f0=6 by omega),z9 (show ¬ i.f0=7 by omega),z9 (show ¬ i.f0=8 by omega),z9 (show ¬ i.f0=9 by omega),z9 (show ¬ i.f0=10 by omega)]at h
  simp only[z12,z7,z26]at h; omega
theorem Lq{l:Nat}(h0:0<l)(h:l<4611686018427387904):IntKind.wrap .i64 ((l:Int) - 1)=((l - 1:Nat):Int):=by
 obtain⟨k,rfl⟩: ∃k,l=k+1:=⟨l - 1,by omega⟩
 rw[Ic (by omega)]; simp
theorem JI{fs:List aF}{ps:List aA}{f:aF}(h:Bp fs ps f=true)(h0:0<f.f3.length)(g:f.f3.length<4611686018427387904): ∀(k:Nat) i,f.f3[k]? =some i→wfI f.f3.length k i:=by
 intro k i d; have:=(oE _ _ _).1 h k i d; rw[z29]at this; obtain⟨h1,b⟩:=PL this; refine⟨h1,b,fun c=> ?_⟩
 rw[Gu,z7]at this; have hz:(decide (i.f0=9)||decide (i.f0=10))=true:=by
  rcases c with e | e<;>rw[e]<;>rfl
 rw[hz]at this; have a:toS f.f3 k i=true:=this.1; unfold toS at a; rw[Lq h0 g]at a; simp only[z7,z26]at a; omega
theorem SU{fs:List aF}{ps:List aA}{sl:Int}{to:Bool}{i:aG}(h:sI fs ps sl to i=true)(g: ∀f∈fs,0≤f.f1∧f.f1≤4):0≤sG i∧sG i≤20:=by
 have j:=PL h; have e:i.f0=1∨i.f0=2∨i.f0=3∨i.f0=4∨i.f0=5∨i.f0=6∨i.f0=7∨i.f0=8∨i.f0=9∨i.f0=10∨i.f0=11∨i.f0=12:=by omega
 have d:i.f0=8→0≤i.f1∧i.f1≤4:=fun c=>by
  unfold sI at h; rw[c]at h; have h:wZ fs i=true:=h; unfold wZ at h; rcases JK fs i.f2 with e | ⟨k,f,e,b⟩
  ·rw[e]at h
   cases e3:fs[(-1:Int).toNat]? <;>rw[e3]at h<;>cases h
  ·rw[e,z34,b]at h
   simp only[z7,z26]at h; have:=g f (z25 b); omega
 have l:i.f0=4→0≤i.f1∧i.f1≤20:=fun a=>by
  unfold sI at h; rw[a]at h; have h:((decide (i.f2=[])&&decide (i.f3=0))&&(decide (0≤i.f1)&&decide (i.f1≤20)))=true:=h; simp only[z7,z26]at h; omega
 have m:i.f0=5→0≤i.f1∧i.f1≤20:=fun a=>by
  unfold sI at h; rw[a]at h; have h:((decide (i.f2=[])&&decide (i.f3=0))&&(decide (0≤i.f1)&&decide (i.f1≤20)))=true:=h; simp only[z7,z26]at h; omega
 have o:i.f0=6→2≤i.f1∧i.f1≤6:=fun a=>by
  unfold sI at h; rw[a]at h; have h:((decide (i.f2=[])&&decide (i.f3=0))&&(decide (2≤i.f1)&&decide (i.f1≤6)))=true:=h; simp only[z7,z26]at h; omega
 unfold sG; rcases e with e | e | e | e | e | e | e | e | e | e | e | e; case inr.inr.inr.inl=>have:=l e; rw[e]; exact this
 case inr.inr.inr.inr.inl=>have:=m e; rw[e]; exact this
 case inr.inr.inr.inr.inr.inl=>have:=o e; rw[e]; show 0≤i.f1∧i.f1≤20; omega
 case inr.inr.inr.inr.inr.inr.inr.inl=>have:=d e; rw[e]; show 0≤i.f1∧i.f1≤20; omega
 case inr.inr.inr.inr.inr.inr.inl=>rw[e]; show(0:Int)≤2∧(2:Int)≤20; omega
 case inr.inr.inr.inr.inr.inr.inr.inr.inl=>rw[e]; show(0:Int)≤1∧(1:Int)≤20; omega
 case inr.inr.inr.inr.inr.inr.inr.inr.inr.inr.inr=>rw[e]; show(0:Int)≤1∧(1:Int)≤20; omega
 all_goals (rw[e]; show(0:Int)≤0∧(0:Int)≤20; omega)
theorem QH(n:Nat)(hn:n≤1099511627776)(fs:List aF)(ps:List aA)(j:Nat)(f:aF)(t:fs[j]? =some f)(h:wFn f<n)(p:fs.length<n)(r:dl cV ps+400<n):nH n fs ps (j:Int)=some (fnS fs ps j f):=by
 rw[HU]at h; have v:=cK jX f.f3; unfold nH fnS; rw[bW,t,z8]; have s:((eT n f.f0).bind fun b=>bif !b then some true else(jB n fs ps f.f0).bind fun c=>bif !decide (c=(j:Int))then some true else(aT n f.f1 (0:Int) (4:Int)).bind fun d=>bif !d then some true else(aT n f.f2 f.f1 (400:Int)).bind fun e=>bif !e then some true else(aT n (f.f3.length:Int) (1:Int) (1500:Int)).bind fun a=>some (!a))=some (!(hdB fs j f)):=by
  unfold hdB yE; simp only[zV n f.f0 (by omega) (by omega),JE n fs ps f.f0 p (by omega),mU,z8]
  cases gN f.f0<;>cases decide (oN fs f.f0=(j:Int))<;>cases (decide (0≤f.f1)&&decide (f.f1≤4))<;>cases (decide (f.f1≤f.f2)&&decide (f.f2≤400))<;>rfl
 rw[s,z8]; cases hp:hdB fs j f with
 | false=>rfl
 | true=>
  have h0:0<f.f3.length:=by
   unfold hdB yE at hp; simp only[z7,z26]at hp; omega
  simp only[z38,z12,z31]; rw[tO f.f3 (fun k i=>sI fs ps f.f2 (toS f.f3 k i) i) (fun k i g=>by
   have u:=cB g; have w:=gI jX (z25 g); have m:=SK n hn fs ps f.f0 f.f1 f.f2 f.f3 k i g (by omega) r p (by omega)
   have m:mV n fs ps f.f0 f.f1 f.f2 f.f3 (k:Int)=some (sI fs ps f.f2 (toS f.f3 k i) i):=m; simp only[mH,cX g,z16,z8,m,aN (show k<4611686018427387904 by omega)]
   cases sI fs ps f.f2 (toS f.f3 k i) i<;>rfl) (by simp only[mH,aO,z12]) (by omega)]
  have o:sV (fun k i=>sI fs ps f.f2 (toS f.f3 k i) i) 0 f.f3=Bp fs ps f:=rfl
  rw[o]; cases ha:Bp fs ps f with
  | false=>rfl
  | true=>
   obtain⟨l,l1⟩:=Jo n hn f.f0 f.f1 f.f2 f.f3 h0 (by omega) (JI ha h0 (by omega))
   simp only[if_true,z8,l1]; rw[Lq h0 (by omega),bW]
   unfold Ty; have q:f.f3[f.f3.length - 1]? =some f.f3[f.f3.length - 1]:=z13 (by omega)
   generalize f.f3[f.f3.length - 1]=x at q; rw[q]; simp only[z8]; generalize decide (x.f0=11)=z; cases EL 0 f.f3 (start f.f3.length)<;>cases decide (x.f0=12)<;>rfl
theorem PO(fs:List aF)(ps:List aA)(j:Nat)(f:aF)(o:f.f3.length<4611686018427387904)(m: ∀f∈fs,0≤f.f1∧f.f1≤4):fnS fs ps j f=(decide (oN fs f.f0=(j:Int))&&fnI fs ps f):=by
 unfold fnS fnI hdB; cases hd:decide (oN fs f.f0=(j:Int))with
 | false=>rfl
 | true=>
 simp only[z31]; cases hp:(gN f.f0&&yE f)with
 | false=>rfl
 | true=>
 simp only[z31]; have h0:0<f.f3.length:=by
  unfold yE at hp; simp only[z7,z26]at hp; omega
 have b:(start f.f3.length).length=f.f3.length:=by simp [start]; omega
 cases hi:Bp fs ps f with
 | true=>
  have g:=JI hi h0 o; have h:f.f3.all (fun i=>sI fs ps f.f2 (toI f.f3 i) i)=true:=by
   rw[z18]; intro i p; obtain⟨k,a⟩:=z66 p
   have:=(oE _ _ _).1 hi k i a; rw[z29,Gu]at this; rw[Gu]; rw[z7]at this ⊢; refine⟨?_,this.2⟩
   cases hz:(decide (i.f0=9)||decide (i.f0=10))with
   | false=>rfl
   | true=>
    rw[hz]at this; have c:toS f.f3 k i=true:=this.1; unfold toS at c; show toI f.f3 i=true; unfold toI; simp only[z7,z26]at c ⊢; omega
  rw[h]; simp only[z31]; rw[WF f.f3.length f.f3 0 (start f.f3.length) b (by omega) (Pw _) (fun k i a=>by
   rw[z29]; have:=(oE _ _ _).1 hi k i a; exact⟨g k i a,SU this m⟩)]
  cases hr:EL 0 f.f3 (start f.f3.length)with
  | false=>rfl
  | true=>
   have d:f.f3[f.f3.length - 1]? =some f.f3[f.f3.length - 1]:=z13 (by omega)
   generalize f.f3[f.f3.length - 1]=x at d; have:=Ij f.f3.length f.f3 0 (start f.f3.length) b (by omega) (fun k i a=>by rw[z29]; exact g k i a) hr x d
   unfold Ty; rw[d]; show(true&&(decide (x.f0=12)||decide (x.f0=11)))=true; rcases this with e | e<;>rw[e]<;>rfl
 | false=>
  symm
  show(f.f3.all (fun i=>sI fs ps f.f2 (toI f.f3 i) i)&&HY 0 f.f3 (start f.f3.length) false)=false
  rw[z175]; cases hr:HY 0 f.f3 (start f.f3.length) false with
  | false=>exact .inr rfl
  | true=>
   refine .inl ?_
   cases hall:f.f3.all (fun i=>sI fs ps f.f2 (toI f.f3 i) i)with
   | false=>rfl
   | true=>
    have:Bp fs ps f=true:=by
     unfold Bp; rw[oE]; intro k i a; rw[z29]; have h1:=z18.1 hall i (z25 a); have h1:sI fs ps f.f2 (toI f.f3 i) i=true:=h1; show sI fs ps f.f2 (toS f.f3 k i) i=true; rw[Gu]at h1 ⊢; rw[z7]at h1 ⊢; refine⟨?_,h1.2⟩
     cases hz:(decide (i.f0=9)||decide (i.f0=10))with
     | false=>rfl
     | true=>
      rw[hz]at h1; have c:toI f.f3 i=true:=h1.1; have l:i.f0=9∨i.f0=10:=by simpa using hz
      have q:=Og f.f3 0 _ _ hr k i a l; show toS f.f3 k i=true; unfold toI at c; unfold toS; simp only[z7,z26]at c ⊢; omega
    rw[this]at hi; cases hi
def wS(fs:List aF)(ps:List aA):Bool:= !(decide (12<(fs.length:Int))||decide (2000<(ps.length:Int)))&&sV (fun j f=>decide (oN fs f.f0=(j:Int))&&fnI fs ps f) 0 fs
theorem Sd{fs:List aF}{ps:List aA}{f:aF}(h:fnI fs ps f=true):0≤f.f1∧f.f1≤4:=by
 unfold fnI yE at h; simp only[z7,z26]at h; omega
theorem Sc{fs:List aF}{ps:List aA}{j:Nat}{f:aF}(h:fnS fs ps j f=true):0≤f.f1∧f.f1≤4:=by
 unfold fnS hdB yE at h; simp only[z7,z26]at h; omega
theorem Su(fs:List aF)(ps:List aA)(d: ∀f∈fs,f.f3.length<4611686018427387904):sV (fnS fs ps) 0 fs=sV (fun j f=>decide (oN fs f.f0=(j:Int))&&fnI fs ps f) 0 fs:=by
 rw[RK,oE,oE]; constructor
 ·intro h j f a
  rw[←PO fs ps _ f (d f (z25 a)) (fun g b=>by
   obtain⟨k,c⟩:=z66 b
   exact Sc (h k g c))]
  exact h j f a
 ·intro h j f a
  rw[PO fs ps _ f (d f (z25 a)) (fun g b=>by
   obtain⟨k,c⟩:=z66 b
   exact Sd (z7 _ _ ▸ h k g c).2)]
  exact h j f a
theorem FO(n:Nat)(hn:n≤1099511627776)(fs:List aF)(ps:List aA)(h:dl wFn fs<n)(b:dl cV ps+400<n):nL n fs ps=some (wS fs ps):=by
 have e:=cK wFn fs; unfold nL wS; rw[tO fs (fnS fs ps) (fun j f a=>by
  have d:=cB a; have g:=gI wFn (z25 a); simp only[mN,cX a,z16,z8,QH n hn fs ps j f a (by omega) (by omega) b,aN (show j<4611686018427387904 by omega)]
  cases fnS fs ps j f<;>rfl) (by simp only[mN,aO,z12]) (by omega),Su fs ps (fun f c=>by
   have:=gI wFn c; have:=cK jX f.f3; rw[HU]at*; omega)]
 generalize sV _ 0 fs=q; generalize decide (2000<(ps.length:Int))=z; cases decide (12<(fs.length:Int))<;>cases z<;>cases q<;>rfl
theorem sM(n:Nat)(hn:n≤1099511627776)(fs:List aF)(ps:List aA)(h:dl wFn fs<n)(k:dl cV ps+400<n):jC n fs ps=some (wS fs ps):=by
 have m:=cK wFn fs; unfold jC wS; have e:=PB (body:=gY n fs) (fun i=>((i:Int),fs,ps)) (fun j=>match fs[j]? with | some f=> !(decide (oN fs f.f0=(j:Int))&&fnI fs ps f) | none=>false) (Sum.inl false) (Sum.inr ((fs.length:Int),false,fs,ps)) (len:=fs.length) fs.length 0 (by omega) (fun j _ d=>by
  have b:fs[j]? =some fs[j]:=z13 d
  generalize fs[j]=f at b; have o:=gI wFn (z25 b); rw[b]; simp only[gY,cX b,z16,bW,b,z8,PP n fs ps f.f0 (by omega) (by omega),VH n hn fs ps f (by omega) (by omega) k,aN (show j<4611686018427387904 by omega)]
  cases decide (oN fs f.f0=(j:Int))<;>cases fnI fs ps f<;>rfl) (by simp only[gY,aO,z12]) (n:=n) (by omega)
 have e:loopN (gY n fs) n ((0:Int),fs,ps)=_:=e; rw[e]; have l:Ji (fun j=>match fs[j]? with | some f=> !(decide (oN fs f.f0=(j:Int))&&fnI fs ps f) | none=>false) 0 fs.length= !(sV (fun j f=>decide (oN fs f.f0=(j:Int))&&fnI fs ps f) 0 fs):=by
  rw[RK,JV,z40, ←z92,oE]; constructor
  ·rintro ⟨j,_,d,c⟩ a
   have b:fs[j]? =some fs[j]:=z13 (by omega)
   have:=a j _ b; rw[b]at c; simp only[z29]at this; simp only[this]at c; cases c
  ·intro a
   apply z157
   intro g; apply a
   intro j f d; rw[z29]; cases c:(decide (oN fs f.f0=(j:Int))&&fnI fs ps f)with
   | true=>rfl
   | false=>exact absurd ⟨j,by omega,by have:=cB d; omega,by rw[d]; simp only[c]; rfl⟩ g
 rw[l]; generalize sV _ 0 fs=q; generalize decide (2000<(ps.length:Int))=z; cases decide (12<(fs.length:Int))<;>cases z<;>cases q<;>rfl
theorem Jv(a b:Int):bits .or .i64 a b=bits .or .i64 b a:=by
 simp only[bits,BitVec.or_comm]
def Mp(a c:Option (List Int))(b:List Int)(m:Nat):Prop:= ∃r,a=some r∧c=some r∧r.length≤b.length+m
theorem Mp.bind{a c:Option (List Int)}{f1 f2:List Int→Option (List Int)}{b:List Int}{m k j:Nat}(h:Mp a c b m)(f: ∀r,r.length≤b.length+m→Mp (f1 r) (f2 r) r k)(l:m+k≤j):Mp (a.bind f1) (c.bind f2) b j:=by
 obtain⟨r,h1,d,e⟩:=h; obtain⟨q,g,i,o⟩:=f r e; exact⟨q,by rw[h1]; exact g,by rw[d]; exact i,by omega⟩
theorem Gw(b:List Int)(x:Int)(h:b.length<1099511627776):dG 1 b [x]=some (b++[x]):=pZ (by simp only[z21]; omega) (by simp only[z21,maxLen]; omega)
theorem NU{x:Int}{k:Nat}(h0:0≤x)(h:x<128 ^ (k+2)):0≤Int.fdiv x (2 ^ 7)∧Int.fdiv x (2 ^ 7)<128 ^ (k+1):=by
 have e:(2:Int) ^ 7=128:=by decide
 rw[e,z118 x (by omega)]
 refine⟨Int.ediv_nonneg h0 (by omega), ?_⟩
 refine Int.ediv_lt_of_lt_mul (by omega) ?_
 rwa[Int.pow_succ]at h
theorem Ov: ∀(k:Nat) (x:Int) (b:List Int) (n m:Nat),0≤x→x<128 ^ (k+1)→k<m→b.length+k<1099511627776→ ∃r y,loopN (bX n) m (b,x)=some (r,y,false)∧r.length≤b.length+k
 | k,x,b,n,m,h0,h1,f,e=>by
  obtain⟨m,rfl⟩: ∃q,m=q+1:=⟨m - 1,by omega⟩
  by_cases h:127<x
  ·cases k with
   | zero=>simp at h1; omega
   | succ k=>
    have d:=Gw b (IntKind.wrap .u8 (bits .or .i64 (128:Int) (bits .and .i64 x (127:Int)))) (by omega)
    obtain⟨a,c⟩:=NU h0 h1; obtain⟨r,y,r1,r2⟩:=Ov k (Int.fdiv x (2 ^ 7)) (b++[IntKind.wrap .u8 (bits .or .i64 (128:Int) (bits .and .i64 x (127:Int)))]) n m a c (by omega) (by simp only[z19,z21]; omega)
    refine⟨r,y, ?_,by simp only[z19,z21]at r2; omega⟩
    simp only[loopN,bX,z11 h,z16,d,z8]; exact r1
  ·exact⟨b,x,by simp only[loopN,bX,z9 h,z12],by omega⟩
def kJ(v:Int):Int:=if(if(1000000000000:Int)<v then(1000000000000:Int)else v) > ((-1000000000000):Int)then(if(1000000000000:Int)<v then(1000000000000:Int)else v)else((-1000000000000):Int)
theorem Dm(v:Int): -1000000000000≤kJ v∧kJ v≤1000000000000:=by
 unfold kJ; by_cases h:(1000000000000:Int)<v
 ·simp only[z20 h]; simp
 ·simp only[z15 h]
  by_cases a:v > -1000000000000
  ·rw[z20 a]; omega
  ·rw[z15 a]; omega
def zig(v:Int):Int:=bif decide (v<0)then IntKind.wrap .i64 (IntKind.wrap .i64 ((-2)*v) - 1)else IntKind.wrap .i64 (2*v)
theorem OC{v:Int}(h0: -1000000000000≤v)(h1:v≤1000000000000):0≤zig v∧zig v<128 ^ 7:=by
 unfold zig; by_cases h:v<0
 ·rw[z11 h,z16,wrap_i64 (n:=(-2)*v) (by omega) (by omega),wrap_i64 (by omega) (by omega)]; omega
 ·rw[z9 h,z12,wrap_i64 (by omega) (by omega)]; omega
def Ja(n:Nat)(b:List Int)(x:Int):Option (List Int):=(loopN (bX n) n (b,x)).bind fun q=>dG 1 q.1 [IntKind.wrap .u8 q.2.1]
theorem Gf(o:Option (List Int×Int×Bool)):(o.bind fun(a,y,_)=>(dG 1 a ([IntKind.wrap .u8 y]:List Int)).bind fun v=>some v)=o.bind fun q=>dG 1 q.1 [IntKind.wrap .u8 q.2.1]:=by
 cases o with
 | none=>rfl
 | some q=>
  obtain⟨a,y,z⟩:=q; simp only[z8]; cases dG 1 a [IntKind.wrap .u8 y]<;>rfl
theorem Ri(n:Nat)(b:List Int)(v:Int)(hn:20<n)(c:b.length<549755813888): ∃r,Ja n b (zig (kJ v))=some r∧r.length≤b.length+8:=by
 have a:=Dm v; have hz:=OC a.1 a.2; obtain⟨r,y,r1,r2⟩:=Ov 6 (zig (kJ v)) b n n hz.1 hz.2 (by omega) (by omega)
 unfold Ja; rw[r1]; exact⟨r++[IntKind.wrap .u8 y],Gw r _ (by omega),by simp only[z19,z21]; omega⟩
theorem MO(n:Nat)(b:List Int)(v:Int):bK n b v=Ja n b (zig (kJ v)):=by
 have a:pS n=bX n:=rfl; unfold bK Ja zig; rw[a]; show(bif decide (kJ v<0)then _ else _)=_
 cases decide (kJ v<0)<;>exact Gf _
theorem Ps(n:Nat):cH n=bX n:=by
 funext t
 obtain⟨b,x⟩:=t; simp only[cH,bX,Jv (bits .and .i64 x 127) 128]
theorem Rn(n:Nat)(b:List Int)(v:Int)(m:b.length<549755813888):bP n b v=Ja n b (zig (kJ v)):=by
 have l:dG 1 ([]:List Int) b=some b:=pZ (by simp only[z53]; omega) (by simp only[z53,maxLen]; omega)
 have e:pR n=cH n:=rfl; have f:pQ n=cH n:=rfl; have g:pP n=cH n:=rfl; have h:pO n=cH n:=rfl; have i:pN n=cH n:=rfl; have j:pM n=cH n:=rfl; have k:pL n=cH n:=rfl; unfold bP; rw[e,f,g,h,i,j,k,Ps,l,z8]; by_cases h1:(1000000000000:Int)<v
 ·have a:kJ v=1000000000000:=by
   unfold kJ; simp only[z20 h1]; rfl
  rw[z11 h1,a]; exact Gf _
 ·rw[z9 h1]
  by_cases c:v< -1000000000000
  ·have a:kJ v= -1000000000000:=by
    unfold kJ; simp only[z15 h1]; rw[z15 (by omega)]
   rw[z11 c,a]; exact Gf _
  ·have a:kJ v=v:=by
    unfold kJ; simp only[z15 h1]; by_cases d:v > -1000000000000
    ·rw[z20 d]
    ·rw[z15 d]; omega
   rw[z9 c,a]; unfold Ja zig; cases decide (v<0)<;>exact Gf _
theorem oR(n:Nat)(b:List Int)(v:Int)(hn:20<n)(a:b.length<549755813888):Mp (bK n b v) (bP n b v) b 8:=by
 obtain⟨r,h1,c⟩:=Ri n b v hn a; exact⟨r,by rw[MO,h1],by rw[Rn n b v a,h1],c⟩
theorem Gz(n:Nat)(b:List Int)(s:List UInt8)(hn:20<n)(d:b.length+s.length+8<549755813888):Mp (eW n b s) (iG n b s) b (8+s.length):=by
 unfold eW iG; refine(oR n b (s.length:Int) hn (by omega)).bind (k:=s.length) (fun r e=> ?_) (z36 _)
 have a:dG 1 r (s.map fun c=>((c.toNat:Nat):Int))=some (r++s.map fun c=>((c.toNat:Nat):Int)):=pZ (by rw[z67]; omega) (by rw[z67]; simp only[maxLen]; omega)
 exact⟨_,by rw[a]; rfl,by rw[a]; rfl,by rw[z19,z67]; exact z36 _⟩
theorem By{α:Type}{b1 b2:List Int×Int→Option ((List Int×Int)⊕(List Int×Int×Bool))}(l:List α)(w:α→Nat)(B:Nat)(u: ∀(i:Nat) a t,l[i]? =some a→t.length+40*(1+w a)≤B→ ∃c,b1 (t,(i:Int))=some (.inl (c,((i+1:Nat):Int)))∧b2 (t,(i:Int))=some (.inl (c,((i+1:Nat):Int)))∧c.length≤t.length+40*(1+w a))
  (e: ∀t,b1 (t,(l.length:Int))=some (.inr (t,(l.length:Int),false)))(f: ∀t,b2 (t,(l.length:Int))=some (.inr (t,(l.length:Int),false))){n:Nat}(hn:l.length<n)(b:List Int)(o:b.length+40*dl w l≤B):
  ∃r,loopN b1 n (b,(0:Int))=some (r,(l.length:Int),false)∧loopN b2 n (b,(0:Int))=some (r,(l.length:Int),false)∧r.length≤b.length+40*dl w l:=by
 have h: ∀(r:List α) (i:Nat) (t:List Int) (n:Nat),l.drop i=r→i≤l.length→r.length<n→t.length+40*dl w r≤B→ ∃q,loopN b1 n (t,(i:Int))=some (q,(l.length:Int),false)∧loopN b2 n (t,(i:Int))=some (q,(l.length:Int),false)∧q.length≤t.length+40*dl w r:=by
  intro r; induction r with
  | nil=>
   intro i t n d p hn v; obtain⟨n,rfl⟩: ∃k,n=k+1:=⟨n - 1,by simp at hn; omega⟩
   have:i=l.length:=by
    have:=congrArg List.length d; simp at this; omega
   subst this; exact⟨t,by simp only[loopN,e],by simp only[loopN,f],by omega⟩
  | cons a r ih=>
   intro i t n d p hn v; obtain⟨n,rfl⟩: ∃k,n=k+1:=⟨n - 1,by simp at hn; omega⟩
   have j:l[i]? =some a:=by
    have:=congrArg (fun l=>l[0]?) d
    simpa [z43]using this
   have g:l.drop (i+1)=r:=by
    have:=congrArg (List.drop 1) d; simpa [RJ]using this
   have s:=cB j; have A:dl w (a::r)=1+w a+dl w r:=rfl; obtain⟨c,h1,m,z⟩:=u i a t j (by omega)
   obtain⟨q,x,y,C⟩:=ih (i+1) c n g (by omega) (by simp at hn; omega) (by omega)
   exact⟨q,by simp only[loopN,h1,x],by simp only[loopN,m,y],by omega⟩
 exact h l 0 b n rfl (z79 _) hn o
theorem Ot: ∀(n:Nat),n≤1099511627776→ ∀(a:aA) (b:List Int),cV a+21<n→b.length+40*cV a≤400000000000→Mp (hI n b a.f0 a.f1 a.f2 a.f3) (fO n b a.f0 a.f1 a.f2 a.f3) b (40*cV a)
 | 0,_,a,b,h,_=>by omega
 | n+1,hn,a,b,h,w=>by
  have f:=Ot n (by omega)
  have C:=FE a; have z:=cK cV a.f3; rw[sE,wM]; unfold kU jN; refine(oR n b a.f0 (by omega) (by omega)).bind (k:=8+(8+a.f2.length+(8+40*dl cV a.f3))) (fun r1 h1=> ?_) (by omega)
  refine(oR n r1 a.f1 (by omega) (by omega)).bind (k:=8+a.f2.length+(8+40*dl cV a.f3)) (fun r2 s=> ?_) (by omega)
  refine(Gz n r2 a.f2 (by omega) (by omega)).bind (k:=8+40*dl cV a.f3) (fun m u=> ?_) (by omega)
  refine(oR n m (a.f3.length:Int) (by omega) (by omega)).bind (k:=40*dl cV a.f3) (fun o v=> ?_) (by omega)
  obtain⟨q,g,j,l⟩:=By (b1:=fQ n (hI n) a.f3) (b2:=gK n (fO n) a.f3) a.f3 cV 400000000000 (fun i x t c B=>by
   have y:=cB c; have A:=gI cV (z25 c); obtain⟨p,d,e,r⟩:=f x t (by omega) (by omega)
   exact⟨p,by simp only[fQ,cX c,z16,bW,c,z8,d,aN (show i<4611686018427387904 by omega)],by simp only[gK,cX c,z16,bW,c,z8,e,aN (show i<4611686018427387904 by omega)],by omega⟩) (fun t=>by simp only[fQ,aO,z12]) (fun t=>by simp only[gK,aO,z12]) (n:=n) (by omega) o (by omega)
  exact⟨q,by rw[g]; rfl,by rw[j]; rfl,l⟩
theorem GK(n:Nat)(hn:n≤1099511627776)(fs:List aF)(ps:List aA)(h:dl cV ps+400<n):mE n fs ps=some (ps.all (yO 400)):=by
 have d:=cK cV ps; unfold mE; rw[Gm ps (yO 400) (fun i a b=>by
  have c:=cB b; have e:=gI cV (z25 b); simp only[lM,cX b,z16,bW,b,z8,vV n hn a 400 (by omega),aN (show i<4611686018427387904 by omega)]
  cases yO 400 a<;>rfl) (by simp only[lM,aO,z12]) (by omega)]
 cases ps.all (yO 400)<;>rfl
theorem NP(n:Nat)(hn:n≤1099511627776)(fs:List aF)(ps:List aA)(h:dl cV ps+400<n):mB n fs ps=some (ps.all (yO 400)):=by
 have d:=cK cV ps; unfold mB; rw[Gm ps (yO 400) (fun i a b=>by
  have c:=cB b; have e:=gI cV (z25 b); simp only[lJ,cX b,z16,bW,b,z8,vU n hn a 400 (by omega),aN (show i<4611686018427387904 by omega)]
  cases yO 400 a<;>rfl) (by simp only[lJ,aO,z12]) (by omega)]
 cases ps.all (yO 400)<;>rfl
theorem VB(n:Nat)(hn:n≤1099511627776)(f:aF)(b:List Int)(h:dl jX f.f3+21<n)(o:b.length+40*dl jX f.f3≤400000000000): ∃q,loopN (dP n f) n (b,(0:Int))=some (q,(f.f3.length:Int),false)∧loopN (iU n f) n (b,(0:Int))=some (q,(f.f3.length:Int),false)∧q.length≤b.length+40*dl jX f.f3:=by
 have r:=cK jX f.f3; refine By f.f3 jX 400000000000 (fun i x t a u=> ?_) (fun t=>by simp only[dP,aO,z12]) (fun t=>by simp only[iU,aO,z12]) (n:=n) (by omega) b (by omega)
 have p:=cB a; have s:=gI jX (z25 a); have v:=Bj x; obtain⟨j,a1,c,l1⟩:=oR n t x.f0 (by omega) (by omega)
 obtain⟨k,a2,d,l2⟩:=oR n j x.f1 (by omega) (by omega)
 obtain⟨l,a3,e,w⟩:=Gz n k x.f2 (by omega) (by omega)
 obtain⟨m,a4,g,y⟩:=oR n l x.f3 (by omega) (by omega)
 exact⟨m,by simp only[dP,cX a,z16,bW,a,z8,a1,a2,a3,a4,aN (show i<4611686018427387904 by omega)],by simp only[iU,cX a,z16,bW,a,z8,c,d,e,g,aN (show i<4611686018427387904 by omega)],by omega⟩
theorem Mb(n:Nat)(hn:n≤1099511627776)(fs:List aF)(ps:List aA)(h:dl wFn fs+400<n)(b:dl cV ps+400<n)(T:40*dl wFn fs+40*dl cV ps≤300000000000):Mp (cL n fs ps) (iH n fs ps) [] (16+(40*dl wFn fs+40*dl cV ps)):=by
 have R:=cK wFn fs; have u:=cK cV ps; have O:([]:List Int).length=0:=rfl; unfold cL iH; rw[sM n hn fs ps (by omega) b,FO n hn fs ps (by omega) b,GK n hn fs ps b,NP n hn fs ps b]
 have o: ∀c:Bool,((some c:Option Bool).bind fun x=>bif !x then some true else(some (ps.all (yO 400))).bind fun y=>some (!y))=some (!(c&&ps.all (yO 400))):=fun c=>by cases c<;>rfl
 rw[o,z8,z8]; cases wS fs ps&&ps.all (yO 400)with
 | false=>exact⟨[],rfl,rfl,z79 _⟩
 | true=>
  simp only[z38,z12]; refine(oR n [] (fs.length:Int) (by omega) (by omega)).bind (k:=8+(40*dl wFn fs+40*dl cV ps)) (fun r1 h1=> ?_) (by omega)
  obtain⟨q,E,F,G⟩:=By (b1:=eK n fs) (b2:=iV n fs) fs wFn 400000000000 (fun i x t a A=>by
   have s:=cB a; have w:=gI wFn (z25 a); have U:=HU x; obtain⟨J,a1,d,l1⟩:=Gz n t x.f0 (by omega) (by omega)
   obtain⟨K,a2,e,l2⟩:=oR n J x.f1 (by omega) (by omega)
   obtain⟨L,a3,f,V⟩:=oR n K x.f2 (by omega) (by omega)
   obtain⟨M,a4,g,W⟩:=oR n L (x.f3.length:Int) (by omega) (by omega)
   obtain⟨N,a5,j,X⟩:=VB n hn x M (by omega) (by omega)
   exact⟨N,by simp only[eK,cX a,z16,bW,a,z8,a1,a2,a3,a4,a5,aN (show i<4611686018427387904 by omega)],by simp only[iV,cX a,z16,bW,a,z8,d,e,f,g,j,aN (show i<4611686018427387904 by omega)],by omega⟩) (fun t=>by simp only[eK,aO,z12]) (fun t=>by simp only[iV,aO,z12]) (n:=n) (by omega) r1 (by omega)
  rw[E,F]; simp only[z8]; have z:Mp (some q) (some q) r1 (40*dl wFn fs):=⟨q,rfl,rfl,G⟩; refine Mp.bind (f1:=fun q=>(bK n q (ps.length:Int)).bind fun c=>(loopN (dO n ps) n (c,(0:Int))).bind fun(v,_,_)=>some v) (f2:=fun q=>(bP n q (ps.length:Int)).bind fun c=>(loopN (gF n ps) n (c,(0:Int))).bind fun(v,_,_)=>some v) z (k:=8+40*dl cV ps) (fun r S=> ?_) (by omega)
  refine(oR n r (ps.length:Int) (by omega) (by omega)).bind (k:=40*dl cV ps) (fun H Q=> ?_) (by omega)
  obtain⟨p,B,C,D⟩:=By (b1:=dO n ps) (b2:=gF n ps) ps cV 400000000000 (fun i x t a A=>by
   have s:=cB a; have w:=gI cV (z25 a); obtain⟨I,l,m,P⟩:=Ot n hn x t (by omega) (by omega)
   exact⟨I,by simp only[dO,cX a,z16,bW,a,z8,l,aN (show i<4611686018427387904 by omega)],by simp only[gF,cX a,z16,bW,a,z8,m,aN (show i<4611686018427387904 by omega)],by omega⟩) (fun t=>by simp only[dO,aO,z12]) (fun t=>by simp only[gF,aO,z12]) (n:=n) (by omega) H (by omega)
  exact⟨p,by rw[B]; rfl,by rw[C]; rfl,D⟩
theorem Bg(a b:Nat)(c:a<2 ^ 62)(d:b<2 ^ 62):bits .and .i64 (a:Int) (b:Int)=((a&&& b:Nat):Int):=by
 have h:a&&& b≤a:=Nat.and_le_left; have e:bits .and .i64 (a:Int) (b:Int)=IntKind.wrap .i64 (((BitVec.ofInt 64 (a:Int)&&& BitVec.ofInt 64 (b:Int)).toNat:Nat):Int):=rfl; rw[e,BitVec.toNat_and,BitVec.ofInt_natCast,BitVec.ofInt_natCast,BitVec.toNat_ofNat,BitVec.toNat_ofNat,z98 (by omega),z98 (by omega)]
 exact wrap_i64 (by omega) (by omega)
theorem yM(a b:Nat)(c:a<2 ^ 62)(d:b<2 ^ 62):bits .or .i64 (a:Int) (b:Int)=((a||| b:Nat):Int):=by
 have h:a||| b<2 ^ 62:=Nat.or_lt_two_pow c d; have e:bits .or .i64 (a:Int) (b:Int)=IntKind.wrap .i64 (((BitVec.ofInt 64 (a:Int)||| BitVec.ofInt 64 (b:Int)).toNat:Nat):Int):=rfl; rw[e,BitVec.toNat_or,BitVec.ofInt_natCast,BitVec.ofInt_natCast,BitVec.toNat_ofNat,BitVec.toNat_ofNat,z98 (by omega),z98 (by omega)]
 exact wrap_i64 (by omega) (by omega)
theorem Ta(a:Nat)(b:a<2 ^ 62):bits .and .i64 (a:Int) 127=((a % 128:Nat):Int):=by
 have:=Bg a 127 b (by omega)
 have e:a&&& 127=a % 2 ^ 7:=z142 a 7; rw[e]at this; exact this
theorem and1(a:Nat)(b:a<2 ^ 62):bits .and .i64 (a:Int) 1=((a % 2:Nat):Int):=by
 have:=Bg a 1 b (by omega)
 have e:a&&& 1=a % 2 ^ 1:=z142 a 1; rw[e]at this; exact this
theorem WG(a m k:Nat)(b:a<2 ^ k)(h:a+m*2 ^ k<2 ^ 62):bits .or .i64 (a:Int) ((m*2 ^ k:Nat):Int)=((a+m*2 ^ k:Nat):Int):=by
 rw[yM a _ (by omega) (by omega)]
 have:=Nat.shiftLeft_add_eq_or_of_lt b m; rw[Nat.shiftLeft_eq]at this; rw[Nat.or_comm, ←this,z183]
theorem or128(m:Nat)(h:m<128):bits .or .i64 128 (m:Int)=((128+m:Nat):Int):=by
 have:=WG m 1 7 (by omega) (by omega)
 rw[show(1*2 ^ 7:Nat)=128 from rfl]at this; rw[show((m+128:Nat):Int)=((128+m:Nat):Int)by omega]at this
 rw[←this]; have a:=yM 128 m (by omega) (by omega)
 have b:=yM m 128 (by omega) (by omega)
 rw[Nat.or_comm]at a; exact a.trans b.symm
theorem Sy(n:Nat)(h:n<256):IntKind.wrap .u8 (n:Int)=n:=by
 have e:IntKind.wrap .u8 (n:Int)=(n:Int) % 256:=rfl; rw[e]; omega
def Cx:Nat→Nat→List Int
 | 0,x=> [(x:Int)]
 | k+1,x=>if x<128 then [(x:Int)]else((128+x % 128:Nat):Int)::Cx k (x / 128)
theorem VL(x:Nat):Int.fdiv (x:Int) (2 ^ 7)=((x / 128:Nat):Int):=by
 have e:(2:Int) ^ 7=128:=by decide
 rw[e,z118 _ (by omega)]; omega
theorem Ii: ∀(k x:Nat) (b:List Int) (n m:Nat),x<128 ^ (k+1)→x<2 ^ 62→k<m→b.length+k+1<1099511627776→((loopN (bX n) m (b,(x:Int))).bind fun q=>dG 1 q.1 [IntKind.wrap .u8 q.2.1])=some (b++Cx k x)
 | k,x,b,n,m,h1,d,j,i=>by
  obtain⟨m,rfl⟩: ∃q,m=q+1:=⟨m - 1,by omega⟩
  by_cases h:128≤x
  ·cases k with
   | zero=>simp at h1; omega
   | succ k=>
    have a:=Gw b (IntKind.wrap .u8 (bits .or .i64 (128:Int) (bits .and .i64 (x:Int) (127:Int)))) (by omega)
    have c:IntKind.wrap .u8 (bits .or .i64 (128:Int) (bits .and .i64 (x:Int) (127:Int)))=((128+x % 128:Nat):Int):=by
     rw[Ta x d,or128 _ (RG _ (by omega)),Sy _ (by have:=RG x (show 0<128 by omega); omega)]
    have f:x / 128<128 ^ (k+1):=by
     rw[WQ]at h1; exact z144 (by rw[RH]; exact h1)
    have g:=Ii k (x / 128) (b++[((128+x % 128:Nat):Int)]) n m f (by omega) (by omega) (by simp only[z19,z21]; omega)
    rw[c]at a; have e:Cx (k+1) x=((128+x % 128:Nat):Int)::Cx k (x / 128):=z15 (by omega)
    rw[e]; simp only[loopN,bX,z11 (show(127:Int)<(x:Int)by omega),z16,c,a,z8,VL]
    rw[g,z56]; rfl
  ·have e:Cx k x=[(x:Int)]:=by
    cases k with
    | zero=>rfl
    | succ k=>exact z20 (by omega)
   rw[e]; simp only[loopN,bX,z9 (show ¬ (127:Int)<(x:Int)by omega),z12,z8,Sy x (by omega)]
   exact Gw b _ (by omega)
def uA(v:Int):List Int:=Cx 6 (zig (kJ v)).toNat
theorem eC(n:Nat)(b:List Int)(v:Int)(hn:20<n)(d:b.length<549755813888):bK n b v=some (b++uA v):=by
 have a:=Dm v; have hz:=OC a.1 a.2; obtain⟨x,c⟩: ∃x:Nat,zig (kJ v)=x:=⟨(zig (kJ v)).toNat,by omega⟩
 rw[MO]; unfold Ja uA; rw[c]at hz ⊢; rw[z34]; exact Ii 6 x b n n (by omega) (by omega) (by omega) (by omega)
theorem MY: ∀(k x:Nat),0<(Cx k x).length∧(Cx k x).length≤k+1
 | 0,_=>⟨Nat.one_pos,z36 _⟩
 | k+1,x=>by
  unfold Cx; by_cases h:x<128
  ·rw[z20 h]; simp only[z21]; omega
  ·rw[z15 h]
   have:=MY k (x / 128); simp only[z48]; omega
theorem dY(v:Int):0<(uA v).length∧(uA v).length≤8:=by
 have:=MY 6 (zig (kJ v)).toNat; unfold uA; omega
def BR(s:List UInt8):List Int:=uA (s.length:Int)++s.map fun c=>((c.toNat:Nat):Int)
theorem qV(s:List UInt8):s.length<(BR s).length∧(BR s).length≤s.length+8:=by
 have:=dY (s.length:Int); simp only[BR,z19,z67]; omega
theorem Gy(n:Nat)(b:List Int)(s:List UInt8)(hn:20<n)(d:b.length+s.length+8<549755813888):eW n b s=some (b++BR s):=by
 unfold eW; have e:=dY (s.length:Int); have a:dG 1 (b++uA (s.length:Int)) (s.map fun c=>((c.toNat:Nat):Int))=some (b++uA (s.length:Int)++s.map fun c=>((c.toNat:Nat):Int)):=pZ (by simp only[z19,z67]; omega) (by simp only[z19,z67,maxLen]; omega)
 rw[eC n b _ hn (by omega),z8,a,z8,z56]; rfl
theorem CA{α:Type}{b1:List Int×Int→Option ((List Int×Int)⊕(List Int×Int×Bool))}(l:List α)(w:α→Nat)(e:α→List Int)(B:Nat)(q: ∀(i:Nat) a t,l[i]? =some a→t.length+40*(1+w a)≤B→b1 (t,(i:Int))=some (.inl (t++e a,((i+1:Nat):Int))))
  (o: ∀a,(e a).length≤40*(1+w a))(d: ∀t,b1 (t,(l.length:Int))=some (.inr (t,(l.length:Int),false))){n:Nat}(hn:l.length<n)(b:List Int)(j:b.length+40*dl w l≤B):
  loopN b1 n (b,(0:Int))=some (b++l.flatMap e,(l.length:Int),false):=by
 have g: ∀(r:List α) (i:Nat) (t:List Int) (n:Nat),l.drop i=r→i≤l.length→r.length<n→t.length+40*dl w r≤B→loopN b1 n (t,(i:Int))=some (t++r.flatMap e,(l.length:Int),false):=by
  intro r; induction r with
  | nil=>
   intro i t n c m hn s; obtain⟨n,rfl⟩: ∃k,n=k+1:=⟨n - 1,by simp at hn; omega⟩
   have:i=l.length:=by
    have:=congrArg List.length c; simp at this; omega
   subst this; simp only[loopN,d,List.flatMap_nil,z78]
  | cons a r ih=>
   intro i t n c m hn s; obtain⟨n,rfl⟩: ∃k,n=k+1:=⟨n - 1,by simp at hn; omega⟩
   have h:l[i]? =some a:=by
    have:=congrArg (fun l=>l[0]?) c
    simpa [z43]using this
   have f:l.drop (i+1)=r:=by
    have:=congrArg (List.drop 1) c; simpa [RJ]using this
   have p:=cB h; have v:dl w (a::r)=1+w a+dl w r:=rfl; have h1:=q i a t h (by omega)
   have u:=o a; have:=ih (i+1) (t++e a) n f (by omega) (by simp at hn; omega) (by rw[z19]; omega)
   simp only[loopN,h1,this,z164,z56]
 exact g l 0 b n rfl (z79 _) hn j
theorem Ku{α:Type}(w:α→Nat)(e:α→List Int)(h: ∀a,(e a).length≤40*(1+w a)): ∀l:List α,(l.flatMap e).length+40≤40*dl w l
 | []=>by simp [dl]
 | a::r=>by
  have:=h a; have:=Ku w e h r; simp only[z164,z19,dl]; omega
def Am(x:aG):List Int:=uA x.f0++(uA x.f1++(BR x.f2++uA x.f3))
theorem GW(x:aG):(Am x).length≤40*(1+jX x):=by
 have:=Bj x; have:=dY x.f0; have:=dY x.f1; have:=dY x.f3; have:=qV x.f2; simp only[Am,z19]; omega
def Jg(f:aF):List Int:=BR f.f0++(uA f.f1++(uA f.f2++(uA (f.f3.length:Int)++f.f3.flatMap Am)))
theorem JO(x:aF):(Jg x).length≤40*(1+wFn x):=by
 have:=HU x; have:=dY x.f1; have:=dY x.f2; have:=dY (x.f3.length:Int); have:=qV x.f0; have:=Ku jX Am GW x.f3; simp only[Jg,z19]; omega
mutual
def qY:aA→List Int
 | .mk a b s l=>uA a++(uA b++(BR s++(uA (l.length:Int)++tD l)))
def tD:List aA→List Int
 | []=> []
 | x::r=>qY x++tD r
end
theorem EC: ∀l,tD l=l.flatMap qY
 | []=>by simp [tD]
 | x::r=>by simp only[tD,EC r,z164]
theorem MX(a:aA):qY a=uA a.f0++(uA a.f1++(BR a.f2++(uA (a.f3.length:Int)++a.f3.flatMap qY))):=by
 cases a; simp only[qY,EC]; rfl
mutual
theorem wH: ∀a:aA,(qY a).length≤40*(1+cV a)
 | .mk a b s l=>by
  have:=ED l; have:=dY a; have:=dY b; have:=dY (l.length:Int); have:=qV s; simp only[qY,cV,z19]; omega
theorem ED: ∀l:List aA,(tD l).length+40≤40*DQ l
 | []=>by simp [tD,DQ]
 | x::r=>by
  have:=wH x; have:=ED r; simp only[tD,DQ,z19]; omega
end
def DI(fs:List aF)(ps:List aA):List Int:=uA (fs.length:Int)++(fs.flatMap Jg++(uA (ps.length:Int)++ps.flatMap qY))
theorem Oo: ∀(n:Nat),n≤1099511627776→ ∀(a:aA) (b:List Int),cV a+21<n→b.length+40*(1+cV a)≤400000000000→hI n b a.f0 a.f1 a.f2 a.f3=some (b++qY a)
 | 0,_,a,b,h,_=>by omega
 | n+1,hn,a,b,h,e=>by
  have d:=Oo n (by omega)
  have l:=FE a; have g:=cK cV a.f3; have m:=dY a.f0; have l1:=dY a.f1; have o:=dY (a.f3.length:Int); have l2:=qV a.f2; rw[sE,MX]; unfold kU; rw[eC n b a.f0 (by omega) (by omega),z8,eC n _ a.f1 (by omega) (by simp only[z19]; omega),z8,Gy n _ a.f2 (by omega) (by simp only[z19]; omega),z8,eC n _ (a.f3.length:Int) (by omega) (by simp only[z19]; omega),z8]
  rw[CA a.f3 cV qY 400000000000 (fun i x t c k=>by
   have f:=cB c; have j:=gI cV (z25 c); simp only[fQ,cX c,z16,bW,c,z8,d x t (by omega) (by omega),aN (show i<4611686018427387904 by omega)]) wH (fun t=>by simp only[fQ,aO,z12]) (by omega) _ (by simp only[z19]; omega)]
  simp only[z8,z56]
theorem VA(n:Nat)(hn:n≤1099511627776)(f:aF)(b:List Int)(h:dl jX f.f3+21<n)(c:b.length+40*dl jX f.f3≤400000000000):loopN (dP n f) n (b,(0:Int))=some (b++f.f3.flatMap Am,(f.f3.length:Int),false):=by
 have e:=cK jX f.f3; refine CA f.f3 jX Am 400000000000 (fun i x t a j=> ?_) GW (fun t=>by simp only[dP,aO,z12]) (by omega) b c
 have d:=cB a; have g:=gI jX (z25 a); have k:=Bj x; have l:=dY x.f0; have l1:=dY x.f1; have l2:=qV x.f2; simp only[dP,cX a,z16,bW,a,z8]; rw[eC n t x.f0 (by omega) (by omega),z8,eC n _ x.f1 (by omega) (by simp only[z19]; omega),z8,Gy n _ x.f2 (by omega) (by simp only[z19]; omega),z8,eC n _ x.f3 (by omega) (by simp only[z19]; omega),z8]
 simp only[aN (show i<4611686018427387904 by omega),Am,z56]
theorem CH(n:Nat)(hn:n≤1099511627776)(fs:List aF)(ps:List aA)(h:dl wFn fs+400<n)(b:dl cV ps+400<n)(m:40*dl wFn fs+40*dl cV ps≤300000000000):cL n fs ps=some (bif wS fs ps&&ps.all (yO 400)then DI fs ps else []):=by
 have l:=cK wFn fs; have f:=cK cV ps; unfold cL; rw[sM n hn fs ps (by omega) b,GK n hn fs ps b]
 have d: ∀c:Bool,((some c:Option Bool).bind fun x=>bif !x then some true else(some (ps.all (yO 400))).bind fun y=>some (!y))=some (!(c&&ps.all (yO 400))):=fun c=>by cases c<;>rfl
 rw[d,z8]; cases wS fs ps&&ps.all (yO 400)with
 | false=>rfl
 | true=>
  have s:=dY (fs.length:Int); have l1:=dY (ps.length:Int); have k:([]:List Int).length=0:=rfl; have u:=Ku wFn Jg JO fs; have v:=Ku cV qY wH ps; simp only[z38,z12,z16]; rw[eC n [] _ (by omega) (by omega),z8,z83]
  rw[CA fs wFn Jg 400000000000 (fun i x t a j=>by
   have e:=cB a; have g:=gI wFn (z25 a); have o:=HU x; have k0:=qV x.f0; have p:=dY x.f1; have q:=dY x.f2; have r:=dY (x.f3.length:Int); simp only[eK,cX a,z16,bW,a,z8]; rw[Gy n t x.f0 (by omega) (by omega),z8,eC n _ x.f1 (by omega) (by simp only[z19]; omega),z8,eC n _ x.f2 (by omega) (by simp only[z19]; omega),z8,eC n _ (x.f3.length:Int) (by omega) (by simp only[z19]; omega),z8,VA n hn x _ (by omega) (by simp only[z19]; omega),z8]
   simp only[aN (show i<4611686018427387904 by omega),Jg,z56]) JO (fun t=>by simp only[eK,aO,z12]) (by omega) _ (by omega)]
  simp only[z8]; rw[eC n _ (ps.length:Int) (by omega) (by simp only[z19]; omega),z8]
  rw[CA ps cV qY 400000000000 (fun i x t a j=>by
   have e:=cB a; have g:=gI cV (z25 a); simp only[dO,cX a,z16,bW,a,z8,Oo n hn x t (by omega) (by omega),aN (show i<4611686018427387904 by omega)]) wH (fun t=>by simp only[dO,aO,z12]) (by omega) _ (by simp only[z19]; omega)]
  simp only[z8,DI,z56]
theorem KO(n:Nat)(h:n<2 ^ 62):IntKind.wrap .u64 (n:Int)=n:=by
 have e:IntKind.wrap .u64 (n:Int)=(n:Int) % 18446744073709551616:=rfl; rw[e]; omega
theorem Ok{i:Nat}(a:i<6):2 ^ (7*i)≤2 ^ 35:=Nat.pow_le_pow_right (by omega) (by omega)
theorem grp(a i e:Nat)(g:i<6)(j:e<256)(f:a<2 ^ (7*i)):bits .or .i64 (a:Int) (IntKind.wrap .i64 ((bits .and .i64 (IntKind.wrap .i64 (e:Int)) (127:Int))*2 ^ min (Int.toNat (IntKind.wrap .u64 (IntKind.wrap .i64 ((7:Int)*(i:Int))))) 64))=((a+(e % 128)*2 ^ (7*i):Nat):Int):=by
 have h:=Ok g; have h1:IntKind.wrap .i64 ((7:Int)*(i:Int))=((7*i:Nat):Int):=by
  rw[wrap_i64 (by omega) (by omega)]; omega
 have c:IntKind.wrap .i64 (e:Int)=(e:Int):=wrap_i64 (by omega) (by omega)
 have k:e % 128<128:=RG _ (by omega)
 have b:(e % 128)*2 ^ (7*i)≤128*2 ^ 35:=z180 (by omega) h
 rw[h1,KO _ (by omega),z34,Nat.min_eq_left (by omega),c,Ta e (by omega)]
 have d:((e % 128:Nat):Int)*2 ^ (7*i)=(((e % 128)*2 ^ (7*i):Nat):Int):=by
  rw[Int.natCast_mul,Int.natCast_pow]; rfl
 rw[d,wrap_i64 (by omega) (by omega)]
 exact WG a (e % 128) (7*i) f (by omega)
def gM(x:Nat):Int:=if x % 2=1 then -(((x+1) / 2:Nat):Int)else((x / 2:Nat):Int)
def okR(v:Int):Bool:=decide (-1000000000000≤v)&&decide (v≤1000000000000)
def Ll:Nat→Nat→Nat→List Int→Option (Nat×Nat)
 | 0,_,_,_=>none
 | _+1,_,_,[]=>none
 | k+1,i,a,e::r=>bif decide (128≤e)then(Ll k (i+1) (a+(e.toNat % 128)*2 ^ (7*i)) r).map fun p=>(p.1,p.2+1)
  else bif decide (e=0)&&decide (0<i)then none else some (a+(e.toNat % 128)*2 ^ (7*i),1)
def Lj(a:Nat):Option (Nat×Nat)→Int×Int×Bool
 | some (x,c)=>bif okR (gM x)then(gM x,((a+c:Nat):Int),true)else(0,0,false)
 | none=>(0,0,false)
theorem Lw(a:Nat)(o:Option (Nat×Nat)):Lj a (o.map fun p=>(p.1,p.2+1))=Lj (a+1) o:=by
 cases o with
 | none=>rfl
 | some p=>
  obtain⟨x,c⟩:=p; simp only[z37,Lj]; rw[show a+(c+1)=a+1+c by omega]
theorem odd_i{x:Nat}(h:x<2 ^ 50)(ho:x % 2=1):IntKind.wrap .i64 (Int.tdiv (IntKind.wrap .i64 (0 - (IntKind.wrap .i64 ((x:Int)+(1:Int))))) (2:Int))=gM x:=by
 rw[wrap_i64 (n:=(x:Int)+1) (by omega) (by omega),wrap_i64 (n:=0 - ((x:Int)+1)) (by omega) (by omega)]
 have e:Int.tdiv (0 - ((x:Int)+1)) 2=gM x:=by
  unfold gM; rw[z20 ho,show(0:Int) - ((x:Int)+1)= -(((x+1:Nat)):Int)by omega,Int.neg_tdiv,z149 (by omega)]
  omega
 rw[e]; refine wrap_i64 ?_ ?_<;>(unfold gM; rw[z20 ho]; omega)
theorem Xb{x:Nat}(h:x<2 ^ 50)(ho: ¬ x % 2=1):IntKind.wrap .i64 (Int.tdiv (x:Int) (2:Int))=gM x:=by
 have e:Int.tdiv (x:Int) 2=gM x:=by
  unfold gM; rw[z15 ho,z149 (by omega)]
  omega
 rw[e]; refine wrap_i64 ?_ ?_<;>(unfold gM; rw[z15 ho]; omega)
theorem tmod2(x:Nat):decide (Int.tmod (x:Int) 2=1)=decide (x % 2=1):=decide_eq_decide.2 (by rw[Int.tmod_eq_emod_of_nonneg (by omega)]; omega)
theorem Tc{a i e k:Nat}(f:k+1+i=6)(d:a<2 ^ (7*i)):a+(e % 128)*2 ^ (7*i)<2 ^ (7*(i+1))∧a+(e % 128)*2 ^ (7*i)<2 ^ 50:=by
 have h:=Ok (i:=i) (by omega)
 have c:2 ^ (7*(i+1))=128*2 ^ (7*i):=by rw[show 7*(i+1)=7*i+7 by omega,Nat.pow_add]; omega
 have g:e % 128<128:=RG _ (by omega)
 have b:(e % 128)*2 ^ (7*i)≤127*2 ^ (7*i):=z57 _ (by omega)
 omega
def finG:(Int×Int×Bool)⊕(Int×Int×Int×Bool)→Int×Int×Bool
 | .inl t=>t
 | .inr _=>(0,0,false)
theorem PM(n:Nat)(l:List Int)(A:l.length<1099511627776)(p: ∀x∈l,0≤x∧x<256): ∀(k i b a m:Nat),k+i=6→b<2 ^ (7*i)→a≤l.length→k<m→ ∃q,loopN (fR n l) m ((a:Int),(b:Int),(i:Int))=some q∧finG q=Lj a (Ll k i b (l.drop a))
 | 0,i,b,a,m,s,g,h,B=>by
  obtain⟨m,rfl⟩: ∃q,m=q+1:=⟨m - 1,by omega⟩
  refine⟨.inr ((a:Int),(b:Int),(i:Int),false), ?_,rfl⟩
  simp only[loopN,fR,z9 (show ¬ (i:Int)<6 by omega),z12,z8]
 | k+1,i,b,a,m,s,g,h,B=>by
  obtain⟨m,rfl⟩: ∃q,m=q+1:=⟨m - 1,by omega⟩
  by_cases c:a<l.length
  ·have u:l[a]? =some l[a]:=z13 c
   have f:=p l[a] (WT c); have z:l.drop a=l[a]::l.drop (a+1):=z88 c; rw[z]; generalize l[a]=e at u f; obtain⟨e,rfl⟩: ∃w:Nat,e=w:=⟨e.toNat,by omega⟩
   have r:=grp b i e (by omega) (by omega) g
   have t:IntKind.wrap .i64 (e:Int)=(e:Int):=wrap_i64 (by omega) (by omega)
   rw[t]at r; have y:IntKind.wrap .i64 ((7:Int)*(i:Int))=((7*i:Nat):Int):=by
    rw[wrap_i64 (by omega) (by omega)]; omega
   obtain⟨D,v⟩:=Tc (e:=e) s g; have C:=PM n l A p k (i+1) (b+(e % 128)*2 ^ (7*i)) (a+1) m (by omega) D c (by omega)
   have j:decide ((0:Int)≤IntKind.wrap .u64 (IntKind.wrap .i64 ((7:Int)*(i:Int))))=true:=by
    rw[y,KO _ (by omega)]; exact z11 (by omega)
   simp only[loopN,fR,z11 (show(i:Int)<6 by omega),z11 (show(a:Int)<(l.length:Int)by omega),z16,z8,bW,u,j,ck,r,t,Ll,z34]
   generalize E:b+(e % 128)*2 ^ (7*i)=X at*; by_cases d:(128:Int)≤(e:Int)
   ·rw[z11 d]
    simp only[z16,aN (show a<4611686018427387904 by omega),aN (show i<4611686018427387904 by omega)]
    rw[Lw]; exact C
   ·rw[z9 d,tmod2,show decide ((0:Int)<(i:Int))=decide (0<i)from decide_eq_decide.2 (by omega)]
    simp only[z12,iP,z8,aN (show a<4611686018427387904 by omega)]
    by_cases ho:X % 2=1
    ·rw[z11 ho,odd_i v ho]
     have o:(decide (-1000000000000≤gM X)&&decide (gM X≤1000000000000))=okR (gM X):=rfl; rw[o]; simp only[z16]; cases decide ((e:Int)=0)<;>cases decide (0<i)<;>simp only[z16,z12,z84,z58,z31,z97,z8,Lj]<;>cases okR (gM X)<;>exact⟨_,rfl,rfl⟩
    ·rw[z9 ho,Xb v ho]
     have o:(decide (-1000000000000≤gM X)&&decide (gM X≤1000000000000))=okR (gM X):=rfl; rw[o]; simp only[z12]; cases decide ((e:Int)=0)<;>cases decide (0<i)<;>simp only[z16,z12,z84,z58,z31,z97,z8,Lj]<;>cases okR (gM X)<;>exact⟨_,rfl,rfl⟩
  ·have:a=l.length:=by omega
   subst this; refine⟨.inr ((l.length:Int),(b:Int),(i:Int),false), ?_, ?_⟩
   ·simp only[loopN,fR,z11 (show(i:Int)<6 by omega),aO,z16,z12,z8]
   ·rw[Vh]; rfl
theorem WL(x:Nat):Int.fdiv (x:Int) (2 ^ 1)=((x / 2:Nat):Int):=by
 have e:(2:Int) ^ 1=2:=by decide
 rw[e,z118 _ (by omega)]; omega
theorem odd_s{x:Nat}(h:x<2 ^ 50)(ho:x % 2=1):IntKind.wrap .i64 (IntKind.wrap .i64 (0 - (Int.fdiv (x:Int) (2 ^ 1))) - (1:Int))=gM x:=by
 rw[WL,wrap_i64 (n:=0 - ((x / 2:Nat):Int)) (by omega) (by omega),wrap_i64 (by omega) (by omega)]
 unfold gM; rw[z20 ho]; omega
theorem Xa{x:Nat}(ho: ¬ x % 2=1):Int.fdiv (x:Int) (2 ^ 1)=gM x:=by
 rw[WL]; unfold gM; rw[z15 ho]
def finH:(Int×Int×Bool)⊕(Int×Int×Bool)→Int×Int×Bool
 | .inl t=>t
 | .inr _=>(0,0,false)
theorem Oa(n:Nat)(l:List Int)(A:l.length<1099511627776)(r: ∀x∈l,0≤x∧x<256)(a0:Nat): ∀(k i a m:Nat),k+i=6→a<2 ^ (7*i)→a0+i≤l.length→k<m→ ∃q,loopN (fP n l (a0:Int)) m ((a:Int),(i:Int))=some q∧finH q=Lj (a0+i) (Ll k i a (l.drop (a0+i)))
 | 0,i,a,m,t,g,j,B=>by
  obtain⟨m,rfl⟩: ∃q,m=q+1:=⟨m - 1,by omega⟩
  refine⟨.inr ((a:Int),(i:Int),false), ?_,rfl⟩
  simp only[loopN,fP,z9 (show ¬ (i:Int)<6 by omega),z12,z8]
 | k+1,i,a,m,t,g,j,B=>by
  obtain⟨m,rfl⟩: ∃q,m=q+1:=⟨m - 1,by omega⟩
  have d:IntKind.wrap .i64 ((a0:Int)+(i:Int))=((a0+i:Nat):Int):=by
   rw[wrap_i64 (by omega) (by omega)]; omega
  by_cases c:a0+i<l.length
  ·have v:l[a0+i]? =some l[a0+i]:=z13 c
   have f:=r l[a0+i] (WT c); have z:l.drop (a0+i)=l[a0+i]::l.drop (a0+i+1):=z88 c; rw[z]; generalize l[a0+i]=e at v f; obtain⟨e,rfl⟩: ∃w:Nat,e=w:=⟨e.toNat,by omega⟩
   have s:=grp a i e (by omega) (by omega) g
   have u:IntKind.wrap .i64 (e:Int)=(e:Int):=wrap_i64 (by omega) (by omega)
   rw[u]at s; have y:IntKind.wrap .i64 ((7:Int)*(i:Int))=((7*i:Nat):Int):=by
    rw[wrap_i64 (by omega) (by omega)]; omega
   obtain⟨D,E⟩:=Tc (e:=e) t g; have C:=Oa n l A r a0 k (i+1) (a+(e % 128)*2 ^ (7*i)) m (by omega) D (by omega) (by omega)
   have o:decide ((0:Int)≤IntKind.wrap .u64 (IntKind.wrap .i64 ((7:Int)*(i:Int))))=true:=by
    rw[y,KO _ (by omega)]; exact z11 (by omega)
   simp only[loopN,fP,z11 (show(i:Int)<6 by omega),z11 (show(0:Int)≤(a0:Int)by omega),z11 (show(a0:Int)<(l.length:Int)by omega),d,z11 (show((a0+i:Nat):Int)<(l.length:Int)by omega),z16,z8,bW,v,o,ck,s,u,Ll,z34]
   generalize F:a+(e % 128)*2 ^ (7*i)=X at*; by_cases b:(128:Int)≤(e:Int)
   ·rw[z11 b,z11 (show(127:Int)<(e:Int)by omega)]
    simp only[z16,aN (show i<4611686018427387904 by omega)]
    rw[Lw]; exact C
   ·rw[z9 b,z9 (show ¬ (127:Int)<(e:Int)by omega),and1 X (by omega),show decide (((X % 2:Nat):Int)=1)=decide (X % 2=1)from decide_eq_decide.2 (by omega),show decide ((0:Int)<(i:Int))=decide (0<i)from decide_eq_decide.2 (by omega)]
    simp only[z12,mU,z8,aN (show a0+i<4611686018427387904 by omega)]
    by_cases ho:X % 2=1
    ·rw[z11 ho,odd_s E ho]
     have p:(decide (-1000000000000≤gM X)&&decide (gM X≤1000000000000))=okR (gM X):=rfl; rw[p]; simp only[z16]; cases decide ((e:Int)=0)<;>cases decide (0<i)<;>simp only[z16,z12,z84,z58,z31,z97,z8,Lj]<;>cases okR (gM X)<;>exact⟨_,rfl,rfl⟩
    ·rw[z9 ho,Xa ho]
     have p:(decide (-1000000000000≤gM X)&&decide (gM X≤1000000000000))=okR (gM X):=rfl; rw[p]; simp only[z12]; cases decide ((e:Int)=0)<;>cases decide (0<i)<;>simp only[z16,z12,z84,z58,z31,z97,z8,Lj]<;>cases okR (gM X)<;>exact⟨_,rfl,rfl⟩
  ·have h:a0+i=l.length:=by omega
   refine⟨.inr ((a:Int),(i:Int),false), ?_, ?_⟩
   ·simp only[loopN,fP,z11 (show(i:Int)<6 by omega),z11 (show(0:Int)≤(a0:Int)by omega),d,z9 (show ¬ ((a0+i:Nat):Int)<(l.length:Int)by omega),z16,z8]
    cases decide ((a0:Int)<(l.length:Int))<;>rfl
   ·rw[h,Vh]; rfl
def EM(l:List Int)(a:Nat):Int×Int×Bool:=Lj a (Ll 6 0 0 (l.drop a))
theorem kD(n:Nat)(l:List Int)(hn:10<n)(g:l.length<1099511627776)(e: ∀x∈l,0≤x∧x<256)(a:Nat)(c:a≤l.length):lB n l (a:Int)=some (EM l a):=by
 unfold lB EM; rw[iP,z8]; by_cases h:a<l.length
 ·have i:IntKind.wrap .i64 ((l.length:Int) - 1)=(l.length:Int) - 1:=wrap_i64 (by omega) (by omega)
  rw[i,z11 (show(0:Int)≤(a:Int)by omega),z11 (show(a:Int)≤(l.length:Int) - 1 by omega)]
  obtain⟨q,d,j⟩:=PM n l g e 6 0 0 a n rfl (by omega) c (by omega)
  have d:loopN (fR n l) n ((a:Int),(0:Int),(0:Int))=some q:=d; simp only[z86,z38,z12,d,z8]; rw[←j]; cases q<;>rfl
 ·have b:a=l.length:=by omega
  have f:(decide ((0:Int)≤(a:Int))&&decide ((a:Int)≤IntKind.wrap .i64 ((l.length:Int) - 1)))=false:=by
   rw[wrap_i64 (by omega) (by omega),z9 (show ¬ (a:Int)≤(l.length:Int) - 1 by omega),z58]
  rw[f,b,Vh]; rfl
theorem xO(n:Nat)(l:List Int)(hn:10<n)(f:l.length<1099511627776)(e: ∀x∈l,0≤x∧x<256)(a:Nat)(d:a≤l.length):lA n l (a:Int)=some (EM l a):=by
 unfold lA EM; obtain⟨q,b,c⟩:=Oa n l f e a 6 0 0 n rfl (by omega) (by omega) (by omega)
 have b:loopN (fP n l (a:Int)) n ((0:Int),(0:Int))=some q:=b; rw[b,z8]; rw[z77]at c; rw[←c]; cases q<;>rfl
theorem sX(k x:Nat)(h:x<128):Cx k x=[(x:Int)]:=by
 cases k with
 | zero=>rfl
 | succ k=>exact z20 h
theorem HO(k x:Nat)(h: ¬ x<128):Cx (k+1) x=((128+x % 128:Nat):Int)::Cx k (x / 128):=z15 h
theorem PU: ∀(k x:Nat),x<128 ^ (k+1)→Cx (k+1) x=Cx k x
 | 0,x,h=>by rw[sX _ x (by simpa using h),sX _ x (by simpa using h)]
 | k+1,x,h=>by
  by_cases a:x<128
  ·rw[sX _ x a,sX _ x a]
  ·rw[HO _ x a,HO _ x a,PU k (x / 128)]
   rw[WQ]at h; exact z144 (by rw[RH]; exact h)
theorem MP: ∀(k i a:Nat) (l:List Int) (x c:Nat),(∀e∈l,0≤e∧e<256)→Ll (k+1) i a l=some (x,c)→ ∃y,x=a+y*2 ^ (7*i)∧l.take c=Cx k y∧y<128 ^ (k+1)∧(0<i→y≠0)∧c≤l.length
 | k,i,a,[],x,c,d,h=>by cases h
 | k,i,a,e::r,x,c,d,h=>by
  have A:=d e z32; obtain⟨e,rfl⟩: ∃g:Nat,e=g:=⟨e.toNat,by omega⟩
  have t: ∀e∈r,0≤e∧e<256:=fun z hz=>d z (z28 _ hz)
  simp only[Ll,z34]at h; by_cases b:(128:Int)≤(e:Int)
  ·rw[z11 b,z16]at h
   cases k with
   | zero=>cases h
   | succ k=>
    cases hg:Ll (k+1) (i+1) (a+(e % 128)*2 ^ (7*i)) r with
    | none=>rw[hg]at h; cases h
    | some p=>
     obtain⟨x',f⟩:=p; rw[hg]at h; simp only[z37,z10,z41]at h; obtain⟨rfl,rfl⟩:=h; obtain⟨y,u,v,C,w,D⟩:=MP k (i+1) _ r x' f t hg; have B:=w (by omega)
     refine⟨e % 128+128*y, ?_, ?_, ?_,fun _=>by omega,by simp only[z48]; omega⟩
     ·rw[u,show 7*(i+1)=7*i+7 by omega,Nat.pow_add,z99,RI]
      congr 2
      rw[show(2:Nat) ^ 7=128 from rfl, ←Nat.mul_assoc,RH (y*_) 128,Nat.mul_assoc]
     ·rw[WZ,v,HO _ _ (by omega)]
      have j:(e % 128+128*y) / 128=y:=by omega
      have m:128+(e % 128+128*y) % 128=e:=by omega
      rw[j,m]
     ·rw[WQ,RH]
      have:e % 128<128:=RG _ (by omega)
      omega
  ·rw[z9 b,z12]at h
   cases hz:(decide ((e:Int)=0)&&decide (0<i))with
   | true=>rw[hz]at h; cases h
   | false=>
    rw[hz]at h; simp only[z12,z10,z41]at h; obtain⟨h1,o⟩:=h; subst o; have s:e % 128=e:=z98 (by omega)
    rw[s]at h1; refine⟨e,h1.symm, ?_, ?_,fun q h0=> ?_,by simp⟩
    ·rw[sX _ e (by omega)]; rfl
    ·exact z60 (show e<128 ^ 1 by omega) (Nat.pow_le_pow_right (by omega) (by omega))
    ·subst h0
     rw[z11 (show((0:Nat):Int)=0 from rfl),z11 q]at hz; cases hz
theorem Ph{x:Nat}(h:okR (gM x)=true):zig (kJ (gM x))=x:=by
 unfold okR at h; simp only[z7,z26]at h; have b:kJ (gM x)=gM x:=by
  unfold kJ; simp only[z15 (show ¬ (1000000000000:Int)<gM x by omega)]
  by_cases a:gM x > -1000000000000
  ·rw[z20 a]
  ·rw[z15 a]; omega
 rw[b]; unfold zig; unfold gM at h ⊢; by_cases ho:x % 2=1
 ·rw[z20 ho]at h ⊢
  rw[z11 (by omega),z16,wrap_i64 (n:=(-2)*_) (by omega) (by omega),wrap_i64 (by omega) (by omega)]; omega
 ·rw[z15 ho]at h ⊢
  rw[z9 (by omega),z12,wrap_i64 (by omega) (by omega)]; omega
theorem SZ{l:List Int}{x c:Nat}(a: ∀e∈l,0≤e∧e<256)(h:Ll 6 0 0 l=some (x,c))(b:okR (gM x)=true):l.take c=uA (gM x)∧c≤l.length:=by
 obtain⟨y,d,f,g,_,i⟩:=MP 5 0 0 l x c a h; have:x=y:=by rw[d]; simp
 subst this; refine⟨?_,i⟩
 unfold uA; rw[Ph b,z34,PU 5 x g,f]
theorem Rz(n:Nat)(l:List Int)(hn:10<n)(e:l.length<1099511627776)(d: ∀x∈l,0≤x∧x<256)(a:Nat)(c:a≤l.length)(b:Bool):aU n l (a:Int) b=bH n l (a:Int) b:=by
 unfold aU bH; rw[kD n l hn e d a c,xO n l hn e d a c]
theorem Pm(n:Nat)(l:List Int)(hn:10<n)(e:l.length<1099511627776)(d: ∀x∈l,0≤x∧x<256)(a:Nat)(c:a≤l.length)(b:Bool):bC n l (a:Int) b=fZ n l (a:Int) b:=by
 unfold bC fZ kC oT; rw[kD n l hn e d a c,xO n l hn e d a c]
def rdN(l:List Int)(a:Nat)(b:Bool):Int×List Int×Int×Bool:=bif b|| !(EM l a).2.2 then(0,l,(a:Int),true)else((EM l a).1,l,(EM l a).2.1,b)
theorem OK(n:Nat)(l:List Int)(hn:10<n)(e:l.length<1099511627776)(d: ∀x∈l,0≤x∧x<256)(a:Nat)(c:a≤l.length)(b:Bool):aU n l (a:Int) b=some (rdN l a b):=by
 unfold aU rdN; rw[kD n l hn e d a c]; simp only[z8]; cases b<;>cases (EM l a).2.2<;>rfl
theorem JJ{l:List Int}{a:Nat}(f: ∀x∈l,0≤x∧x<256)(d:a≤l.length)(h:(EM l a).2.2=true): ∃c:Nat,(EM l a).2.1=((a+c:Nat):Int)∧a+c≤l.length∧(l.drop a).take c=uA (EM l a).1∧okR (EM l a).1=true:=by
 unfold EM at h ⊢; cases hg:Ll 6 0 0 (l.drop a)with
 | none=>rw[hg]at h; cases h
 | some p=>
  obtain⟨x,c⟩:=p; rw[hg]at h; simp only[Lj]at h ⊢; cases hr:okR (gM x)with
  | false=>rw[hr]at h; cases h
  | true=>
   simp only[z16]; obtain⟨h1,b⟩:=SZ (fun e g=>f e (List.mem_of_mem_drop g)) hg hr
   rw[z70]at b; exact⟨c,rfl,by omega,h1,hr⟩
theorem vH: ∀ {l:List Int},(∀x∈l,0≤x∧x<256)→ ∃s,qB l=some s∧(s.map fun c=>((c.toNat:Nat):Int))=l
 | [],_=>⟨[],rfl,rfl⟩
 | x::r,h=>by
  have d:=h x z32; obtain⟨s,h1,a⟩:=vH (l:=r) (fun e b=>h e (z28 _ b))
  refine⟨UInt8.ofNat x.toNat::s, ?_, ?_⟩
  ·show(if 0≤x∧x<256 then(qB r).map (UInt8.ofNat x.toNat:: ·)else none)=_
   rw[z20 d,h1]; rfl
  ·simp only[z52,a,z150]
   congr 1; omega
theorem XB(l:List Int)(a b:Nat)(c:a≤b)(d:b≤l.length):sub l (some (a:Int)) (some (b:Int))=some ((l.drop a).take (b - a)):=by
 unfold sub bnd; simp only[z73]; rw[z20 ⟨by omega,by omega,by omega⟩]
 simp only[z37,z34]
theorem OY(n:Nat)(l:List Int)(hn:10<n)(B:l.length<1099511627776)(j: ∀x∈l,0≤x∧x<256)(d:Nat)(g:d≤l.length)(f:Bool): ∃(s:List UInt8) (a:Nat) (b:Bool),bC n l (d:Int) f=some (s,l,(a:Int),b)∧d≤a∧a≤l.length∧(f=true→b=true)∧(b=false→(l.drop d).take (a - d)=uA (s.length:Int)++s.map fun c=>((c.toNat:Nat):Int)):=by
 have e: ∀(o:Option (List UInt8×Int×Bool)),(o=some ([],0,false)∨f=true∧ ∃t,o=some t)→(o.bind fun c=>(bif f then some true else some (!c.2.2)).bind fun v=>bif v then some (([]:List UInt8),l,(d:Int),true)else some (c.1,l,c.2.1,f))=some (([]:List UInt8),l,(d:Int),true):=fun o h=>by
  rcases h with rfl | ⟨hbd,t,rfl⟩
  ·cases f<;>rfl
  ·rw[hbd]; rfl
 unfold bC kC; rw[kD n l hn B j d g,z8]; cases hok:(EM l d).2.2 with
 | false=>exact⟨[],d,true,e _ (.inl (by simp only[z65,z16,z8])),z36 _,g,fun _=>rfl,fun h=>by cases h⟩
 | true=>
  obtain⟨c,z,E,A,q⟩:=JJ j g hok; generalize (EM l d).1=v at*; rw[z]; unfold okR at q; simp only[z7,z26]at q; simp only[z38,z12]; by_cases u:v<0
  ·rw[z11 u]
   exact⟨[],d,true,e _ (.inl (by simp only[z16,z8])),z36 _,g,fun _=>rfl,fun h=>by cases h⟩
  ·rw[z9 u]
   obtain⟨k,rfl⟩: ∃k:Nat,v=k:=⟨v.toNat,by omega⟩
   have C:IntKind.wrap .i64 ((l.length:Int) - ((d+c:Nat):Int))=(l.length:Int) - ((d+c:Nat):Int):=wrap_i64 (by omega) (by omega)
   have p:IntKind.wrap .i64 (((d+c:Nat):Int)+(k:Int))=((d+c+k:Nat):Int):=by
    rw[wrap_i64 (by omega) (by omega)]; omega
   rw[C,p]; by_cases i:(l.length:Int) - ((d+c:Nat):Int)<(k:Int)
   ·rw[z11 i]
    exact⟨[],d,true,e _ (.inl (by simp only[z12,z16,z8])),z36 _,g,fun _=>rfl,fun h=>by cases h⟩
   ·rw[z9 i]
    have r:=XB l (d+c) (d+c+k) (by omega) (by omega)
    obtain⟨s,w,y⟩:=vH (l:=(l.drop (d+c)).take (d+c+k - (d+c))) (fun x D=>j x (List.mem_of_mem_drop (List.mem_of_mem_take D)))
    have m:s.length=k:=by
     have:=congrArg List.length y; rw[z67,z62,z70]at this; omega
    cases hbd:f with
    | true=>
     exact⟨[],d,true,by simp only[z12,z16,z8,r,w],z36 _,g,fun _=>rfl,fun h=>by cases h⟩
    | false=>
     refine⟨s,d+c+k,false,by simp only[z12,z8,r,w,z38],by omega,by omega,(fun h=>by cases h),fun _=> ?_⟩
     rw[m, ←A,y,show d+c+k - d=c+k by omega,show d+c+k - (d+c)=k by omega,List.take_add,RJ]
theorem Is(n:Nat)(l:List Int)(hn:10<n)(o:l.length<1099511627776)(g: ∀x∈l,0≤x∧x<256)(d:Nat)(f:d≤l.length)(e:Bool): ∃(v:Int) (a:Nat) (b:Bool),aU n l (d:Int) e=some (v,l,(a:Int),b)∧d≤a∧a≤l.length∧(e=true→b=true)∧(b=false→(l.drop d).take (a - d)=uA v)∧(b=true→v=0)∧okR v=true:=by
 rw[OK n l hn o g d f e]; unfold rdN; cases hok:(EM l d).2.2 with
 | false=>exact⟨0,d,true,by cases e<;>rfl,z36 _,f,fun _=>rfl,(fun h=>by cases h),fun _=>rfl,rfl⟩
 | true=>
  cases e with
  | true=>exact⟨0,d,true,rfl,z36 _,f,fun _=>rfl,(fun h=>by cases h),fun _=>rfl,rfl⟩
  | false=>
   obtain⟨c,i,j,k,m⟩:=JJ g f hok; refine⟨(EM l d).1,d+c,false, ?_,by omega,j,(fun h=>by cases h),fun _=> ?_,(fun h=>by cases h),m⟩
   ·rw[i]; rfl
   ·rw[show d+c - d=c by omega]; exact k
def Ans{α:Type}(X:Option (α×Nat))(p L:Nat)(bad:Bool)(ill:Prop)(m:Nat)(v:α)(a:Nat)(b:Bool):Prop:=
  p≤a∧a≤L∧(bad=true→b=true)∧(b=false→p+m≤a)∧(∀q,bad=false→X=some q→v=q.1∧a=q.2∧b=false)∧(bad=false→X=none→b=true∨ill)
theorem Ans.bind{α β:Type}{X:Option (α×Nat)}{Y:α→Nat→Option (β×Nat)}{p L:Nat}{bad:Bool}{ill:Prop}{m k:Nat}{v:α}{a:Nat}{b:Bool}{v':β}{a':Nat}{b':Bool}(h1:Ans X p L bad False m v a b)(h2:Ans (Y v a) a L b ill k v' a' b'):Ans (X.bind fun q=>Y q.1 q.2) p L bad ill (m+k) v' a' b':=by
  obtain⟨p1,p2,p3,p4,p5,p6⟩:=h1; obtain⟨q1,q2,q3,q4,q5,q6⟩:=h2; refine⟨by omega,q2,fun h=>q3 (p3 h),fun h=> ?_,fun q hb hq=> ?_,fun hb hq=> ?_⟩
  · have hb:b=false:=by
      cases hb:b with
      | false=>rfl
      | true=>rw[q3 hb]at h; cases h
    have:=p4 hb; have:=q4 h; omega
  · obtain⟨x,hx,hy⟩:=z14.1 hq
    obtain⟨rfl,rfl,rfl⟩:=p5 x hb hx; exact q5 q rfl hy
  · cases hX:X with
    | none=>
              rcases p6 hb hX with h | h
              · exact .inl (q3 h)
              · exact h.elim
    | some x=>
      rw[hX]at hq; obtain⟨rfl,rfl,rfl⟩:=p5 x hb hX; exact q6 rfl hq
theorem Ans.map{α β:Type}{X:Option (α×Nat)}{p L:Nat}{bad:Bool}{ill:Prop}{m:Nat}{v:α}{a:Nat}{b:Bool}(f:α→β)(h:Ans X p L bad ill m v a b):Ans (X.map fun q=>(f q.1,q.2)) p L bad ill m (f v) a b:=by
  obtain⟨p1,p2,p3,p4,p5,p6⟩:=h; refine⟨p1,p2,p3,p4,fun q hb hq=> ?_,fun hb hq=> ?_⟩
  · obtain⟨x,hx,rfl⟩:=z23.1 hq
    obtain⟨rfl,rfl,rfl⟩:=p5 x hb hx; exact⟨rfl,rfl,rfl⟩
  · exact p6 hb (z172.1 hq)
theorem Ans.ill{α:Type}{X:Option (α×Nat)}{p L:Nat}{bad:Bool}{i j:Prop}{m:Nat}{v:α}{a:Nat}{b:Bool}(h:Ans X p L bad i m v a b)(hij:i→j):Ans X p L bad j m v a b:=by
  obtain⟨p1,p2,p3,p4,p5,p6⟩:=h; refine⟨p1,p2,p3,p4,p5,fun h1 h2=> ?_⟩
  rcases p6 h1 h2 with h | h
  · exact .inl h
  · exact .inr (hij h)
def many{α:Type}(rd:Nat→Option (α×Nat)):Nat→Nat→Option (List α×Nat)
  | 0,p=>some ([],p)
  | k+1,p=>(rd p).bind fun q=>(many rd k q.2).map fun r=>(q.1::r.1,r.2)
theorem Ma{α:Type}(w:α→Nat)(x:α): ∀l:List α,dl w (l++[x])=dl w l+(w x+1)
  | []=>by simp only[z83,dl]; omega
  | a::r=>by
    have:=Ma w x r; simp only[z91,dl]; omega
theorem De{σ ρ α:Type}{body:σ→Option (σ⊕ρ)}(enc:Nat→List α→Nat→Bool→σ)(Out:List α→Nat→Bool→ρ→Prop)(rd:Nat→Option (α×Nat))(w:α→Nat)(ill:α→Prop){c L:Nat}
    (hs: ∀i acc p,i<c→acc.length=i→p≤L→ ∃x a b m,body (enc i acc p false)=some (.inl (enc (i+1) (acc++[x]) a b))∧Ans (rd p) p L false (ill x) m x a b∧(b=false→w x+1≤2*m))
    (hb: ∀i acc p,i≤c→acc.length=i→p≤L→(∃r,body (enc i acc p true)=some (.inr r)∧Out acc p true r)∨(i<c∧ ∃x a,p≤a∧a≤L∧body (enc i acc p true)=some (.inl (enc (i+1) (acc++[x]) a true))))
    (he: ∀acc p,acc.length=c→p≤L→ ∃r,body (enc c acc p false)=some (.inr r)∧Out acc p false r):
    ∀(k i:Nat) (acc:List α) (p:Nat) (bad:Bool) (m:Nat),i+k=c→acc.length=i→p≤L→k<m→ ∃r xs a b,loopN body m (enc i acc p bad)=some r∧Out (acc++xs) a b r∧p≤a∧a≤L∧(bad=true→b=true)∧(b=false→(acc++xs).length=c∧dl w (acc++xs)+2*p≤dl w acc+2*a)∧(∀q,bad=false→many rd k p=some q→xs=q.1∧a=q.2∧b=false)∧(bad=false→many rd k p=none→b=true∨ ∃x∈acc++xs,ill x)
  | 0,i,acc,p,false,m,hk,hl,hp,hm=>by
    obtain⟨m,rfl⟩: ∃q,m=q+1:=⟨m - 1,by omega⟩
    obtain rfl:i=c:=by omega
    obtain⟨r,r1,r2⟩:=he acc p hl hp; refine⟨r,[],p,false,by simp only[loopN,r1],by rw[z78]; exact r2,z36 _,hp,id,fun _=>⟨by rw[z78]; exact hl,by rw[z78]; exact z36 _⟩,fun q _ h=> ?_,fun _ h=>by cases h⟩
    cases h; exact⟨rfl,rfl,rfl⟩
  | k+1,i,acc,p,false,m,hk,hl,hp,hm=>by
    obtain⟨m,rfl⟩: ∃q,m=q+1:=⟨m - 1,by omega⟩
    obtain⟨x,a,b,j,h1,⟨h2,h3,_,h4,h5,h6⟩,h7⟩:=hs i acc p (by omega) hl hp
    obtain⟨r,xs,a',b',g1,g2,g3,g4,g5,g6,g7,g8⟩:=De enc Out rd w ill hs hb he k (i+1) (acc++[x]) a b m (by omega) (by rw[z19,z21]; omega) h3 (by omega)
    rw[z56]at g2 g6 g8; refine⟨r,x::xs,a',b',by simp only[loopN,h1]; exact g1,g2,by omega,g4,(fun h=>by cases h),fun h=> ?_,fun q _ hq=> ?_,fun _ hq=> ?_⟩
    · obtain⟨q1,q2⟩:=g6 h
      have hb0:b=false:=by
        cases hb0:b with
        | false=>rfl
        | true=>rw[g5 hb0]at h; cases h
      have:=h7 hb0; have:=h4 hb0; rw[Ma]at q2; have e:(acc++([x]++xs))=acc++x::xs:=rfl; rw[e]at q1 q2; exact⟨q1,by omega⟩
    · simp only[many]at hq
      obtain⟨y,hy,hz⟩:=z14.1 hq; obtain⟨z,hz2,rfl⟩:=z23.1 hz; obtain⟨rfl,rfl,rfl⟩:=h5 y rfl hy; obtain⟨rfl,rfl,rfl⟩:=g7 z rfl hz2; exact⟨rfl,rfl,rfl⟩
    · simp only[many]at hq
      have hin: ∀ {Q:Prop},ill x→(Q∨ ∃y∈acc++x::xs,ill y):=fun h=> .inr ⟨x,z174 _ z32,h⟩
      cases hy:rd p with
      | none=>
        rcases h6 rfl hy with h | h
        · exact .inl (g5 h)
        · exact hin h
      | some y=>
        rw[hy]at hq; obtain⟨rfl,rfl,rfl⟩:=h5 y rfl hy; exact g8 rfl (z172.1 hq)
  | k,i,acc,p,true,m,hk,hl,hp,hm=>by
    obtain⟨m,rfl⟩: ∃q,m=q+1:=⟨m - 1,by omega⟩
    rcases hb i acc p (by omega) hl hp with⟨r,r1,r2⟩ | ⟨hi,x,a,h1,h2,h3⟩
    · exact⟨r,[],p,true,by simp only[loopN,r1],by rw[z78]; exact r2,z36 _,hp,id,(fun h=>by cases h),(fun q h=>by cases h),(fun h=>by cases h)⟩
    · obtain⟨k,rfl⟩: ∃q,k=q+1:=⟨k - 1,by omega⟩
      obtain⟨r,xs,a',b',g1,g2,g3,g4,g5,_,_,_⟩:=De enc Out rd w ill hs hb he k (i+1) (acc++[x]) a true m (by omega) (by rw[z19,z21]; omega) h2 (by omega)
      rw[z56]at g2; refine⟨r,x::xs,a',b',by simp only[loopN,h3]; exact g1,g2,by omega,g4,fun _=>g5 rfl,(fun h=> ?_),(fun q h=>by cases h),(fun h=>by cases h)⟩
      rw[g5 rfl]at h; cases h
def Seg(l:List Int)(p a:Nat)(e:List Int):Prop:=p≤a∧a≤l.length∧(l.drop p).take (a - p)=e
theorem Seg.app{l:List Int}{p a b:Nat}{e f:List Int}(h1:Seg l p a e)(h2:Seg l a b f):Seg l p b (e++f):=by
  obtain⟨p1,p2,p3⟩:=h1; obtain⟨q1,q2,q3⟩:=h2; refine⟨by omega,q2, ?_⟩
  rw[←p3, ←q3,show b - p=(a - p)+(b - a)by omega,List.take_add,RJ,show p+(a - p)=a by omega]
theorem Seg.many{α:Type}{l:List Int}{rd:Nat→Option (α×Nat)}{e:α→List Int}(h: ∀p x a,p≤l.length→rd p=some (x,a)→Seg l p a (e x)): ∀(k p:Nat) (xs:List α) (a:Nat),p≤l.length→many rd k p=some (xs,a)→Seg l p a (xs.flatMap e)∧xs.length=k
  | 0,p,xs,a,hp,hq=>by
    cases hq; exact⟨⟨z36 _,hp,by rw[Te]; rfl⟩,rfl⟩
  | k+1,p,xs,a,hp,hq=>by
    simp only[Q.many]at hq; obtain⟨⟨x,a1⟩,hy,hz⟩:=z14.1 hq; obtain⟨⟨ys,a2⟩,hz1,hz2⟩:=z23.1 hz; cases hz2; have h1:=h p x a1 hp hy; obtain⟨h2,h3⟩:=Seg.many h k a1 ys a2 h1.2.1 hz1; exact⟨h1.app h2,by rw[z48,h3]⟩
theorem mT{σ ρ α:Type}{body:σ→Option (σ⊕ρ)}(enc:Nat→List α→Nat→Bool→σ)(e:List α→Nat→Bool→ρ→Prop)(rd:Nat→Option (α×Nat))(w:α→Nat)(g:α→Prop){c L:Nat}
  (C: ∀i d p,i<c→d.length=i→p≤L→ ∃x a b m,body (enc i d p false)=some (.inl (enc (i+1) (d++[x]) a b))∧Ans (rd p) p L false (g x) m x a b∧(b=false→w x+1≤2*m))
  (hb: ∀i d p,i≤c→d.length=i→p≤L→(∃r,body (enc i d p true)=some (.inr r)∧e d p true r)∨(i<c∧ ∃x a,p≤a∧a≤L∧body (enc i d p true)=some (.inl (enc (i+1) (d++[x]) a true))))
  (z: ∀d p,d.length=c→p≤L→ ∃r,body (enc c d p false)=some (.inr r)∧e d p false r)(p:Nat)(f:Bool)(m:Nat)(B:p≤L)(A:c<m):
  ∃r xs a b,loopN body m (enc 0 [] p f)=some r∧e xs a b r∧Ans (many rd c p) p L f (∃x∈xs,g x) (a - p) xs a b∧(b=false→xs.length=c∧dl w xs≤1+2*(a - p)):=by
 obtain⟨r,xs,a,b,k,o,q,s,t,u,v,y⟩:=De enc e rd w g C hb z c 0 [] p f m (by omega) rfl B A
 refine⟨r,xs,a,b,k,o,⟨q,s,t,fun _=>by omega,v,y⟩,fun h=> ?_⟩
 obtain⟨j,D⟩:=u h; simp only[dl,z83]at j D; exact⟨j,by omega⟩
structure Hy (n:Nat) (l:List Int):Prop where
 n0:2100<n
 hl:l.length<1099511627776
 hb: ∀x∈l,0≤x∧x<256
def nmX(l:List Int)(p:Nat):Option (Int×Nat):=match aU 11 l (p:Int) false with
 | some (v,_,a,b)=>bif b then none else some (v,a.toNat)
 | none=>none
def txX(l:List Int)(p:Nat):Option (List UInt8×Nat):=match bC 11 l (p:Int) false with
 | some (v,_,a,b)=>bif b then none else some (v,a.toNat)
 | none=>none
theorem SA{n:Nat}{l:List Int}(hn:10<n)(hl:l.length<1099511627776)(hb: ∀x∈l,0≤x∧x<256)(p:Nat)(b:p≤l.length)(a:Bool):aU n l (p:Int) a=aU 11 l (p:Int) a:=by
 rw[OK n l hn hl hb p b,OK 11 l (by omega) hl hb p b]
theorem Pn{n:Nat}{l:List Int}(hn:10<n)(hl:l.length<1099511627776)(hb: ∀x∈l,0≤x∧x<256)(p:Nat)(b:p≤l.length)(a:Bool):bC n l (p:Int) a=bC 11 l (p:Int) a:=by
 unfold bC kC; rw[kD n l hn hl hb p b,kD 11 l (by omega) hl hb p b]
theorem KR{l e:List Int}{p a:Nat}(h:Seg l p a e):p+e.length=a:=by
 obtain⟨h1,c,b⟩:=h; rw[←b,z62,z70]; omega
theorem uE{l:List Int}(hl:l.length<1099511627776)(hb: ∀x∈l,0≤x∧x<256){p a:Nat}{v:Int}(f:p≤l.length)(h:nmX l p=some (v,a)):Seg l p a (uA v):=by
 obtain⟨v',g,b,h1,c,d,i,e,j,k⟩:=Is 11 l (by omega) hl hb p f false
 unfold nmX at h; rw[h1]at h; cases b with
 | true=>cases h
 | false=>cases h; rw[z34]; exact⟨c,d,e rfl⟩
theorem OH{l:List Int}(hl:l.length<1099511627776)(hb: ∀x∈l,0≤x∧x<256){p a:Nat}{v:List UInt8}(f:p≤l.length)(h:txX l p=some (v,a)):Seg l p a (BR v):=by
 obtain⟨v',g,b,h1,c,d,i,e⟩:=OY 11 l (by omega) hl hb p f false
 unfold txX at h; rw[h1]at h; cases b with
 | true=>cases h
 | false=>cases h; rw[z34]; exact⟨c,d,e rfl⟩
theorem gQ{n:Nat}{l:List Int}(H:Hy n l)(p:Nat)(j:p≤l.length)(c:Bool): ∃(v:Int) (a:Nat) (b:Bool),aU n l (p:Int) c=some (v,l,(a:Int),b)∧bH n l (p:Int) c=some (v,l,(a:Int),b)∧Ans (nmX l p) p l.length c False 1 v a b∧(b=true→v=0)∧okR v=true:=by
 have hn:=H.n0; obtain⟨v,a,b,h1,d,f,g,k,m,o⟩:=Is n l (by omega) H.hl H.hb p j c
 refine⟨v,a,b,h1,by rw[←Rz n l (by omega) H.hl H.hb p j,h1], ?_,m,o⟩
 have i:b=false→p+1≤a:=fun h=>by
  have:=KR ⟨d,f,k h⟩; have:=dY v; omega
 rw[SA (by omega) H.hl H.hb p j]at h1
 cases c with
 | true=>exact⟨d,f,g,i,(fun q h=>by cases h),(fun h=>by cases h)⟩
 | false=>
  have e:nmX l p=bif b then none else some (v,a):=by
   unfold nmX; rw[h1]; rfl
  rw[e]; cases b with
  | true=>exact⟨d,f,g,i,(fun q _ h=>by cases h),fun _ _=> .inl rfl⟩
  | false=>exact⟨d,f,g,i,(fun q _ h=>by cases h; exact⟨rfl,rfl,rfl⟩),(fun _ h=>by cases h)⟩
theorem tL{n:Nat}{l:List Int}(H:Hy n l)(p:Nat)(j:p≤l.length)(c:Bool): ∃(v:List UInt8) (a:Nat) (b:Bool),bC n l (p:Int) c=some (v,l,(a:Int),b)∧fZ n l (p:Int) c=some (v,l,(a:Int),b)∧Ans (txX l p) p l.length c False (1+v.length) v a b:=by
 have hn:=H.n0; obtain⟨v,a,b,h1,d,f,g,k⟩:=OY n l (by omega) H.hl H.hb p j c
 refine⟨v,a,b,h1,by rw[←Pm n l (by omega) H.hl H.hb p j,h1], ?_⟩
 have i:b=false→p+(1+v.length)≤a:=fun h=>by
  have:=KR (e:=BR v) ⟨d,f,k h⟩; have:=qV v; omega
 rw[Pn (by omega) H.hl H.hb p j]at h1
 cases c with
 | true=>exact⟨d,f,g,i,(fun q h=>by cases h),(fun h=>by cases h)⟩
 | false=>
  have e:txX l p=bif b then none else some (v,a):=by
   unfold txX; rw[h1]; rfl
  rw[e]; cases b with
  | true=>exact⟨d,f,g,i,(fun q _ h=>by cases h),fun _ _=> .inl rfl⟩
  | false=>exact⟨d,f,g,i,(fun q _ h=>by cases h; exact⟨rfl,rfl,rfl⟩),(fun _ h=>by cases h)⟩
def ctX(l:List Int)(k:Nat)(p:Nat):Option (Int×Nat):=(nmX l p).bind fun q=>if 0≤q.1∧q.1≤(k:Int)then some q else none
theorem tR{α:Type}(l:List Int)(k p:Nat)(g:Int×Nat→Option α):(ctX l k p).bind g=(nmX l p).bind fun q=>if 0≤q.1∧q.1≤(k:Int)then g q else none:=by
 unfold ctX; cases nmX l p with
 | none=>rfl
 | some q=>
  simp only[z8]; by_cases h:0≤q.1∧q.1≤(k:Int)
  ·rw[z20 h,z20 h]; rfl
  ·rw[z15 h,z15 h]; rfl
theorem vD{n:Nat}{l:List Int}(H:Hy n l)(k p:Nat)(t:p≤l.length)(c:Bool): ∃(v a:Nat) (b:Bool),bD n (k:Int) l (p:Int) c=some ((v:Int),l,(a:Int),b)∧Ans (ctX l k p) p l.length c False 1 (v:Int) a b∧(b=true→v=0)∧v≤k:=by
 obtain⟨v,a,b,h1,_,⟨m,o,u,w,j,y⟩,r,_⟩:=gQ H p t c; unfold bD; rw[h1,z8,iP,z8]; by_cases e:0≤v∧v≤(k:Int)
 ·obtain⟨v,rfl⟩: ∃q:Nat,v=q:=⟨v.toNat,by omega⟩
  rw[z11 e.1,z11 e.2]; refine⟨v,a,b,rfl,⟨m,o,u,w,fun q hb d=> ?_,fun hb d=> ?_⟩,fun h=>by have:=r h; omega,by omega⟩
  ·obtain⟨x,i,f⟩:=z14.1 d
   split at f<;>cases f
   exact j _ hb i
  ·cases hX:nmX l p with
   | none=>exact y hb hX
   | some x=>
    obtain⟨g,rfl,rfl⟩:=j x hb hX; unfold ctX at d; rw[hX,z8, ←g,z20 e]at d; cases d
 ·have s:(decide (0≤v)&&decide (v≤(k:Int)))=false:=by
   cases h:(decide (0≤v)&&decide (v≤(k:Int)))with
   | false=>rfl
   | true=>simp only[z7,z26]at h; exact absurd h e
  rw[s]; refine⟨0,a,true,rfl,⟨m,o,fun _=>rfl,(fun h=>by cases h),fun q hb d=> ?_,fun _ _=> .inl rfl⟩,fun _=>rfl,by omega⟩
  obtain⟨x,i,f⟩:=z14.1 d; obtain⟨g,_,_⟩:=j x hb i; rw[←g,z15 e]at f; cases f
def HZ(l:List Int)(p:Nat):Option (aG×Nat):=(nmX l p).bind fun a=>(nmX l a.2).bind fun b=>(txX l b.2).bind fun c=>(nmX l c.2).map fun d=>(⟨a.1,b.1,c.1,d.1⟩,d.2)
theorem PK{n:Nat}{l:List Int}(H:Hy n l)(p:Nat)(B:p≤l.length): ∃(x:aG) (a1 a2 a3 a:Nat) (b1 b2 f b:Bool),aU n l (p:Int) false=some (x.f0,l,(a1:Int),b1)∧aU n l (a1:Int) b1=some (x.f1,l,(a2:Int),b2)∧bC n l (a2:Int) b2=some (x.f2,l,(a3:Int),f)∧aU n l (a3:Int) f=some (x.f3,l,(a:Int),b)∧
  bH n l (p:Int) false=some (x.f0,l,(a1:Int),b1)∧bH n l (a1:Int) b1=some (x.f1,l,(a2:Int),b2)∧fZ n l (a2:Int) b2=some (x.f2,l,(a3:Int),f)∧bH n l (a3:Int) f=some (x.f3,l,(a:Int),b)∧
  Ans (HZ l p) p l.length false False (jX x) x a b:=by
 obtain⟨g,a1,b1,r,C,h1,_⟩:=gQ H p B false; obtain⟨i,a2,b2,s,D,j,_⟩:=gQ H a1 h1.2.1 b1; obtain⟨h,a3,f,t,E,k⟩:=tL H a2 j.2.1 b2; obtain⟨m,a4,o,u,F,A,_⟩:=gQ H a3 k.2.1 f; refine⟨⟨g,i,h,m⟩,a1,a2,a3,a4,b1,b2,f,o,r,s,t,u,C,D,E,F, ?_⟩
 have z:=A.map (fun d=>aG.mk g i h d)
 have y:=Ans.bind (Y:=fun c q=>(nmX l q).map fun d=>(aG.mk g i c d.1,d.2)) k z
 have w:=Ans.bind (Y:=fun b q=>(txX l q).bind fun c=>(nmX l c.2).map fun d=>(aG.mk g b c.1 d.1,d.2)) j y
 have v:=Ans.bind (Y:=fun a q=>(nmX l q).bind fun b=>(txX l b.2).bind fun c=>(nmX l c.2).map fun d=>(aG.mk a b.1 c.1 d.1,d.2)) h1 w
 have e:jX ⟨g,i,h,m⟩=1+(1+(1+h.length+1)):=by show 4+h.length=_; omega
 rw[e]; exact v
theorem Uz{l:List Int}(hl:l.length<1099511627776)(hb: ∀x∈l,0≤x∧x<256)(p:Nat)(x:aG)(a:Nat)(j:p≤l.length)(h:HZ l p=some (x,a)):Seg l p a (Am x):=by
 obtain⟨k,h1,h⟩:=z14.1 h; obtain⟨m,f,h⟩:=z14.1 h; obtain⟨o,g,h⟩:=z14.1 h; obtain⟨q,i,h⟩:=z23.1 h; cases h; have b:=uE hl hb j h1; have c:=uE hl hb b.2.1 f; have d:=OH hl hb c.2.1 g; have e:=uE hl hb d.2.1 i; exact b.app (c.app (d.app e))
def fnX(l:List Int)(p:Nat):Option (aF×Nat):=(txX l p).bind fun a=>(nmX l a.2).bind fun b=>(nmX l b.2).bind fun c=>(ctX l 1500 c.2).bind fun d=>(many (HZ l) d.1.toNat d.2).map fun e=>(⟨a.1,b.1,c.1,e.1⟩,e.2)
theorem XZ{l:List Int}(hl:l.length<1099511627776)(hb: ∀x∈l,0≤x∧x<256)(p:Nat)(x:aF)(a:Nat)(o:p≤l.length)(h:fnX l p=some (x,a)):Seg l p a (Jg x):=by
 obtain⟨u,h1,h⟩:=z14.1 h; obtain⟨v,i,h⟩:=z14.1 h; obtain⟨w,j,h⟩:=z14.1 h; rw[tR]at h; obtain⟨q,k,h⟩:=z14.1 h; split at h
 ·rename_i t
  obtain⟨r,m,h⟩:=z23.1 h; cases h; have b:=OH hl hb o h1; have c:=uE hl hb b.2.1 i; have d:=uE hl hb c.2.1 j; have f:=uE hl hb d.2.1 k; obtain⟨g,s⟩:=Seg.many (Uz hl hb) _ _ _ _ f.2.1 m; have e:(r.1.length:Int)=q.1:=by omega
  have:=b.app (c.app (d.app (f.app g))); rw[←e]at this; exact this
 ·cases h
theorem Ap{α:Type}(b:Nat)(a:List α)(x:α)(h:a.length<2001)(hb:b≤56):dG b a [x]=some (a++[x]):=by
 refine pZ ?_ (by simp only[z21,maxLen]; omega)
 have:(a.length+[x].length)*b≤2001*56:=z180 (by rw[z21]; omega) hb
 omega
theorem VI{n:Nat}{l:List Int}(H:Hy n l)(p:Nat)(R:p≤l.length)(o:Bool): ∃(f:aF) (a:Nat) (b:Bool) (m:Nat),jW n l (p:Int) o=some (f.f0,f.f1,f.f2,f.f3,l,(a:Int),b)∧Ans (fnX l p) p l.length o False m f a b∧(b=false→wFn f+1≤2*m):=by
 have hn:=H.n0; obtain⟨k,a1,b1,F,_,h1⟩:=tL H p R o; obtain⟨s,a2,b2,G,_,B,_⟩:=gQ H a1 h1.2.1 b1; obtain⟨t,a3,A,I,_,C,_⟩:=gQ H a2 B.2.1 b2; obtain⟨u,a4,v,w,D,_,c4⟩:=vD H 1500 a3 C.2.1 A; have w:bD n (1500:Int) l (a3:Int) A=some ((u:Int),l,(a4:Int),v):=w
 obtain⟨r,xs,a5,E,y,X,O,Z⟩:=mT (body:=dL n ((u:Int),l,(a4:Int),v)) (fun i g q b=>((i:Int),k,s,t,g,l,(q:Int),b)) (fun g a b r=> ∃j,r=(j,k,s,t,g,l,(a:Int),b)) (HZ l) jX (fun _=>False) (c:=u) (L:=l.length)
  (fun i g q Q hl z=>by
   obtain⟨x,_,_,_,a,_,_,_,b,T,U,V,W,_,_,_,_,S⟩:=PK H q z; refine⟨x,a,b,jX x, ?_,S,fun _=>by have:=Bj x; omega⟩
   have P:decide ((i:Int)<(u:Int))=true:=z11 (by omega)
   simp only[dL,P,z16,z12,T,U,V,W,z8,Ap 40 g _ (by omega) (by omega),aN (show i<4611686018427387904 by omega)])
  (fun i g q Q hl z=> .inl (by
   simp only[dL]; cases decide ((i:Int)<(u:Int))<;>exact⟨_,rfl,_,rfl⟩))
  (fun g q hl z=>by
   simp only[dL,aO,z12]; exact⟨_,rfl,_,rfl⟩) a4 v n D.2.1 (by omega)
 obtain⟨j,rfl⟩:=X; refine⟨⟨k,s,t,xs⟩,a5,E,1+k.length+(1+(1+(1+(a5 - a4)))), ?_, ?_,fun h=> ?_⟩
 ·unfold jW
  simp only[F,G,I,w,z8]; have y:loopN (dL n ((u:Int),l,(a4:Int),v)) n ((0:Int),k,s,t,([]:List aG),l,(a4:Int),v)=_:=y; rw[y]; rfl
 ·have N:=(O.map (fun e=>aF.mk k s t e)).ill (j:=False) (fun⟨_,_,h⟩=>h)
  have M:=Ans.bind (Y:=fun(d:Int) q=>(many (HZ l) d.toNat q).map fun e=>(aF.mk k s t e.1,e.2)) D N
  have K:=Ans.bind (Y:=fun c q=>(ctX l 1500 q).bind fun d=>(many (HZ l) d.1.toNat d.2).map fun e=>(aF.mk k s c e.1,e.2)) C M
  have J:=Ans.bind (Y:=fun b q=>(nmX l q).bind fun c=>(ctX l 1500 c.2).bind fun d=>(many (HZ l) d.1.toNat d.2).map fun e=>(aF.mk k b c.1 e.1,e.2)) B K
  exact Ans.bind (Y:=fun a q=>(nmX l q).bind fun b=>(nmX l b.2).bind fun c=>(ctX l 1500 c.2).bind fun d=>(many (HZ l) d.1.toNat d.2).map fun e=>(aF.mk a b.1 c.1 e.1,e.2)) h1 J
 ·have:=(Z h).2
  rw[HU]; simp only; omega
def Tn(f:aF):Prop:= ¬ (1≤f.f3.length∧f.f3.length≤1500)
theorem VG{n:Nat}{l:List Int}(H:Hy n l)(p:Nat)(W:p≤l.length)(u:Bool): ∃(f:aF) (a:Nat) (b:Bool) (m:Nat),pC n l (p:Int) u=some (f.f0,f.f1,f.f2,f.f3,l,(a:Int),b)∧Ans (fnX l p) p l.length u (Tn f) m f a b∧(b=false→wFn f+1≤2*m):=by
 have hn:=H.n0; obtain⟨o,a1,b1,_,M,h1⟩:=tL H p W u; obtain⟨s,a2,b2,_,N,w,_⟩:=gQ H a1 h1.2.1 b1; obtain⟨t,a3,K,_,O,D,_⟩:=gQ H a2 w.2.1 b2; obtain⟨k,a4,v,_,P,E,_⟩:=gQ H a3 D.2.1 K; obtain⟨c,hc⟩: ∃c:Nat,c=(min k 1501).toNat:=⟨_,rfl⟩
 obtain⟨r,xs,a5,y,z,o5,F,J⟩:=mT (body:=gG n (k,l,(a4:Int),v)) (fun i g q b=>((i:Int),o,s,t,g,l,(q:Int),b)) (fun g a b r=> ∃j I,r=(j,I,o,s,t,g,l,(a:Int),b)) (HZ l) jX (fun _=>False) (c:=c) (L:=l.length)
  (fun i g q V hl C=>by
   obtain⟨x,_,_,_,a,_,_,_,b,_,_,_,_,Z,k2,k3,k4,X⟩:=PK H q C; refine⟨x,a,b,jX x, ?_,X,fun _=>by have:=Bj x; omega⟩
   have A:decide ((i:Int)<k)=true:=z11 (by omega)
   have B:decide ((i:Int)<1501)=true:=z11 (by omega)
   simp only[gG,A,B,z16,z65,Z,k2,k3,k4,z8,Ap 40 g _ (by omega) (by omega),aN (show i<4611686018427387904 by omega)])
  (fun i g q V hl C=> .inl (by
   simp only[gG]; cases decide ((i:Int)<k)<;>cases decide ((i:Int)<1501)<;>exact⟨_,rfl,_,_,rfl⟩))
  (fun g q hl C=>by
   simp only[gG]; by_cases A:(c:Int)<k
   ·rw[z9 (show ¬ (c:Int)<1501 by omega)]
    cases decide ((c:Int)<k)<;>exact⟨_,rfl,_,_,rfl⟩
   ·rw[z9 A]
    exact⟨_,rfl,_,_,rfl⟩) a4 v n E.2.1 (by omega)
 obtain⟨j,I,rfl⟩:=o5; refine⟨⟨o,s,t,xs⟩,a5,y,1+o.length+(1+(1+(1+(a5 - a4)))), ?_, ?_,fun h=> ?_⟩
 ·unfold pC
  simp only[M,N,O,P,z8]; have z:loopN (gG n (k,l,(a4:Int),v)) n ((0:Int),o,s,t,([]:List aG),l,(a4:Int),v)=_:=z; rw[z]; rfl
 ·have U:Ans (if 0≤k∧k≤((1500:Nat):Int)then(many (HZ l) k.toNat a4).map fun e=>(aF.mk o s t e.1,e.2)else none) a4 l.length v (Tn ⟨o,s,t,xs⟩) (a5 - a4) ⟨o,s,t,xs⟩ a5 y:=by
   by_cases G:0≤k∧k≤((1500:Nat):Int)
   ·rw[z20 G]
    have e:k.toNat=c:=by omega
    rw[e]; exact(F.map (fun e=>aF.mk o s t e)).ill (fun⟨_,_,h⟩=>h.elim)
   ·rw[z15 G]
    obtain⟨p1,p2,p3,p4,p5,p6⟩:=F; refine⟨p1,p2,p3,p4,(fun q _ h=>by cases h),fun _ _=> ?_⟩
    cases hb:y with
    | true=>exact .inl rfl
    | false=>
     have:=(J hb).1; refine .inr fun⟨h1,w⟩=> ?_
     simp only at h1 w; omega
  have T:=Ans.bind (Y:=fun(d:Int) q=>if 0≤d∧d≤((1500:Nat):Int)then(many (HZ l) d.toNat q).map fun e=>(aF.mk o s t e.1,e.2)else none) E U
  have S:=Ans.bind (Y:=fun c q=>(nmX l q).bind fun d=>if 0≤d.1∧d.1≤((1500:Nat):Int)then(many (HZ l) d.1.toNat d.2).map fun e=>(aF.mk o s c e.1,e.2)else none) D T
  have R:=Ans.bind (Y:=fun b q=>(nmX l q).bind fun c=>(nmX l c.2).bind fun d=>if 0≤d.1∧d.1≤((1500:Nat):Int)then(many (HZ l) d.1.toNat d.2).map fun e=>(aF.mk o b c.1 e.1,e.2)else none) w S
  have Q:=Ans.bind (Y:=fun a q=>(nmX l q).bind fun b=>(nmX l b.2).bind fun c=>(nmX l c.2).bind fun d=>if 0≤d.1∧d.1≤((1500:Nat):Int)then(many (HZ l) d.1.toNat d.2).map fun e=>(aF.mk a b.1 c.1 e.1,e.2)else none) h1 R
  unfold fnX; simp only[tR]; exact Q
 ·have:=(J h).2
  rw[HU]; simp only; omega
def tH(l:List Int):Nat→Nat→Option (aA×Nat)
 | 0,_=>none
 | d+1,p=>(nmX l p).bind fun k=>(nmX l k.2).bind fun m=>(txX l m.2).bind fun s=>(ctX l 20 s.2).bind fun c=>(many (tH l d) c.1.toNat c.2).map fun e=>(.mk k.1 m.1 s.1 e.1,e.2)
theorem Om{l:List Int}(c:l.length<1099511627776)(b: ∀x∈l,0≤x∧x<256): ∀(d p:Nat) (x:aA) (a:Nat),p≤l.length→tH l d p=some (x,a)→Seg l p a (qY x)
 | 0,p,x,a,k,h=>by cases h
 | d+1,p,x,a,k,h=>by
  obtain⟨y,h1,h⟩:=z14.1 h; obtain⟨z,o,h⟩:=z14.1 h; obtain⟨A,q,h⟩:=z14.1 h; rw[tR]at h; obtain⟨t,r,h⟩:=z14.1 h; split at h
  ·rename_i w
   obtain⟨u,s,h⟩:=z23.1 h; cases h; have f:=uE c b k h1; have g:=uE c b f.2.1 o; have i:=OH c b g.2.1 q; have j:=uE c b i.2.1 r; obtain⟨m,v⟩:=Seg.many (Om c b d) _ _ _ _ j.2.1 s; have e:(u.1.length:Int)=t.1:=by omega
   have:=f.app (g.app (i.app (j.app m))); rw[←e]at this; rw[MX]; exact this
  ·cases h
theorem Sz{x:Int}(h0: -1000≤x)(h1:x≤1000):IntKind.wrap .i64 x=x:=wrap_i64 (by omega) (by omega)
def Wu(rd:Nat→Option (aA×Nat))(L:Nat)(l:List Int)(c:Bool)(p:Nat)(o:Option (Int×Int×List UInt8×List aA×List Int×Int×Bool)):Prop:= ∃(x:aA) (a:Nat) (b:Bool) (m:Nat),o=some (x.f0,x.f1,x.f2,x.f3,l,(a:Int),b)∧Ans (rd p) p L c False m x a b∧(b=false→cV x+1≤2*m)
theorem Iq{n:Nat}{l:List Int}(hn:2100<n)(rd:Nat→Option (aA×Nat))(r:dS)(e:Int)(c:Nat)(O:c≤20)(a4:Int)(t:Bool)(g o:Int)(s:List UInt8)(F:0<c→ ∀p,p≤l.length→Wu rd l.length l false p (r (IntKind.wrap .i64 (e+1)) l (p:Int) false))(p:Nat)(E:p≤l.length)(f:Bool):
  ∃(xs:List aA) (a:Nat) (b:Bool),(loopN (cN n r e ((c:Int),l,a4,t)) n ((0:Int),g,o,s,([]:List aA),l,(p:Int),f)).bind (fun(_,z,J,K,M,N,w,y)=>some (z,J,K,M,N,w,y))=some (g,o,s,xs,l,(a:Int),b)∧Ans (many rd c p) p l.length f False (a - p) xs a b∧(b=false→dl cV xs≤1+2*(a - p)):=by
 obtain⟨r,xs,a,b,u,I,B,z⟩:=mT (body:=cN n r e ((c:Int),l,a4,t)) (fun i d q b=>((i:Int),g,o,s,d,l,(q:Int),b)) (fun d a b r=> ∃j,r=(j,g,o,s,d,l,(a:Int),b)) rd cV (fun _=>False) (c:=c) (L:=l.length)
  (fun i d q D A v=>by
   obtain⟨x,a,b,m,k,H,G⟩:=F (by omega) q v
   refine⟨x,a,b,m, ?_,H,G⟩
   have C:decide ((i:Int)<(c:Int))=true:=z11 (by omega)
   simp only[cN,C,z16,z12,k,z8,oV,Ap 56 d _ (by omega) (by omega),aN (show i<4611686018427387904 by omega)])
  (fun i d q D A v=> .inl (by
   simp only[cN]; cases decide ((i:Int)<(c:Int))<;>exact⟨_,rfl,_,rfl⟩))
  (fun d q A v=>by
   simp only[cN,aO,z12]; exact⟨_,rfl,_,rfl⟩) p f n E (by omega)
 obtain⟨j,rfl⟩:=I; have u:loopN (cN n r e ((c:Int),l,a4,t)) n ((0:Int),g,o,s,([]:List aA),l,(p:Int),f)=_:=u; rw[u]; exact⟨xs,a,b,rfl,B.ill fun⟨_,_,h⟩=>h,fun h=>(z h).2⟩
theorem Db{n:Nat}{l:List Int}(hn:2100<n)(rd:Nat→Option (aA×Nat))(r:hJ)(e:Int)(c:Nat)(f:Int)(S:c≤20)(J:c=f.toNat∨c=0)(a4:Int)(u:Bool)(o s:Int)(t:List UInt8)(I:0<c→ ∀p,p≤l.length→Wu rd l.length l false p (r (IntKind.wrap .i64 (e - 1)) l (p:Int) false))(p:Nat)(C:p≤l.length)(g:Bool)(F:c=f.toNat∨g=true):
  ∃(xs:List aA) (a:Nat) (b:Bool),(loopN (dJ n r e (f,l,a4,u)) n ((0:Int),o,s,t,([]:List aA),l,(p:Int),g)).bind (fun(_,_,A,O,P,Q,R,y,z)=>some (A,O,P,Q,R,y,z))=some (o,s,t,xs,l,(a:Int),b)∧Ans (many rd c p) p l.length g False (a - p) xs a b∧(b=false→dl cV xs≤1+2*(a - p)):=by
 cases g with
 | true=>
  obtain⟨m,rfl⟩: ∃q,n=q+1:=⟨n - 1,by omega⟩
  refine⟨[],p,true, ?_,⟨z36 _,C,id,(fun h=>by cases h),(fun q h=>by cases h),(fun h=>by cases h)⟩,(fun h=>by cases h)⟩
  simp only[loopN,dJ]; cases decide ((0:Int)<f)<;>rfl
 | false=>
  have J:c=f.toNat:=by rcases F with h | h; exact h; cases h
  obtain⟨r,xs,a,b,v,N,E,A⟩:=mT (body:=dJ n r e (f,l,a4,u)) (fun i d q b=>((i:Int),o,s,t,d,l,(q:Int),b)) (fun d a b r=> ∃j D,r=(j,D,o,s,t,d,l,(a:Int),b)) rd cV (fun _=>False) (c:=c) (L:=l.length)
   (fun i d q H B w=>by
    obtain⟨x,a,b,m,k,M,K⟩:=I (by omega) q w
    refine⟨x,a,b,m, ?_,M,K⟩
    have G:decide ((i:Int)<f)=true:=z11 (by omega)
    simp only[dJ,G,z16,z65,k,z8,oV,Ap 56 d _ (by omega) (by omega),aN (show i<4611686018427387904 by omega)])
   (fun i d q H B w=> .inl (by
    simp only[dJ]; cases decide ((i:Int)<f)<;>exact⟨_,rfl,_,_,rfl⟩))
   (fun d q B w=>by
    simp only[dJ,z9 (show ¬ (c:Int)<f by omega)]
    exact⟨_,rfl,_,_,rfl⟩) p false n C (by omega)
  obtain⟨j,D,rfl⟩:=N; have v:loopN (dJ n r e (f,l,a4,u)) n ((0:Int),o,s,t,([]:List aA),l,(p:Int),false)=_:=v; rw[v]; exact⟨xs,a,b,rfl,E.ill fun⟨_,_,h⟩=>h,fun h=>(A h).2⟩
theorem Oq{l:List Int}{d p a1 a2 a3 a4 a5:Nat}{g b1 b2 j o i:Bool}{a f r:Int}{b:List UInt8}{xs:List aA}(h1:Ans (nmX l p) p l.length g False 1 a a1 b1)(z:Ans (nmX l a1) a1 l.length b1 False 1 f a2 b2)(A:Ans (txX l a2) a2 l.length b2 False (1+b.length) b a3 j)(B:Ans (ctX l 20 a3) a3 l.length j False 1 r a4 o)(C:Ans (many (tH l d) r.toNat a4) a4 l.length o False (a5 - a4) xs a5 i)(D:i=false→dl cV xs≤1+2*(a5 - a4)):
  ∃m,Ans (tH l (d+1) p) p l.length g False m (aA.mk a f b xs) a5 i∧(i=false→cV (aA.mk a f b xs)+1≤2*m):=by
 have y:=C.map (fun e=>aA.mk a f b e)
 have x:=Ans.bind (Y:=fun(t:Int) q=>(many (tH l d) t.toNat q).map fun e=>(aA.mk a f b e.1,e.2)) B y
 have w:=Ans.bind (Y:=fun s q=>(ctX l 20 q).bind fun c=>(many (tH l d) c.1.toNat c.2).map fun e=>(aA.mk a f s e.1,e.2)) A x
 have v:=Ans.bind (Y:=fun m q=>(txX l q).bind fun s=>(ctX l 20 s.2).bind fun c=>(many (tH l d) c.1.toNat c.2).map fun e=>(aA.mk a m s.1 e.1,e.2)) z w
 have u:=Ans.bind (Y:=fun k q=>(nmX l q).bind fun m=>(txX l m.2).bind fun s=>(ctX l 20 s.2).bind fun c=>(many (tH l d) c.1.toNat c.2).map fun e=>(aA.mk k m.1 s.1 e.1,e.2)) h1 v
 refine⟨_,u,fun h=> ?_⟩
 have:=D h; rw[FE]; show 3+b.length+dl cV xs+1≤_; omega
theorem TT{α:Type}{p L:Nat}{c:Bool}{v a:Nat}{b:Bool}{x:α}(h:b=true)(h1:p≤a)(d:a≤L):Ans (none:Option (α×Nat)) p L c False v x a b:=by
 subst h; exact⟨h1,d,fun _=>rfl,(fun h=>by cases h),(fun q _ h=>by cases h),fun _ _=> .inl rfl⟩
theorem MA: ∀(d n:Nat) (l:List Int),Hy n l→2101+d<n→d≤10→ ∀(p:Nat),p≤l.length→ ∀a,Wu (tH l d) l.length l a p (bO n (11 - (d:Int)) l (p:Int) a)
 | d,0,l,H,h,_,p,v,a=>by omega
 | 0,n+1,l,H,h,I,p,v,a=>by
  have b:Hy n l:=⟨by omega,H.hl,H.hb⟩
  obtain⟨s,a1,b1,z,_,h1,_⟩:=gQ b p v a; obtain⟨t,a2,b2,A,_,i,_⟩:=gQ b a1 h1.2.1 b1; obtain⟨u,a3,x,B,_,j⟩:=tL b a2 i.2.1 b2; obtain⟨w,a4,f,c,e,F,D⟩:=vD b 20 a3 j.2.1 true; have c:bD n (20:Int) l (a3:Int) true=some ((w:Int),l,(a4:Int),f):=c; have o:=e.2.2.1 rfl; have:=F o; subst this o; obtain⟨xs,a5,y,C,k,E⟩:=Iq (n:=n) (l:=l) (by omega) (tH l 0) (bO n) (11 - ((0:Nat):Int)) 0 (by omega) (a4:Int) true s t u (fun h=>by omega) a4 e.2.1 true
  have r:=k.2.2.1 rfl; refine⟨.mk s t u xs,a5,y,0, ?_,TT r (by have:=h1.1; have:=i.1; have:=j.1; have:=e.1; have:=k.1; omega) k.2.1,fun h=>by rw[r]at h; cases h⟩
  rw[show bO (n+1)=dN n (bO n)from rfl]; unfold dN; simp only[z,A,B,c,z8,z11 (show(10:Int)<11 - ((0:Nat):Int)by omega),z16]
  exact C
 | d+1,n+1,l,H,h,I,p,v,a=>by
  have b:Hy n l:=⟨by omega,H.hl,H.hb⟩
  obtain⟨s,a1,b1,z,_,h1,_⟩:=gQ b p v a; obtain⟨t,a2,b2,A,_,i,_⟩:=gQ b a1 h1.2.1 b1; obtain⟨u,a3,x,B,_,j⟩:=tL b a2 i.2.1 b2; obtain⟨w,a4,f,c,e,F,D⟩:=vD b 20 a3 j.2.1 x; have c:bD n (20:Int) l (a3:Int) x=some ((w:Int),l,(a4:Int),f):=c; obtain⟨xs,a5,y,C,k,E⟩:=Iq (n:=n) (l:=l) (by omega) (tH l d) (bO n) (11 - ((d+1:Nat):Int)) w D (a4:Int) f s t u (fun _ q J=>by
   rw[Sz (by omega) (by omega),show 11 - ((d+1:Nat):Int)+1=11 - (d:Int)by omega]
   exact MA d n l b (by omega) (by omega) q J false) a4 e.2.1 f
  obtain⟨m,g,G⟩:=Oq h1 i j e k E; refine⟨.mk s t u xs,a5,y,m, ?_,g,G⟩
  rw[show bO (n+1)=dN n (bO n)from rfl]; unfold dN; simp only[z,A,B,c,z8,z9 (show ¬ (10:Int)<11 - ((d+1:Nat):Int)by omega),z12]
  exact C
theorem Lz: ∀(d n:Nat) (l:List Int),Hy n l→2101+d<n→d≤10→ ∀(p:Nat),p≤l.length→ ∀b,Wu (tH l d) l.length l b p (cO n (d:Int) l (p:Int) b)
 | d,0,l,H,h,_,p,J,b=>by omega
 | 0,n+1,l,H,h,T,p,J,b=>by
  have f:Hy n l:=⟨by omega,H.hl,H.hb⟩
  obtain⟨s,a1,b1,_,E,h1,_⟩:=gQ f p J b; obtain⟨t,a2,b2,_,F,o,_⟩:=gQ f a1 h1.2.1 b1; obtain⟨u,a3,C,_,G,r⟩:=tL f a2 o.2.1 b2; obtain⟨e,a4,v,_,I,Q,_⟩:=gQ f a3 r.2.1 C; obtain⟨xs,a5,D,w,i,P⟩:=Db (n:=n) (l:=l) (by omega) (tH l 0) (cO n) ((0:Nat):Int) 0 e (by omega) (.inr rfl) (a4:Int) v s t u (fun h=>by omega) a4 Q.2.1 true (.inr rfl)
  have j:=i.2.2.1 rfl; refine⟨.mk s t u xs,a5,D,0, ?_,TT j (by have:=h1.1; have:=o.1; have:=r.1; have:=Q.1; have:=i.1; omega) i.2.1,fun h=>by rw[j]at h; cases h⟩
  rw[show cO (n+1)=fU n (cO n)from rfl]; unfold fU; simp only[E,F,G,I,z8,z11 (show((0:Nat):Int)<1 by omega),z16]
  exact w
 | d+1,n+1,l,H,h,T,p,J,b=>by
  have f:Hy n l:=⟨by omega,H.hl,H.hb⟩
  obtain⟨s,a1,b1,_,E,h1,_⟩:=gQ f p J b; obtain⟨t,a2,b2,_,F,o,_⟩:=gQ f a1 h1.2.1 b1; obtain⟨u,a3,C,_,G,r⟩:=tL f a2 o.2.1 b2; obtain⟨e,a4,v,_,I,⟨V,M,W,X,N,Y⟩,_⟩:=gQ f a3 r.2.1 C; have A:cO (n+1)=fU n (cO n):=rfl; have z: ∀x:Int,(bif decide (((d+1:Nat):Int)<(1:Int))then some true else(aT n x (0:Int) (20:Int)).bind fun c=>some (!c))=some (!(decide (0≤x)&&decide (x≤20))):=fun x=>by
   rw[z9 (by omega),z12,mU]; rfl
  by_cases B:0≤e∧e≤((20:Nat):Int)
  ·have K:Ans (ctX l 20 a3) a3 l.length C False 1 e a4 v:=by
    refine⟨V,M,W,X,fun q k a=> ?_,fun k a=> ?_⟩
    ·obtain⟨x,U,R⟩:=z14.1 a
     split at R<;>cases R
     exact N _ k U
    ·cases y:nmX l a3 with
     | none=>exact Y k y
     | some x=>
      obtain⟨O,rfl,rfl⟩:=N x k y; unfold ctX at a; rw[y,z8, ←O,z20 B]at a; cases a
   obtain⟨xs,a5,D,w,i,P⟩:=Db (n:=n) (l:=l) (by omega) (tH l d) (cO n) ((d+1:Nat):Int) e.toNat e (by omega) (.inl rfl) (a4:Int) v s t u (fun _ q a=>by
    rw[Sz (by omega) (by omega),show((d+1:Nat):Int) - 1=(d:Int)by omega]
    exact Lz d n l f (by omega) (by omega) q a false) a4 M v (.inl rfl)
   obtain⟨m,g,S⟩:=Oq h1 o r K i P; refine⟨.mk s t u xs,a5,D,m, ?_,g,S⟩
   rw[A]; unfold fU; simp only[E,F,G,I,z8,z,z11 B.1,z11 (show e≤20 from B.2),z86,z38,z12]; exact w
  ·have L:(!(decide (0≤e)&&decide (e≤20)))=true:=by
    cases h:(decide (0≤e)&&decide (e≤20))with
    | false=>rfl
    | true=>simp only[z7,z26]at h; exact absurd h B
   obtain⟨xs,a5,D,w,i,P⟩:=Db (n:=n) (l:=l) (by omega) (tH l 0) (cO n) ((d+1:Nat):Int) 0 e (by omega) (.inr rfl) (a4:Int) v s t u (fun h=>by omega) a4 M true (.inr rfl)
   have j:=i.2.2.1 rfl; subst j; have y: ∀q,b=false→tH l (d+1) p=some q→False:=fun q k a=>by
    subst k; simp only[tH,tR]at a; obtain⟨O,r1,a⟩:=z14.1 a; obtain⟨s1,rfl,rfl⟩:=h1.2.2.2.2.1 O rfl r1; obtain⟨Z,r2,a⟩:=z14.1 a; obtain⟨s2,rfl,rfl⟩:=o.2.2.2.2.1 Z rfl r2; obtain⟨q3,r3,a⟩:=z14.1 a; obtain⟨s3,rfl,rfl⟩:=r.2.2.2.2.1 q3 rfl r3; obtain⟨q4,r4,a⟩:=z14.1 a; obtain⟨s4,rfl,rfl⟩:=N q4 rfl r4; rw[←s4,z15 B]at a; cases a
   refine⟨.mk s t u xs,a5,true,0, ?_,⟨by have:=h1.1; have:=o.1; have:=r.1; have:=i.1; omega,i.2.1,fun _=>rfl,(fun h=>by cases h),fun q k a=>(y q k a).elim,fun _ _=> .inl rfl⟩,(fun h=>by cases h)⟩
   rw[A]; unfold fU; simp only[E,F,G,I,z8,z,L,z16]; exact w
def BW(l:List Int):Option ((List aF×List aA)×Nat):=(ctX l 12 0).bind fun n=>(many (fnX l) n.1.toNat n.2).bind fun fs=>(ctX l 2000 fs.2).bind fun m=>(many (tH l 10) m.1.toNat m.2).map fun ps=>((fs.1,ps.1),ps.2)
theorem Sl{l:List Int}(c:l.length<1099511627776)(b: ∀x∈l,0≤x∧x<256){fs:List aF}{ps:List aA}{a:Nat}(h:BW l=some ((fs,ps),a)):Seg l 0 a (DI fs ps)∧fs.length≤12∧ps.length≤2000:=by
 unfold BW at h; rw[tR]at h; obtain⟨q,h1,h⟩:=z14.1 h; split at h
 ·rename_i u
  obtain⟨r,k,h⟩:=z14.1 h; rw[tR]at h; obtain⟨s,m,h⟩:=z14.1 h; split at h
  ·rename_i p
   obtain⟨t,o,h⟩:=z23.1 h; cases h; have d:=uE c b (z79 _) h1; obtain⟨e,v⟩:=Seg.many (XZ c b) _ _ _ _ d.2.1 k; have f:=uE c b e.2.1 m; obtain⟨j,w⟩:=Seg.many (Om c b 10) _ _ _ _ f.2.1 o; have g:(r.1.length:Int)=q.1:=by omega
   have i:(t.1.length:Int)=s.1:=by omega
   have:=d.app (e.app (f.app j)); rw[←g, ←i]at this; exact⟨this,by omega,by omega⟩
  ·cases h
 ·cases h
theorem QU{n:Nat}{l:List Int}(H:Hy n l)(c:Nat)(E:c≤12)(a4:Int)(v:Bool)(p:Nat)(B:p≤l.length)(e:Bool):
  ∃(j:Int) (t:Bool) (xs:List aF) (a:Nat) (b:Bool),loopN (dQ n ((c:Int),l,a4,v)) n ((0:Int),l,(p:Int),e,([]:List aF),([]:List aA))=some (j,t,l,(a:Int),b,xs,[])∧Ans (many (fnX l) c p) p l.length e False (a - p) xs a b∧(b=false→dl wFn xs≤1+2*(a - p)):=by
 have hn:=H.n0; have f: ∀(i:Nat) (d:List aF) (q:Nat) (e:Bool),i<c→d.length=i→q≤l.length→ ∃(x:aF) (a:Nat) (b:Bool) (m:Nat),dQ n ((c:Int),l,a4,v) ((i:Int),l,(q:Int),e,d,([]:List aA))=some (.inl (((i+1:Nat):Int),l,(a:Int),b,d++[x],[]))∧Ans (fnX l q) q l.length e False m x a b∧(b=false→wFn x+1≤2*m):=fun i d q e w o g=>by
  obtain⟨x,a,b,m,k,s,y⟩:=VI H q g e; refine⟨x,a,b,m, ?_,s,y⟩
  have u:decide ((i:Int)<(c:Int))=true:=z11 (by omega)
  simp only[dQ,u,z16,k,z8,AK,Ap 56 d _ (by omega) (by omega),aN (show i<4611686018427387904 by omega)]
 obtain⟨r,xs,a,b,z,C,A,D⟩:=mT (body:=dQ n ((c:Int),l,a4,v)) (fun i d q b=>((i:Int),l,(q:Int),b,d,([]:List aA))) (fun d a b r=> ∃j t,r=(j,t,l,(a:Int),b,d,([]:List aA))) (fnX l) wFn (fun _=>False) (c:=c) (L:=l.length)
  (fun i d q w o g=>f i d q false w o g)
  (fun i d q w o g=>by
   by_cases u:i<c
   ·obtain⟨x,a,b,m,k,s,y⟩:=f i d q true u o g
    obtain rfl:=s.2.2.1 rfl; exact .inr ⟨u,x,a,s.1,s.2.1,k⟩
   ·refine .inl ?_
    simp only[dQ,z9 (show ¬ (i:Int)<(c:Int)by omega),z12]
    exact⟨_,rfl,_,_,rfl⟩)
  (fun d q o g=>by
   simp only[dQ,aO,z12]; exact⟨_,rfl,_,_,rfl⟩) p e n B (by omega)
 obtain⟨j,t,rfl⟩:=C; exact⟨j,t,xs,a,b,z,A.ill fun⟨_,_,h⟩=>h,fun h=>(D h).2⟩
theorem NE{n:Nat}{l:List Int}(H:Hy n l)(C:2200<n)(fs:List aF)(c:Nat)(D:c≤2000)(a4:Int)(g:Bool)(p:Nat)(w:p≤l.length)(e:Bool):
  ∃(j:Int) (xs:List aA) (a:Nat) (b:Bool),loopN (eM n ((c:Int),l,a4,g)) n ((0:Int),l,(p:Int),e,fs,([]:List aA))=some (j,l,(a:Int),b,fs,xs)∧Ans (many (tH l 10) c p) p l.length e False (a - p) xs a b∧(b=false→dl cV xs≤1+2*(a - p)):=by
 have hn:=H.n0
 obtain⟨r,xs,a,b,s,A,t,B⟩:=mT (body:=eM n ((c:Int),l,a4,g)) (fun i d q b=>((i:Int),l,(q:Int),b,fs,d)) (fun d a b r=> ∃j,r=(j,l,(a:Int),b,fs,d)) (tH l 10) cV (fun _=>False) (c:=c) (L:=l.length)
  (fun i d q v o f=>by
   obtain⟨x,a,b,m,k,z,y⟩:=MA 10 n l H (by omega) (by omega) q f false
   refine⟨x,a,b,m, ?_,z,y⟩
   have u:decide ((i:Int)<(c:Int))=true:=z11 (by omega)
   have k:bO n (1:Int) l (q:Int) false=_:=k; simp only[eM,u,z16,z12,k,z8,oV,Ap 56 d _ (by omega) (by omega),aN (show i<4611686018427387904 by omega)])
  (fun i d q v o f=> .inl (by
   simp only[eM]; cases decide ((i:Int)<(c:Int))<;>exact⟨_,rfl,_,rfl⟩))
  (fun d q o f=>by
   simp only[eM,aO,z12]; exact⟨_,rfl,_,rfl⟩) p e n w (by omega)
 obtain⟨j,rfl⟩:=A; exact⟨j,xs,a,b,s,t.ill fun⟨_,_,h⟩=>h,fun h=>(B h).2⟩
theorem QT{n:Nat}{l:List Int}(H:Hy n l)(v:Int)(c:Nat)(E:c=(min v 13).toNat)(a4:Int)(s:Bool)(p:Nat)(z:p≤l.length)(e:Bool):
  ∃(j:Int) (f:Bool) (xs:List aF) (a:Nat) (b:Bool),loopN (eI n (v,l,a4,s)) n ((0:Int),([]:List aF),([]:List aA),l,(p:Int),e)=some (j,f,xs,[],l,(a:Int),b)∧Ans (many (fnX l) c p) p l.length e (∃x∈xs,Tn x) (a - p) xs a b∧(b=false→xs.length=c∧dl wFn xs≤1+2*(a - p)):=by
 have hn:=H.n0
 obtain⟨r,xs,a,b,u,C,w,D⟩:=mT (body:=eI n (v,l,a4,s)) (fun i d q b=>((i:Int),d,([]:List aA),l,(q:Int),b)) (fun d a b r=> ∃j f,r=(j,f,d,([]:List aA),l,(a:Int),b)) (fnX l) wFn Tn (c:=c) (L:=l.length)
  (fun i d q y t o=>by
   obtain⟨x,a,b,m,k,B,A⟩:=VG H q o false; refine⟨x,a,b,m, ?_,B,A⟩
   have g:decide ((i:Int)<v)=true:=z11 (by omega)
   have h:decide ((i:Int)<13)=true:=z11 (by omega)
   simp only[eI,g,h,z16,z65,k,z8,AK,Ap 56 d _ (by omega) (by omega),aN (show i<4611686018427387904 by omega)])
  (fun i d q y t o=> .inl (by
   simp only[eI]; cases decide ((i:Int)<v)<;>cases decide ((i:Int)<13)<;>exact⟨_,rfl,_,_,rfl⟩))
  (fun d q t o=>by
   simp only[eI]; by_cases g:(c:Int)<v
   ·rw[z9 (show ¬ (c:Int)<13 by omega)]
    cases decide ((c:Int)<v)<;>exact⟨_,rfl,_,_,rfl⟩
   ·rw[z9 g]
    exact⟨_,rfl,_,_,rfl⟩) p e n z (by omega)
 obtain⟨j,f,rfl⟩:=C; exact⟨j,f,xs,a,b,u,w,D⟩
theorem ND{n:Nat}{l:List Int}(H:Hy n l)(F:2200<n)(fs:List aF)(v:Int)(c:Nat)(G:c=(min v 2001).toNat)(a4:Int)(t:Bool)(p:Nat)(A:p≤l.length)(e:Bool):
  ∃(j:Int) (f:Bool) (xs:List aA) (a:Nat) (b:Bool),loopN (eH n (v,l,a4,t)) n ((0:Int),fs,([]:List aA),l,(p:Int),e)=some (j,f,fs,xs,l,(a:Int),b)∧Ans (many (tH l 10) c p) p l.length e False (a - p) xs a b∧(b=false→xs.length=c∧dl cV xs≤1+2*(a - p)):=by
 have hn:=H.n0
 obtain⟨r,xs,a,b,w,D,y,E⟩:=mT (body:=eH n (v,l,a4,t)) (fun i d q b=>((i:Int),fs,d,l,(q:Int),b)) (fun d a b r=> ∃j f,r=(j,f,fs,d,l,(a:Int),b)) (tH l 10) cV (fun _=>False) (c:=c) (L:=l.length)
  (fun i d q z u s=>by
   obtain⟨x,a,b,m,k,C,B⟩:=Lz 10 n l H (by omega) (by omega) q s false
   refine⟨x,a,b,m, ?_,C,B⟩
   have g:decide ((i:Int)<v)=true:=z11 (by omega)
   have o:decide ((i:Int)<2001)=true:=z11 (by omega)
   have k:cO n (10:Int) l (q:Int) false=_:=k; simp only[eH,g,o,z16,z65,k,z8,oV,Ap 56 d _ (by omega) (by omega),aN (show i<4611686018427387904 by omega)])
  (fun i d q z u s=> .inl (by
   simp only[eH]; cases decide ((i:Int)<v)<;>cases decide ((i:Int)<2001)<;>exact⟨_,rfl,_,_,rfl⟩))
  (fun d q u s=>by
   simp only[eH]; by_cases g:(c:Int)<v
   ·rw[z9 (show ¬ (c:Int)<2001 by omega)]
    cases decide ((c:Int)<v)<;>exact⟨_,rfl,_,_,rfl⟩
   ·rw[z9 g]
    exact⟨_,rfl,_,_,rfl⟩) p e n A (by omega)
 obtain⟨j,f,rfl⟩:=D; exact⟨j,f,xs,a,b,w,y.ill fun⟨_,_,h⟩=>h,E⟩
def tY(fs:List aF)(ps:List aA):List Int:=bif wS fs ps&&ps.all (yO 400)then DI fs ps else []
theorem Ig: ∀ {a b:List Int} {s:List UInt8},qB a=some s→qB b=some s→a=b
 | [],[],s,_,_=>rfl
 | [],y::b,s,h1,c=>by
  cases h1; simp only[qB]at c; split at c
  ·obtain⟨t,_,d⟩:=z23.1 c
   cases d
  ·cases c
 | x::a,[],s,h1,c=>by
  cases c; simp only[qB]at h1; split at h1
  ·obtain⟨t,_,d⟩:=z23.1 h1
   cases d
  ·cases h1
 | x::a,y::b,s,h1,c=>by
  simp only[qB]at h1 c; split at h1
  ·rename_i g
   split at c
   ·rename_i h
    obtain⟨t,d,rfl⟩:=z23.1 h1; obtain⟨u,f,e⟩:=z23.1 c; simp only[Tg]at e; obtain⟨e,rfl⟩:=e; have:=Ig d f; subst this; have:=congrArg UInt8.toNat e; simp only[z150]at this; congr 1; omega
   ·cases c
  ·cases h1
theorem JP: ∀(k x:Nat),x<128 ^ (k+1)→ ∀e∈Cx k x,0≤e∧e<256
 | 0,x,h,e,a=>by
  simp only[Cx,z68]at a; subst a; simp only[z29,Nat.pow_one]at h; omega
 | k+1,x,h,e,a=>by
  unfold Cx at a; split at a
  ·simp only[z68]at a; omega
  ·rcases Qh.1 a with rfl | a
   ·have:=RG x (show 0<128 by omega); omega
   ·refine JP k (x / 128) ?_ e a
    rw[WQ]at h; exact z144 (by rw[RH]; exact h)
theorem jD(v:Int): ∀e∈uA v,0≤e∧e<256:=by
 have a:=Dm v; have hz:=OC a.1 a.2; exact JP 6 _ (by omega)
theorem Ar(s:List UInt8): ∀e∈BR s,0≤e∧e<256:=fun e a=>by
 rcases z90.1 a with h | h
 ·exact jD _ e h
 ·obtain⟨c,_,rfl⟩:=z49.1 h
  have:=c.toNat_lt; omega
theorem iY{a b:List Int}(c: ∀e∈a,0≤e∧e<256)(d: ∀e∈b,0≤e∧e<256): ∀e∈a++b,0≤e∧e<256:=fun e f=>(z90.1 f).elim (c e) (d e)
theorem Kg{α:Type}{f:α→List Int}(l:List α)(h: ∀a, ∀e∈f a,0≤e∧e<256): ∀e∈l.flatMap f,0≤e∧e<256:=fun e c=>by
 obtain⟨a,_,b⟩:=List.mem_flatMap.1 c; exact h a e b
mutual
theorem EE: ∀(a:aA), ∀e∈qY a,0≤e∧e<256
 | .mk a b s l=>iY (jD _) (iY (jD _) (iY (Ar _) (iY (jD _) (Bf l))))
theorem Bf: ∀(l:List aA), ∀e∈tD l,0≤e∧e<256
 | []=>fun e a=>by cases a
 | x::r=>iY (EE x) (Bf r)
end
theorem zL(fs:List aF)(ps:List aA): ∀e∈tY fs ps,0≤e∧e<256:=by
 unfold tY; cases wS fs ps&&ps.all (yO 400)with
 | false=>intro e a; cases a
 | true=>exact iY (jD _) (iY (Kg _ fun f=>iY (Ar _) (iY (jD _) (iY (jD _) (iY (jD _) (Kg _ fun x=>iY (jD _) (iY (jD _) (iY (Ar _) (jD _)))))))) (iY (jD _) (Kg _ EE)))
theorem Ru{fs:List aF}{ps:List aA}(h:12<fs.length∨2000<ps.length∨ ∃f∈fs,Tn f):tY fs ps=[]:=by
 have a:wS fs ps=false:=by
  unfold wS; rcases h with h | h | ⟨f,b,h⟩
  ·rw[z11 (show(12:Int)<(fs.length:Int)by omega)]; rfl
  ·rw[z11 (show(2000:Int)<(ps.length:Int)by omega),Qf]; rfl
  ·cases hA:sV (fun j f=>decide (oN fs f.f0=(j:Int))&&fnI fs ps f) 0 fs with
   | false=>rw[z58]
   | true=>
    obtain⟨j,c⟩:=List.mem_iff_getElem?.1 b; have:=(oE _ _ _).1 hA j f c; simp only[z7,fnI,yE,z26]at this; exact absurd ⟨by omega,by omega⟩ h
 unfold tY; rw[a]; rfl
theorem TX(a b:List Int)(f: ∀e∈a,0≤e∧e<256)(g: ∀e∈b,0≤e∧e<256):((qB a).bind fun v=>(qB b).bind fun w=>some (decide (v=w)))=some (decide (a=b)):=by
 obtain⟨s,d,i⟩:=vH f; obtain⟨t,c,j⟩:=vH g; rw[d,c,z8,z8]; congr 1
 refine decide_eq_decide.2 ⟨fun h=> ?_,fun h=> ?_⟩
 ·subst h; exact Ig d c
 ·subst h; rw[d]at c; cases c; rfl
def FN(l:List Int):List aF×List aA×Bool:=match BW l with
 | some (c,_)=>bif !decide (tY c.1 c.2=[])&&decide (tY c.1 c.2=l)then(c.1,c.2,true)else([],[],false)
 | none=>([],[],false)
theorem XX{n:Nat}{l:List Int}(H:Hy n l)(M:2*l.length+3000<n)(J:n≤1099511627776)(N:l.length≤1000000000):mF n l=some (FN l)∧(dl wFn (FN l).1+dl cV (FN l).2.1≤2*l.length+2):=by
 obtain⟨w,a1,b1,k,h1,_,A⟩:=vD H 12 0 (z79 _) false; obtain⟨j,O,fs,a2,b2,C,t,y⟩:=QU H w A (a1:Int) b1 a1 h1.2.1 b1; obtain⟨x,a3,a,o,f,_,B⟩:=vD H 2000 a2 t.2.1 b2; obtain⟨i,ps,a4,u,D,g,z⟩:=NE H (by omega) fs x B (a3:Int) a a3 f.2.1 a
 have k:bD n (12:Int) l (0:Int) false=some ((w:Int),l,(a1:Int),b1):=k; have o:bD n (2000:Int) l (a2:Int) b2=some ((x:Int),l,(a3:Int),a):=o; have I:=g.map (fun e=>(fs,e))
 have G:=Ans.bind (Y:=fun(m:Int) q=>(many (tH l 10) m.toNat q).map fun ps=>((fs,ps.1),ps.2)) f I
 have F:=Ans.bind (Y:=fun fs q=>(ctX l 2000 q).bind fun m=>(many (tH l 10) m.1.toNat m.2).map fun ps=>((fs,ps.1),ps.2)) t G
 have v:Ans (BW l) 0 l.length false False _ (fs,ps) a4 u:=Ans.bind (β:=List aF×List aA) (Y:=fun(n:Int) q=>(many (fnX l) n.toNat q).bind fun(fs:List aF×Nat)=>(ctX l 2000 fs.2).bind fun m=>(many (tH l 10) m.1.toNat m.2).map fun(ps:List aA×Nat)=>((fs.1,ps.1),ps.2)) h1 F
 unfold mF; simp only[k,C,o,D,z8]; unfold FN; cases hX:BW l with
 | none=>
  have b:u=true:=by
   rcases v.2.2.2.2.2 rfl hX with h | h
   ·exact h
   ·exact h.elim
  subst b; exact⟨rfl,by simp only[dl]; omega⟩
 | some q=>
  obtain⟨⟨E,K⟩,L⟩:=q; obtain⟨r1,rfl,rfl⟩:=v.2.2.2.2.1 _ rfl hX; cases r1; have c:a=false:=by
   cases b:a with
   | false=>rfl
   | true=>exact absurd (g.2.2.1 b) (by simp)
  have p:b2=false:=by
   cases b:b2 with
   | false=>rfl
   | true=>rw[f.2.2.1 b]at c; cases c
  have y:=y p; have z:=z rfl; have u1:=h1.1; have P:=t.1; have Q:=f.1; have R:=g.1; have S:=g.2.1; have r:=CH n J fs ps (by omega) (by omega) (by omega)
  have r:cL n fs ps=some (tY fs ps):=r; simp only[r,z8,z12]; have d:qH n (tY fs ps) l=some (decide (tY fs ps=l)):=TX _ _ (zL fs ps) H.hb; rw[d]; by_cases hz:tY fs ps=[]
  ·rw[z11 (show((tY fs ps).length:Int)=0 by rw[hz]; rfl),z11 hz]
   exact⟨rfl,by simp only[z16,z8,z38,z97,z12,dl]; omega⟩
  ·have s: ¬ ((tY fs ps).length:Int)=0:=fun h=>hz (z72.1 (by omega))
   rw[z9 s,z9 hz]; cases decide (tY fs ps=l)with
   | false=>exact⟨rfl,by simp only[z65,z58,z12,dl]; omega⟩
   | true=>exact⟨rfl,by simp only[z65,z84,z16]; omega⟩
theorem ER{n:Nat}{l:List Int}(H:Hy n l)(h2:2*l.length+3000<n)(h3:n≤1099511627776)(h4:l.length≤1000000000):mC n l=some (FN l):=by
 obtain⟨b,a1,b1,_,N,h1,_⟩:=gQ H 0 (z79 _) false; obtain⟨j,j',fs,a2,b2,e2,u,w2⟩:=QT H b _ rfl (a1:Int) b1 a1 h1.2.1 b1; obtain⟨d,a3,M,_,e3,v,_⟩:=gQ H a2 u.2.1 b2; obtain⟨i,i',ps,a4,B,e4,g,w4⟩:=ND H (by omega) fs d _ rfl (a3:Int) M a3 v.2.1 M
 have N:bH n l (0:Int) false=some (b,l,(a1:Int),b1):=N; have c: ∀ {x y:Bool},(x=true→y=true)→y=false→x=false:=fun {x y} h K=>by
  cases x with
  | false=>rfl
  | true=>rw[h rfl]at K; cases K
 /- what is not right -/
 let A:Prop:=b≠(fs.length:Int)∨d≠(ps.length:Int)∨12<fs.length∨2000<ps.length∨ ∃f∈fs,Tn f
 have g4:Ans (if 0≤d∧d≤((2000:Nat):Int)then(many (tH l 10) d.toNat a3).map fun ps=>((fs,ps.1),ps.2)else none) a3 l.length M A (a4 - a3) (fs,ps) a4 B:=by
  by_cases I:0≤d∧d≤((2000:Nat):Int)
  ·rw[z20 I]
   have e:d.toNat=(min d 2001).toNat:=by omega
   rw[e]; exact(g.map (fun e=>(fs,e))).ill (fun h=>h.elim)
  ·rw[z15 I]
   obtain⟨p1,p2,p3,p4,p5,p6⟩:=g; refine⟨p1,p2,p3,p4,(fun q _ h=>by cases h),fun _ _=> ?_⟩
   cases p:B with
   | true=>exact .inl rfl
   | false=>
    have:=(w4 p).1; refine .inr (.inr ?_)
    by_cases h:d<0
    ·exact .inl (by omega)
    ·exact .inr (.inr (.inl (by omega)))
 have g3:=Ans.bind (Y:=fun(m:Int) q=>if 0≤m∧m≤((2000:Nat):Int)then(many (tH l 10) m.toNat q).map fun ps=>((fs,ps.1),ps.2)else none) v g4
 have g2:Ans (if 0≤b∧b≤((12:Nat):Int)then(many (fnX l) b.toNat a1).bind fun fs=>(nmX l fs.2).bind fun m=>if 0≤m.1∧m.1≤((2000:Nat):Int)then(many (tH l 10) m.1.toNat m.2).map fun ps=>((fs.1,ps.1),ps.2)else none else none) a1 l.length b1 A (a4 - a1) (fs,ps) a4 B:=by
  have F:a1≤a4:=by have:=u.1; have:=v.1; have:=g.1; omega
  have U:B=true∨ ∀h:b2=true,False:=by
   cases p:B with
   | true=>exact .inl rfl
   | false=>exact .inr fun h=>by rw[c v.2.2.1 (c g.2.2.1 p)]at h; cases h
  by_cases I:0≤b∧b≤((12:Nat):Int)
  ·rw[z20 I]
   have e:b.toNat=(min b 13).toNat:=by omega
   rw[e]; refine⟨F,g.2.1,fun h=>g.2.2.1 (v.2.2.1 (u.2.2.1 h)),fun _=>by omega,fun q p C=> ?_,fun p C=> ?_⟩
   ·obtain⟨x,J,K⟩:=z14.1 C
    obtain⟨r1,r2,Z⟩:=u.2.2.2.2.1 x p J; subst r2 Z; rw[←r1]at K; exact g3.2.2.2.2.1 q rfl K
   ·cases J:many (fnX l) (min b 13).toNat a1 with
    | none=>
     rcases u.2.2.2.2.2 p J with h | h
     ·exact .inl (g.2.2.1 (v.2.2.1 h))
     ·exact .inr (.inr (.inr (.inr (.inr h))))
    | some x=>
     obtain⟨r1,r2,Z⟩:=u.2.2.2.2.1 x p J; subst r2 Z; rw[J,z8, ←r1]at C; exact g3.2.2.2.2.2 rfl C
  ·rw[z15 I]
   refine⟨F,g.2.1,fun h=>g.2.2.1 (v.2.2.1 (u.2.2.1 h)),fun _=>by omega,(fun q _ h=>by cases h),fun _ _=> ?_⟩
   rcases U with h | h
   ·exact .inl h
   ·have k:b2=false:=by
     cases p:b2 with
     | false=>rfl
     | true=>exact(h p).elim
    have:=(w2 k).1; by_cases h:b<0
    ·exact .inr (.inl (by omega))
    ·exact .inr (.inr (.inr (.inl (by omega))))
 have D:=Ans.bind (Y:=fun(n:Int) q=>if 0≤n∧n≤((12:Nat):Int)then(many (fnX l) n.toNat q).bind fun fs=>(nmX l fs.2).bind fun m=>if 0≤m.1∧m.1≤((2000:Nat):Int)then(many (tH l 10) m.1.toNat m.2).map fun ps=>((fs.1,ps.1),ps.2)else none else none) h1 g2
 have eX:BW l=(nmX l 0).bind fun n=>if 0≤n.1∧n.1≤((12:Nat):Int)then(many (fnX l) n.1.toNat n.2).bind fun fs=>(nmX l fs.2).bind fun m=>if 0≤m.1∧m.1≤((2000:Nat):Int)then(many (tH l 10) m.1.toNat m.2).map fun ps=>((fs.1,ps.1),ps.2)else none else none:=by
  unfold BW; simp only[tR]
 have D:Ans (BW l) 0 l.length false A _ (fs,ps) a4 B:=eX ▸ D; unfold mC; simp only[N,e2,e3,e4,z8]; cases B with
 | true=>
  unfold FN; cases hX:BW l with
  | none=>rfl
  | some q=>exact absurd (D.2.2.2.2.1 _ rfl hX).2.2 (by simp)
 | false=>
  have P:=c g.2.2.1 rfl; have k:=c v.2.2.1 P; have E:=c u.2.2.1 k; have w2:=w2 k; have w4:=w4 rfl; have u1:=h1.2.2.2.1 E; have u2:=u.1; have u3:=v.1; have u4:=g.1; have u5:=g.2.1; obtain⟨r,r1,r2,_⟩:=Mb n h3 fs ps (by omega) (by omega) (by omega)
  have hp:cL n fs ps=some (tY fs ps):=CH n h3 fs ps (by omega) (by omega) (by omega)
  have hs:iH n fs ps=some (tY fs ps):=by rw[r2, ←r1,hp]
  have o:=TX (tY fs ps) l (zL fs ps) H.hb; have Q:((qB (tY fs ps)).bind fun v94=>(qB l).bind fun v96=>some (!decide (v94=v96)))=some (!decide (tY fs ps=l)):=by
   obtain⟨s,s1,_⟩:=vH (zL fs ps); obtain⟨t,L,_⟩:=vH H.hb; rw[s1,L,z8,z8]at o ⊢; simp only[z10]at o; rw[o]
  have G: ∀q:List Int,q=[]→decide (q=l)=false:=fun q C=>by
   subst C; refine z9 fun h=> ?_
   subst h; simp only[z53]at u5; omega
  simp only[hs,z8,Q,z12]; have O: ∀(x y z w:Bool),((bif x then some true else bif y then some true else bif z then some true else some w).bind fun v98=>bif v98 then some (([]:List aF),([]:List aA),false)else some (fs,ps,true))=some (bif !(x||(y||(z||w)))then(fs,ps,true)else([],[],false)):=fun x y z w=>by cases x<;>cases y<;>cases z<;>cases w<;>rfl
  rw[O]; unfold FN; cases hX:BW l with
  | none=>
   have hi:A:=by
    rcases D.2.2.2.2.2 rfl hX with h | h
    ·cases h
    ·exact h
   have:(!(!decide ((a4:Int)=(l.length:Int))||(!decide (b=(fs.length:Int))||(!decide (d=(ps.length:Int))|| !decide (tY fs ps=l)))))=false:=by
    rcases hi with h | h | h
    ·rw[z9 h]; cases decide ((a4:Int)=(l.length:Int))<;>rfl
    ·rw[z9 h]; cases decide ((a4:Int)=(l.length:Int))<;>cases decide (b=(fs.length:Int))<;>rfl
    ·rw[G _ (Ru h)]; cases decide ((a4:Int)=(l.length:Int))<;>cases decide (b=(fs.length:Int))<;>cases decide (d=(ps.length:Int))<;>rfl
   rw[this]; rfl
  | some q=>
   obtain⟨⟨fs',ps'⟩,a'⟩:=q; obtain⟨s1,s2,s3⟩:=D.2.2.2.2.1 _ rfl hX; cases s1; simp only at s2; subst s2; have T:=Sl H.hl H.hb hX; have V:b=(fs.length:Int):=by
    have a:=hX; rw[eX]at a; obtain⟨X,L,a⟩:=z14.1 a; obtain⟨t2,t3,t4⟩:=h1.2.2.2.2.1 X rfl L; split at a
    ·rename_i S
     rw[←t2]at S; omega
    ·cases a
   have W:d=(ps.length:Int):=by
    have a:=hX; rw[eX]at a; obtain⟨X,L,a⟩:=z14.1 a; obtain⟨t2,t3,t4⟩:=h1.2.2.2.2.1 X rfl L; split at a
    ·obtain⟨q2,y1,a⟩:=z14.1 a
     rw[←t2, ←t3,show b.toNat=(min b 13).toNat by omega]at y1
     obtain⟨y2,y3,y4⟩:=u.2.2.2.2.1 q2 E y1; rw[←y3]at a; obtain⟨q3,z1,a⟩:=z14.1 a; obtain⟨z2,z3,z4⟩:=v.2.2.2.2.1 q3 k z1; split at a
     ·rename_i S
      rw[←z2]at S; omega
     ·cases a
    ·cases a
   rw[z11 V,z11 W]; simp only[z38,z39]; by_cases hz:tY fs ps=[]
   ·rw[G _ hz,z11 hz,z65,Qf]; rfl
   ·rw[z9 hz]
    by_cases R:tY fs ps=l
    ·have ha:a4=l.length:=by
      have h5:tY fs ps=DI fs ps:=by
       unfold tY at hz ⊢; cases hc:wS fs ps&&ps.all (yO 400)with
       | true=>rfl
       | false=>rw[hc]at hz; exact absurd rfl hz
      have h6:=KR T.1; rw[←h5,R]at h6; omega
     rw[z11 (show(a4:Int)=(l.length:Int)by omega),z11 R]; rfl
    ·rw[z9 R,z65,Qf]; rfl

def shp(a:Bool)(k m:Int)(s:List UInt8)(c b:Int):Bool:=
 bif decide (k=9)then(!a&&Qk k m s c)&&(decide (1≤b)&&decide (b≤6))
 else !decide (0<b)&&(Qk k m s c&&(bif a then !decide (6<k)else !(decide (k=3)&&decide (s=[95]))))
theorem NL(n:Nat)(k m:Int)(s:List UInt8)(l:List aB)(c:List aC)(a:Bool)(h:s.length<n)(hn:s.length<4611686018427387904):lW n k m s l c a=some (shp a k m s l.length c.length):=by
 unfold lW shp Qk; rw[zV n s h hn,Hc n s h hn,PG n s]; simp only[mU,z8]; generalize (l.length:Int)=ne; generalize (c.length:Int)=nc; by_cases h1:k=1
 ·subst h1
  cases decide (0<nc)<;>cases decide (0≤m)<;>cases decide (m≤1000000000000)<;>cases decide (s=[])<;>cases decide (ne=0)<;>cases a<;>rfl
 by_cases b:k=2
 ·subst b
  cases decide (0<nc)<;>cases decide (m=0)<;>cases gN s<;>cases decide (ne=0)<;>cases a<;>rfl
 by_cases d:k=3
 ·subst d
  cases decide (0<nc)<;>cases decide (m=0)<;>cases JY s<;>cases decide (ne=0)<;>cases a<;>cases decide (s=[95])<;>rfl
 by_cases e:k=4
 ·subst e
  cases decide (0<nc)<;>cases decide (m=0)<;>cases decide (s=[])<;>cases decide (ne≤20)<;>cases a<;>rfl
 by_cases f:k=5
 ·subst f
  cases decide (0<nc)<;>cases decide (m=0)<;>cases decide (s=[])<;>cases decide (ne≤20)<;>cases a<;>rfl
 by_cases g:k=6
 ·subst g
  cases decide (0<nc)<;>cases decide (m=0)<;>cases decide (s=[])<;>cases decide (2≤ne)<;>cases decide (ne≤6)<;>cases a<;>rfl
 by_cases i:k=7
 ·subst i
  cases decide (0<nc)<;>cases decide (m=0)<;>cases Mk s<;>cases decide (ne=2)<;>cases a<;>rfl
 by_cases j:k=8
 ·subst j
  cases decide (0<nc)<;>cases decide (m=0)<;>cases gN s<;>cases decide (ne≤4)<;>cases a<;>rfl
 by_cases o:k=9
 ·subst o
  cases decide (m=0)<;>cases decide (s=[])<;>cases decide (ne=1)<;>cases decide (1≤nc)<;>cases decide (nc≤6)<;>cases a<;>rfl
 rw[z9 h1,z9 b,z9 d,z9 e,z9 f,z9 g,z9 i,z9 j,z9 o]; cases decide (0<nc)<;>cases decide (m=0)<;>rfl
mutual
def xF:aB→List (List UInt8)
 | .mk k _ s l _=>bif decide (k=3)then(bif decide (s=[95])then []else [s])else sJ l
def sJ:List aB→List (List UInt8)
 | []=> []
 | x::r=>xF x++sJ r
end
theorem Wz(a:aB):xF a=bif decide (a.f0=3)then(bif decide (a.f2=[95])then []else [a.f2])else sJ a.f3:=by cases a; simp only[xF]; rfl
theorem Ie: ∀(a b:List aB),sJ (a++b)=sJ a++sJ b
 | [],b=>rfl
 | x::r,b=>by simp only[z91,sJ,Ie r b,z56]
theorem Pj(a:aB):sJ [a]=xF a:=by simp only[sJ,z78]
mutual
theorem Ls: ∀e,(xF e).length≤bR e
 | .mk k m s l c=>by
  have:=DX l; simp only[xF,bR]; cases decide (k=3)<;>cases decide (s=[95])<;>simp<;>omega
theorem DX: ∀l,(sJ l).length≤Ae l
 | []=>by simp [sJ]
 | x::r=>by have:=Ls x; have:=DX r; simp only[sJ,Ae,z19]; omega
end
mutual
def xE:aB→Nat
 | .mk _ _ _ l c=>1+yB l+LW c
def yB:List aB→Nat
 | []=>0
 | x::r=>xE x+yB r
def LW:List aC→Nat
 | []=>0
 | x::r=>OA x+LW r
def OA:aC→Nat
 | .two p x=>xE p+xE x
end
theorem Sw(a:aB):xE a=1+yB a.f3+LW a.f4:=by cases a; simp only[xE]; rfl
theorem Xh(a:aC):OA a=xE a.p+xE a.x:=by cases a; simp only[OA]; rfl
theorem Ib: ∀l,yB l=GD xE l
 | []=>rfl
 | x::r=>by simp only[yB,GD,Ib r]
theorem JT: ∀l,LW l=GD OA l
 | []=>rfl
 | x::r=>by simp only[LW,GD,JT r]
def xok:Nat→Bool→aB→Bool
 | 0,_,_=>false
 | d+1,a,e=>shp a e.f0 e.f1 e.f2 e.f3.length e.f4.length&&(e.f3.all (xok d a)&&e.f4.all (fun c=>Vq (xF c.p)&&(xok d true c.p&&xok d false c.x)))
def cok(d:Nat)(c:aC):Bool:=Vq (xF c.p)&&(xok d true c.p&&xok d false c.x)
theorem Ra(d:Nat)(a:Bool)(e:aB):xok (d+1) a e=(shp a e.f0 e.f1 e.f2 e.f3.length e.f4.length&&(e.f3.all (xok d a)&&e.f4.all (cok d))):=rfl

theorem PW{α:Type}(w:α→Nat): ∀(l:List α) (i:Nat),dl w (l.take i)≤dl w l
 | [],i=>by simp
 | a::r,0=>by simp only[WR,dl]; omega
 | a::r,i+1=>by have:=PW w r i; simp only[WZ,dl]; omega
theorem xN: ∀(n:Nat),n≤1099511627776→ ∀(a:aB),bR a<n→hH n a.f0 a.f1 a.f2 a.f3 a.f4=some (xF a)
 | 0,_,a,h=>by omega
 | n+1,hn,a,h=>by
  have o:=xN n (by omega)
  rw[AW,Wz]; unfold nF; rw[Ga,sN,qZ]at h; have f:=cK bR a.f3; cases decide (a.f0=3)with
  | true=>
   simp only[z16]; have c:dG 16 ([]:List (List UInt8)) [a.f2]=some [a.f2]:=pZ (by simp) (by simp [maxLen])
   rw[c]; cases decide (a.f2=[95])<;>rfl
  | false=>
   simp only[z12]; generalize a.f3=l at h f; have m:=Bz (body:=jU n (hH n) l) (fun i=>(sJ (l.take i),(i:Int))) (len:=l.length) (r:=(sJ l,(l.length:Int),false)) (fun i k=>by
    have d:l[i]? =some l[i]:=z13 k
    generalize l[i]=b at d; have p:=gI bR (z25 d); have e:sJ (l.take (i+1))=sJ (l.take i)++xF b:=by rw[←As d,Ie,Pj]
    have g:=DX (l.take (i+1)); have j:Ae (l.take (i+1))≤dl bR l:=by
     rw[sN]; exact PW bR l (i+1)
    rw[e,z19]at g; have c:dG 16 (sJ (l.take i)) (xF b)=some (sJ (l.take (i+1))):=by
     rw[e]; exact pZ (by omega) (by simp only[maxLen]; omega)
    simp only[jU,cX d,z16,bW,d,z8,o b (by omega),c,aN (show i<4611686018427387904 by omega)]) (by simp only[jU,aO,z12,Vj]) (n:=n) (by omega)
   refine(congrArg (fun q=>Option.bind q _) m).trans ?_
   rfl
def val2:Int⊕(Int×Int×Bool)→Int
 | .inl v=>v
 | .inr (v,_,_)=>v
theorem Lp: ∀(n:Nat),n≤1099511627776→ ∀(a:aB) (f:Bool) (d:Nat) (t:Int),d≤10→ -1≤t→t≤300→bR a<n→dD n a.f0 a.f1 a.f2 a.f3 a.f4 f (d:Int) t=some (tk (xok d f a) (xE a) t)
 | 0,_,a,f,d,t,L,t0,Q,h=>by omega
 | n+1,hn,a,f,d,t,L,t0,Q,h=>by
  have D:=Lp n (by omega)
  rw[AU]; unfold nD; rw[Ga,sN,qZ]at h; have M:=cK bR a.f3; have B:=cK cP a.f4; rw[NL n a.f0 a.f1 a.f2 a.f3 a.f4 f (by omega) (by omega)]
  have C:=Sw a; cases d with
  | zero=>
   rw[z11 (show((0:Nat):Int)<1 by omega)]
   have e:tk (xok 0 f a) (xE a) t= -1:=rfl; rw[e]; rfl
  | succ d=>
   rw[z9 (show ¬ ((d+1:Nat):Int)<1 by omega)]
   by_cases o:t<1
   ·rw[z11 o,TB _ _ (by omega)]; rfl
   rw[z9 o,Ra]; generalize xE a=q at C ⊢; simp only[z12,z8]; cases hs:shp f a.f0 a.f1 a.f2 a.f3.length a.f4.length with
   | false=>rfl
   | true=>
    simp only[z38,z12,z31]; generalize a.f3=l at h M C ⊢; generalize a.f4=c at h B C ⊢; have G:IntKind.wrap .i64 (((d+1:Nat):Int) - 1)=(d:Int):=by rw[wrap_i64 (by omega) (by omega)]; omega
    rw[wrap_i64 (n:=t - 1) (by omega) (by omega)]
    obtain⟨x,h1,H⟩:=zR (body:=fN n (dD n) f ((d+1:Nat):Int) l) l (xok d f) xE (fun t r=>r.1=t) (fun i b t j E F=>by
     have N:=gI bR (z25 j); have A:=cB j; left
     simp only[fN,cX j,z16,bW,j,z8,z11 E,G,D b f d t (by omega) (by omega) F (by omega),aN (show i<4611686018427387904 by omega)]) (fun i t o A=>⟨(t,(i:Int),false),by
      simp only[fN,z11 (show(i:Int)<(l.length:Int)by omega),z16,z8,z9 (show ¬ 0≤t by omega),z12],rfl⟩) (fun t=>⟨(t,(l.length:Int),false),by simp only[fN,aO,z12,z8],rfl⟩) l 0 (t - 1) n rfl (by omega) (by omega) (by omega) (by omega)
    have h1:loopN (fN n (dD n) f ((d+1:Nat):Int) l) n (t - 1,(0:Int))=some x:=h1; rw[h1]; obtain⟨x1,V,W⟩:=x; simp only at H; subst H; simp only[z8]; rw[Gg (xok d f) xE l (by omega), ←Ib]
    have j:=Tr (l.all (xok d f)) (yB l) (t - 1) (by omega)
    obtain⟨y,u,I⟩:=zR (body:=fM n (dD n) ((d+1:Nat):Int) c) c (cok d) OA (fun t r=>val2 r=t) (fun i b t m E F=>by
     have N:=gI cP (z25 m); have A:=cB m; have U:=DW b; have R:hH n b.f0 b.f1 b.f2 b.f3 b.f4=some (xF b.p):=xN n (by omega) b.p (by omega)
     have P:=Ls b.p; have S:dD n b.f0 b.f1 b.f2 b.f3 b.f4 true (d:Int) t=some (tk (xok d true b.p) (xE b.p) t):=D b.p true d t (by omega) (by omega) F (by omega)
     have w:=Tr (xok d true b.p) (xE b.p) t (by omega)
     have T:dD n b.f5 b.f6 b.f7 b.f8 b.f9 false (d:Int) (tk (xok d true b.p) (xE b.p) t)=some (tk (xok d false b.x) (xE b.x) (tk (xok d true b.p) (xE b.p) t)):=D b.x false d _ (by omega) w.1 (by omega) (by omega)
     have K:=Xh b; have O:=Sw b.p; unfold cok; simp only[fM,cX m,z16,bW,m,z8,z11 E,R,QJ n (xF b.p) (by omega) (by omega),G,S,T,aN (show i<4611686018427387904 by omega)]
     cases ho:Vq (xF b.p)with
     | false=>
      right
      exact⟨.inl (-1),rfl,rfl,by unfold tk; rfl⟩
     | true=>
      left
      simp only[z38,z12,z31]; by_cases g:0≤tk (xok d true b.p) (xE b.p) t
      ·rw[z11 g]
       simp only[z16,z8,z10,Sum.inl.injEq,z41,and_true]; unfold tk at g ⊢; cases hx:xok d true b.p with
       | false=>rw[hx]at g; simp at g
       | true=>
        rw[hx,z31]at g; simp only[z31]; by_cases z:(xE b.p:Int)≤t
        ·rw[z11 z,z16]
         by_cases k:(xE b.x:Int)≤t - xE b.p
         ·rw[z11 k,z11 (show(OA b:Int)≤t by omega)]
          cases xok d false b.x
          ·rfl
          ·simp only[z84,z16]; omega
         ·rw[z9 k,z9 (show ¬ (OA b:Int)≤t by omega)]
          cases xok d false b.x<;>rfl
        ·rw[z9 z]at g; simp at g
      ·rw[z9 g]
       have s:tk (xok d true b.p) (xE b.p) t= -1:=by omega
       simp only[z12,z8,z10,Sum.inl.injEq,z41,and_true]; rw[s]; unfold tk at g ⊢; cases hx:xok d true b.p with
       | false=>rfl
       | true=>
        rw[hx,z31]at g; by_cases z:(xE b.p:Int)≤t
        ·rw[z11 z,z16]at g; omega
        ·rw[z9 (show ¬ (OA b:Int)≤t by omega),z58]; rfl) (fun i t o A=>⟨.inr (t,(i:Int),false),by
      simp only[fM,z11 (show(i:Int)<(c.length:Int)by omega),z16,z8,z9 (show ¬ 0≤t by omega),z12],rfl⟩) (fun t=>⟨.inr (t,(c.length:Int),false),by simp only[fM,aO,z12,z8],rfl⟩) c 0 (tk (l.all (xok d f)) (yB l) (t - 1)) n rfl j.1 (by omega) (by omega) (by omega)
    have u:loopN (fM n (dD n) ((d+1:Nat):Int) c) n (tk (l.all (xok d f)) (yB l) (t - 1),(0:Int))=some y:=u; rw[u]; simp only[z8]; have J:some (val2 y)=some (tk (l.all (xok d f)&&c.all (cok d)) q t):=by
     rw[I]; congr 1
     by_cases g:0≤tk (l.all (xok d f)) (yB l) (t - 1)
     ·rw[Gg (cok d) OA c g, ←JT]
      unfold tk at g ⊢; cases hx:l.all (xok d f)with
      | false=>rw[hx]at g; simp at g
      | true=>
       rw[hx,z31]at g; simp only[z31]; by_cases z:(yB l:Int)≤t - 1
       ·rw[z11 z,z16]
        by_cases k:(LW c:Int)≤t - 1 - yB l
        ·rw[z11 k,z11 (show(q:Int)≤t by omega)]
         cases c.all (cok d)
         ·rfl
         ·simp only[z84,z16]; omega
        ·rw[z9 k,z9 (show ¬ (q:Int)≤t by omega)]
         cases c.all (cok d)<;>rfl
       ·rw[z9 z]at g; simp at g
     ·have s:tk (l.all (xok d f)) (yB l) (t - 1)= -1:=by omega
      rw[s,HD _ _ _ (by omega)]
      unfold tk at g ⊢; cases hx:l.all (xok d f)with
      | false=>rfl
      | true=>
       rw[hx,z31]at g; by_cases z:(yB l:Int)≤t - 1
       ·rw[z11 z,z16]at g; omega
       ·rw[z9 (show ¬ (q:Int)≤t by omega),z58]; rfl
    rw[←J]; rcases y with v | ⟨v,i,b⟩<;>rfl

def Gt{α:Type}(o:Option α)(Q:α→Prop):Prop:= ∃r,o=some r∧Q r
theorem Gt.pure{α:Type}{a:α}{Q:α→Prop}(h:Q a):Gt (some a) Q:=⟨a,rfl,h⟩
theorem Gt.bind{α β:Type}{o:Option α}{f:α→Option β}{P:α→Prop}{Q:β→Prop}(h:Gt o P)(c: ∀r,P r→Gt (f r) Q):Gt (o.bind f) Q:=by
 obtain⟨r,rfl,a⟩:=h; exact c r a
theorem Gt.cond{α:Type}{b:Bool}{x y:Option α}{Q:α→Prop}(h1:b=true→Gt x Q)(h0:b=false→Gt y Q):Gt (bif b then x else y) Q:=by
 cases b with
 | true=>exact h1 rfl
 | false=>exact h0 rfl
theorem Gt.mono{α:Type}{o:Option α}{P Q:α→Prop}(h:Gt o P)(c: ∀r,P r→Q r):Gt o Q:=by
 obtain⟨r,e,a⟩:=h; exact⟨r,e,c r a⟩
theorem Gt.of{α:Type}{o:Option α}{r:α}{Q:α→Prop}(e:o=some r)(h:Q r):Gt o Q:=⟨r,e,h⟩
def Rnd{σ ρ:Type}(I:Nat→σ→Prop)(Q:ρ→Prop)(m:Nat):σ⊕ρ→Prop
 | .inl s=> ∃a,m=a+1∧I a s
 | .inr r=>Q r
theorem Gt.loop{σ ρ:Type}{body:σ→Option (σ⊕ρ)}(I:Nat→σ→Prop)(Q:ρ→Prop)(a: ∀m s,I m s→Gt (body s) (Rnd I Q m)): ∀ {n m:Nat} {s:σ},I m s→m<n→Gt (loopN body n s) Q
 | 0,m,s,h,hn=>by omega
 | n+1,m,s,h,hn=>by
  obtain⟨x,e,c⟩:=a m s h; unfold loopN; rw[e]; cases x with
  | inl s'=>
   obtain⟨f,rfl,d⟩:=c; exact Gt.loop I Q a d (by omega)
  | inr r=>exact⟨r,rfl,c⟩
theorem Qm{p:Prop} [Decidable p](h:decide p=true):p:=of_decide_eq_true h
theorem RY{p:Prop} [Decidable p](h:decide p=false): ¬ p:=of_decide_eq_false h
structure Cur (b:List Int) (i:Int):Prop where
 len:b.length≤1048576
 at0:0≤i
theorem oC{α:Type}{k:Nat}{a b:List α}(h:a.length+b.length≤1048576000)(c:k≤255):Gt (dG k a b) (fun r=>r=a++b):=by
 refine Gt.of (pZ ?_ (by simp only[maxLen]; omega)) rfl
 have:(a.length+b.length)*k≤1048576000*255:=z180 h c; omega
theorem Ny{α:Type}{l:List α}{i:Int}(h0:0≤i)(h:i<l.length):Gt (ix l i) (fun a=>a∈l):=by
 obtain⟨k,rfl⟩: ∃k:Nat,i=k:=⟨i.toNat,by omega⟩
 rw[bW]; exact⟨_,z13 (by omega),WT _⟩
theorem Pd(x:Int):0≤bits .and .i64 x 255∧bits .and .i64 x 255≤255:=LY x 255 (by decide)
theorem rL{n:Nat}{b:List Int}{i h:Int}(c:Cur b i):Gt (hG n b i h) (fun r=>(0≤r.1∧r.1≤255)∧Cur r.2.1 r.2.2.1):=by
 have h1:=c.len; have d:=c.at0; unfold hG; refine Gt.cond (fun e=> ?_) (fun e=> ?_)
 ·have:=Qm e
  refine Gt.bind (Ny d this) fun a _=>Gt.pure ⟨Pd _,c.len, ?_⟩
  show 0≤IntKind.wrap .i64 (i+1); rw[wrap_i64 (by omega) (by omega)]; omega
 ·exact Gt.pure ⟨Pd _,c⟩
theorem Wq{b:Bool}(h:b=true):Gt (ck b) (fun _=>True):=by subst h; exact⟨_,rfl,trivial⟩
theorem iN{n:Nat}{t:Int}{b:List Int}{i h:Int}(d:Cur b i)(j:0<t):Gt (aM n t b i h) (fun r=>(t≤256→0≤r.1∧r.1<t)∧Cur r.2.1 r.2.2.1):=by
 unfold aM; have c:(!decide (t=0))=true:=by rw[z9 (by omega)]; rfl
 refine Gt.cond (fun e=> ?_) (fun _=>Gt.cond (fun e=> ?_) (fun e=> ?_))
 ·have:=Qm e; omega
 ·refine Gt.bind (rL d) fun r ⟨h1,a⟩=>Gt.bind (Wq c) fun _ _=>Gt.pure ⟨fun _=>⟨z178 _ h1.1,z154 _ j⟩,a⟩
 ·have hn:=RY e
  refine Gt.bind (rL d) fun r ⟨h1,a⟩=>Gt.bind (rL a) fun r2 ⟨_,f⟩=>Gt.bind (rL f) fun k ⟨_,g⟩=>Gt.bind (Wq c) fun _ _=>Gt.pure ⟨fun h=>absurd h hn,g⟩
theorem SQ{n:Nat}{t:Int}{b:List Int}{i h:Int}(c:Cur b i)(d:0<t):Gt (kZ n t b i h) (fun r=>Cur r.2.1 r.2.2.1):=by
 unfold kZ; exact Gt.bind (iN c d) fun r ⟨_,a⟩=>Gt.pure a
theorem Gq{n:Nat}{l:List Int}{b:List Int}{i h:Int}(j:Cur b i)(h0:0<l.length)(h1:l.length≤256):Gt (eZ n l b i h) (fun r=>r.1∈l∧Cur r.2.1 r.2.2.1):=by
 unfold eZ; refine Gt.bind (iN j (by omega)) fun r ⟨c,d⟩=> ?_
 obtain⟨e,f⟩:=c (by omega)
 exact Gt.bind (Ny e f) fun a g=>Gt.pure ⟨g,d⟩
theorem DG{n K:Nat}{l:List (List UInt8)}{b:List Int}{i h:Int}(k:Cur b i)(h0:0<l.length)(h1:l.length≤256)(g: ∀s∈l,s.length≤K):Gt (bS n l b i h) (fun r=>r.1.length≤K∧Cur r.2.1 r.2.2.1):=by
 unfold bS; refine Gt.bind (iN k (by omega)) fun r ⟨c,d⟩=> ?_
 obtain⟨e,f⟩:=c (by omega)
 exact Gt.bind (Ny e f) fun a j=>Gt.pure ⟨g a j,d⟩
theorem Uw{n:Nat}(hn:4001<n)(code:List Int)(g:code.length≤1048576):Gt (pB n code) (fun r=>Cur r.1 r.2.1):=by
 unfold pB; refine Gt.bind (P:=fun _=>True) (Gt.loop (fun(m:Nat) (s:Int×Int)=>0≤s.2∧s.2+m=4001) (fun _=>True) (fun m s h=> ?_) (m:=4001) (by simp) (by omega)) fun r _=>Gt.pure ⟨g,Vd _⟩
 obtain⟨a,i⟩:=s; obtain⟨h1,f⟩:=h; unfold rF; simp only at h1 f ⊢; by_cases c:i<code.length
 ·by_cases d:i<4000
  ·rw[z11 c,z11 d]
   simp only[z16,z8]; refine Gt.bind (Ny h1 c) fun e _=>Gt.pure ⟨m - 1,by omega, ?_⟩
   simp only; rw[wrap_i64 (n:=i+1) (by omega) (by omega)]
   omega
  ·rw[z11 c,z9 d]
   simp only[z16,z12,z8]; exact Gt.pure trivial
 ·rw[z9 c]
  simp only[z12,z8]; exact Gt.pure trivial
theorem Ki{α:Type}(w:α→Nat): ∀(a b:List α),dl w (a++b)+1=dl w a+dl w b
 | [],b=>by simp only[z83,dl]; omega
 | x::r,b=>by have:=Ki w r b; simp only[z91,dl]; omega
theorem kG{α:Type}(w:α→Nat)(l:List α)(a:α):dl w (l++[a])=dl w l+1+w a:=by
 have:=Ki w l [a]; simp only[dl]at this; omega
theorem Ky(k m:Int)(s:List UInt8)(l:List aB)(c:List aC):bR (.mk k m s l c)=3+s.length+dl bR l+dl cP c:=by rw[Ga,sN,qZ]; rfl
def Nm(K:Nat)(l:List (List UInt8)):Prop:=l.length≤K∧ ∀s∈l,s.length≤5
theorem Nm.up{K K':Nat}{l:List (List UInt8)}(h:Nm K l)(a:K≤K'):Nm K' l:=⟨z95 h.1 a,h.2⟩
theorem Nm.app{K K':Nat}{l l':List (List UInt8)}(h:Nm K l)(a:Nm K' l'):Nm (K+K') (l++l'):=⟨by rw[z19]; exact Nat.add_le_add h.1 a.1,fun s b=>(z90.1 b).elim (h.2 s) (a.2 s)⟩
def kX:Nat→Nat
 | 0=>7
 | d+1=>7+2*kX d
def kY:Nat→Nat
 | 0=>1
 | d+1=>2*kY d
theorem kX_7: ∀d,7≤kX d
 | 0=>z36 _
 | d+1=>by simp only[kX]; omega
theorem Wn: ∀d,1≤kY d
 | 0=>z36 _
 | d+1=>by have:=Wn d; simp only[kY]; omega
def DP(B K:Nat)(r:Int×Int×List UInt8×List aB×List aC×List Int×Int×Int×List (List UInt8)):Prop:=bR (.mk r.1 r.2.1 r.2.2.1 r.2.2.2.1 r.2.2.2.2.1)≤B∧Cur r.2.2.2.2.2.1 r.2.2.2.2.2.2.1∧Nm K r.2.2.2.2.2.2.2.2
theorem DP.mk{B K:Nat}{k m:Int}{s:List UInt8}{l:List aB}{c:List aC}{b:List Int}{i h:Int}{a:List (List UInt8)}(e:3+s.length+dl bR l+dl cP c≤B)(d:Cur b i)(hn:Nm K a):DP B K (k,m,s,l,c,b,i,h,a):=⟨by rw[Ky]; exact e,d,hn⟩
def DPS(X Y K m:Nat)(x:Int×Int×List UInt8×List aB×List aC×List Int×Int×Int×List (List UInt8)):Prop:=x.2.2.1=[]∧x.2.2.2.2.1=[]∧dl bR x.2.2.2.1+m*(1+X)≤1+2*(1+X)∧Cur x.2.2.2.2.2.1 x.2.2.2.2.2.2.1∧x.2.2.2.2.2.2.2.2.length+m*Y≤K+2*Y∧ ∀s∈x.2.2.2.2.2.2.2.2,s.length≤5
theorem SP(n d K:Nat)(M:d≤2)(I:K+10*d≤1000)(E:d≠0→ ∀ {K':Nat} {b:List Int} {i h:Int} {p:List (List UInt8)},K'+10*(d - 1)≤1000→Cur b i→Nm K' p→Gt (eA n ((d - 1:Nat):Int) b i h p) (DP (kX d) (K'+kY d)))(m:Nat)(s:Int×Int×Int×List UInt8×List aB×List aC×List Int×Int×Int×List (List UInt8))(D:s.1+m=(2:Int)∧0≤s.1∧DPS (kX d) (kY d) K m s.2):Gt (nS n (eA n) (d:Int) s) (Rnd (fun m s=>s.1+m=(2:Int)∧0≤s.1∧DPS (kX d) (kY d) K m s.2) (fun r=>DPS (kX d) (kY d) K 0 r.2.2) m):=by
 obtain⟨v,w0,O,Q,k,R,S,T,U,w⟩:=s; obtain⟨F,G,t,u,g,c,j,f⟩:=D; simp only at F G t u g c j f; subst t; subst u; have J:kX d≤49:=by
  have:d=0∨d=1∨d=2:=by omega
  rcases this with e | e | e<;>rw[e]<;>simp [kX]
 have L:1≤kY d:=Wn _; have z:kY d≤4:=by
  have:d=0∨d=1∨d=2:=by omega
  rcases this with e | e | e<;>rw[e]<;>simp [kY]
 have N:=cK bR k; unfold nS; simp only; by_cases l:v<(2:Int)
 ·rw[z11 l,z16]
  obtain⟨a,rfl⟩: ∃a,m=a+1:=⟨m - 1,by omega⟩
  rw[z96]at g j; have A:a*(1+kX d)≥0:=z79 _; have B:a*kY d≥0:=z79 _; refine Gt.bind (P:=DPS (kX d) (kY d) K a) (Gt.cond (fun e=> ?_) (fun e=> ?_)) fun r C=> ?_
  ·have:=Qm e
   have x:IntKind.wrap .i64 ((d:Int) - 1)=((d - 1:Nat):Int):=by rw[wrap_i64 (by omega) (by omega)]; omega
   rw[x]; refine Gt.bind (E (by omega) (K':=w.length) (by omega) c ⟨z36 _,f⟩) fun r ⟨H,y,o⟩=>Gt.bind (oC (by simp only[z21]; omega) (by omega)) fun q e=>Gt.pure ⟨rfl,rfl, ?_,y, ?_,o.2⟩
   ·subst e
    show dl bR (k++[_])+a*(1+kX d)≤_; rw[kG]; omega
   ·exact z95 (Nat.add_le_add_right o.1 _) (by omega)
  ·refine Gt.bind (oC (by simp only[z21]; omega) (by omega)) fun q e=>Gt.pure ⟨rfl,rfl, ?_,c, ?_,f⟩
   ·subst e
    have:=kX_7 d; show dl bR (k++[_])+a*(1+kX d)≤_; rw[kG,Ky]; simp only[dl,z21]; omega
   ·show w.length+a*kY d≤_
    omega
  ·obtain⟨x0,x1,V,W,X,Y,Z,x7,x8⟩:=r
   rw[wrap_i64 (n:=v+1) (by omega) (by omega)]
   refine Gt.pure ⟨a,rfl, ?_, ?_,C⟩
   ·show v+1+(a:Int)=(2:Int)
    omega
   ·show 0≤v+1
    omega
 ·rw[z9 l,z12]
  have:m=0:=by omega
  subst this; exact Gt.pure ⟨rfl,rfl,g,c,j,f⟩
theorem SO(n d K:Nat)(O:d≤2)(L:K+10*d≤1000)(c:Int×List Int×Int×Int)(B:c.1≤2)(G:d≠0→ ∀ {K':Nat} {b:List Int} {i h:Int} {t:List (List UInt8)},K'+10*(d - 1)≤1000→Cur b i→Nm K' t→Gt (eA n ((d - 1:Nat):Int) b i h t) (DP (kX d) (K'+kY d)))(m:Nat)(s:Int×Int×Int×List UInt8×List aB×List aC×List Int×Int×Int×List (List UInt8))(F:s.1+m=c.1∧0≤s.1∧DPS (kX d) (kY d) K m s.2):Gt (nR n (eA n) (d:Int) c s) (Rnd (fun m s=>s.1+m=c.1∧0≤s.1∧DPS (kX d) (kY d) K m s.2) (fun r=>DPS (kX d) (kY d) K 0 r.2.2) m):=by
 obtain⟨v,w0,R,S,l,T,U,V,W,x⟩:=s; obtain⟨H,I,u,w,j,f,k,g⟩:=F; simp only at H I u w j f k g; subst u; subst w; have M:kX d≤49:=by
  have:d=0∨d=1∨d=2:=by omega
  rcases this with e | e | e<;>rw[e]<;>simp [kX]
 have N:1≤kY d:=Wn _; have A:kY d≤4:=by
  have:d=0∨d=1∨d=2:=by omega
  rcases this with e | e | e<;>rw[e]<;>simp [kY]
 have Q:=cK bR l; unfold nR; simp only; by_cases o:v<c.1
 ·rw[z11 o,z16]
  obtain⟨a,rfl⟩: ∃a,m=a+1:=⟨m - 1,by omega⟩
  rw[z96]at j k; have C:a*(1+kX d)≥0:=z79 _; have D:a*kY d≥0:=z79 _; refine Gt.bind (P:=DPS (kX d) (kY d) K a) (Gt.cond (fun e=> ?_) (fun e=> ?_)) fun r E=> ?_
  ·have:=Qm e
   have y:IntKind.wrap .i64 ((d:Int) - 1)=((d - 1:Nat):Int):=by rw[wrap_i64 (by omega) (by omega)]; omega
   rw[y]; refine Gt.bind (G (by omega) (K':=x.length) (by omega) f ⟨z36 _,g⟩) fun r ⟨J,z,p⟩=>Gt.bind (oC (by simp only[z21]; omega) (by omega)) fun q e=>Gt.pure ⟨rfl,rfl, ?_,z, ?_,p.2⟩
   ·subst e
    show dl bR (l++[_])+a*(1+kX d)≤_; rw[kG]; omega
   ·exact z95 (Nat.add_le_add_right p.1 _) (by omega)
  ·refine Gt.bind (oC (by simp only[z21]; omega) (by omega)) fun q e=>Gt.pure ⟨rfl,rfl, ?_,f, ?_,g⟩
   ·subst e
    have:=kX_7 d; show dl bR (l++[_])+a*(1+kX d)≤_; rw[kG,Ky]; simp only[dl,z21]; omega
   ·show x.length+a*kY d≤_
    omega
  ·obtain⟨x0,x1,X,Y,Z,x5,x6,x7,x8⟩:=r
   rw[wrap_i64 (n:=v+1) (by omega) (by omega)]
   refine Gt.pure ⟨a,rfl, ?_, ?_,E⟩
   ·show v+1+(a:Int)=c.1
    omega
   ·show 0≤v+1
    omega
 ·rw[z9 o,z12]
  have:m=0:=by omega
  subst this; exact Gt.pure ⟨rfl,rfl,j,f,k,g⟩
theorem PF: ∀(d n:Nat),d≤2→d+2000<n→n≤1099511627776→ ∀ {K:Nat} {b:List Int} {i h:Int} {l:List (List UInt8)},K+10*d≤1000→Cur b i→Nm K l→Gt (eA n (d:Int) b i h l) (DP (kX (d+1)) (K+kY (d+1)))
 | d,0,_,hn,_=>by omega
 | d,n+1,N,hn,Y=>fun M D H=>by
  rename_i K b i h l; rw[BJ]; unfold oY; have hX:=kX_7 d; have hY:=Wn d; have eX:kX (d+1)=7+2*kX d:=rfl; have eY:kY (d+1)=2*kY d:=rfl; have p: ∀ {k m:Int} {s:List UInt8} {b:List Int} {i h:Int} {l:List (List UInt8)},s.length≤5→Cur b i→Nm (K+1) l→DP (kX (d+1)) (K+kY (d+1)) (k,m,s,[],[],b,i,h,l):=fun B D hn=>DP.mk (by simp only[dl]; omega) D (hn.up (by omega))
  have u:Nm (K+1) l:=H.up (by omega)
  have X:=H.1; have xF: ∀ {b:List Int} {i h:Int},Cur b i→Gt ((bS n ([([65]:List UInt8),([66]:List UInt8),([67]:List UInt8),([68]:List UInt8),([72]:List UInt8),([84]:List UInt8)]:List (List UInt8)) b i h).bind fun a=>(gW n l a.1).bind fun t=>bif t then some ((3:Int),(0:Int),([95]:List UInt8),([]:List aB),([]:List aC),a.2.1,a.2.2.1,a.2.2.2,l)else(dG 16 l ([a.1]:List (List UInt8))).bind fun v=>some ((3:Int),(0:Int),a.1,([]:List aB),([]:List aC),a.2.1,a.2.2.1,a.2.2.2,v)) (DP (kX (d+1)) (K+kY (d+1))):=fun D=>by
   refine Gt.bind (DG (K:=5) D (by simp) (by simp) (by decide)) fun r ⟨h1,o⟩=> ?_
   rw[MJ n l r.1 (by omega) (by omega),z8]
   refine Gt.cond (fun _=>Gt.pure (p (by simp) o u)) fun _=>Gt.bind (oC (by simp only[z21]; omega) (by omega)) fun q e=>Gt.pure (p h1 o ?_)
   subst e; exact H.app ⟨z36 _,fun s B=>by rw[z68.1 B]; exact h1⟩
  refine Gt.bind (iN D (by omega)) fun r ⟨_,o⟩=> ?_
  refine Gt.cond (fun _=> ?_) fun _=>Gt.cond (fun _=> ?_) fun _=>Gt.cond (fun _=>Gt.pure (p (by simp) o u)) fun _=>Gt.cond (fun _=>xF o) fun _=>Gt.cond (fun _=>xF o) fun _=>Gt.cond (fun _=>xF o) fun _=> ?_
  ·exact Gt.bind (iN o (by omega)) fun r ⟨_,o⟩=>Gt.pure (p (by simp) o u)
  ·exact Gt.bind (DG (K:=5) o (by simp) (by simp) (by decide)) fun r ⟨h1,o⟩=>Gt.pure (p h1 o u)
  ·refine Gt.bind (Gq o (by simp) (by simp)) fun r3 ⟨_,T⟩=>Gt.bind (iN T (by omega)) fun F ⟨U,V⟩=> ?_
   obtain⟨h6,h7⟩:=U (by omega)
   have O:d≠0→ ∀ {K':Nat} {b:List Int} {i h:Int} {l:List (List UInt8)},K'+10*(d - 1)≤1000→Cur b i→Nm K' l→Gt (eA n ((d - 1:Nat):Int) b i h l) (DP (kX d) (K'+kY d)):=fun W=>by
    obtain⟨L,rfl⟩: ∃L,d=L+1:=⟨d - 1,by omega⟩
    exact PF L n (by omega) (by omega) (by omega)
   have C: ∀(r:Int×Bool×Int×Int×List UInt8×List aB×List aC×List Int×Int×Int×List (List UInt8)),DPS (kX d) (kY d) K 0 r.2.2→Gt ((fun(I,J,w,x,y,z,A,c,f,g,j)=>some (w,x,y,z,A,c,f,g,j)) r) (DP (kX (d+1)) (K+kY (d+1))):=fun r Z=>by
    obtain⟨x0,x1,x2,x3,x4,x5,x6,x7,x8,x9,x10⟩:=r; obtain⟨P,Q,q3,R,q5,S⟩:=Z; simp only at P Q q3 R q5 S; subst P; subst Q; exact Gt.pure (DP.mk (by simp only[dl,z53]; omega) R ⟨by omega,S⟩)
   have G: ∀(m:Nat) (k:Int),m≤2→DPS (kX d) (kY d) K m (k,(0:Int),([]:List UInt8),([]:List aB),([]:List aC),F.2.1,F.2.2.1,F.2.2.2,l):=fun m k E=>by
    have a1:m*(1+kX d)≤2*(1+kX d):=z57 _ E; have a2:m*kY d≤2*kY d:=z57 _ E; exact⟨rfl,rfl,by simp only[dl]; omega,V,by simp only; omega,H.2⟩
   refine Gt.cond (fun _=> ?_) fun _=> ?_
   ·exact Gt.bind (Gt.loop _ _ (fun m s B=>SP n d K N M O m s B) (m:=2) ⟨rfl,Vd _,G 2 _ (z36 _)⟩ (by omega)) C
   ·exact Gt.bind (Gt.loop _ _ (fun m s B=>SO n d K N M F (by omega) O m s B) (m:=F.1.toNat) ⟨by simp only; omega,Vd _,G _ _ (by omega)⟩ (by omega)) C
end Go.Own.Q
