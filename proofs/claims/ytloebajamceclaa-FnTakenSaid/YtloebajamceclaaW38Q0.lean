/- Loops over lists and small things, in plain Lean. No conditions. -/
import Derived.Test.YtloebajamceclaaW38W
set_option linter.unusedVariables false
set_option linter.unusedSimpArgs false
set_option linter.unnecessarySimpa false
namespace Go.Own.Q
open Go Go.Proofs
theorem oU{σ ρ:Type}{body:σ→Option (σ⊕ρ)}(st:Nat→σ){len:Nat}{r:ρ}(d: ∀i,i<len→body (st i)=some (.inl (st (i+1))))(b:body (st len)=some (.inr r)){n:Nat}(hn:len<n):loopN body n (st 0)=some r:=by
 have a: ∀k i,i+k=len→ ∀n,k<n→loopN body n (st i)=some r:=by
  intro k; induction k with
  | zero=>
   intro i c n hn; obtain⟨m,rfl⟩: ∃m,n=m+1:=⟨n - 1,by omega⟩
   have:i=len:=by omega
   subst this; simp only[loopN,b]
  | succ k e=>
   intro i c n hn; obtain⟨m,rfl⟩: ∃m,n=m+1:=⟨n - 1,by omega⟩
   simp only[loopN,d i (by omega)]
   exact e (i+1) (by omega) m (by omega)
 exact a len 0 (by omega) n hn

def oF{α σ ρ:Type}(f:σ→α→σ⊕ρ):List α→σ→σ⊕ρ
 | [],s=> .inl s
 | a::r,s=>match f s a with
  | .inl s'=>oF f r s'
  | .inr q=> .inr q
theorem Fw{α σ τ ρ κ:Type}{body:σ→Option (σ⊕ρ)}(l:List α)(f:τ→α→τ⊕κ)(enc:τ→Nat→σ)(b:τ→ρ)(out:κ→ρ)(I:τ→Prop)(v: ∀(i:Nat) a t,l[i]? =some a→I t→(∃d,f t a= .inl d∧I d∧body (enc t i)=some (.inl (enc d (i+1))))∨(∃q,f t a= .inr q∧body (enc t i)=some (.inr (out q))))
  (p: ∀t,I t→body (enc t l.length)=some (.inr (b t))){n:Nat}(hn:l.length<n){t0:τ}(h0:I t0):loopN body n (enc t0 0)=some (match oF f l t0 with | .inl t=>b t | .inr q=>out q):=by
 have j: ∀(r:List α) (i:Nat) (t:τ) (n:Nat),l.drop i=r→I t→r.length<n→i≤l.length→loopN body n (enc t i)=some (match oF f r t with | .inl t=>b t | .inr q=>out q):=by
  intro r; induction r with
  | nil=>
   intro i t n c h hn s; obtain⟨m,rfl⟩: ∃m,n=m+1:=⟨n - 1,by simp at hn; omega⟩
   have:i=l.length:=by
    have:=congrArg List.length c; simp at this; omega
   subst this; simp only[loopN,p t h,oF]
  | cons a r ih=>
   intro i t n c h hn s; obtain⟨m,rfl⟩: ∃m,n=m+1:=⟨n - 1,by simp at hn; omega⟩
   have u:i<l.length:=by
    have:=congrArg List.length c; simp at this; omega
   have o:l[i]? =some a:=by
    have:=congrArg (·[0]?) c
    simpa using this
   have g:l.drop (i+1)=r:=by
    have:=congrArg List.tail c; simpa using this
   rcases v i a t o h with⟨d,h1,k,e⟩ | ⟨q,h1,e⟩
   ·simp only[loopN,e,oF,h1]
    exact ih (i+1) d m g k (by simp at hn; omega) (by omega)
   ·simp only[loopN,e,oF,h1]
 exact j l 0 t0 n rfl h0 hn (by omega)

theorem dJ{α:Type}(l:List α)(i:Nat):ix l (i:Int)=l[i]? :=by
 unfold ix; rw[z18 (by omega)]
 simp
theorem Dw(s:List UInt8)(i:Nat):ixs s (i:Int)=(s[i]?).map fun b=>(b.toNat:Int):=by
 unfold ixs; rw[z18 (by omega)]
 simp
theorem aY{i:Nat}(h:i<4611686018427387904):IntKind.wrap .i64 ((i:Int)+1)=((i+1:Nat):Int):=by
 rw[wrap_i64 (by omega) (by omega)]; omega
theorem qC{α:Type}{l:List α}{i:Nat}{a:α}(h:l[i]? =some a):l.take i++[a]=l.take (i+1):=by
 rw[List.take_add_one,h]; rfl
theorem qM{α:Type}{b:Nat}{l1 l2:List α}(h:(l1.length+l2.length)*b≤140737488355328)(a:l1.length+l2.length≤maxLen):fS b l1 l2=some (l1++l2):=by
 unfold fS; rw[z18 ⟨a,h⟩]
theorem iF{α:Type}{l:List α}{i:Nat}{a:α}(h:l[i]? =some a):i<l.length:=(z93.1 h).1
theorem eK{α:Type}{l:List α}{i:Nat}{a:α}(h:l[i]? =some a):decide ((i:Int)<(l.length:Int))=true:=by
 have:=iF h; exact z14 (by omega)
theorem bC{k:Nat}:decide ((k:Int)<(k:Int))=false:=z10 (by omega)
def Gv{α:Type}(z:α→Nat):List α→Nat
 | []=>0
 | a::r=>z a+Gv z r
def dl{α:Type}(d:α→Nat):List α→Nat
 | []=>1
 | a::r=>1+d a+dl d r
theorem eF{α:Type}(d:α→Nat){a:α}: ∀ {l:List α},a∈l→d a<dl d l
 | b::r,h=>by
  cases h with
  | head=>simp only[dl]; omega
  | tail _ h=>have:=eF d h; simp only[dl]; omega
theorem bB{α:Type}(d:α→Nat): ∀l:List α,l.length<dl d l
 | []=>by simp [dl]
 | b::r=>by have:=bB d r; simp only[dl,z56]; omega
theorem Ku{α:Type}{body:Int→Option (Int⊕(Bool⊕(Int×Bool)))}(l:List α)(d: ∀(i:Nat) a,l[i]? =some a→body (i:Int)=some (.inl ((i+1:Nat):Int)))(b:body (l.length:Int)=some (.inr (.inr ((l.length:Int),false)))){n:Nat}(hn:l.length<n):loopN body n (0:Int)=some (.inr ((l.length:Int),false)):=
 oU (body:=body) (fun i=>(i:Int)) (len:=l.length) (fun i c=>d i _ (z11 c)) b hn
theorem PZ{α:Type}{body:Int→Option (Int⊕(Bool⊕(Int×Bool)))}(l:List α)(b:α→Bool)(f: ∀(i:Nat) a,l[i]? =some a→body (i:Int)=some (if b a then .inl ((i+1:Nat):Int)else .inr (.inl false)))(g:body (l.length:Int)=some (.inr (.inr ((l.length:Int),false)))){n:Nat}(hn:l.length<n):loopN body n (0:Int)=some (if l.all b then .inr ((l.length:Int),false)else .inl false):=by
 have h:=Fw (body:=body) l (fun(_:Unit) a=>if b a then .inl ()else .inr ()) (fun _ i=>(i:Int)) (fun _=> .inr ((l.length:Int),false)) (fun _=> .inl false) (fun _=>True) (fun i a t e _=>by
  by_cases c:b a=true
  ·left; exact⟨(),z18 c,trivial,by rw[f i a e,z18 c]⟩
  ·right; exact⟨(),z12 c,by rw[f i a e,z12 c]⟩) (fun _ _=>g) hn (t0:=()) trivial
 have d: ∀l:List α,oF (fun(_:Unit) a=>if b a then Sum.inl ()else Sum.inr ()) l ()=if l.all b then .inl ()else .inr ():=by
  intro l; induction l with
  | nil=>rfl
  | cons a r ih=>
   simp only[oF,z98]; by_cases c:b a=true
   ·rw[z18 c]; simp only[ih,c,z45]
   ·rw[z12 c]; simp [c]
 refine h.trans ?_
 rw[d l]; by_cases c:l.all b=true
 ·rw[z18 c,z18 c]
 ·rw[z12 c,z12 c]
theorem DX{α σ τ ρ κ:Type}{body:σ→Option (σ⊕ρ)}(l:List α)(f:τ→α→τ⊕κ)(enc:τ→Nat→σ)(c:τ→ρ)(b:κ→ρ→Prop)(I:τ→Prop)(y: ∀(i:Nat) a t,l[i]? =some a→I t→(∃e,f t a= .inl e∧I e∧body (enc t i)=some (.inl (enc e (i+1))))∨(∃q r,f t a= .inr q∧body (enc t i)=some (.inr r)∧b q r))
  (u: ∀t,I t→body (enc t l.length)=some (.inr (c t))){n:Nat}(hn:l.length<n){t0:τ}(h0:I t0): ∃r,loopN body n (enc t0 0)=some r∧(match oF f l t0 with | .inl t=>r=c t | .inr q=>b q r):=by
 have k: ∀(r:List α) (i:Nat) (t:τ) (n:Nat),l.drop i=r→I t→r.length<n→i≤l.length→ ∃x,loopN body n (enc t i)=some x∧(match oF f r t with | .inl t=>x=c t | .inr q=>b q x):=by
  intro r; induction r with
  | nil=>
   intro i t n d j hn v; obtain⟨m,rfl⟩: ∃m,n=m+1:=⟨n - 1,by simp at hn; omega⟩
   have:i=l.length:=by
    have:=congrArg List.length d; simp at this; omega
   subst this; simp only[loopN,u t j,oF]; exact⟨_,rfl,rfl⟩
  | cons a r ih=>
   intro i t n d j hn v; obtain⟨m,rfl⟩: ∃m,n=m+1:=⟨n - 1,by simp at hn; omega⟩
   have w:i<l.length:=by
    have:=congrArg List.length d; simp at this; omega
   have s:l[i]? =some a:=by
    have:=congrArg (·[0]?) d
    simpa using this
   have h:l.drop (i+1)=r:=by
    have:=congrArg List.tail d; simpa using this
   rcases y i a t s j with⟨e,h1,o,g⟩ | ⟨q,x,h1,g,p⟩
   ·simp only[loopN,g,oF,h1]
    exact ih (i+1) e m h o (by simp at hn; omega) (by omega)
   ·simp only[loopN,g,oF,h1]
    exact⟨x,rfl,p⟩
 exact k l 0 t0 n rfl h0 hn (by omega)
def yJ{α:Type}(b:Nat→α→Bool):Nat→List α→Bool
 | _,[]=>true
 | i,a::r=>b i a&&yJ b (i+1) r
theorem zV{α:Type}{body:Int→Option (Int⊕(Bool⊕(Int×Bool)))}(l:List α)(d:Nat→α→Bool)(h: ∀(i:Nat) a,l[i]? =some a→body (i:Int)=some (if d i a then .inl ((i+1:Nat):Int)else .inr (.inl false)))(j:body (l.length:Int)=some (.inr (.inr ((l.length:Int),false)))){n:Nat}(hn:l.length<n):loopN body n (0:Int)=some (if yJ d 0 l then .inr ((l.length:Int),false)else .inl false):=by
 have f: ∀(r:List α) (i n:Nat),l.drop i=r→r.length<n→i≤l.length→loopN body n (i:Int)=some (if yJ d i r then .inr ((l.length:Int),false)else .inl false):=by
  intro r; induction r with
  | nil=>
   intro i n b hn k; obtain⟨m,rfl⟩: ∃m,n=m+1:=⟨n - 1,by simp at hn; omega⟩
   have:i=l.length:=by
    have:=congrArg List.length b; simp at this; omega
   subst this; simp only[loopN,j,yJ,if_true]
  | cons a r ih=>
   intro i n b hn k; obtain⟨m,rfl⟩: ∃m,n=m+1:=⟨n - 1,by simp at hn; omega⟩
   have o:i<l.length:=by
    have:=congrArg List.length b; simp at this; omega
   have g:l[i]? =some a:=by
    have:=congrArg (·[0]?) b
    simpa using this
   have e:l.drop (i+1)=r:=by
    have:=congrArg List.tail b; simpa using this
   by_cases c:d i a=true
   ·simp only[loopN,h i a g,z18 c,yJ,c,z45]
    exact ih (i+1) m e (by simp at hn; omega) (by omega)
   ·simp only[loopN,h i a g,z12 c,yJ]
    simp [c]
 exact f l 0 n rfl hn (by omega)
def Eg{α:Type}(p:α→Bool):Nat→List α→Int
 | _,[]=> -1
 | i,a::r=>bif p a then(i:Int)else Eg p (i+1) r
theorem sD{α:Type}(p:α→Bool): ∀(l:List α) (i:Nat),(Eg p i l= -1∧ ∀a∈l,p a=false)∨ ∃k a,Eg p i l=((i+k:Nat):Int)∧l[k]? =some a∧p a=true∧ ∀(j:Nat) b,j<k→l[j]? =some b→p b=false
 | [],i=> .inl ⟨rfl,by simp⟩
 | a::r,i=>by
  unfold Eg; cases h:p a with
  | true=>exact .inr ⟨0,a,rfl,rfl,h,fun j b o=>by omega⟩
  | false=>
   rw[z16]; rcases sD p r (i+1)with⟨h1,d⟩ | ⟨k,b,h1,d,g,m⟩
   ·exact .inl ⟨h1,fun b e=>by
     rcases OV.1 e with rfl | e
     ·exact h
     ·exact d b e⟩
   ·refine .inr ⟨k+1,b,by rw[h1]; omega,d,g,fun j c o f=> ?_⟩
    cases j with
    | zero=>simp only[z20,z8]at f; subst f; exact h
    | succ j=>exact m j c (by omega) f
theorem vX{α σ ρ:Type}{body:σ→Option (σ⊕ρ)}(l:List α)(p:α→Bool)(enc:Nat→σ)(out:Nat→ρ)(b:ρ)(g: ∀(i:Nat) a,l[i]? =some a→body (enc i)=some (bif p a then .inr (out i)else .inl (enc (i+1))))(j:body (enc l.length)=some (.inr b)){n:Nat}(hn:l.length<n):
  loopN body n (enc 0)=some (bif decide (Eg p 0 l<0)then b else out (Eg p 0 l).toNat):=by
 have e: ∀(r:List α) (i n:Nat),l.drop i=r→r.length<n→i≤l.length→loopN body n (enc i)=some (bif decide (Eg p i r<0)then b else out (Eg p i r).toNat):=by
  intro r; induction r with
  | nil=>
   intro i n c hn o; obtain⟨m,rfl⟩: ∃m,n=m+1:=⟨n - 1,by simp at hn; omega⟩
   have:i=l.length:=by
    have:=congrArg List.length c; simp at this; omega
   subst this; simp only[loopN,j]; rfl
  | cons a r ih=>
   intro i n c hn o; obtain⟨m,rfl⟩: ∃m,n=m+1:=⟨n - 1,by simp at hn; omega⟩
   have q:i<l.length:=by
    have:=congrArg List.length c; simp at this; omega
   have f:l[i]? =some a:=by
    have:=congrArg (·[0]?) c
    simpa using this
   have d:l.drop (i+1)=r:=by
    have:=congrArg List.tail c; simpa using this
   have k:Eg p i (a::r)=bif p a then(i:Int)else Eg p (i+1) r:=rfl
   rw[k]; cases h:p a with
   | true=>
    simp only[loopN,g i a f,h,z17]; rw[z10 (by omega),z16,z66]
   | false=>
    simp only[loopN,g i a f,h,z16]; exact ih (i+1) m d (by simp at hn; omega) (by omega)
 exact e l 0 n rfl hn (by omega)
theorem LO{i:Nat}(h:i<4611686018427387904):IntKind.wrap .i64 (((i+1:Nat):Int) - 1)=(i:Int):=by
 rw[wrap_i64 (by omega) (by omega)]; omega
theorem Iv{α:Type}(d:Nat→α→Bool): ∀(l:List α) (i:Nat),yJ d i l=true↔ ∀(j:Nat) a,l[j]? =some a→d (i+j) a=true
 | [],i=>by simp [yJ]
 | a::r,i=>by
  simp only[yJ,z7,Iv d r (i+1)]; constructor
  ·rintro ⟨h1,e⟩ j b c
   cases j with
   | zero=>simp only[z20,z8]at c; subst c; exact h1
   | succ j=>have:=e j b c; rwa[show i+1+j=i+(j+1)by omega]at this
  ·intro h
   refine⟨h 0 a rfl,fun j b c=> ?_⟩
   have:=h (j+1) b c; rwa[show i+(j+1)=i+1+j by omega]at this
theorem aW(a:aB):aB.mk a.f0 a.f1 a.f2 a.f3=a:=by cases a; rfl
mutual
def aQ:aB→Nat
 | .mk _ _ s l=>3+s.length+FL l
def FL:List aB→Nat
 | []=>1
 | x::r=>1+aQ x+FL r
end
theorem eW: ∀l,FL l=dl aQ l
 | []=>rfl
 | x::r=>by simp only[FL,dl,eW r]
theorem oN(a:aA):aA.mk a.f0 a.f1 a.f2 a.f3 a.f4=a:=by cases a; rfl
theorem yS(a:aC):aC.mk a.f0 a.f1 a.f2 a.f3 a.f4 a.f5 a.f6 a.f7 a.f8 a.f9=a:=by
 obtain⟨p,x⟩:=a; cases p; cases x; rfl
mutual
def aN:aA→Nat
 | .mk _ _ s l c=>3+s.length+xO l+qP c
def xO:List aA→Nat
 | []=>1
 | x::r=>1+aN x+xO r
def qP:List aC→Nat
 | []=>1
 | x::r=>1+dH x+qP r
def dH:aC→Nat
 | .two p x=>3+aN p+aN x
end
theorem qG(a:aA):aN a=3+a.f2.length+xO a.f3+qP a.f4:=by cases a; simp only[aN]; rfl
theorem vP(a:aC):dH a=3+aN a.p+aN a.x:=by obtain⟨p,x⟩:=a; simp only[dH]; rfl
theorem iG: ∀l,xO l=dl aN l
 | []=>rfl
 | x::r=>by simp only[xO,dl,iG r]
theorem fP: ∀l:List aC,qP l=dl dH l
 | []=>rfl
 | x::r=>by
  have e:=fP r; have a:qP (x::r)=1+dH x+qP r:=by simp only[qP]
  rw[a,e]; rfl
def wM:aI→Nat
 | .mk a0 a1 a2 a3 a4=>3+a0.length+aQ (.mk a1 a2 a3 a4)
theorem rR(n:Nat)(x a b:Int):cE n x a b=some (decide (a≤x)&&decide (x≤b)):=by
 unfold cE; cases decide (a≤x)<;>rfl
theorem tE(n:Nat)(x a b:Int):cY n x a b=some (decide (a≤x)&&decide (x≤b)):=by
 unfold cY; cases decide (a≤x)<;>rfl
theorem Dc(n:Nat)(x:Int):fW n x=some (decide (97≤x)&&decide (x≤122)):=by
 unfold fW; cases decide (97≤x)<;>rfl
theorem Be(n:Nat)(x:Int):eH n x=some (decide (48≤x)&&decide (x≤57)):=by
 unfold eH; cases decide (48≤x)<;>rfl
def oB(c:Int):Bool:=decide (97≤c)&&decide (c≤122)
def Fb(c:Int):Bool:=decide (48≤c)&&decide (c≤57)
def GT(i:Nat)(c:UInt8):Bool:=oB c.toNat||(!decide (i=0)&&(Fb c.toNat||decide ((c.toNat:Int)=95)))
def sO(s:List UInt8):Bool:=yJ GT 0 s&&(decide (1≤(s.length:Int))&&decide ((s.length:Int)≤20))
theorem Dj(c:UInt8):IntKind.wrap .i64 ((c.toNat:Nat):Int)=c.toNat:=by
 have:=c.toNat_lt; exact wrap_i64 (by omega) (by omega)
theorem KV(i:Nat):decide ((i:Int)=0)=decide (i=0):=by
 by_cases h:i=0<;>simp [h]
theorem uC(n:Nat)(s:List UInt8)(h:s.length<n)(hn:s.length<4611686018427387904):jB n s=some (sO s):=by
 unfold jB; rw[zV s GT (fun i c a=>by
  have b:=iF a; simp only[kJ,eK a,z17,Dw,a,z36,z9,rR,Dj,aY (show i<4611686018427387904 by omega),KV]
  unfold GT oB Fb; cases decide (97≤(c.toNat:Int))<;>cases decide ((c.toNat:Int)≤122)<;>cases decide (i=0)<;>cases decide (48≤(c.toNat:Int))<;>cases decide ((c.toNat:Int)≤57)<;>cases decide ((c.toNat:Int)=95)<;>rfl) (by simp only[kJ,bC,z16]) h]
 unfold sO; by_cases c:yJ GT 0 s=true
 ·rw[z18 c,c]; simp only[z9,rR,z45]
 ·rw[z12 c]; simp only[z90]at c; rw[c]; rfl
theorem uF(n:Nat)(s:List UInt8)(h:s.length<n)(hn:s.length<4611686018427387904):jC n s=some (sO s):=by
 unfold jC; rw[zV s GT (fun i c a=>by
  have b:=iF a; simp only[kK,eK a,z17,Dw,a,z36,z9,Dc,Be,aY (show i<4611686018427387904 by omega),KV]
  unfold GT oB Fb; cases decide (97≤(c.toNat:Int))<;>cases decide ((c.toNat:Int)≤122)<;>cases decide (i=0)<;>cases decide (48≤(c.toNat:Int))<;>cases decide ((c.toNat:Int)≤57)<;>cases decide ((c.toNat:Int)=95)<;>rfl) (by simp only[kK,bC,z16]) h]
 unfold sO; by_cases c:yJ GT 0 s=true
 ·rw[z18 c,c]; simp only[z9,tE,z45]
 ·rw[z12 c]; simp only[z90]at c; rw[c]; rfl
def mE(c:Int):Bool:=(decide (65≤c)&&decide (c≤90))||decide (c=95)
theorem Dd(n:Nat)(x:Int):iC n x=some (mE x):=by
 unfold iC mE; cases decide (65≤x)<;>cases decide (x≤90)<;>rfl
theorem JV(n:Nat)(c:UInt8):jW n (c.toNat:Int)=some (mE c.toNat):=by
 unfold jW mE; rw[Dj,rR]; cases decide (65≤(c.toNat:Int))<;>cases decide ((c.toNat:Int)≤90)<;>rfl
theorem JU(n:Nat)(c:UInt8):jV n (c.toNat:Int)=some (oB c.toNat):=by
 unfold jV oB; rw[Dj,rR]; rfl
theorem JW(n:Nat)(c:UInt8):jX n (c.toNat:Int)=some (Fb c.toNat):=by
 unfold jX Fb; rw[Dj,rR]; rfl
theorem Hp(n:Nat)(x:Int):fW n x=some (oB x):=Dc n x
theorem Ln(n:Nat)(x:Int):eH n x=some (Fb x):=Be n x
def uO(c:UInt8):Bool:=oB c.toNat||(mE c.toNat||Fb c.toNat)
theorem En(n:Nat)(x:Int):gC n x=some (oB x||(mE x||Fb x)):=by
 unfold gC; rw[Hp,Dd,Ln]; cases oB x<;>cases mE x<;>cases Fb x<;>rfl
def KF(i:Nat)(c:UInt8):Bool:=mE c.toNat||(!decide (i=0)&&(oB c.toNat||Fb c.toNat))
def Ec(s:List UInt8):Bool:=yJ KF 0 s&&(decide (1≤(s.length:Int))&&decide ((s.length:Int)≤20))
theorem Ej(n:Nat)(s:List UInt8)(h:s.length<n)(hn:s.length<4611686018427387904):jU n s=some (Ec s):=by
 unfold jU; rw[zV s KF (fun i c a=>by
  have b:=iF a; simp only[jK,eK a,z17,Dw,a,z36,z9,JV,JU,JW,aY (show i<4611686018427387904 by omega),KV]
  unfold KF; cases mE (c.toNat:Int)<;>cases decide (i=0)<;>cases oB (c.toNat:Int)<;>cases Fb (c.toNat:Int)<;>rfl) (by simp only[jK,bC,z16]) h]
 unfold Ec; by_cases c:yJ KF 0 s=true
 ·rw[z18 c,c]; simp only[z9,rR,z45]
 ·rw[z12 c]; simp only[z90]at c; rw[c]; rfl
theorem GL: ∀(r:List UInt8) (i:Nat),0<i→yJ KF i r=r.all uO
 | [],i,h=>rfl
 | c::r,i,h=>by
  have e:KF i c=uO c:=by
   unfold KF uO; rw[z10 (by omega)]
   cases mE (c.toNat:Int)<;>cases oB (c.toNat:Int)<;>cases Fb (c.toNat:Int)<;>rfl
  simp only[yJ,z98,GL r (i+1) (by omega),e]
theorem Ep(n:Nat)(s:List UInt8)(h:s.length<n)(hn:s.length<4611686018427387904):mX n s=some (Ec s):=by
 unfold mX; rw[PZ s uO (fun i c b=>by
  have k:=iF b; simp only[lS,eK b,z17,Dw,b,z36,z9,En,aY (show i<4611686018427387904 by omega)]
  unfold uO; cases oB (c.toNat:Int)<;>cases mE (c.toNat:Int)<;>cases Fb (c.toNat:Int)<;>rfl) (by simp only[lS,bC,z16]) h]
 unfold Ec; cases s with
 | nil=>rfl
 | cons c r=>
  have e:yJ KF 0 (c::r)=(mE c.toNat&&r.all uO):=by
   simp only[yJ,z32,GL r 1 (by omega)]
   unfold KF; rw[z14 rfl]; cases mE (c.toNat:Int)<;>rfl
  have f:(c::r).all uO=(uO c&&r.all uO):=z98; have j:ixs (c::r) (0:Int)=some (c.toNat:Int):=rfl; have g:mE c.toNat=true→uO c=true:=fun h=>by unfold uO; rw[h]; cases oB (c.toNat:Int)<;>rfl
  rw[e,f]; generalize r.all uO=q; by_cases a:(uO c&&q)=true
  ·rw[z18 a]
   simp only[z9,tE,j,Dd]; have d:q=true:=by cases q with | true=>rfl | false=>simp at a
   subst d; cases decide (1≤((c::r).length:Int))<;>cases decide (((c::r).length:Int)≤20)<;>cases mE (c.toNat:Int)<;>rfl
  ·rw[z12 a]
   cases hl:mE (c.toNat:Int)with
   | false=>rfl
   | true=>
    rw[g hl]at a; cases q with
    | true=>simp at a
    | false=>rfl
def oX(s:List UInt8):Bool:=sO s&&(!decide (s=[99,97,115,101])&&(!decide (s=[111,102])&& !decide (s=[101,110,100])))
theorem JE(n:Nat)(s:List UInt8)(h:s.length<n)(hn:s.length<4611686018427387904):iB n s=some (oX s):=by
 unfold iB oX; rw[uF n s h hn,z9]; generalize decide (s=[99,97,115,101])=a; generalize decide (s=[111,102])=b; generalize decide (s=[101,110,100])=c; cases sO s<;>cases a<;>cases b<;>cases c<;>rfl
theorem Lm(n:Nat)(s:List UInt8)(h:s.length<n)(hn:s.length<4611686018427387904):iZ n s=some (oX s):=by
 unfold iZ oX jJ; rw[uC n s h hn,z9]; generalize decide (s=[99,97,115,101])=a; generalize decide (s=[111,102])=b; generalize decide (s=[101,110,100])=c; cases sO s<;>cases a<;>cases b<;>cases c<;>rfl
def Mn(s:List UInt8):Bool:=decide (s=[43])||(decide (s=[45])||(decide (s=[42])||(decide (s=[61,61])||decide (s=[60]))))
theorem Pk(n:Nat)(s:List UInt8):oD n s=some (Mn s):=by
 unfold oD Mn; generalize decide (s=[43])=a; generalize decide (s=[45])=b; generalize decide (s=[42])=c; generalize decide (s=[61,61])=d; generalize decide (s=[60])=e; cases a<;>cases b<;>cases c<;>cases d<;>cases e<;>rfl
theorem Pg(n:Nat)(s:List UInt8):oC n s=some (Mn s):=by
 unfold oC Mn; generalize decide (s=[43])=a; generalize decide (s=[45])=b; generalize decide (s=[42])=c; generalize decide (s=[61,61])=d; generalize decide (s=[60])=e; cases a<;>cases b<;>cases c<;>cases d<;>cases e<;>rfl

theorem Na(n:Nat)(l:List (List UInt8))(s:List UInt8)(hn:l.length<n)(c:n<4611686018427387904):eP n l s=some (Eg (fun a=>decide (s=a)) 0 l):=by
 unfold eP; have e:=vX (body:=dC n l s) l (fun a=>decide (s=a)) (fun i=>(i:Int)) (fun i=>Sum.inl (i:Int)) (Sum.inr ((l.length:Int),false)) (fun i a b=>by
  have d:=iF b; simp only[dC,eK b,z17,dJ,b,z9,aY (show i<4611686018427387904 by omega)]
  cases decide (s=a)<;>rfl) (by simp only[dC,bC,z16]) hn
 refine(congrArg (fun q=>Option.bind q _) e).trans ?_
 rcases sD (fun a=>decide (s=a)) l 0 with⟨h,_⟩ | ⟨k,a,h,_⟩
 ·rw[h]; rfl
 ·rw[h,z10 (by omega)]
  simp only[z9,z16,z66]
theorem Hw(n:Nat)(l:List (List UInt8))(s:List UInt8)(hn:l.length<n)(c:n<4611686018427387904):dD n l s=some (decide (s∈l)):=by
 unfold dD; rw[Na n l s hn c]; simp only[z9,z8]; rcases sD (fun a=>decide (s=a)) l 0 with⟨h,h1⟩ | ⟨k,a,h,h1,b,_⟩
 ·rw[h,z10 (by omega),z10 (fun d=>by have:=h1 s d; simp at this)]
 ·simp only[z35]at b
  subst b; rw[h,z14 (by omega),z14 (z24 h1)]
def KI(l:List (List UInt8)):Bool:=yJ (fun i a=> !(decide (a∈l.take i))) 0 l
theorem NJ(l:List (List UInt8)):KI l=true↔l.Nodup:=by
 unfold KI; rw[Iv,List.Nodup,List.pairwise_iff_getElem]; constructor
 ·intro h i j d b f e
  have:=h j l[j] (z11 b)
  simp only[z32,z39,z41]at this; exact this (by rw[←e]; exact z142.2 ⟨i,by omega,rfl⟩)
 ·intro h j a c
  simp only[z32,z39,z41]; intro g; obtain⟨i,d,e⟩:=z142.1 g; obtain⟨b,rfl⟩:=z93.1 c
  exact h i j (by omega) b (by omega) e
theorem FM{α:Type}{l:List α}{i:Nat}(h:i≤l.length):sub l none (some (i:Int))=some (l.take i):=by
 unfold sub bnd; rw[z18 ⟨by simp,by simp only[z156,z63]; omega,by simp only[z63]; omega⟩]
 simp
theorem Ik(n:Nat)(l:List (List UInt8))(s:List UInt8)(hn:l.length<n)(f:n<4611686018427387904):fD n l s=some (decide (s∈l)):=by
 unfold fD; have e:=vX (body:=iQ n l s) l (fun a=>decide (a=s)) (fun i=>(i:Int)) (fun i=>Sum.inl true) (Sum.inr ((l.length:Int),false)) (fun i a b=>by
  have g:=iF b; simp only[iQ,eK b,z17,dJ,b,z9,aY (show i<4611686018427387904 by omega)]
  cases decide (a=s)<;>rfl) (by simp only[iQ,bC,z16]) hn
 refine(congrArg (fun q=>Option.bind q _) e).trans ?_
 rcases sD (fun a=>decide (a=s)) l 0 with⟨h,h1⟩ | ⟨k,a,h,h1,c,_⟩
 ·rw[h,z14 (show(-1:Int)<0 by omega),z10 (show ¬ s∈l from fun d=>by have:=h1 s d; simp at this)]; rfl
 ·simp only[z35]at c
  subst c; rw[h,z10 (by omega),z14 (z24 h1)]
  rfl
theorem GB(n:Nat)(l:List (List UInt8))(hn:l.length<n)(c:n<4611686018427387904):iX n l=some (KI l):=by
 unfold iX; rw[zV l (fun i a=> !(decide (a∈l.take i))) (fun i a b=>by
  have d:=iF b; simp only[kE,eK b,z17,dJ,b,z9,aY (show i<4611686018427387904 by omega),FM (show i≤l.length by omega),Ik n (l.take i) a (by rw[z37]; omega) c]
  cases decide (a∈l.take i)<;>rfl) (by simp only[kE,bC,z16]) hn]
 unfold KI; cases yJ (fun i a=> !(decide (a∈l.take i))) 0 l<;>rfl
def CK(k m:Int)(s:List UInt8)(len:Nat):Bool:=
 bif decide (k=1)then((decide (-1000000000000≤m)&&decide (m≤1000000000000))&&decide (s=[]))&&decide ((len:Int)=0)
 else bif decide (k=2)then(sO s&&decide (m=0))&&decide ((len:Int)=0)
 else bif decide (k=3)then((decide (0≤m)&&decide (m≤1000000))&&decide (s=[]))&&decide ((len:Int)=0)
 else bif decide (k=4)then(decide (m=0)&&decide (s=[]))&&decide ((len:Int)≤20)
 else bif decide (k=5)then(decide (m=0)&&decide (s=[]))&&decide ((len:Int)≤60)
 else false
theorem JX(n:Nat)(k m:Int)(s:List UInt8)(l:List aB)(h:s.length<n)(hn:s.length<4611686018427387904):jY n k m s l=some (CK k m s l.length):=by
 unfold jY CK; rw[uC n s h hn]; simp only[rR,z9]; cases decide (k=1)<;>cases decide (k=2)<;>cases decide (k=3)<;>cases decide (k=4)<;>cases decide (k=5)<;>cases decide (-1000000000000≤m)<;>cases decide (m≤1000000000000)<;>cases decide (s=[])<;>cases decide (m=0)<;>cases decide (0≤m)<;>cases decide (m≤1000000)<;>cases sO s<;>rfl
theorem JO(n:Nat)(k m:Int)(s:List UInt8)(l:List aB)(h:s.length<n)(hn:s.length<4611686018427387904):eT n k m s l=some (CK k m s l.length):=by
 unfold eT CK; rw[uF n s h hn]; simp only[tE,z9]; cases decide (k=1)<;>cases decide (k=2)<;>cases decide (k=3)<;>cases decide (k=4)<;>cases decide (k=5)<;>cases decide (-1000000000000≤m)<;>cases decide (m≤1000000000000)<;>cases decide (s=[])<;>cases decide (m=0)<;>cases decide (0≤m)<;>cases decide (m≤1000000)<;>cases sO s<;>rfl
mutual
def cnt:aB→Nat
 | .mk _ _ _ l=>1+xN l
def xN:List aB→Nat
 | []=>0
 | x::r=>cnt x+xN r
end
theorem Dz(x:aB):1≤cnt x:=by cases x; simp only[cnt]; omega
theorem BP(x:aB)(r:List aB):xN (x::r)=cnt x+xN r:=by simp only[xN]
def okD:Nat→aB→Bool
 | 0,_=>false
 | d+1,x=>CK x.f0 x.f1 x.f2 x.f3.length&&x.f3.all (okD d)
def okN(d:Nat)(m:Int)(x:aB):Bool:=okD d x&&decide ((cnt x:Int)≤m)
def xP(x:aB):Bool:=okN 8 300 x
def IK(d:Nat)(m:Int)(l:List aB):Bool:=l.all (okD d)&&decide ((xN l:Int)≤m)
theorem Ib(d:Nat){m:Int}(h:0≤m):IK d m []=true:=by
 simp [IK,xN,h]
theorem Fq(d:Nat)(m:Int)(x:aB)(r:List aB)(h:0≤m):IK d m (x::r)=(okN d m x&&IK d (m - cnt x) r):=by
 unfold IK okN; rw[BP,z98]; by_cases h1:(xN r:Int)≤m - cnt x
 ·rw[z14 h1,z14 (show(cnt x:Int)≤m by omega),z14 (by omega)]
  cases okD d x<;>cases r.all (okD d)<;>rfl
 ·rw[z10 h1,z10 (show ¬ ((cnt x+xN r:Nat):Int)≤m by omega)]
  cases okD d x<;>cases r.all (okD d)<;>simp
theorem OH(d:Nat)(m:Int)(a0 a1:Int)(a2:List UInt8)(a3:List aB):okN (d+1) m (.mk a0 a1 a2 a3)=(CK a0 a1 a2 a3.length&&IK d (m - 1) a3):=by
 unfold okN IK; have e:cnt (.mk a0 a1 a2 a3)=1+xN a3:=by simp only[cnt]
 rw[e]; have a:okD (d+1) (.mk a0 a1 a2 a3)=(CK a0 a1 a2 a3.length&&a3.all (okD d)):=rfl; rw[a,Rb]; congr 2
 by_cases h:(xN a3:Int)≤m - 1
 ·rw[z14 h,z14 (by omega)]
 ·rw[z10 h,z10 (by omega)]
theorem CY{d:Nat}{m:Int}{x:aB}(h:okN d m x=true):(cnt x:Int)≤m:=by
 unfold okN at h; simp only[z7,z35]at h; exact h.2
def mv(d:Nat)(x:aB):Int:=bif okN d 300 x then cnt x else 301
theorem mv_le(d:Nat)(x:aB):1≤mv d x∧mv d x≤301:=by
 unfold mv; cases h:okN d 300 x with
 | true=>have:=CY h; have:=Dz x; simp only[z17]; omega
 | false=>simp only[z16]; omega
def Ju(d:Nat)(t:Int)(a:aB):Int⊕Unit:=bif decide (300<t+mv d a)then .inr ()else .inl (t+mv d a)
theorem zE(d:Nat): ∀(l:List aB) (t:Int),0≤t→t≤300→oF (Ju d) l t=bif IK d (300 - t) l then .inl (t+xN l)else .inr ()
 | [],t,h0,h1=>by rw[Ib d (by omega)]; simp [oF,xN]
 | a::r,t,h0,h1=>by
  rw[Fq d _ _ _ (by omega)]
  have f:=BP a r; generalize xN (a::r)=q at f ⊢; have g:=Dz a; simp only[oF]; have c:okN d (300 - t) a=(okN d 300 a&&decide (t+cnt a≤300)):=by
   unfold okN; rw[Rb]; congr 1
   by_cases h:(cnt a:Int)≤300 - t
   ·rw[z14 h,z14 (show(cnt a:Int)≤300 by omega),z14 (by omega)]; rfl
   ·rw[z10 h,z10 (show ¬ t+(cnt a:Int)≤300 by omega),z80]
  rw[c]; unfold Ju mv; cases h:okN d 300 a with
  | false=>
   rw[z16,z14 (by omega)]; rfl
  | true=>
   rw[z17,z45]; by_cases b:t+(cnt a:Int)≤300
   ·rw[z14 b,z10 (by omega),z16,z45]
    have e:=zE d r (t+cnt a) (by omega) b
    unfold Ju mv at e; simp only; rw[e,show(300 - t - (cnt a:Int))=300 - (t+cnt a)by omega,show t+(q:Int)=t+cnt a+xN r by omega]
   ·rw[z10 b,z14 (by omega)]; rfl

theorem DW: ∀(n:Nat) (a0 a1:Int) (a2:List UInt8) (a3:List aB) (d:Nat),d≤8→aQ (.mk a0 a1 a2 a3)<n→n<4611686018427387904→bP n a0 a1 a2 a3 (9 - (d:Int))=some (mv d (.mk a0 a1 a2 a3))
 | 0,a0,a1,a2,a3,d,k,h,_=>by omega
 | n+1,a0,a1,a2,a3,d,k,h,hn=>by
  rw[qY]; unfold eM; simp only[aQ,eW]at h; have m:=bB aQ a3; rw[JO n a0 a1 a2 a3 (by omega) (by omega)]
  cases d with
  | zero=>
   rw[z14 (show(8:Int)<9 - ((0:Nat):Int)by omega)]
   rfl
  | succ d=>
   rw[z10 (show ¬ (8:Int)<9 - ((d+1:Nat):Int)by omega)]
   have f:cnt (.mk a0 a1 a2 a3)=1+xN a3:=by simp only[cnt]
   unfold mv; rw[OH]; generalize cnt (.mk a0 a1 a2 a3)=q at f ⊢; simp only[z16,z9]; cases hs:CK a0 a1 a2 a3.length with
   | false=>rfl
   | true=>
    simp only[z38,z16,z45]; have h1:=Fw (body:=cM n (bP n) (9 - ((d+1:Nat):Int)) a3) a3 (Ju d) (fun t i=>(t,(i:Int))) (fun t=> .inr (t,(a3.length:Int),false)) (fun _=> .inl 301) (fun t=>1≤t∧t≤300) (fun i a t b p=>by
     have o:=eF aQ (z24 b); have l:=iF b; have e:IntKind.wrap .i64 (9 - ((d+1:Nat):Int)+1)=9 - (d:Int):=by rw[wrap_i64 (by omega) (by omega)]; omega
     have c:=DW n a.f0 a.f1 a.f2 a.f3 d (by omega) (by rw[aW]; omega) (by omega)
     rw[aW]at c; simp only[cM,eK b,z17,dJ,b,z9,e,c,aY (show i<4611686018427387904 by omega)]
     have j:=mv_le d a; rw[wrap_i64 (n:=t+mv d a) (by omega) (by omega)]
     unfold Ju; generalize mv d a=g at j; by_cases q:300<t+g
     ·right; exact⟨(),by rw[z14 q]; rfl,by rw[z14 q,z17]⟩
     ·left; exact⟨t+g,by rw[z10 q]; rfl,by omega,by rw[z10 q,z16]⟩) (fun t _=>by simp only[cM,bC,z16]) (n:=n) (by omega) (t0:=1) ⟨by omega,by omega⟩
    rw[zE d a3 1 (by omega) (by omega)]at h1
    have h1:loopN (cM n (bP n) (9 - ((d+1:Nat):Int)) a3) n ((1:Int),(0:Int))=_:=h1; rw[h1]; cases IK d (300 - 1) a3 with
    | true=>simp only[z17,z9,z8]; omega
    | false=>rfl
theorem Ch(n:Nat)(a0 a1:Int)(a2:List UInt8)(a3:List aB)(h:aQ (.mk a0 a1 a2 a3)<n)(hn:n<4611686018427387904):lK n a0 a1 a2 a3=some (xP (.mk a0 a1 a2 a3)):=by
 unfold lK xP; have h1:=DW n a0 a1 a2 a3 8 (by omega) h hn
 have h1:bP n a0 a1 a2 a3 (1:Int)=_:=h1; rw[h1]; unfold mv; simp only[z9,z8]; cases q:okN 8 300 (.mk a0 a1 a2 a3)with
 | true=>have:=CY q; rw[z17]; exact z14 this
 | false=>rfl

def lk(d:Nat)(x:aB)(t:Int):Int:=bif okN d t x then t - cnt x else -1
def lks(d:Nat)(l:List aB)(t:Int):Int:=bif IK d t l then t - xN l else -1
def CP(d:Nat)(t:Int)(a:aB):Int⊕Int:=bif decide (0≤t)then .inl (lk d a t)else .inr t
def KY{α:Type}:α⊕α→α
 | .inl a=>a
 | .inr a=>a
theorem BF(d:Nat): ∀(l:List aB) (t:Int), -1≤t→KY (oF (CP d) l t)=bif decide (0≤t)then lks d l t else t
 | [],t,h0=>by
  by_cases h:0≤t
  ·rw[z14 h]; unfold lks; rw[Ib d h]; simp [oF,KY,xN]
  ·rw[z10 h]; rfl
 | a::r,t,h0=>by
  simp only[oF]; by_cases h:0≤t
  ·have e:CP d t a= .inl (lk d a t):=by unfold CP; rw[z14 h]; rfl
   rw[e,z14 h,z17]; simp only; unfold lks; rw[Fq d t a r h]; have b:=BP a r; generalize xN (a::r)=q at b ⊢; unfold lk; cases ha:okN d t a with
   | false=>
    rw[z16,BF d r _ (by omega)]; rfl
   | true=>
    have:=CY ha; rw[z17,BF d r _ (by omega),z14 (by omega),z17,z45]
    unfold lks; rw[show t - (q:Int)=t - cnt a - xN r by omega]
  ·have e:CP d t a= .inr t:=by unfold CP; rw[z10 h]; rfl
   rw[e,z10 h]; rfl
theorem Kv: ∀(n:Nat) (a0 a1:Int) (a2:List UInt8) (a3:List aB) (d:Nat) (t:Int),d≤8→ -1≤t→t≤300→aQ (.mk a0 a1 a2 a3)<n→n<4611686018427387904→dX n a0 a1 a2 a3 (d:Int) t=some (lk d (.mk a0 a1 a2 a3) t)
 | 0,a0,a1,a2,a3,d,t,l,_,_,h,_=>by omega
 | n+1,a0,a1,a2,a3,d,t,l,t0,u,h,hn=>by
  rw[xE]; unfold lD; simp only[aQ,eW]at h; have p:=bB aQ a3; rw[JX n a0 a1 a2 a3 (by omega) (by omega)]
  have m:=Dz (.mk a0 a1 a2 a3); cases d with
  | zero=>
   rw[z14 (show((0:Nat):Int)<1 by omega)]
   rfl
  | succ d=>
   rw[z10 (show ¬ ((d+1:Nat):Int)<1 by omega)]
   by_cases b:t<1
   ·rw[z14 b]
    unfold lk; have:okN (d+1) t (.mk a0 a1 a2 a3)=false:=by
     cases q:okN (d+1) t (.mk a0 a1 a2 a3)with
     | false=>rfl
     | true=>have:=CY q; omega
    rw[this]; rfl
   rw[z10 b]; have k:cnt (.mk a0 a1 a2 a3)=1+xN a3:=by simp only[cnt]
   unfold lk; rw[OH]; generalize cnt (.mk a0 a1 a2 a3)=q at k m ⊢; simp only[z16,z9]; cases hs:CK a0 a1 a2 a3.length with
   | false=>rfl
   | true=>
    simp only[z38,z16,z45]; obtain⟨x,h1,f⟩:=DX (body:=fG n (dX n) ((d+1:Nat):Int) a3) a3 (CP d) (fun t i=>(t,(i:Int))) (fun t=>(t,(a3.length:Int),false)) (fun q r=>r.1=q) (fun t=> -1≤t∧t≤300) (fun i a t c b=>by
     have s:=eF aQ (z24 c); have o:=iF c; have e:IntKind.wrap .i64 (((d+1:Nat):Int) - 1)=(d:Int):=by rw[wrap_i64 (by omega) (by omega)]; omega
     have j:=Kv n a.f0 a.f1 a.f2 a.f3 d t (by omega) b.1 b.2 (by rw[aW]; omega) (by omega)
     rw[aW]at j; simp only[fG,eK c,z17,dJ,c,z9,e,j,aY (show i<4611686018427387904 by omega)]
     unfold CP; by_cases q:0≤t
     ·left
      refine⟨lk d a t,by rw[z14 q]; rfl, ?_,by rw[z14 q,z17]⟩
      unfold lk; have:=Dz a; cases q2:okN d t a with
      | false=>rw[z16]; omega
      | true=>have:=CY q2; rw[z17]; omega
     ·right
      exact⟨t,_,by rw[z10 q]; rfl,by rw[z10 q,z16],rfl⟩) (fun t _=>by simp only[fG,bC,z16,z9]) (n:=n) (by omega) (t0:=t - 1) ⟨by omega,by omega⟩
    have h1:loopN (fG n (dX n) ((d+1:Nat):Int) a3) n (t - 1,(0:Int))=_:=h1; rw[wrap_i64 (n:=t - 1) (by omega) (by omega),h1]
    have g:x.1=KY (oF (CP d) a3 (t - 1)):=by
     revert f
     cases oF (CP d) a3 (t - 1)with
     | inl t'=>intro f; rw[f]; rfl
     | inr q=>exact id
    rw[BF d a3 _ (by omega),z14 (by omega),z17]at g
    obtain⟨x1,v,w⟩:=x; simp only at g; subst g; simp only[z9,z8]; unfold lks; cases IK d (t - 1) a3 with
    | true=>simp only[z17]; omega
    | false=>rfl
theorem Ce(n:Nat)(a0 a1:Int)(a2:List UInt8)(a3:List aB)(h:aQ (.mk a0 a1 a2 a3)<n)(hn:n<4611686018427387904):jA n a0 a1 a2 a3=some (xP (.mk a0 a1 a2 a3)):=by
 unfold jA xP; have h1:=Kv n a0 a1 a2 a3 8 300 (by omega) (by omega) (by omega) h hn
 have h1:dX n a0 a1 a2 a3 (8:Int) 300=_:=h1; rw[h1]; unfold lk; simp only[z9,z8]; cases q:okN 8 300 (.mk a0 a1 a2 a3)with
 | true=>have:=CY q; rw[z17]; exact z14 (by omega)
 | false=>rfl
theorem sG: ∀(n:Nat),n≤1099511627776→(∀(a0 a1:Int) (a2:List UInt8) (a3:List aB),aQ (.mk a0 a1 a2 a3)<n→cZ n a0 a1 a2 a3=some (a0,a1,a2,a3))∧ ∀(l:List aB),dl aQ l<n→dT n l=some l
 | 0,_=>⟨fun a0 a1 a2 a3 h=>by omega,fun l h=>by omega⟩
 | n+1,hn=>by
  obtain⟨d,e⟩:=sG n (by omega)
  refine⟨fun a0 a1 a2 a3 h=> ?_,fun l h=> ?_⟩
  ·rw[tZ]
   unfold iO; simp only[aQ,eW]at h; simp only[e a3 (by omega),z9]
  ·rw[tK]
   unfold gV; have j:=bB aQ l; have g:=oU (body:=eS n (cZ n) l) (fun i=>(l.take i,(i:Int))) (len:=l.length) (r:=(l,(l.length:Int),false)) (fun i f=>by
    have b:l[i]? =some l[i]:=z11 f
    generalize l[i]=a at b; have k:=eF aQ (z24 b); have c:fS 56 (l.take i) [aB.mk a.f0 a.f1 a.f2 a.f3]=some (l.take (i+1)):=by
     rw[aW, ←qC b]; exact qM (by rw[z37]; simp only[z21]; omega) (by rw[z37]; simp only[z21,maxLen]; omega)
    simp only[eS,eK b,z17,dJ,b,z9,d a.f0 a.f1 a.f2 a.f3 (by rw[aW]; omega),c,aY (show i<4611686018427387904 by omega)]) (by simp only[eS,bC,z16,OX]) (n:=n) (by omega)
   refine(congrArg (fun q=>Option.bind q _) g).trans ?_
   rfl
theorem Hv(n:Nat){a:aB}(h:aQ a<n)(hn:n≤1099511627776):cZ n a.f0 a.f1 a.f2 a.f3=some (a.f0,a.f1,a.f2,a.f3):=(sG n hn).1 _ _ _ _ (by rw[aW]; exact h)
theorem DZ: ∀(n:Nat),n≤1099511627776→ ∀(a0 a1:Int) (a2:List UInt8) (a3:List aB),aQ (.mk a0 a1 a2 a3)<n→dI n a0 a1 a2 a3=some (a0,a1,a2,a3)
 | 0,_=>fun a0 a1 a2 a3 h=>by omega
 | n+1,hn=>fun a0 a1 a2 l h=>by
  have d:=DZ n (by omega)
  rw[xH]; unfold lF; simp only[aQ,eW]at h; have g:=bB aQ l; have f:=oU (body:=gY n (dI n) l) (fun i=>((i:Int),a0,a1,a2,l.take i)) (len:=l.length) (r:=((l.length:Int),false,a0,a1,a2,l)) (fun i e=>by
   have b:l[i]? =some l[i]:=z11 e
   generalize l[i]=a at b; have j:=eF aQ (z24 b); have c:fS 56 (l.take i) [aB.mk a.f0 a.f1 a.f2 a.f3]=some (l.take (i+1)):=by
    rw[aW, ←qC b]; exact qM (by rw[z37]; simp only[z21]; omega) (by rw[z37]; simp only[z21,maxLen]; omega)
   simp only[gY,eK b,z17,dJ,b,z9,d a.f0 a.f1 a.f2 a.f3 (by rw[aW]; omega),c,aY (show i<4611686018427387904 by omega)]) (by simp only[gY,bC,z16,OX]) (n:=n) (by omega)
  refine(congrArg (fun q=>Option.bind q _) f).trans ?_
  rfl
theorem BK(n:Nat){a:aB}(h:aQ a<n)(hn:n≤1099511627776):dI n a.f0 a.f1 a.f2 a.f3=some (a.f0,a.f1,a.f2,a.f3):=DZ n hn _ _ _ _ (by rw[aW]; exact h)
def Ix(k m:Int)(s:List UInt8)(a:Int):Bool:=
 bif decide (k=1)then(decide (0≤m)&&decide (m≤1000000000000))&&(decide (s=[])&&decide (a=0))
 else bif decide (k=2)then decide (m=0)&&(oX s&&decide (a=0))
 else bif decide (k=3)then decide (m=0)&&(Ec s&&decide (a=0))
 else bif decide (k=4)then decide (m=0)&&(decide (s=[])&&decide (a≤20))
 else bif decide (k=5)then decide (m=0)&&(decide (s=[])&&decide (a≤20))
 else bif decide (k=6)then decide (m=0)&&(decide (s=[])&&(decide (2≤a)&&decide (a≤6)))
 else bif decide (k=7)then decide (m=0)&&(Mn s&&decide (a=2))
 else bif decide (k=8)then decide (m=0)&&(oX s&&decide (a≤4))
 else bif decide (k=9)then decide (m=0)&&(decide (s=[])&&decide (a=1))
 else false
theorem JI(n:Nat)(k m:Int)(s:List UInt8)(a:Int)(h:s.length<n)(hn:s.length<4611686018427387904):jZ n k m s a=some (Ix k m s a):=by
 unfold jZ Ix; rw[JE n s h hn,Ep n s h hn,Pk n s]; simp only[tE,z9]; cases decide (k=1)with
 | true=>cases decide (0≤m)<;>cases decide (m≤1000000000000)<;>cases decide (s=[])<;>rfl
 | false=>
 cases decide (k=2)with
 | true=>cases decide (m=0)<;>cases oX s<;>rfl
 | false=>
 cases decide (k=3)with
 | true=>cases decide (m=0)<;>cases Ec s<;>rfl
 | false=>
 cases decide (k=4)with
 | true=>cases decide (m=0)<;>cases decide (s=[])<;>rfl
 | false=>
 cases decide (k=5)with
 | true=>cases decide (m=0)<;>cases decide (s=[])<;>rfl
 | false=>
 cases decide (k=6)with
 | true=>cases decide (m=0)<;>cases decide (s=[])<;>rfl
 | false=>
 cases decide (k=7)with
 | true=>cases decide (m=0)<;>cases Mn s<;>rfl
 | false=>
 cases decide (k=8)with
 | true=>cases decide (m=0)<;>cases oX s<;>rfl
 | false=>
 cases decide (k=9)with
 | true=>cases decide (m=0)<;>cases decide (s=[])<;>rfl
 | false=>rfl
def shp(a:Bool)(k m:Int)(s:List UInt8)(c b:Int):Bool:=
 bif decide (k=9)then(!a&&Ix k m s c)&&(decide (1≤b)&&decide (b≤6))
 else !decide (0<b)&&(Ix k m s c&&(bif a then !decide (6<k)else !(decide (k=3)&&decide (s=[95]))))
theorem JR(n:Nat)(k m:Int)(s:List UInt8)(l:List aA)(c:List aC)(a:Bool)(h:s.length<n)(hn:s.length<4611686018427387904):jS n k m s l c a=some (shp a k m s l.length c.length):=by
 unfold jS shp Ix; rw[Lm n s h hn,Ej n s h hn,Pg n s]; simp only[rR,z9]; generalize (l.length:Int)=ne; generalize (c.length:Int)=nc; by_cases h1:k=1
 ·subst h1
  cases decide (0<nc)<;>cases decide (0≤m)<;>cases decide (m≤1000000000000)<;>cases decide (s=[])<;>cases decide (ne=0)<;>cases a<;>rfl
 by_cases b:k=2
 ·subst b
  cases decide (0<nc)<;>cases decide (m=0)<;>cases oX s<;>cases decide (ne=0)<;>cases a<;>rfl
 by_cases d:k=3
 ·subst d
  cases decide (0<nc)<;>cases decide (m=0)<;>cases Ec s<;>cases decide (ne=0)<;>cases a<;>cases decide (s=[95])<;>rfl
 by_cases e:k=4
 ·subst e
  cases decide (0<nc)<;>cases decide (m=0)<;>cases decide (s=[])<;>cases decide (ne≤20)<;>cases a<;>rfl
 by_cases f:k=5
 ·subst f
  cases decide (0<nc)<;>cases decide (m=0)<;>cases decide (s=[])<;>cases decide (ne≤20)<;>cases a<;>rfl
 by_cases g:k=6
 ·subst g
  cases decide (0<nc)<;>cases decide (m=0)<;>cases decide (s=[])<;>cases decide (2≤ne)<;>cases decide (ne≤6)<;>cases a<;>rfl
 by_cases i:k=7
 ·subst i
  cases decide (0<nc)<;>cases decide (m=0)<;>cases Mn s<;>cases decide (ne=2)<;>cases a<;>rfl
 by_cases j:k=8
 ·subst j
  cases decide (0<nc)<;>cases decide (m=0)<;>cases oX s<;>cases decide (ne≤4)<;>cases a<;>rfl
 by_cases o:k=9
 ·subst o
  cases decide (m=0)<;>cases decide (s=[])<;>cases decide (ne=1)<;>cases decide (1≤nc)<;>cases decide (nc≤6)<;>cases a<;>rfl
 rw[z10 h1,z10 b,z10 d,z10 e,z10 f,z10 g,z10 i,z10 j,z10 o]; cases decide (0<nc)<;>cases decide (m=0)<;>rfl
theorem Kg(k m:Int)(s:List UInt8)(b a:Int):(!decide (6<k)&&(!decide (0<a)&&Ix k m s b))=shp true k m s b a:=by
 unfold shp; by_cases c:k=9
 ·subst c; rfl
 ·rw[z10 c]
  cases decide (6<k)<;>cases decide (0<a)<;>cases Ix k m s b<;>rfl

mutual
def nC:aA→List (List UInt8)
 | .mk k _ s l _=>bif decide (k=3)then(bif decide (s=[95])then []else [s])else iH l
def iH:List aA→List (List UInt8)
 | []=> []
 | x::r=>nC x++iH r
end
theorem Nz(a:aA):nC a=bif decide (a.f0=3)then(bif decide (a.f2=[95])then []else [a.f2])else iH a.f3:=by cases a; simp only[nC]; rfl
theorem Fg: ∀(a b:List aA),iH (a++b)=iH a++iH b
 | [],b=>rfl
 | x::r,b=>by simp only[z89,iH,Fg r b,z85]
theorem LP(a:aA):iH [a]=nC a:=by simp only[iH,z86]
mutual
theorem EE: ∀e,(nC e).length≤aN e
 | .mk k m s l c=>by
  have:=Aw l; simp only[nC,aN]; cases decide (k=3)<;>cases decide (s=[95])<;>simp<;>omega
theorem Aw: ∀l,(iH l).length≤xO l
 | []=>by simp [iH]
 | x::r=>by have:=EE x; have:=Aw r; simp only[iH,xO,z30]; omega
end
mutual
def lY:aA→Nat
 | .mk _ _ _ l c=>1+kC l+GS c
def kC:List aA→Nat
 | []=>0
 | x::r=>lY x+kC r
def GS:List aC→Nat
 | []=>0
 | x::r=>KL x+GS r
def KL:aC→Nat
 | .two p x=>lY p+lY x
end
theorem KM(a:aA):lY a=1+kC a.f3+GS a.f4:=by cases a; simp only[lY]; rfl
theorem TX(a:aC):KL a=lY a.p+lY a.x:=by cases a; simp only[KL]; rfl
theorem Fe: ∀l,kC l=Gv lY l
 | []=>rfl
 | x::r=>by simp only[kC,Gv,Fe r]
theorem GI: ∀l,GS l=Gv KL l
 | []=>rfl
 | x::r=>by simp only[GS,Gv,GI r]
def xok:Nat→Bool→aA→Bool
 | 0,_,_=>false
 | d+1,a,e=>shp a e.f0 e.f1 e.f2 e.f3.length e.f4.length&&(e.f3.all (xok d a)&&e.f4.all (fun c=>KI (nC c.p)&&(xok d true c.p&&xok d false c.x)))
def cok(d:Nat)(c:aC):Bool:=KI (nC c.p)&&(xok d true c.p&&xok d false c.x)
theorem EB(d:Nat)(a:Bool)(e:aA):xok (d+1) a e=(shp a e.f0 e.f1 e.f2 e.f3.length e.f4.length&&(e.f3.all (xok d a)&&e.f4.all (cok d))):=rfl
def CM(e:aA):Bool:=(xok 10 true e&&decide ((lY e:Int)≤300))&&KI (nC e)

def tk(b:Bool)(c:Nat)(t:Int):Int:=bif b&&decide ((c:Int)≤t)then t - c else -1
theorem SB(b:Bool)(c:Nat){t:Int}(h:t<c):tk b c t= -1:=by
 unfold tk; rw[z10 (by omega),z80]; rfl
theorem Og(b:Bool)(c:Nat)(t:Int)(h: -1≤t): -1≤tk b c t∧tk b c t≤t:=by
 unfold tk; by_cases q:(b&&decide ((c:Int)≤t))=true
 ·rw[q]
  simp only[z7,z35]at q; simp only[z17]; omega
 ·rw[z90]at q; rw[q]; simp only[z16]; omega
def KG{α:Type}(b:α→Bool)(c:α→Nat):List α→Int→Int
 | [],t=>t
 | a::r,t=>bif decide (0≤t)then KG b c r (tk (b a) (c a) t)else t
theorem EJ{α:Type}(b:α→Bool)(c:α→Nat): ∀(l:List α) {t:Int},t<0→KG b c l t=t
 | [],t,h=>rfl
 | a::r,t,h=>by unfold KG; rw[z10 (by omega)]; rfl
theorem HE{α:Type}(b:α→Bool)(c:α→Nat): ∀(l:List α) {t:Int},0≤t→KG b c l t=tk (l.all b) (Gv c l) t
 | [],t,h=>by
  unfold KG tk; rw[z14 (show((Gv c []:Nat):Int)≤t by simp only[Gv]; omega)]
  simp [Gv]
 | a::r,t,h=>by
  unfold KG; rw[z14 h,z17,z98]; have e:Gv c (a::r)=c a+Gv c r:=rfl; rw[e]; by_cases q:(b a&&decide ((c a:Int)≤t))=true
  ·have d:tk (b a) (c a) t=t - c a:=by unfold tk; rw[q]; rfl
   simp only[z7,z35]at q; rw[d,HE b c r (by omega),q.1,z45]
   unfold tk; by_cases z:((Gv c r:Nat):Int)≤t - c a
   ·rw[z14 z,z14 (by omega)]
    cases r.all b
    ·rfl
    ·simp only[Me,z17]; omega
   ·rw[z10 z,z10 (by omega)]
    cases r.all b<;>rfl
  ·have d:tk (b a) (c a) t= -1:=by unfold tk; rw[z90]at q; rw[q]; rfl
   rw[d,EJ b c r (by omega)]
   unfold tk; cases ha:b a with
   | false=>rfl
   | true=>
    rw[ha,z45,z35]at q; rw[z10 (by omega),z80]; rfl
theorem BE{α ρ:Type}{body:Int×Int→Option ((Int×Int)⊕ρ)}(l:List α)(d:α→Bool)(c:α→Nat)(b:Int→ρ→Prop)(s: ∀(i:Nat) a (t:Int),l[i]? =some a→0≤t→t≤300→body (t,(i:Int))=some (.inl (tk (d a) (c a) t,((i+1:Nat):Int)))∨(∃r,body (t,(i:Int))=some (.inr r)∧b (-1) r∧tk (d a) (c a) t= -1))
  (hn: ∀(i:Nat) (t:Int),t<0→i<l.length→ ∃r,body (t,(i:Int))=some (.inr r)∧b t r)(p: ∀t:Int, ∃r,body (t,(l.length:Int))=some (.inr r)∧b t r): ∀(r:List α) (i:Nat) (t:Int) (n:Nat),l.drop i=r→ -1≤t→t≤300→r.length<n→i≤l.length→ ∃x,loopN body n (t,(i:Int))=some x∧b (KG d c r t) x
 | [],i,t,n,h,h0,h1,j,y=>by
  obtain⟨m,rfl⟩: ∃m,n=m+1:=⟨n - 1,by simp at j; omega⟩
  have:i=l.length:=by
   have:=congrArg List.length h; simp at this; omega
  subst this; obtain⟨x,f,g⟩:=p t; simp only[loopN,f]; exact⟨x,rfl,g⟩
 | a::r,i,t,n,h,h0,h1,j,y=>by
  obtain⟨m,rfl⟩: ∃m,n=m+1:=⟨n - 1,by simp at j; omega⟩
  have k:i<l.length:=by
   have:=congrArg List.length h; simp at this; omega
  have v:l[i]? =some a:=by
   have:=congrArg (·[0]?) h
   simpa using this
  have o:l.drop (i+1)=r:=by
   have:=congrArg List.tail h; simpa using this
  have e:KG d c (a::r) t=bif decide (0≤t)then KG d c r (tk (d a) (c a) t)else t:=rfl
  rw[e]; by_cases q:0≤t
  ·rw[z14 q,z17]
   have w:=Og (d a) (c a) t h0; rcases s i a t v q h1 with f | ⟨x,f,g,u⟩
   ·simp only[loopN,f]
    exact BE l d c b s hn p r (i+1) _ m o w.1 (by omega) (by simp at j; omega) (by omega)
   ·simp only[loopN,f]
    rw[u,EJ d c r (by omega)]
    exact⟨x,rfl,g⟩
  ·rw[z10 q,z16]
   obtain⟨x,f,g⟩:=hn i t (by omega) k
   simp only[loopN,f]; exact⟨x,rfl,g⟩
theorem jQ{α:Type}(w:α→Nat): ∀(l:List α) (i:Nat),dl w (l.take i)≤dl w l
 | [],i=>by simp
 | a::r,0=>by simp only[Mh,dl]; omega
 | a::r,i+1=>by have:=jQ w r i; simp only[z132,dl]; omega
theorem mA{α:Type}(w:α→Nat){l:List α}{i:Nat}{a:α}(h:l[i]? =some a):dl w (l.take (i+1))=dl w (l.take i)+1+w a:=by
 rw[←qC h]; generalize l.take i=p; induction p with
 | nil=>simp only[QK,dl]; omega
 | cons b r ih=>simp only[z89,dl,ih]; omega
theorem pU: ∀(n:Nat),n≤1099511627776→ ∀(a:aA),aN a<n→dZ n a.f0 a.f1 a.f2 a.f3 a.f4=some (nC a)
 | 0,_,a,h=>by omega
 | n+1,hn,a,h=>by
  have o:=pU n (by omega)
  rw[xI,Nz]; unfold lG; rw[qG,iG,fP]at h; have f:=bB aN a.f3; cases decide (a.f0=3)with
  | true=>
   simp only[z17]; have c:fS 16 ([]:List (List UInt8)) [a.f2]=some [a.f2]:=qM (by simp) (by simp [maxLen])
   rw[c]; cases decide (a.f2=[95])<;>rfl
  | false=>
   simp only[z16]; generalize a.f3=l at h f; have m:=oU (body:=hG n (dZ n) l) (fun i=>(iH (l.take i),(i:Int))) (len:=l.length) (r:=(iH l,(l.length:Int),false)) (fun i k=>by
    have d:l[i]? =some l[i]:=z11 k
    generalize l[i]=b at d; have p:=eF aN (z24 d); have e:iH (l.take (i+1))=iH (l.take i)++nC b:=by rw[←qC d,Fg,LP]
    have g:=Aw (l.take (i+1)); have j:xO (l.take (i+1))≤dl aN l:=by
     rw[iG]; exact jQ aN l (i+1)
    rw[e,z30]at g; have c:fS 16 (iH (l.take i)) (nC b)=some (iH (l.take (i+1))):=by
     rw[e]; exact qM (by omega) (by simp only[maxLen]; omega)
    simp only[hG,eK d,z17,dJ,d,z9,o b (by omega),c,aY (show i<4611686018427387904 by omega)]) (by simp only[hG,bC,z16,OX]) (n:=n) (by omega)
   refine(congrArg (fun q=>Option.bind q _) m).trans ?_
   rfl
def val2:Int⊕(Int×Int×Bool)→Int
 | .inl v=>v
 | .inr (v,_,_)=>v
theorem EC: ∀(n:Nat),n≤1099511627776→ ∀(a:aA) (f:Bool) (d:Nat) (t:Int),d≤10→ -1≤t→t≤300→aN a<n→bO n a.f0 a.f1 a.f2 a.f3 a.f4 f (d:Int) t=some (tk (xok d f a) (lY a) t)
 | 0,_,a,f,d,t,L,t0,Q,h=>by omega
 | n+1,hn,a,f,d,t,L,t0,Q,h=>by
  have D:=EC n (by omega)
  rw[xB]; unfold lA; rw[qG,iG,fP]at h; have M:=bB aN a.f3; have B:=bB dH a.f4; rw[JR n a.f0 a.f1 a.f2 a.f3 a.f4 f (by omega) (by omega)]
  have C:=KM a; cases d with
  | zero=>
   rw[z14 (show((0:Nat):Int)<1 by omega)]
   have e:tk (xok 0 f a) (lY a) t= -1:=rfl; rw[e]; rfl
  | succ d=>
   rw[z10 (show ¬ ((d+1:Nat):Int)<1 by omega)]
   by_cases o:t<1
   ·rw[z14 o,SB _ _ (by omega)]; rfl
   rw[z10 o,EB]; generalize lY a=q at C ⊢; simp only[z16,z9]; cases hs:shp f a.f0 a.f1 a.f2 a.f3.length a.f4.length with
   | false=>rfl
   | true=>
    simp only[z38,z16,z45]; generalize a.f3=l at h M C ⊢; generalize a.f4=c at h B C ⊢; have G:IntKind.wrap .i64 (((d+1:Nat):Int) - 1)=(d:Int):=by rw[wrap_i64 (by omega) (by omega)]; omega
    rw[wrap_i64 (n:=t - 1) (by omega) (by omega)]
    obtain⟨x,h1,H⟩:=BE (body:=dR n (bO n) f ((d+1:Nat):Int) l) l (xok d f) lY (fun t r=>r.1=t) (fun i b t j E F=>by
     have N:=eF aN (z24 j); have A:=iF j; left
     simp only[dR,eK j,z17,dJ,j,z9,z14 E,G,D b f d t (by omega) (by omega) F (by omega),aY (show i<4611686018427387904 by omega)]) (fun i t o A=>⟨(t,(i:Int),false),by
      simp only[dR,z14 (show(i:Int)<(l.length:Int)by omega),z17,z9,z10 (show ¬ 0≤t by omega),z16],rfl⟩) (fun t=>⟨(t,(l.length:Int),false),by simp only[dR,bC,z16,z9],rfl⟩) l 0 (t - 1) n rfl (by omega) (by omega) (by omega) (by omega)
    have h1:loopN (dR n (bO n) f ((d+1:Nat):Int) l) n (t - 1,(0:Int))=some x:=h1; rw[h1]; obtain⟨x1,V,W⟩:=x; simp only at H; subst H; simp only[z9]; rw[HE (xok d f) lY l (by omega), ←Fe]
    have j:=Og (l.all (xok d f)) (kC l) (t - 1) (by omega)
    obtain⟨y,u,I⟩:=BE (body:=dQ n (bO n) ((d+1:Nat):Int) c) c (cok d) KL (fun t r=>val2 r=t) (fun i b t m E F=>by
     have N:=eF dH (z24 m); have A:=iF m; have U:=vP b; have R:dZ n b.f0 b.f1 b.f2 b.f3 b.f4=some (nC b.p):=pU n (by omega) b.p (by omega)
     have P:=EE b.p; have S:bO n b.f0 b.f1 b.f2 b.f3 b.f4 true (d:Int) t=some (tk (xok d true b.p) (lY b.p) t):=D b.p true d t (by omega) (by omega) F (by omega)
     have w:=Og (xok d true b.p) (lY b.p) t (by omega)
     have T:bO n b.f5 b.f6 b.f7 b.f8 b.f9 false (d:Int) (tk (xok d true b.p) (lY b.p) t)=some (tk (xok d false b.x) (lY b.x) (tk (xok d true b.p) (lY b.p) t)):=D b.x false d _ (by omega) w.1 (by omega) (by omega)
     have K:=TX b; have O:=KM b.p; unfold cok; simp only[dQ,eK m,z17,dJ,m,z9,z14 E,R,GB n (nC b.p) (by omega) (by omega),G,S,T,aY (show i<4611686018427387904 by omega)]
     cases ho:KI (nC b.p)with
     | false=>
      right
      exact⟨.inl (-1),rfl,rfl,by unfold tk; rfl⟩
     | true=>
      left
      simp only[z38,z16,z45]; by_cases g:0≤tk (xok d true b.p) (lY b.p) t
      ·rw[z14 g]
       simp only[z17,z9,z8,Sum.inl.injEq,z49,and_true]; unfold tk at g ⊢; cases hx:xok d true b.p with
       | false=>rw[hx]at g; simp at g
       | true=>
        rw[hx,z45]at g; simp only[z45]; by_cases z:(lY b.p:Int)≤t
        ·rw[z14 z,z17]
         by_cases k:(lY b.x:Int)≤t - lY b.p
         ·rw[z14 k,z14 (show(KL b:Int)≤t by omega)]
          cases xok d false b.x
          ·rfl
          ·simp only[Me,z17]; omega
         ·rw[z10 k,z10 (show ¬ (KL b:Int)≤t by omega)]
          cases xok d false b.x<;>rfl
        ·rw[z10 z]at g; simp at g
      ·rw[z10 g]
       have s:tk (xok d true b.p) (lY b.p) t= -1:=by omega
       simp only[z16,z9,z8,Sum.inl.injEq,z49,and_true]; rw[s]; unfold tk at g ⊢; cases hx:xok d true b.p with
       | false=>rfl
       | true=>
        rw[hx,z45]at g; by_cases z:(lY b.p:Int)≤t
        ·rw[z14 z,z17]at g; omega
        ·rw[z10 (show ¬ (KL b:Int)≤t by omega),z80]; rfl) (fun i t o A=>⟨.inr (t,(i:Int),false),by
      simp only[dQ,z14 (show(i:Int)<(c.length:Int)by omega),z17,z9,z10 (show ¬ 0≤t by omega),z16],rfl⟩) (fun t=>⟨.inr (t,(c.length:Int),false),by simp only[dQ,bC,z16,z9],rfl⟩) c 0 (tk (l.all (xok d f)) (kC l) (t - 1)) n rfl j.1 (by omega) (by omega) (by omega)
    have u:loopN (dQ n (bO n) ((d+1:Nat):Int) c) n (tk (l.all (xok d f)) (kC l) (t - 1),(0:Int))=some y:=u; rw[u]; simp only[z9]; have J:some (val2 y)=some (tk (l.all (xok d f)&&c.all (cok d)) q t):=by
     rw[I]; congr 1
     by_cases g:0≤tk (l.all (xok d f)) (kC l) (t - 1)
     ·rw[HE (cok d) KL c g, ←GI]
      unfold tk at g ⊢; cases hx:l.all (xok d f)with
      | false=>rw[hx]at g; simp at g
      | true=>
       rw[hx,z45]at g; simp only[z45]; by_cases z:(kC l:Int)≤t - 1
       ·rw[z14 z,z17]
        by_cases k:(GS c:Int)≤t - 1 - kC l
        ·rw[z14 k,z14 (show(q:Int)≤t by omega)]
         cases c.all (cok d)
         ·rfl
         ·simp only[Me,z17]; omega
        ·rw[z10 k,z10 (show ¬ (q:Int)≤t by omega)]
         cases c.all (cok d)<;>rfl
       ·rw[z10 z]at g; simp at g
     ·have s:tk (l.all (xok d f)) (kC l) (t - 1)= -1:=by omega
      rw[s,EJ _ _ _ (by omega)]
      unfold tk at g ⊢; cases hx:l.all (xok d f)with
      | false=>rfl
      | true=>
       rw[hx,z45]at g; by_cases z:(kC l:Int)≤t - 1
       ·rw[z14 z,z17]at g; omega
       ·rw[z10 (show ¬ (q:Int)≤t by omega),z80]; rfl
    rw[←J]; rcases y with v | ⟨v,i,b⟩<;>rfl
def fr:List (List UInt8)→List (List UInt8)→Bool
 | _,[]=>true
 | P,v::r=> !decide (v∈P)&&fr (P++[v]) r
theorem OP: ∀(V W P:List (List UInt8)),fr P (V++W)=(fr P V&&fr (P++V) W)
 | [],W,P=>by simp [fr]
 | v::V,W,P=>by
  simp only[z89,fr,OP V W (P++[v]),z85,Rb,QK]
theorem KX: ∀(V P:List (List UInt8)),P.Nodup→(fr P V=true↔(P++V).Nodup)
 | [],P,h=>by simp [fr,h]
 | v::V,P,h=>by
  simp only[fr,z7,z39,z41]; have e:P++v::V=(P++[v])++V:=by simp
  constructor
  ·rintro ⟨h1,c⟩
   have hn:(P++[v]).Nodup:=by
    rw[z150]; exact⟨h,by simp,fun a f b d=>by simp only[z77]at d; subst d; exact fun e=>h1 (e ▸ f)⟩
   rw[e]; exact(KX V _ hn).1 c
  ·intro c
   rw[e]at c; have hn:=(z150.1 c).1; refine⟨fun g=> ?_,(KX V _ hn).2 c⟩
   exact(z150.1 hn).2.2 v g v (by simp) rfl
theorem Sa(V:List (List UInt8)):fr [] V=KI V:=by
 rw[Rf,KX V [] Rc,NJ]; simp

mutual
theorem IR: ∀e,(nC e).length≤lY e
 | .mk k m s l c=>by
  have:=Ff l; simp only[nC,lY]; cases decide (k=3)<;>cases decide (s=[95])<;>simp<;>omega
theorem Ff: ∀l,(iH l).length≤kC l
 | []=>by simp [iH]
 | x::r=>by have:=IR x; have:=Ff r; simp only[iH,kC,z30]; omega
end
abbrev JS:=Int×List (List UInt8)
def JB(d:Nat)(t:JS)(a:aA):JS⊕Unit:=bif xok d true a&&(decide (t.1+lY a≤300)&&fr t.2 (nC a))then .inl (t.1+lY a,t.2++nC a)else .inr ()
theorem GC(d:Nat): ∀(l:List aA) (t:JS),t.1≤300→oF (JB d) l t=bif l.all (xok d true)&&(decide (t.1+kC l≤300)&&fr t.2 (iH l))then .inl (t.1+kC l,t.2++iH l)else .inr ()
 | [],t,h=>by
  have e:decide (t.1+((kC []:Nat):Int)≤300)=true:=z14 (by simp only[kC]; omega)
  rw[e]; simp [oF,iH,fr,kC]
 | a::r,t,h=>by
  simp only[oF]; have c:kC (a::r)=lY a+kC r:=by simp only[kC]
  have f:iH (a::r)=nC a++iH r:=by simp only[iH]
  rw[c,f,OP,z98]; by_cases q:(xok d true a&&(decide (t.1+lY a≤300)&&fr t.2 (nC a)))=true
  ·have b:JB d t a= .inl (t.1+lY a,t.2++nC a):=by unfold JB; rw[q]; rfl
   simp only[z7,z35]at q; obtain⟨g,i,j⟩:=q; rw[b,g,j,z45,z45]; simp only; rw[GC d r _ i]; simp only; rw[show t.1+((lY a+kC r:Nat):Int)=t.1+lY a+kC r by omega,z85]
  ·have b:JB d t a= .inr ():=by unfold JB; rw[z90]at q; rw[q]; rfl
   rw[b]; simp only; cases h1:xok d true a with
   | false=>rfl
   | true=>
    rw[h1,z45]at q; cases h3:fr t.2 (nC a)with
    | false=>cases r.all (xok d true)<;>simp
    | true=>
     rw[h3,Me,z35]at q; rw[z10 (show ¬ t.1+((lY a+kC r:Nat):Int)≤300 by omega)]
     cases r.all (xok d true)<;>rfl
def jv:(Bool×Int×List (List UInt8))⊕(Int×Bool×Int×List (List UInt8))→Option (Bool×Int×List (List UInt8))
 | .inl (v,w,z)=>some (v,w,z)
 | .inr (_,_,w,z)=>some (true,w,z)
def pJ(b:Bool)(c:Int)(a:List (List UInt8))(r:Bool×Int×List (List UInt8)):Prop:=r.1=b∧(b=true→r.2=(c,a))
theorem zH: ∀(n:Nat),n≤1099511627776→ ∀(a:aA) (d:Nat) (c:Int) (g:List (List UInt8)),d≤10→0≤c→c≤300→(g.length:Int)≤c→aN a+400<n→ ∃r,bT n a.f0 a.f1 a.f2 a.f3 a.f4 (11 - (d:Int)) c g=some r∧pJ (xok d true a&&(decide (c+lY a≤300)&&fr g (nC a))) (c+lY a) (g++nC a) r
 | 0,_,a,d,c,g,Z,Q,R,M,h=>by omega
 | n+1,hn,a,d,c,g,Z,Q,R,M,h=>by
  have ih:=zH n (by omega)
  rw[tJ]; unfold gU; rw[qG,iG,fP]at h; have hl:=bB aN a.f3; have hp:=KM a; have A:=Nz a; rw[JI n _ _ _ _ (by omega) (by omega),wrap_i64 (n:=c+1) (by omega) (by omega)]
  cases d with
  | zero=>
   rw[z14 (show(10:Int)<11 - ((0:Nat):Int)by omega)]
   exact⟨_,rfl,rfl,fun h=>by cases h⟩
  | succ d=>
   rw[z10 (show ¬ (10:Int)<11 - ((d+1:Nat):Int)by omega),EB]
   by_cases y:300<c+1
   ·rw[z14 y,z10 (show ¬ c+(lY a:Int)≤300 by omega)]
    refine⟨_,rfl, ?_, ?_⟩<;>cases shp true a.f0 a.f1 a.f2 a.f3.length a.f4.length<;>cases (a.f3.all (xok d true)&&a.f4.all (cok d))<;>simp
   rw[z10 y]; have j:=Kg a.f0 a.f1 a.f2 a.f3.length a.f4.length; cases F:shp true a.f0 a.f1 a.f2 a.f3.length a.f4.length with
   | false=>
    rw[F]at j; refine⟨(false,c+1,g), ?_,rfl,fun h=>by cases h⟩
    revert j
    cases decide (6<a.f0)<;>cases decide ((0:Int)<a.f4.length)<;>cases Ix a.f0 a.f1 a.f2 a.f3.length<;>intro j<;>first | rfl | cases j
   | true=>
    rw[F]at j; simp only[z7,z39]at j; obtain⟨p1,G,D⟩:=j; have B:a.f4=[]:=by
     rw[z41]at G; cases m:a.f4 with
     | nil=>rfl
     | cons x r=>rw[m]at G; simp only[z56]at G; omega
    rw[p1,G,D]; have J:a.f4.all (cok d)=true:=by rw[B]; rfl
    have Y:GS a.f4=0:=by rw[B]; rfl
    rw[J,Me]; simp only[z16,z9,z38,z45]; generalize lY a=q at hp ⊢; have H:IntKind.wrap .i64 (11 - ((d+1:Nat):Int)+1)=11 - (d:Int):=by rw[wrap_i64 (by omega) (by omega)]; omega
    have o: ∀(l:List aA),dl aN l+401≤n→ ∀(body:Int×Int×List (List UInt8)→Option ((Int×Int×List (List UInt8))⊕((Bool×Int×List (List UInt8))⊕(Int×Bool×Int×List (List UInt8))))),(∀(i:Nat) b (t:JS),l[i]? =some b→body ((i:Int),t.1,t.2)=(bT n b.f0 b.f1 b.f2 b.f3 b.f4 (11 - (d:Int)) t.1 t.2).bind fun r=>bif !r.1 then some (.inr (.inl (false,r.2.1,r.2.2)))else some (.inl (((i+1:Nat):Int),r.2.1,r.2.2)))→(∀t:JS,body ((l.length:Int),t.1,t.2)=some (.inr (.inr ((l.length:Int),false,t.1,t.2))))→
      ∀t0:JS,0≤t0.1→t0.1≤300→(t0.2.length:Int)≤t0.1→ ∃x,loopN body n ((0:Int),t0.1,t0.2)=some x∧(match oF (JB d) l t0 with | .inl t=>x= .inr ((l.length:Int),false,t.1,t.2) | .inr _=> ∃u v,x= .inl (false,u,v)):=by
     intro l hw body F he t0 g0 W X; have hll:=bB aN l; obtain⟨x,x1,s⟩:=DX (body:=body) l (JB d) (fun t i=>((i:Int),t.1,t.2)) (fun t=> .inr ((l.length:Int),false,t.1,t.2)) (fun _ x=> ∃u v,x= .inl (false,u,v)) (fun t=>0≤t.1∧t.1≤300∧(t.2.length:Int)≤t.1) (fun i b t k y=>by
      have K:=eF aN (z24 k); obtain⟨r,r1,r2,O⟩:=ih b d t.1 t.2 (by omega) y.1 y.2.1 y.2.2 (by omega)
      rw[F i b t k,r1]; unfold JB; obtain⟨rb,rc,rn⟩:=r; simp only at r2 O; simp only[z9]; rw[r2]; by_cases hz:(xok d true b&&(decide (t.1+lY b≤300)&&fr t.2 (nC b)))=true
      ·left
       have P:=O hz; simp only[z49]at P; obtain⟨rfl,rfl⟩:=P; rw[hz]; simp only[z7,z35]at hz; have hvc:=IR b; refine⟨_,rfl,⟨?_,hz.2.1, ?_⟩,rfl⟩
       ·show 0≤t.1+(lY b:Int); omega
       ·show((t.2++nC b).length:Int)≤t.1+(lY b:Int)
        rw[z30]; omega
      ·right
       rw[z90]at hz; rw[hz]; exact⟨(),_,rfl,rfl,_,_,rfl⟩) (fun t _=>he t) (n:=n) (by omega) (t0:=t0) ⟨g0,W,X⟩
     refine⟨x,x1, ?_⟩
     revert s
     cases oF (JB d) l t0<;>exact id
    have p: ∀(t0:JS) (x:(Bool×Int×List (List UInt8))⊕(Int×Bool×Int×List (List UInt8))),t0.1=c+1→(match oF (JB d) a.f3 t0 with | .inl t=>x= .inr ((a.f3.length:Int),false,t.1,t.2) | .inr _=> ∃u v,x= .inl (false,u,v))→
      ∃r,jv x=some r∧pJ (a.f3.all (xok d true)&&(decide (c+(q:Int)≤300)&&fr t0.2 (iH a.f3))) (c+q) (t0.2++iH a.f3) r:=by
     intro t0 x S m; rw[GC d a.f3 t0 (by omega),S,show c+1+(kC a.f3:Int)=c+q by omega]at m
     cases hz:(a.f3.all (xok d true)&&(decide (c+(q:Int)≤300)&&fr t0.2 (iH a.f3)))with
     | true=>
      rw[hz]at m; simp only[z17]at m; subst m; exact⟨_,rfl,rfl,fun _=>rfl⟩
     | false=>
      rw[hz]at m; simp only[z16]at m; obtain⟨u,v,rfl⟩:=m; exact⟨_,rfl,rfl,fun h=>by cases h⟩
    by_cases E:a.f0=3
    ·have L:a.f3=[]:=by
      rw[E]at D; have e:Ix 3 a.f1 a.f2 a.f3.length=(decide (a.f1=0)&&(Ec a.f2&&decide ((a.f3.length:Int)=0))):=rfl; rw[e]at D; simp only[z7,z35]at D; have:=D.2.2; cases m:a.f3 with
      | nil=>rfl
      | cons x r=>rw[m]at this; simp only[z56]at this; omega
     rw[z14 E]; rw[z14 E]at A; simp only[z17]at A; rw[A]; have C:iH a.f3=[]:=by rw[L]; rfl
     cases hu:decide (a.f2=[95])with
     | true=>
      simp only[z38,z17,z9,z16]; obtain⟨x,x1,s⟩:=o a.f3 (by omega) (cB n (bT n) (11 - ((d+1:Nat):Int)) a.f3) (fun i b t k=>by
       have N:=iF k; simp only[cB,eK k,z17,dJ,k,z9,H,aY (show i<4611686018427387904 by omega)]) (fun t=>by simp only[cB,bC,z16]) (c+1,g) (by show 0≤c+1; omega) (by show c+1≤300; omega) (by show(g.length:Int)≤c+1; omega)
      have f:=p (c+1,g) x rfl s; rw[C]at f; rw[x1]; obtain⟨r,f1,f2⟩:=f; exact⟨r,by rcases x with⟨u,v,w⟩ | ⟨u,v,w,z⟩<;>exact f1,f2⟩
     | false=>
      simp only[Mg,z17,z9]; rw[Hw n g a.f2 (by omega) (by omega)]
      simp only[z9]; cases K:decide (a.f2∈g)with
      | true=>
       have U:fr g [a.f2]=false:=by simp only[fr,K]; rfl
       have V:(a.f3.all (xok d true)&&(decide (c+(q:Int)≤300)&&fr g [a.f2]))=false:=by rw[U]; cases a.f3.all (xok d true)<;>simp
       rw[z16,V]; exact⟨_,rfl,rfl,fun h=>by cases h⟩
      | false=>
       have I:fS 16 g [a.f2]=some (g++[a.f2]):=qM (by simp only[z21]; omega) (by simp only[z21,maxLen]; omega)
       rw[I]; simp only[z16,z9]; obtain⟨x,x1,s⟩:=o a.f3 (by omega) (eQ n (bT n) (11 - ((d+1:Nat):Int)) a.f3) (fun i b t k=>by
        have N:=iF k; simp only[eQ,eK k,z17,dJ,k,z9,H,aY (show i<4611686018427387904 by omega)]) (fun t=>by simp only[eQ,bC,z16]) (c+1,g++[a.f2]) (by show 0≤c+1; omega) (by show c+1≤300; omega) (by show((g++[a.f2]).length:Int)≤c+1; rw[z30,z21]; omega)
       have f:=p (c+1,g++[a.f2]) x rfl s; rw[C,z86]at f; have T:fr g [a.f2]=fr (g++[a.f2]) []:=by simp only[fr,K]; rfl
       rw[T,x1]; obtain⟨r,f1,f2⟩:=f; exact⟨r,by rcases x with⟨u,v,w⟩ | ⟨u,v,w,z⟩<;>exact f1,f2⟩
    ·rw[z10 E]at A ⊢
     simp only[z16]at A; rw[A]; simp only[z16,z9]; obtain⟨x,x1,s⟩:=o a.f3 (by omega) (cB n (bT n) (11 - ((d+1:Nat):Int)) a.f3) (fun i b t k=>by
      have N:=iF k; simp only[cB,eK k,z17,dJ,k,z9,H,aY (show i<4611686018427387904 by omega)]) (fun t=>by simp only[cB,bC,z16]) (c+1,g) (by show 0≤c+1; omega) (by show c+1≤300; omega) (by show(g.length:Int)≤c+1; omega)
     have f:=p (c+1,g) x rfl s; rw[x1]; obtain⟨r,f1,f2⟩:=f; exact⟨r,by rcases x with⟨u,v,w⟩ | ⟨u,v,w,z⟩<;>exact f1,f2⟩
theorem BZ{α σ τ ρ κ:Type}{body:σ→Option (σ⊕ρ)}(l:List α)(f:τ→α→τ⊕κ)(enc:τ→Nat→σ)(c:τ→ρ)(b:κ→ρ→Prop)(I:Nat→τ→Prop)(y: ∀(i:Nat) a t,l[i]? =some a→I i t→(∃e,f t a= .inl e∧I (i+1) e∧body (enc t i)=some (.inl (enc e (i+1))))∨(∃q r,f t a= .inr q∧body (enc t i)=some (.inr r)∧b q r))
  (u: ∀t,I l.length t→body (enc t l.length)=some (.inr (c t))){n:Nat}(hn:l.length<n){t0:τ}(h0:I 0 t0): ∃r,loopN body n (enc t0 0)=some r∧(match oF f l t0 with | .inl t=>r=c t∧I l.length t | .inr q=>b q r):=by
 have k: ∀(r:List α) (i:Nat) (t:τ) (n:Nat),l.drop i=r→I i t→r.length<n→i≤l.length→ ∃x,loopN body n (enc t i)=some x∧(match oF f r t with | .inl t=>x=c t∧I l.length t | .inr q=>b q x):=by
  intro r; induction r with
  | nil=>
   intro i t n d g hn v; obtain⟨m,rfl⟩: ∃m,n=m+1:=⟨n - 1,by simp at hn; omega⟩
   have:i=l.length:=by
    have:=congrArg List.length d; simp at this; omega
   subst this; simp only[loopN,u t g,oF]; exact⟨_,rfl,rfl,g⟩
  | cons a r ih=>
   intro i t n d g hn v; obtain⟨m,rfl⟩: ∃m,n=m+1:=⟨n - 1,by simp at hn; omega⟩
   have w:i<l.length:=by
    have:=congrArg List.length d; simp at this; omega
   have s:l[i]? =some a:=by
    have:=congrArg (·[0]?) d
    simpa using this
   have j:l.drop (i+1)=r:=by
    have:=congrArg List.tail d; simpa using this
   rcases y i a t s g with⟨e,h1,o,h⟩ | ⟨q,x,h1,h,p⟩
   ·simp only[loopN,h,oF,h1]
    exact ih (i+1) e m j o (by simp at hn; omega) (by omega)
   ·simp only[loopN,h,oF,h1]
    exact⟨x,rfl,p⟩
 exact k l 0 t0 n rfl h0 hn (by omega)

abbrev Mt:=aA→aB→Option (List aI)
def mtL(f:Mt):List aA→List aB→Option (List aI)
 | [],_=>some []
 | x::r,t::a=>(f x t).bind fun M=>(mtL f r a).map (M++ ·)
 | _::_,[]=>none
def yW(l:List aB):aB:= .mk 5 0 [] l
def mt:Nat→Mt
 | 0,_,_=>none
 | d+1,p,t=>
  bif decide (p.f0=1)then(bif decide (t.f0=1)&&decide (t.f1=p.f1)then some []else none)
  else bif decide (p.f0=2)then(bif decide (t.f0=2)&&decide (t.f2=p.f2)then some []else none)
  else bif decide (p.f0=3)then some (bif decide (p.f2=[95])then []else [.mk p.f2 t.f0 t.f1 t.f2 t.f3])
  else bif decide (p.f0=4)then(bif decide (t.f0=4)&&decide ((t.f3.length:Int)=(p.f3.length:Int))then mtL (mt d) p.f3 t.f3 else none)
  else bif decide (p.f0=5)then(bif decide (t.f0=5)&&decide ((t.f3.length:Int)=(p.f3.length:Int))then mtL (mt d) p.f3 t.f3 else none)
  else(bif decide (t.f0=5)&& !decide ((t.f3.length:Int)<(p.f3.length:Int) - 1)then(mtL (mt d) (p.f3.take (p.f3.length - 1)) (t.f3.take (p.f3.length - 1))).bind fun M=>match p.f3[p.f3.length - 1]? with
    | some x=>(mt d x (yW (t.f3.drop (p.f3.length - 1)))).map (M++ ·)
    | none=>none
   else none)
theorem If(f:Mt): ∀(l:List aA) (a:List aB),mtL f l (a.take l.length)=mtL f l a
 | [],a=>rfl
 | x::r,[]=>by simp
 | x::r,t::a=>by simp only[z56,z132,mtL,If f r a]
theorem qF(a:aB):aQ a=3+a.f2.length+FL a.f3:=by cases a; simp only[aQ]; rfl
theorem pC{α:Type}(w:α→Nat): ∀(a b:List α),dl w (a++b)+1=dl w a+dl w b
 | [],b=>by simp only[QK,dl]; omega
 | x::r,b=>by have:=pC w r b; simp only[z89,dl]; omega
theorem Jt{f:Mt}(c: ∀a t M,f a t=some M→dl wM M≤1+aN a+aQ t): ∀(l:List aA) (b:List aB) (M:List aI),mtL f l b=some M→dl wM M+1≤dl aN l+dl aQ b
 | [],b,M,h=>by cases h; have:=bB aQ b; simp only[dl]; omega
 | x::r,[],M,h=>by cases h
 | x::r,t::b,M,h=>by
  simp only[mtL,z19,z26]at h; obtain⟨A,h1,B,d,rfl⟩:=h; have e:=c _ _ _ h1; have g:=Jt c r b B d; have i:=pC wM A B; simp only[dl]; omega
theorem QS: ∀(d:Nat) (a:aA) (t:aB) (M:List aI),mt d a t=some M→dl wM M≤1+aN a+aQ t
 | 0,a,t,M,h=>by cases h
 | d+1,a,t,M,h=>by
  have f:=QS d; have m:=qG a; have l:=qF t; rw[iG,fP]at m; rw[eW]at l; unfold mt at h; have i: ∀ {c:Bool},(bif c then some ([]:List aI)else none)=some M→dl wM M≤1:=fun {c} h=>by cases c<;>cases h; simp [dl]
  have j: ∀ {c:Bool},(bif c then mtL (mt d) a.f3 t.f3 else none)=some M→dl wM M≤1+aN a+aQ t:=fun {c} h=>by
   cases c with
   | false=>cases h
   | true=>have:=Jt f _ _ _ h; omega
  cases h1:decide (a.f0=1)with
  | true=>rw[h1]at h; have:=i h; omega
  | false=>
  cases h2:decide (a.f0=2)with
  | true=>rw[h1,h2]at h; have:=i h; omega
  | false=>
  cases h3:decide (a.f0=3)with
  | true=>
   rw[h1,h2,h3]at h; simp only[z16,z17,z8]at h; subst h; cases decide (a.f2=[95])with
   | true=>simp only[z17,dl]; omega
   | false=>
    have e:wM (.mk a.f2 t.f0 t.f1 t.f2 t.f3)=3+a.f2.length+aQ (.mk t.f0 t.f1 t.f2 t.f3):=rfl; rw[aW]at e; have g:=bB aN a.f3; have k:=bB dH a.f4; simp only[z16,dl]; rw[e]; omega
  | false=>
  cases h4:decide (a.f0=4)with
  | true=>rw[h1,h2,h3,h4]at h; exact j h
  | false=>
  cases h5:decide (a.f0=5)with
  | true=>rw[h1,h2,h3,h4,h5]at h; exact j h
  | false=>
  rw[h1,h2,h3,h4,h5]at h; simp only[z16]at h; cases h6:(decide (t.f0=5)&& !decide ((t.f3.length:Int)<(a.f3.length:Int) - 1))with
  | false=>rw[h6]at h; cases h
  | true=>
   rw[h6]at h; simp only[z17,z19]at h; obtain⟨A,o,b⟩:=h; have s:=Jt f _ _ _ o; cases hx:a.f3[a.f3.length - 1]? with
   | none=>rw[hx]at b; cases b
   | some x=>
    rw[hx]at b; simp only[z26]at b; obtain⟨B,q,rfl⟩:=b; have u:=f _ _ _ q; have v:=pC wM A B; have r:=pC aQ (t.f3.take (a.f3.length - 1)) (t.f3.drop (a.f3.length - 1)); rw[z92]at r; have w:=mA aN hx; have y:=jQ aN a.f3 (a.f3.length - 1+1); have p:aQ (yW (t.f3.drop (a.f3.length - 1)))=3+dl aQ (t.f3.drop (a.f3.length - 1)):=by
     unfold yW; rw[qF, ←eW]; rfl
    have k:=bB dH a.f4; omega
theorem Er(n:Nat)(hn:n≤1099511627776)(a:aA)(h:aN a+400<n):mY n a.f0 a.f1 a.f2 a.f3 a.f4=some (CM a):=by
 unfold mY CM; obtain⟨r,r1,r2,b⟩:=zH n hn a 10 0 [] (by omega) (by omega) (by omega) (by simp) h
 have r1:bT n a.f0 a.f1 a.f2 a.f3 a.f4 (1:Int) 0 []=some r:=r1; rw[r1]; simp only[z9,z8]; rw[r2,Int.zero_add,Sa,Rb]
theorem El(n:Nat)(hn:n≤1099511627776)(a:aA)(h:aN a<n):mW n a.f0 a.f1 a.f2 a.f3 a.f4=some (CM a):=by
 unfold mW CM; have h1:=EC n hn a true 10 300 (by omega) (by omega) (by omega) h
 have h1:bO n a.f0 a.f1 a.f2 a.f3 a.f4 true (10:Int) 300=_:=h1; have b:=EE a; rw[h1,pU n hn a h]; unfold tk; simp only[z9,GB n (nC a) (by omega) (by omega)]
 cases q:(xok 10 true a&&decide ((lY a:Int)≤300))with
 | true=>
  simp only[z7,z35]at q; rw[z17,z14 (by omega)]; rfl
 | false=>rfl

theorem vG{α:Type}{l:List α}{i:Nat}(h:i≤l.length):sub l (some (i:Int)) none=some (l.drop i):=by
 unfold sub bnd; rw[z18 ⟨by simp only[z63]; omega,by simp only[z156,z63]; omega,by simp⟩]
 simp only[z36,z63,z156,z66,z8]; exact List.take_of_length_le (by rw[z65]; omega)
def stp(d:Nat)(t:List aI)(a:aA×aB):List aI⊕Unit:=match mt d a.1 a.2 with
 | some M=> .inl (t++M)
 | none=> .inr ()
theorem EF(d:Nat): ∀(l:List aA) (a:List aB) (b:List aI),l.length≤a.length→oF (stp d) (l.zip a) b=match mtL (mt d) l a with | some M=> .inl (b++M) | none=> .inr ()
 | [],a,b,h=>by simp [oF,mtL]
 | x::r,[],b,h=>by simp at h
 | x::r,t::a,b,h=>by
  simp only[List.zip_cons_cons,oF,mtL]; have e:stp d b (x,t)=match mt d x t with | some M=> .inl (b++M) | none=> .inr ():=rfl
  rw[e]; cases mt d x t with
  | none=>rfl
  | some M=>
   simp only[z9]; rw[EF d r a (b++M) (by simpa using h)]
   cases mtL (mt d) r a with
   | none=>rfl
   | some N=>simp only[z36,z85]
def Res(o:Option (List aI))(b L:List aI)(a:Bool):Prop:=match o with
 | some M=>L=b++M∧a=true
 | none=>a=false
theorem IP{d:Nat}{a:aA}(h:xok (d+1) true a=true):a.f3.all (xok d true)=true∧shp true a.f0 a.f1 a.f2 a.f3.length a.f4.length=true:=by
 rw[EB]at h; simp only[z7]at h; exact⟨h.2.1,h.1⟩
theorem IS{k m:Int}{s:List UInt8}{c i:Int}(h:shp true k m s c i=true)(h1:k≠1)(d:k≠2)(e:k≠3)(f:k≠4)(g:k≠5):k=6∧2≤c:=by
 rw[←Kg]at h; simp only[z7,z39,z41]at h; obtain⟨j,l,a⟩:=h; unfold Ix at a; rw[z10 h1,z10 d,z10 e,z10 f,z10 g,z10 (show ¬ k=7 by omega),z10 (show ¬ k=8 by omega),z10 (show ¬ k=9 by omega)]at a
 by_cases b:k=6
 ·rw[z14 b]at a
  simp only[z17,z16,z7,z35]at a; exact⟨b,a.2.2.1⟩
 ·rw[z10 b]at a; cases a
theorem uE: ∀(n:Nat),n≤1099511627776→(∀(d:Nat) (a:aA) (t:aB) (b:List aI),xok d true a=true→aN a+aQ t+2<n→b.length+aN a+aQ t≤1099511627776→ ∃L e,eC n a.f0 a.f1 a.f2 a.f3 a.f4 t.f0 t.f1 t.f2 t.f3 b=some (L,e)∧Res (mt d a t) b L e)∧
  (∀(d:Nat) (l:List aA) (f:List aB) (b:List aI),l.all (xok d true)=true→l.length≤f.length→dl aN l+dl aQ f+2<n→b.length+dl aN l+dl aQ f≤1099511627776→ ∃L e,dK n l f b=some (L,e)∧Res (mtL (mt d) l f) b L e)
 | 0,_=>⟨fun d a t b q h=>by omega,fun d l f b q R h=>by omega⟩
 | n+1,hn=>by
  obtain⟨A,k⟩:=uE n (by omega)
  refine⟨fun d a t b q h X=> ?_,fun d l f b q R h X=> ?_⟩
  ·rw[yN]
   unfold mS; cases d with
   | zero=>cases q
   | succ d=>
    obtain⟨s,hs⟩:=IP q; have hw:=qG a; have hv:=qF t; rw[iG,fP]at hw; rw[eW]at hv; have V:=bB aN a.f3; have g2:=bB dH a.f4; have W:=bB aQ t.f3; unfold mt; by_cases h1:a.f0=1
    ·rw[z14 h1]
     refine⟨b,decide (t.f0=1)&&decide (t.f1=a.f1), ?_, ?_⟩
     ·cases decide (t.f0=1)<;>rfl
     ·cases decide (t.f0=1)<;>cases decide (t.f1=a.f1)<;>simp [Res]
    rw[z10 h1]; by_cases D:a.f0=2
    ·rw[z14 D]
     generalize decide (t.f2=a.f2)=z; refine⟨b,decide (t.f0=2)&&z, ?_, ?_⟩
     ·cases decide (t.f0=2)<;>rfl
     ·cases decide (t.f0=2)<;>cases z<;>simp [Res]
    rw[z10 D]; by_cases E:a.f0=3
    ·rw[z14 E]
     simp only[z16,z17]; rw[Hv n (a:=t) (by omega) (by omega)]
     have H:fS 72 b [aI.mk a.f2 t.f0 t.f1 t.f2 t.f3]=some (b++[.mk a.f2 t.f0 t.f1 t.f2 t.f3]):=qM (by simp only[z21]; omega) (by simp only[z21,maxLen]; omega)
     simp only[z9,H]; generalize decide (a.f2=[95])=z; cases z with
     | true=>exact⟨b,true,rfl,by simp [Res]⟩
     | false=>exact⟨_,true,rfl,rfl,rfl⟩
    rw[z10 E]; have S: ∀(c:Bool),((t.f3.length:Int)=(a.f3.length:Int)→ ∃L e,dK n a.f3 t.f3 b=some (L,e)∧Res (mtL (mt d) a.f3 t.f3) b L e)→ ∃L e,((bif !c then some true else some (!decide ((t.f3.length:Int)=(a.f3.length:Int)))).bind fun v=>bif v then some (b,false)else(dK n a.f3 t.f3 b).bind fun c=>some (c.1,c.2))=some (L,e)∧Res (bif c&&decide ((t.f3.length:Int)=(a.f3.length:Int))then mtL (mt d) a.f3 t.f3 else none) b L e:=by
     intro c Y; cases c with
     | false=>exact⟨b,false,rfl,rfl⟩
     | true=>
      by_cases w:(t.f3.length:Int)=(a.f3.length:Int)
      ·obtain⟨L,e,r,g⟩:=Y w
       rw[z14 w,r]; exact⟨L,e,rfl,g⟩
      ·rw[z10 w]
       exact⟨b,false,rfl,rfl⟩
    by_cases F:a.f0=4
    ·rw[z14 F]
     exact S _ fun w=>k d a.f3 t.f3 b s (by omega) (by omega) (by omega)
    rw[z10 F]; by_cases G:a.f0=5
    ·rw[z14 G]
     exact S _ fun w=>k d a.f3 t.f3 b s (by omega) (by omega) (by omega)
    rw[z10 G]; obtain⟨_,Z⟩:=IS hs h1 D E F G; have U:IntKind.wrap .i64 ((a.f3.length:Int) - 1)=((a.f3.length - 1:Nat):Int):=by rw[wrap_i64 (by omega) (by omega)]; omega
    have T:(a.f3.length:Int) - 1=((a.f3.length - 1:Nat):Int):=by omega
    rw[U,T]; simp only[z16]; cases h6:decide (t.f0=5)with
    | false=>exact⟨b,false,rfl,rfl⟩
    | true=>
     by_cases Q:(t.f3.length:Int)<((a.f3.length - 1:Nat):Int)
     ·rw[z14 Q]; exact⟨b,false,rfl,rfl⟩
     ·rw[z10 Q]
      have J:a.f3.length - 1<a.f3.length:=by omega
      have j:a.f3[a.f3.length - 1]? =some a.f3[a.f3.length - 1]:=z11 J
      generalize a.f3[a.f3.length - 1]=x at j; have k8:=mA aN j; have k9:=jQ aN a.f3 (a.f3.length - 1+1); have k7:=pC aQ (t.f3.take (a.f3.length - 1)) (t.f3.drop (a.f3.length - 1)); rw[z92]at k7; have k10:aQ (yW (t.f3.drop (a.f3.length - 1)))=3+dl aQ (t.f3.drop (a.f3.length - 1)):=by
       unfold yW; rw[qF, ←eW]; rfl
      have g4:=bB aQ (t.f3.drop (a.f3.length - 1)); rw[FM (by omega),FM (by omega),vG (by omega),dJ,j]
      simp only[z38,z16,Mg,Me,z17,z9]; have I:(a.f3.take (a.f3.length - 1)).all (xok d true)=true:=by
       rw[z15]at s ⊢; exact fun y hy=>s y (List.mem_of_mem_take hy)
      obtain⟨L,e,r,g⟩:=k d (a.f3.take (a.f3.length - 1)) (t.f3.take (a.f3.length - 1)) b I (by simp only[z37]; omega) (by omega) (by omega)
      rw[r]; simp only[z9]; cases hM:mtL (mt d) (a.f3.take (a.f3.length - 1)) (t.f3.take (a.f3.length - 1))with
      | none=>
       rw[hM]at g; have g:e=false:=g; subst g; exact⟨L,false,rfl,rfl⟩
      | some M=>
       rw[hM]at g; obtain⟨rfl,rfl⟩:L=b++M∧e=true:=g; have kM:=Jt (QS d) _ _ _ hM; have P:=bB wM M; have O:xok d true x=true:=z15.1 s x (z24 j); obtain⟨C,m,f1,f2⟩:=A d x (yW (t.f3.drop (a.f3.length - 1))) (b++M) O (by omega) (by rw[z30]; omega)
       have f1:eC n x.f0 x.f1 x.f2 x.f3 x.f4 5 0 [] (t.f3.drop (a.f3.length - 1)) (b++M)=some (C,m):=f1; simp only[z38,z16,f1,z9]; refine⟨C,m,rfl, ?_⟩
       cases hN:mt d x (yW (t.f3.drop (a.f3.length - 1)))with
       | none=>rw[hN]at f2; exact f2
       | some N=>
        rw[hN]at f2; obtain⟨rfl,rfl⟩:C=b++M++N∧m=true:=f2; exact⟨by rw[z85],rfl⟩
  ·rw[tY]
   unfold iN; have V:=bB aN l; have W:=bB aQ f; have hz:(l.zip f).length=l.length:=by rw[List.length_zip]; omega
   obtain⟨x,x1,B⟩:=BZ (body:=dP n (eC n) l f) (l.zip f) (stp d) (fun t i=>(t,(i:Int))) (fun t=> .inr (t,(l.length:Int),false)) (fun _ x=> ∃u,x= .inl (u,false)) (fun i t=>t.length+2≤b.length+dl aN (l.take i)+dl aQ (f.take i)) (fun i p t J hI=>by
    obtain⟨o,K⟩:=z144.1 J
    have hi:=iF o; have m1:=eF aN (z24 o); have m2:=eF aQ (z24 K); have q1:=mA aN o; have q2:=mA aQ K; have q3:=jQ aN l (i+1); have q4:=jQ aQ f (i+1); obtain⟨L,e,r,g⟩:=A d p.1 p.2 t (z15.1 q _ (z24 o)) (by omega) (by omega)
    simp only[dP,eK o,z17,dJ,o,K,z9,r,aY (show i<4611686018427387904 by omega)]
    unfold stp; cases hM:mt d p.1 p.2 with
    | none=>
     rw[hM]at g; have g:e=false:=g; subst g; right; exact⟨(),_,rfl,rfl,_,rfl⟩
    | some M=>
     rw[hM]at g; obtain⟨rfl,rfl⟩:L=t++M∧e=true:=g; have kM:=QS d _ _ _ hM; have P:=bB wM M; left; exact⟨_,rfl,by rw[z30]; omega,rfl⟩) (fun t _=>by rw[hz]; simp only[dP,bC,z16]) (n:=n) (by omega) (t0:=b) (by simp only[Mh,dl]; omega)
   have x1:loopN (dP n (eC n) l f) n (b,(0:Int))=some x:=x1; rw[x1]; rw[EF d l f b R]at B; cases hM:mtL (mt d) l f with
   | none=>
    rw[hM]at B; obtain⟨u,rfl⟩: ∃u,x= .inl (u,false):=B; exact⟨u,false,rfl,rfl⟩
   | some M=>
    rw[hM]at B; obtain⟨rfl,_⟩:=B; exact⟨b++M,true,rfl,rfl,rfl⟩
theorem uB: ∀(n:Nat),n≤1099511627776→(∀(d:Nat) (a:aA) (t:aB) (b:List aI),xok d true a=true→aN a+aQ t+2<n→b.length+aN a+aQ t≤1099511627776→ ∃L e,cX n a.f0 a.f1 a.f2 a.f3 a.f4 t.f0 t.f1 t.f2 t.f3 b=some (e,L)∧Res (mt d a t) b L e)∧
  (∀(d:Nat) (l:List aA) (f:List aB) (b:List aI),l.all (xok d true)=true→l.length≤f.length→dl aN l+dl aQ f+2<n→b.length+dl aN l+dl aQ f≤1099511627776→ ∃L e,fK n l f b=some (e,L)∧Res (mtL (mt d) l f) b L e)
 | 0,_=>⟨fun d a t b r h=>by omega,fun d l f b r S h=>by omega⟩
 | n+1,hn=>by
  obtain⟨A,m⟩:=uB n (by omega)
  refine⟨fun d a t b r h Y=> ?_,fun d l f b r S h Y=> ?_⟩
  ·rw[uZ]
   unfold jR; cases d with
   | zero=>cases r
   | succ d=>
    obtain⟨v,hs⟩:=IP r; have hw:=qG a; have hv:=qF t; rw[iG,fP]at hw; rw[eW]at hv; have W:=bB aN a.f3; have g2:=bB dH a.f4; have X:=bB aQ t.f3; unfold mt; by_cases h1:a.f0=1
    ·rw[z14 h1]
     refine⟨b,decide (t.f0=1)&&decide (t.f1=a.f1), ?_, ?_⟩
     ·cases decide (t.f0=1)<;>rfl
     ·cases decide (t.f0=1)<;>cases decide (t.f1=a.f1)<;>simp [Res]
    rw[z10 h1]; by_cases D:a.f0=2
    ·rw[z14 D]
     generalize decide (t.f2=a.f2)=z; refine⟨b,decide (t.f0=2)&&z, ?_, ?_⟩
     ·cases decide (t.f0=2)<;>rfl
     ·cases decide (t.f0=2)<;>cases z<;>simp [Res]
    rw[z10 D]; by_cases E:a.f0=3
    ·rw[z14 E]
     simp only[z16,z17]; rw[BK n (a:=t) (by omega) (by omega)]
     have H:fS 72 b [aI.mk a.f2 t.f0 t.f1 t.f2 t.f3]=some (b++[.mk a.f2 t.f0 t.f1 t.f2 t.f3]):=qM (by simp only[z21]; omega) (by simp only[z21,maxLen]; omega)
     simp only[z9,H]; generalize decide (a.f2=[95])=z; cases z with
     | true=>exact⟨b,true,rfl,by simp [Res]⟩
     | false=>exact⟨_,true,rfl,rfl,rfl⟩
    rw[z10 E]; have T: ∀(c:Bool),((t.f3.length:Int)=(a.f3.length:Int)→ ∃L e,fK n a.f3 t.f3 b=some (e,L)∧Res (mtL (mt d) a.f3 t.f3) b L e)→ ∃L e,((bif c then bif decide ((t.f3.length:Int)=(a.f3.length:Int))then(fK n a.f3 t.f3 b).bind fun c=>some (c.1,c.2)else some (false,b)else some (false,b)).bind fun(x,y)=>some (x,y))=some (e,L)∧Res (bif c&&decide ((t.f3.length:Int)=(a.f3.length:Int))then mtL (mt d) a.f3 t.f3 else none) b L e:=by
     intro c Z; cases c with
     | false=>exact⟨b,false,rfl,rfl⟩
     | true=>
      by_cases w:(t.f3.length:Int)=(a.f3.length:Int)
      ·obtain⟨L,e,s,g⟩:=Z w
       rw[z14 w,s]; exact⟨L,e,rfl,g⟩
      ·rw[z10 w]
       exact⟨b,false,rfl,rfl⟩
    by_cases F:a.f0=4
    ·rw[z14 F]
     exact T _ fun w=>m d a.f3 t.f3 b v (by omega) (by omega) (by omega)
    rw[z10 F]; by_cases G:a.f0=5
    ·rw[z14 G]
     exact T _ fun w=>m d a.f3 t.f3 b v (by omega) (by omega) (by omega)
    rw[z10 G]; obtain⟨_,hne⟩:=IS hs h1 D E F G; have V:IntKind.wrap .i64 ((a.f3.length:Int) - 1)=((a.f3.length - 1:Nat):Int):=by rw[wrap_i64 (by omega) (by omega)]; omega
    have U:(a.f3.length:Int) - 1=((a.f3.length - 1:Nat):Int):=by omega
    rw[V,U]; simp only[z16]; cases h6:decide (t.f0=5)with
    | false=>exact⟨b,false,rfl,rfl⟩
    | true=>
     by_cases R:(t.f3.length:Int)<((a.f3.length - 1:Nat):Int)
     ·rw[z14 R]; exact⟨b,false,rfl,rfl⟩
     ·rw[z10 R]
      have K:a.f3.length - 1<a.f3.length:=by omega
      have j:a.f3[a.f3.length - 1]? =some a.f3[a.f3.length - 1]:=z11 K
      generalize a.f3[a.f3.length - 1]=x at j; have k8:=mA aN j; have k9:=jQ aN a.f3 (a.f3.length - 1+1); have k7:=pC aQ (t.f3.take (a.f3.length - 1)) (t.f3.drop (a.f3.length - 1)); rw[z92]at k7; have k10:aQ (yW (t.f3.drop (a.f3.length - 1)))=3+dl aQ (t.f3.drop (a.f3.length - 1)):=by
       unfold yW; rw[qF, ←eW]; rfl
      have g4:=bB aQ (t.f3.drop (a.f3.length - 1)); rw[FM (by omega),vG (by omega),dJ,j]
      simp only[z38,z16,Mg,Me,z17,z9]; have J:(a.f3.take (a.f3.length - 1)).length=a.f3.length - 1:=by rw[z37]; omega
      have k:=If (mt d) (a.f3.take (a.f3.length - 1)) t.f3; rw[J]at k; rw[k]; have I:(a.f3.take (a.f3.length - 1)).all (xok d true)=true:=by
       rw[z15]at v ⊢; exact fun y hy=>v y (List.mem_of_mem_take hy)
      obtain⟨L,e,s,g⟩:=m d (a.f3.take (a.f3.length - 1)) t.f3 b I (by omega) (by omega) (by omega)
      rw[s]; simp only[z9]; cases hM:mtL (mt d) (a.f3.take (a.f3.length - 1)) t.f3 with
      | none=>
       rw[hM]at g; have g:e=false:=g; subst g; exact⟨L,false,rfl,rfl⟩
      | some M=>
       rw[hM]at g; obtain⟨rfl,rfl⟩:L=b++M∧e=true:=g; have kM:=Jt (QS d) _ _ _ (k.trans hM); have Q:=bB wM M; have P:xok d true x=true:=z15.1 v x (z24 j); obtain⟨C,o,f1,f2⟩:=A d x (yW (t.f3.drop (a.f3.length - 1))) (b++M) P (by omega) (by rw[z30]; omega)
       have f1:cX n x.f0 x.f1 x.f2 x.f3 x.f4 5 0 [] (t.f3.drop (a.f3.length - 1)) (b++M)=some (o,C):=f1; simp only[z38,z16,f1,z9]; refine⟨C,o,rfl, ?_⟩
       cases hN:mt d x (yW (t.f3.drop (a.f3.length - 1)))with
       | none=>rw[hN]at f2; exact f2
       | some N=>
        rw[hN]at f2; obtain⟨rfl,rfl⟩:C=b++M++N∧o=true:=f2; exact⟨by rw[z85],rfl⟩
  ·rw[xA]
   unfold kZ; have W:=bB aN l; have X:=bB aQ f; have hz:(l.zip f).length=l.length:=by rw[List.length_zip]; omega
   obtain⟨x,x1,B⟩:=BZ (body:=fF n (cX n) l f) (l.zip f) (stp d) (fun t i=>((i:Int),t)) (fun t=> .inr ((l.length:Int),false,t)) (fun _ x=> ∃u,x= .inl (false,u)) (fun i t=>t.length+2≤b.length+dl aN (l.take i)+dl aQ (f.take i)) (fun i p t K hI=>by
    obtain⟨q,O⟩:=z144.1 K
    have hi:=iF q; have m1:=eF aN (z24 q); have m2:=eF aQ (z24 O); have q1:=mA aN q; have q2:=mA aQ O; have q3:=jQ aN l (i+1); have q4:=jQ aQ f (i+1); obtain⟨L,e,s,g⟩:=A d p.1 p.2 t (z15.1 r _ (z24 q)) (by omega) (by omega)
    simp only[fF,eK q,z17,dJ,q,O,z9,s,aY (show i<4611686018427387904 by omega)]
    unfold stp; cases hM:mt d p.1 p.2 with
    | none=>
     rw[hM]at g; have g:e=false:=g; subst g; right; exact⟨(),_,rfl,rfl,_,rfl⟩
    | some M=>
     rw[hM]at g; obtain⟨rfl,rfl⟩:L=t++M∧e=true:=g; have kM:=QS d _ _ _ hM; have Q:=bB wM M; left; exact⟨_,rfl,by rw[z30]; omega,rfl⟩) (fun t _=>by rw[hz]; simp only[fF,bC,z16]) (n:=n) (by omega) (t0:=b) (by simp only[Mh,dl]; omega)
   have x1:loopN (fF n (cX n) l f) n ((0:Int),b)=some x:=x1; rw[x1]; rw[EF d l f b S]at B; cases hM:mtL (mt d) l f with
   | none=>
    rw[hM]at B; obtain⟨u,rfl⟩: ∃u,x= .inl (false,u):=B; exact⟨u,false,rfl,rfl⟩
   | some M=>
    rw[hM]at B; obtain⟨rfl,_⟩:=B; exact⟨b++M,true,rfl,rfl,rfl⟩
def jP(a:aA)(t:aB):List aI×Bool:=bif CM a&&xP t then(match mt 10 a t with | some M=>(M,true) | none=>([],false))else([],false)
theorem Fo{a:aA}(h:CM a=true):xok 10 true a=true:=by
 unfold CM at h; simp only[z7]at h; exact h.1.1
theorem wK(n:Nat)(hn:n≤1099511627776)(a:aA)(t:aB)(h:aN a+aQ t+400<n):iL n a.f0 a.f1 a.f2 a.f3 a.f4 t.f0 t.f1 t.f2 t.f3=some (jP a t):=by
 unfold iL jP; have c:=Ch n t.f0 t.f1 t.f2 t.f3 (by rw[aW]; omega) (by omega)
 rw[aW]at c; rw[Er n hn a (by omega),c]
 cases hp:CM a with
 | false=>rfl
 | true=>
  cases ht:xP t with
  | false=>rfl
  | true=>
   obtain⟨L,d,e,b⟩:=(uE n hn).1 10 a t [] (Fo hp) (by omega) (by simp only[z28]; omega)
   simp only[z9,z38,z16,e,z96,z17]; cases hM:mt 10 a t with
   | none=>rw[hM]at b; have b:d=false:=b; subst b; rfl
   | some M=>rw[hM]at b; obtain⟨rfl,rfl⟩:L=[]++M∧d=true:=b; rfl
def Gt{α:Type}(o:Option α)(Q:α→Prop):Prop:= ∃r,o=some r∧Q r
theorem Gt.pure{α:Type}{a:α}{Q:α→Prop}(h:Q a):Gt (some a) Q:=⟨a,rfl,h⟩
theorem Gt.bind{α β:Type}{o:Option α}{f:α→Option β}{P:α→Prop}{Q:β→Prop}(h:Gt o P)(c: ∀r,P r→Gt (f r) Q):Gt (o.bind f) Q:=by
 obtain⟨r,rfl,a⟩:=h; exact c r a
theorem Gt.cond{α:Type}{b:Bool}{x y:Option α}{Q:α→Prop}(h1:b=true→Gt x Q)(h0:b=false→Gt y Q):Gt (bif b then x else y) Q:=by
 cases b with
 | true=>exact h1 rfl
 | false=>exact h0 rfl
theorem Gt.of{α:Type}{o:Option α}{r:α}{Q:α→Prop}(e:o=some r)(h:Q r):Gt o Q:=⟨r,e,h⟩
def Rnd{σ ρ:Type}(I:Nat→σ→Prop)(Q:ρ→Prop)(m:Nat):σ⊕ρ→Prop
 | .inl s=> ∃a,m=a+1∧I a s
 | .inr r=>Q r
theorem Gt.loop{σ ρ:Type}{body:σ→Option (σ⊕ρ)}(I:Nat→σ→Prop)(Q:ρ→Prop)(a: ∀m s,I m s→Gt (body s) (Rnd I Q m)): ∀ {n m:Nat} {s:σ},I m s→m<n→Gt (loopN body n s) Q
 | 0,m,s,h,hn=>by omega
 | n+1,m,s,h,hn=>by
  obtain⟨x,e,c⟩:=a m s h; unfold loopN; rw[e]; cases x with
  | inl s'=>
   obtain⟨f,rfl,d⟩:=c; exact Gt.loop I Q a d (by omega)
  | inr r=>exact⟨r,rfl,c⟩
theorem KJ{p:Prop} [Decidable p](h:decide p=true):p:=of_decide_eq_true h
theorem Oc{p:Prop} [Decidable p](h:decide p=false): ¬ p:=of_decide_eq_false h
structure Cur (b:List Int) (i:Int):Prop where
 len:b.length≤1048576
 at0:0≤i
theorem jM{α:Type}{k:Nat}{a b:List α}(h:a.length+b.length≤1048576000)(c:k≤255):Gt (fS k a b) (fun r=>r=a++b):=by
 refine Gt.of (qM ?_ (by simp only[maxLen]; omega)) rfl
 have:(a.length+b.length)*k≤1048576000*255:=Nat.mul_le_mul h c; omega
theorem MG{α:Type}{l:List α}{i:Int}(h0:0≤i)(h:i<l.length):Gt (ix l i) (fun a=>a∈l):=by
 obtain⟨k,rfl⟩: ∃k:Nat,i=k:=⟨i.toNat,by omega⟩
 rw[dJ]; exact⟨_,z11 (by omega),List.getElem_mem _⟩
theorem LJ(x:Int):0≤bits .and .i64 x 255∧bits .and .i64 x 255≤255:=Hy x 255 (by decide)
theorem zZ{n:Nat}{b:List Int}{i h:Int}(c:Cur b i):Gt (fN n b i h) (fun r=>(0≤r.1∧r.1≤255)∧Cur r.2.1 r.2.2.1):=by
 have h1:=c.len; have d:=c.at0; unfold fN; refine Gt.cond (fun e=> ?_) (fun e=> ?_)
 ·have:=KJ e
  refine Gt.bind (MG d this) fun a _=>Gt.pure ⟨LJ _,c.len, ?_⟩
  show 0≤IntKind.wrap .i64 (i+1); rw[wrap_i64 (by omega) (by omega)]; omega
 ·exact Gt.pure ⟨LJ _,c⟩
theorem ck_o{b:Bool}(h:b=true):Gt (ck b) (fun _=>True):=by subst h; exact⟨_,rfl,trivial⟩
theorem bX{n:Nat}{t:Int}{b:List Int}{i h:Int}(d:Cur b i)(j:0<t):Gt (aK n t b i h) (fun r=>(t≤256→0≤r.1∧r.1<t)∧Cur r.2.1 r.2.2.1):=by
 unfold aK; have c:(!decide (t=0))=true:=by rw[z10 (by omega)]; rfl
 refine Gt.cond (fun e=> ?_) (fun _=>Gt.cond (fun e=> ?_) (fun e=> ?_))
 ·have:=KJ e; omega
 ·refine Gt.bind (zZ d) fun r ⟨h1,a⟩=>Gt.bind (ck_o c) fun _ _=>Gt.pure ⟨fun _=>⟨Int.tmod_nonneg _ h1.1,Int.tmod_lt_of_pos _ j⟩,a⟩
 ·have hn:=Oc e
  refine Gt.bind (zZ d) fun r ⟨h1,a⟩=>Gt.bind (zZ a) fun r2 ⟨_,f⟩=>Gt.bind (zZ f) fun k ⟨_,g⟩=>Gt.bind (ck_o c) fun _ _=>Gt.pure ⟨fun h=>absurd h hn,g⟩
theorem zY{n:Nat}{t:Int}{b:List Int}{i h:Int}(c:Cur b i)(d:0<t):Gt (dY n t b i h) (fun r=>Cur r.2.1 r.2.2.1):=by
 unfold dY; exact Gt.bind (bX c d) fun r ⟨_,a⟩=>Gt.pure a
theorem tT{n:Nat}{l:List Int}{b:List Int}{i h:Int}(j:Cur b i)(h0:0<l.length)(h1:l.length≤256):Gt (bN n l b i h) (fun r=>r.1∈l∧Cur r.2.1 r.2.2.1):=by
 unfold bN; refine Gt.bind (bX j (by omega)) fun r ⟨c,d⟩=> ?_
 obtain⟨e,f⟩:=c (by omega)
 exact Gt.bind (MG e f) fun a g=>Gt.pure ⟨g,d⟩
theorem rQ{n K:Nat}{l:List (List UInt8)}{b:List Int}{i h:Int}(k:Cur b i)(h0:0<l.length)(h1:l.length≤256)(g: ∀s∈l,s.length≤K):Gt (aU n l b i h) (fun r=>r.1.length≤K∧Cur r.2.1 r.2.2.1):=by
 unfold aU; refine Gt.bind (bX k (by omega)) fun r ⟨c,d⟩=> ?_
 obtain⟨e,f⟩:=c (by omega)
 exact Gt.bind (MG e f) fun a j=>Gt.pure ⟨g a j,d⟩
theorem Kz{n:Nat}(hn:4001<n)(code:List Int)(g:code.length≤1048576):Gt (kQ n code) (fun r=>Cur r.1 r.2.1):=by
 unfold kQ; refine Gt.bind (P:=fun _=>True) (Gt.loop (fun(m:Nat) (s:Int×Int)=>0≤s.2∧s.2+m=4001) (fun _=>True) (fun m s h=> ?_) (m:=4001) (by simp) (by omega)) fun r _=>Gt.pure ⟨g,OU _⟩
 obtain⟨a,i⟩:=s; obtain⟨h1,f⟩:=h; unfold oI; simp only at h1 f ⊢; by_cases c:i<code.length
 ·by_cases d:i<4000
  ·rw[z14 c,z14 d]
   simp only[z17,z9]; refine Gt.bind (MG h1 c) fun e _=>Gt.pure ⟨m - 1,by omega, ?_⟩
   simp only; rw[wrap_i64 (n:=i+1) (by omega) (by omega)]
   omega
  ·rw[z14 c,z10 d]
   simp only[z17,z16,z9]; exact Gt.pure trivial
 ·rw[z10 c]
  simp only[z16,z9]; exact Gt.pure trivial
theorem Ea(k m:Int)(s:List UInt8)(l:List aB):aQ (.mk k m s l)=3+s.length+dl aQ l:=by rw[qF,eW]; rfl
theorem gH{α:Type}(w:α→Nat)(l:List α)(a:α):dl w (l++[a])=dl w l+1+w a:=by
  have:=pC w l [a]; simp only[dl]at this; omega
def trB:Nat→Nat
  | 0=>9
  | d+1=>4+3*(1+trB d)
theorem Of: ∀d,9≤trB d
  | 0=>z60 _
  | d+1=>by
    have:=Of d; simp only[trB]; omega
def DT(B:Nat)(r:Int×Int×List UInt8×List aB×List Int×Int×Int):Prop:=aQ (.mk r.1 r.2.1 r.2.2.1 r.2.2.2.1)≤B∧Cur r.2.2.2.2.1 r.2.2.2.2.2.1
theorem DT.mk{B:Nat}{k m:Int}{s:List UInt8}{l:List aB}{b:List Int}{i h:Int}(hw:3+s.length+dl aQ l≤B)(hc:Cur b i):DT B (k,m,s,l,b,i,h):=⟨by rw[Ea]; exact hw,hc⟩
theorem zX: ∀(d n:Nat),d≤3→d+6<n→ ∀ {b:List Int} {i h:Int},Cur b i→Gt (fM n (d:Int) b i h) (DT (trB d))
  | d,0,_,hn=>by omega
  | d,n+1,hd,hn=>fun hc=>by
    rw[xF]; unfold lE; have h9:=Of d; have one: ∀ {k m:Int} {s:List UInt8} {b:List Int} {i h:Int},s.length≤5→Cur b i→DT (trB d) (k,m,s,[],b,i,h):=fun hs hc=>DT.mk (by simp only[dl]; omega) hc
    have nums: ∀ {b:List Int} {i h:Int},Cur b i→Gt ((aK n (1000:Int) b i h).bind fun c=>(bN n ([(0:Int),(1:Int),(2:Int),((-1):Int),(7:Int),(1000000000000:Int),((-1000000000000):Int),c.1]:List Int) c.2.1 c.2.2.1 c.2.2.2).bind fun c17=>some ((1:Int),c17.1,([]:List UInt8),([]:List aB),c17.2.1,c17.2.2.1,c17.2.2.2)) (DT (trB d)):=fun hc=>
      Gt.bind (bX hc (by omega)) fun r ⟨_,h2⟩=>Gt.bind (tT h2 (by simp) (by simp)) fun r ⟨_,h2⟩=>Gt.pure (one (by simp) h2)
    have strs: ∀ {b:List Int} {i h:Int},Cur b i→Gt ((aU n ([([111,107]:List UInt8),([115,116,111,112]:List UInt8),([97]:List UInt8),([116,114,117,101]:List UInt8),([97,100,100]:List UInt8)]:List (List UInt8)) b i h).bind fun c24=>some ((2:Int),(0:Int),c24.1,([]:List aB),c24.2.1,c24.2.2.1,c24.2.2.2)) (DT (trB d)):=fun hc=>
      Gt.bind (rQ (K:=5) hc (by simp) (by simp) (by decide)) fun r ⟨h1,h2⟩=>Gt.pure (one h1 h2)
    refine Gt.bind (bX hc (by omega)) fun r ⟨_,h2⟩=> ?_
    refine Gt.cond (fun _=>nums h2) fun _=>Gt.cond (fun _=>nums h2) fun _=>Gt.cond (fun _=>nums h2) fun _=>Gt.cond (fun _=>strs h2) fun _=>Gt.cond (fun _=>strs h2) fun _=>Gt.cond (fun _=> ?_) fun _=> ?_
    · exact Gt.bind (bX h2 (by omega)) fun r ⟨_,h2⟩=>Gt.pure (one (by simp) h2)
    · refine Gt.bind (tT h2 (by simp) (by simp)) fun r3 ⟨_,h3⟩=>Gt.bind (bX h3 (by omega)) fun r4 ⟨h4,h5⟩=> ?_
      obtain⟨h6,h7⟩:=h4 (by omega)
      refine Gt.bind (P:=fun r=>dl aQ r.2.2.2.2.2.1≤1+3*(1+trB (d - 1))∧(d=0→r.2.2.2.2.2.1=[])∧r.2.2.2.2.1=[]∧Cur r.2.2.2.2.2.2.1 r.2.2.2.2.2.2.2.1) (Gt.loop (fun(m:Nat) (s:Int×Int×Int×List UInt8×List aB×List Int×Int×Int)=>s.1=(m:Int)∧dl aQ s.2.2.2.2.1+m*(1+trB (d - 1))≤1+3*(1+trB (d - 1))∧(d=0→s.2.2.2.2.1=[])∧s.2.2.2.1=[]∧Cur s.2.2.2.2.2.1 s.2.2.2.2.2.2.1) _ (fun m s hs=> ?_) (m:=r4.1.toNat) ?_ (by omega)) fun r hr=> ?_
      · obtain⟨v,w5,w6,w7,w8,w9,w10,w11⟩:=s
        obtain⟨s1,s2,s3,s4,s5⟩:=hs; simp only at s1 s2 s3 s4 s5; subst s1; subst s4; unfold nH; simp only; by_cases c1:(0:Int)<(m:Int)
        · rw[z14 c1]
          by_cases c2:(0:Int)<(d:Int)
          · rw[z14 c2]
            simp only[z17,z9]; obtain⟨m',rfl⟩: ∃m',m=m'+1:=⟨m - 1,by omega⟩
            have e1:IntKind.wrap .i64 ((d:Int) - 1)=((d - 1:Nat):Int):=by rw[wrap_i64 (by omega) (by omega)]; omega
            rw[e1,LO (by
                                  have:(m'+1)*10≤(m'+1)*(1+trB (d - 1)):=Nat.mul_le_mul_left _ (by have:=Of (d - 1); omega)
                                  have:trB (d - 1)≤202:=by
                                    have:d - 1=0∨d - 1=1∨d - 1=2:=by omega
                                    rcases this with e | e | e<;>rw[e]<;>simp [trB]
                                  omega)]
            refine Gt.bind (zX (d - 1) n (by omega) (by omega) s5) fun r ⟨g1,g2⟩=> ?_
            have hb:trB (d - 1)≤202:=by
              have:d - 1=0∨d - 1=1∨d - 1=2:=by omega
              rcases this with e | e | e<;>rw[e]<;>simp [trB]
            have hl:=bB aQ w8; refine Gt.bind (jM (by simp only[z21]; omega) (by omega)) fun q e=>Gt.pure ⟨m',rfl,rfl, ?_,fun e=>by omega,rfl,g2⟩
            subst e; show dl aQ (w8++[_])+m'*(1+trB (d - 1))≤_; rw[gH]; rw[z73]at s2; omega
          · rw[z10 c2]
            simp only[z17,z16,z9]; refine Gt.pure ⟨?_,s3,rfl,s5⟩
            show dl aQ w8≤_; omega
        · rw[z10 c1]
          simp only[z16,z9]; refine Gt.pure ⟨?_,s3,rfl,s5⟩
          show dl aQ w8≤_; omega
      · refine⟨by simp only; omega, ?_,fun _=>rfl,rfl,h5⟩
        simp only[dl]; have:r4.1.toNat*(1+trB (d - 1))≤3*(1+trB (d - 1)):=z40 _ (by omega)
        omega
      · obtain⟨x0,x1,x2,x3,x4,x5,x6,x7,x8⟩:=r
        obtain⟨q1,q2,q3,q4⟩:=hr; simp only at q1 q2 q3 q4 ⊢; refine Gt.pure (DT.mk ?_ q4)
        rw[q3]; cases d with
        | zero=>rw[q2 rfl]; simp only[dl,z28,trB]; omega
        | succ d=>
          have e:trB (d+1)=4+3*(1+trB d):=rfl; simp only[z28,Nat.add_sub_cancel]at q1 ⊢; omega
theorem NX{n B:Nat}{t:aB}(hn:aQ t+20<n)(hn2:n≤1099511627776)(hw:aQ t≤B)(hB:B≤100000){b:List Int}{i h:Int}(hc:Cur b i):Gt (lJ n t.f0 t.f1 t.f2 t.f3 b i h) (DT (B+60)):=by
  unfold lJ; rw[BK n (a:=t) (by omega) (by omega)]
  rw[←aW t,Ea]at hw; have hl:=bB aQ t.f3; simp only[z9]; refine Gt.bind (bX hc (by omega)) fun r ⟨_,h2⟩=> ?_
  refine Gt.cond (fun _=> ?_) fun _=>Gt.cond (fun _=> ?_) fun _=>Gt.cond (fun _=> ?_) fun _=>Gt.cond (fun _=> ?_) fun _=>Gt.cond (fun _=> ?_) fun _=> ?_
  · exact Gt.bind (bX h2 (by omega)) fun r ⟨_,h2⟩=>Gt.pure (DT.mk (by omega) h2)
  · exact Gt.bind (tT h2 (by simp) (by simp)) fun r ⟨_,h2⟩=>Gt.pure (DT.mk (by omega) h2)
  · exact Gt.bind (rQ (K:=25) h2 (by simp) (by simp) (by decide)) fun r ⟨h1,h2⟩=>Gt.pure (DT.mk (by omega) h2)
  · refine Gt.bind (jM (by simp only[z21]; omega) (by omega)) fun q e=>Gt.pure (DT.mk ?_ h2)
    subst e; rw[gH,Ea]; simp only[dl,z28]; omega
  · refine Gt.bind (P:=fun r=>aQ (.mk r.2.2.1 r.2.2.2.1 r.2.2.2.2.1 r.2.2.2.2.2)≤B+60) (Gt.loop (fun(m:Nat) (s:Int×Int×Int×List UInt8×List aB)=>s.1+m=8∧0≤s.1∧aQ (.mk s.2.1 s.2.2.1 s.2.2.2.1 s.2.2.2.2)+6*m≤B+48) _ (fun m s hs=> ?_) (m:=8) ?_ (by omega)) fun r hr=>Gt.pure ⟨hr,h2⟩
    · obtain⟨v,w1,w2,w3,w4⟩:=s
      obtain⟨s1,s2,s3⟩:=hs; simp only at s1 s2 s3; unfold nI; simp only; by_cases c1:v<(8:Int)
      · rw[z14 c1,z17,wrap_i64 (n:=v+1) (by omega) (by omega)]
        refine Gt.pure ⟨m - 1,by omega, ?_, ?_, ?_⟩
        · show v+1+((m - 1:Nat):Int)=8
          omega
        · show 0≤v+1
          omega
        · show aQ (.mk 4 0 [] [.mk w1 w2 w3 w4])+6*(m - 1)≤B+48
          rw[Ea]; simp only[dl,z28]; omega
      · rw[z10 c1,z16]
        refine Gt.pure ?_
        show aQ (.mk w1 w2 w3 w4)≤B+60; omega
    · exact⟨by simp,by simp,by simp only; rw[Ea]; omega⟩
  · exact Gt.pure (DT.mk (by omega) h2)
theorem Pi{n:Nat}(hn:1000<n)(hn2:n≤1099511627776){b:List Int}{i h:Int}(hc:Cur b i):Gt (mV n b i h) (DT 700):=by
  unfold mV; have e3:trB 3=334:=rfl; refine Gt.bind (zX 3 n (by omega) (by omega) hc) fun r ⟨h1,h2⟩=>Gt.bind (zY h2 (by omega)) fun r2 h3=>Gt.cond (fun _=> ?_) fun _=> ?_
  · have:=NX (n:=n) (B:=334) (t:= .mk r.1 r.2.1 r.2.2.1 r.2.2.2.1) (by omega) hn2 h1 (by omega) (b:=r2.2.1) (i:=r2.2.2.1) (h:=r2.2.2.2) h3
    exact Gt.bind this fun q ⟨g1,g2⟩=>Gt.pure ⟨z53 g1 (by omega),g2⟩
  · exact Gt.pure ⟨z53 h1 (by omega),h3⟩
theorem wL(k m:Int)(s:List UInt8)(l:List aA)(c:List aC):aN (.mk k m s l c)=3+s.length+dl aN l+dl dH c:=by rw[qG,iG,fP]; rfl
def Nm(K:Nat)(l:List (List UInt8)):Prop:=l.length≤K∧ ∀s∈l,s.length≤5
theorem Nm.up{K K':Nat}{l:List (List UInt8)}(h:Nm K l)(a:K≤K'):Nm K' l:=⟨z53 h.1 a,h.2⟩
theorem Nm.app{K K':Nat}{l l':List (List UInt8)}(h:Nm K l)(a:Nm K' l'):Nm (K+K') (l++l'):=⟨by rw[z30]; exact Nat.add_le_add h.1 a.1,fun s b=>(QM.1 b).elim (h.2 s) (a.2 s)⟩
def kX:Nat→Nat
 | 0=>7
 | d+1=>7+2*kX d
def kY:Nat→Nat
 | 0=>1
 | d+1=>2*kY d
theorem kX_7: ∀d,7≤kX d
 | 0=>z60 _
 | d+1=>by simp only[kX]; omega
theorem Rt: ∀d,1≤kY d
 | 0=>z60 _
 | d+1=>by have:=Rt d; simp only[kY]; omega
def DP(B K:Nat)(r:Int×Int×List UInt8×List aA×List aC×List Int×Int×Int×List (List UInt8)):Prop:=aN (.mk r.1 r.2.1 r.2.2.1 r.2.2.2.1 r.2.2.2.2.1)≤B∧Cur r.2.2.2.2.2.1 r.2.2.2.2.2.2.1∧Nm K r.2.2.2.2.2.2.2.2
theorem DP.mk{B K:Nat}{k m:Int}{s:List UInt8}{l:List aA}{c:List aC}{b:List Int}{i h:Int}{a:List (List UInt8)}(e:3+s.length+dl aN l+dl dH c≤B)(d:Cur b i)(hn:Nm K a):DP B K (k,m,s,l,c,b,i,h,a):=⟨by rw[wL]; exact e,d,hn⟩
def PS(X Y K m:Nat)(x:Int×Int×List UInt8×List aA×List aC×List Int×Int×Int×List (List UInt8)):Prop:=x.2.2.1=[]∧x.2.2.2.2.1=[]∧dl aN x.2.2.2.1+m*(1+X)≤1+2*(1+X)∧Cur x.2.2.2.2.2.1 x.2.2.2.2.2.2.1∧x.2.2.2.2.2.2.2.2.length+m*Y≤K+2*Y∧ ∀s∈x.2.2.2.2.2.2.2.2,s.length≤5
theorem NW(n d K:Nat)(M:d≤2)(I:K+10*d≤1000)(E:d≠0→ ∀ {K':Nat} {b:List Int} {i h:Int} {p:List (List UInt8)},K'+10*(d - 1)≤1000→Cur b i→Nm K' p→Gt (cI n ((d - 1:Nat):Int) b i h p) (DP (kX d) (K'+kY d)))(m:Nat)(s:Int×Int×Int×List UInt8×List aA×List aC×List Int×Int×Int×List (List UInt8))(D:s.1+m=(2:Int)∧0≤s.1∧PS (kX d) (kY d) K m s.2):Gt (lR n (cI n) (d:Int) s) (Rnd (fun m s=>s.1+m=(2:Int)∧0≤s.1∧PS (kX d) (kY d) K m s.2) (fun r=>PS (kX d) (kY d) K 0 r.2.2) m):=by
 obtain⟨v,w0,O,Q,k,R,S,T,U,w⟩:=s; obtain⟨F,G,t,u,g,c,j,f⟩:=D; simp only at F G t u g c j f; subst t; subst u; have J:kX d≤49:=by
  have:d=0∨d=1∨d=2:=by omega
  rcases this with e | e | e<;>rw[e]<;>simp [kX]
 have L:1≤kY d:=Rt _; have z:kY d≤4:=by
  have:d=0∨d=1∨d=2:=by omega
  rcases this with e | e | e<;>rw[e]<;>simp [kY]
 have N:=bB aN k; unfold lR; simp only; by_cases l:v<(2:Int)
 ·rw[z14 l,z17]
  obtain⟨a,rfl⟩: ∃a,m=a+1:=⟨m - 1,by omega⟩
  rw[z73]at g j; have A:a*(1+kX d)≥0:=MC _; have B:a*kY d≥0:=MC _; refine Gt.bind (P:=PS (kX d) (kY d) K a) (Gt.cond (fun e=> ?_) (fun e=> ?_)) fun r C=> ?_
  ·have:=KJ e
   have x:IntKind.wrap .i64 ((d:Int) - 1)=((d - 1:Nat):Int):=by rw[wrap_i64 (by omega) (by omega)]; omega
   rw[x]; refine Gt.bind (E (by omega) (K':=w.length) (by omega) c ⟨z60 _,f⟩) fun r ⟨H,y,o⟩=>Gt.bind (jM (by simp only[z21]; omega) (by omega)) fun q e=>Gt.pure ⟨rfl,rfl, ?_,y, ?_,o.2⟩
   ·subst e
    show dl aN (k++[_])+a*(1+kX d)≤_; rw[gH]; omega
   ·exact z53 (Nat.add_le_add_right o.1 _) (by omega)
  ·refine Gt.bind (jM (by simp only[z21]; omega) (by omega)) fun q e=>Gt.pure ⟨rfl,rfl, ?_,c, ?_,f⟩
   ·subst e
    have:=kX_7 d; show dl aN (k++[_])+a*(1+kX d)≤_; rw[gH,wL]; simp only[dl,z21]; omega
   ·show w.length+a*kY d≤_
    omega
  ·obtain⟨x0,x1,V,W,X,Y,Z,x7,x8⟩:=r
   rw[wrap_i64 (n:=v+1) (by omega) (by omega)]
   refine Gt.pure ⟨a,rfl, ?_, ?_,C⟩
   ·show v+1+(a:Int)=(2:Int)
    omega
   ·show 0≤v+1
    omega
 ·rw[z10 l,z16]
  have:m=0:=by omega
  subst this; exact Gt.pure ⟨rfl,rfl,g,c,j,f⟩
theorem NV(n d K:Nat)(O:d≤2)(L:K+10*d≤1000)(c:Int×List Int×Int×Int)(B:c.1≤2)(G:d≠0→ ∀ {K':Nat} {b:List Int} {i h:Int} {t:List (List UInt8)},K'+10*(d - 1)≤1000→Cur b i→Nm K' t→Gt (cI n ((d - 1:Nat):Int) b i h t) (DP (kX d) (K'+kY d)))(m:Nat)(s:Int×Int×Int×List UInt8×List aA×List aC×List Int×Int×Int×List (List UInt8))(F:s.1+m=c.1∧0≤s.1∧PS (kX d) (kY d) K m s.2):Gt (lQ n (cI n) (d:Int) c s) (Rnd (fun m s=>s.1+m=c.1∧0≤s.1∧PS (kX d) (kY d) K m s.2) (fun r=>PS (kX d) (kY d) K 0 r.2.2) m):=by
 obtain⟨v,w0,R,S,l,T,U,V,W,x⟩:=s; obtain⟨H,I,u,w,j,f,k,g⟩:=F; simp only at H I u w j f k g; subst u; subst w; have M:kX d≤49:=by
  have:d=0∨d=1∨d=2:=by omega
  rcases this with e | e | e<;>rw[e]<;>simp [kX]
 have N:1≤kY d:=Rt _; have A:kY d≤4:=by
  have:d=0∨d=1∨d=2:=by omega
  rcases this with e | e | e<;>rw[e]<;>simp [kY]
 have Q:=bB aN l; unfold lQ; simp only; by_cases o:v<c.1
 ·rw[z14 o,z17]
  obtain⟨a,rfl⟩: ∃a,m=a+1:=⟨m - 1,by omega⟩
  rw[z73]at j k; have C:a*(1+kX d)≥0:=MC _; have D:a*kY d≥0:=MC _; refine Gt.bind (P:=PS (kX d) (kY d) K a) (Gt.cond (fun e=> ?_) (fun e=> ?_)) fun r E=> ?_
  ·have:=KJ e
   have y:IntKind.wrap .i64 ((d:Int) - 1)=((d - 1:Nat):Int):=by rw[wrap_i64 (by omega) (by omega)]; omega
   rw[y]; refine Gt.bind (G (by omega) (K':=x.length) (by omega) f ⟨z60 _,g⟩) fun r ⟨J,z,p⟩=>Gt.bind (jM (by simp only[z21]; omega) (by omega)) fun q e=>Gt.pure ⟨rfl,rfl, ?_,z, ?_,p.2⟩
   ·subst e
    show dl aN (l++[_])+a*(1+kX d)≤_; rw[gH]; omega
   ·exact z53 (Nat.add_le_add_right p.1 _) (by omega)
  ·refine Gt.bind (jM (by simp only[z21]; omega) (by omega)) fun q e=>Gt.pure ⟨rfl,rfl, ?_,f, ?_,g⟩
   ·subst e
    have:=kX_7 d; show dl aN (l++[_])+a*(1+kX d)≤_; rw[gH,wL]; simp only[dl,z21]; omega
   ·show x.length+a*kY d≤_
    omega
  ·obtain⟨x0,x1,X,Y,Z,x5,x6,x7,x8⟩:=r
   rw[wrap_i64 (n:=v+1) (by omega) (by omega)]
   refine Gt.pure ⟨a,rfl, ?_, ?_,E⟩
   ·show v+1+(a:Int)=c.1
    omega
   ·show 0≤v+1
    omega
 ·rw[z10 o,z16]
  have:m=0:=by omega
  subst this; exact Gt.pure ⟨rfl,rfl,j,f,k,g⟩
theorem Du: ∀(d n:Nat),d≤2→d+2000<n→n≤1099511627776→ ∀ {K:Nat} {b:List Int} {i h:Int} {l:List (List UInt8)},K+10*d≤1000→Cur b i→Nm K l→Gt (cI n (d:Int) b i h l) (DP (kX (d+1)) (K+kY (d+1)))
 | d,0,_,hn,_=>by omega
 | d,n+1,N,hn,Y=>fun M D H=>by
  rename_i K b i h l; rw[yM]; unfold mR; have hX:=kX_7 d; have hY:=Rt d; have eX:kX (d+1)=7+2*kX d:=rfl; have eY:kY (d+1)=2*kY d:=rfl; have p: ∀ {k m:Int} {s:List UInt8} {b:List Int} {i h:Int} {l:List (List UInt8)},s.length≤5→Cur b i→Nm (K+1) l→DP (kX (d+1)) (K+kY (d+1)) (k,m,s,[],[],b,i,h,l):=fun B D hn=>DP.mk (by simp only[dl]; omega) D (hn.up (by omega))
  have u:Nm (K+1) l:=H.up (by omega)
  have X:=H.1; have nC: ∀ {b:List Int} {i h:Int},Cur b i→Gt ((aU n ([([65]:List UInt8),([66]:List UInt8),([67]:List UInt8),([68]:List UInt8),([72]:List UInt8),([84]:List UInt8)]:List (List UInt8)) b i h).bind fun a=>(fD n l a.1).bind fun t=>bif t then some ((3:Int),(0:Int),([95]:List UInt8),([]:List aA),([]:List aC),a.2.1,a.2.2.1,a.2.2.2,l)else(fS 16 l ([a.1]:List (List UInt8))).bind fun v=>some ((3:Int),(0:Int),a.1,([]:List aA),([]:List aC),a.2.1,a.2.2.1,a.2.2.2,v)) (DP (kX (d+1)) (K+kY (d+1))):=fun D=>by
   refine Gt.bind (rQ (K:=5) D (by simp) (by simp) (by decide)) fun r ⟨h1,o⟩=> ?_
   rw[Ik n l r.1 (by omega) (by omega),z9]
   refine Gt.cond (fun _=>Gt.pure (p (by simp) o u)) fun _=>Gt.bind (jM (by simp only[z21]; omega) (by omega)) fun q e=>Gt.pure (p h1 o ?_)
   subst e; exact H.app ⟨z60 _,fun s B=>by rw[z77.1 B]; exact h1⟩
  refine Gt.bind (bX D (by omega)) fun r ⟨_,o⟩=> ?_
  refine Gt.cond (fun _=> ?_) fun _=>Gt.cond (fun _=> ?_) fun _=>Gt.cond (fun _=>Gt.pure (p (by simp) o u)) fun _=>Gt.cond (fun _=>nC o) fun _=>Gt.cond (fun _=>nC o) fun _=>Gt.cond (fun _=>nC o) fun _=> ?_
  ·exact Gt.bind (bX o (by omega)) fun r ⟨_,o⟩=>Gt.pure (p (by simp) o u)
  ·exact Gt.bind (rQ (K:=5) o (by simp) (by simp) (by decide)) fun r ⟨h1,o⟩=>Gt.pure (p h1 o u)
  ·refine Gt.bind (tT o (by simp) (by simp)) fun r3 ⟨_,T⟩=>Gt.bind (bX T (by omega)) fun F ⟨U,V⟩=> ?_
   obtain⟨h6,h7⟩:=U (by omega)
   have O:d≠0→ ∀ {K':Nat} {b:List Int} {i h:Int} {l:List (List UInt8)},K'+10*(d - 1)≤1000→Cur b i→Nm K' l→Gt (cI n ((d - 1:Nat):Int) b i h l) (DP (kX d) (K'+kY d)):=fun W=>by
    obtain⟨L,rfl⟩: ∃L,d=L+1:=⟨d - 1,by omega⟩
    exact Du L n (by omega) (by omega) (by omega)
   have C: ∀(r:Int×Bool×Int×Int×List UInt8×List aA×List aC×List Int×Int×Int×List (List UInt8)),PS (kX d) (kY d) K 0 r.2.2→Gt ((fun(I,J,w,x,y,z,A,c,f,g,j)=>some (w,x,y,z,A,c,f,g,j)) r) (DP (kX (d+1)) (K+kY (d+1))):=fun r Z=>by
    obtain⟨x0,x1,x2,x3,x4,x5,x6,x7,x8,x9,x10⟩:=r; obtain⟨P,Q,q3,R,q5,S⟩:=Z; simp only at P Q q3 R q5 S; subst P; subst Q; exact Gt.pure (DP.mk (by simp only[dl,z28]; omega) R ⟨by omega,S⟩)
   have G: ∀(m:Nat) (k:Int),m≤2→PS (kX d) (kY d) K m (k,(0:Int),([]:List UInt8),([]:List aA),([]:List aC),F.2.1,F.2.2.1,F.2.2.2,l):=fun m k E=>by
    have a1:m*(1+kX d)≤2*(1+kX d):=z40 _ E; have a2:m*kY d≤2*kY d:=z40 _ E; exact⟨rfl,rfl,by simp only[dl]; omega,V,by simp only; omega,H.2⟩
   refine Gt.cond (fun _=> ?_) fun _=> ?_
   ·exact Gt.bind (Gt.loop _ _ (fun m s B=>NW n d K N M O m s B) (m:=2) ⟨rfl,OU _,G 2 _ (z60 _)⟩ (by omega)) C
   ·exact Gt.bind (Gt.loop _ _ (fun m s B=>NV n d K N M F (by omega) O m s B) (m:=F.1.toNat) ⟨by simp only; omega,OU _,G _ _ (by omega)⟩ (by omega)) C
theorem ML(a0 a1:Int)(a2:List UInt8)(a3:List aA)(a4:List aC)(a5 a6:Int)(a7:List UInt8)(a8:List aA)(a:List aC):dH (.mk a0 a1 a2 a3 a4 a5 a6 a7 a8 a)=3+aN (.mk a0 a1 a2 a3 a4)+aN (.mk a5 a6 a7 a8 a):=vP _
theorem Ax{α:Type}{l:List α}{i:Nat}{a:α}(b:Nat)(c:l[i]? =some a)(f:l.length≤20000000)(d:b≤255):fS b (l.take i) [a]=some (l.take (i+1)):=by
 have e:=iF c; rw[←qC c]; refine qM ?_ (by simp only[z37,z21,maxLen]; omega)
 have:((l.take i).length+[a].length)*b≤200000000*255:=Nat.mul_le_mul (by simp only[z37,z21]; omega) d
 omega
theorem BJ: ∀(n:Nat),n≤1099511627776→ ∀(a:aA),aN a<n→aN a≤20000000→cC n a.f0 a.f1 a.f2 a.f3 a.f4=some (a.f0,a.f1,a.f2,a.f3,a.f4)
 | 0,_=>fun a h=>by omega
 | n+1,hn=>fun a h t=>by
  have d:=BJ n (by omega)
  rw[xD]; unfold lC; have k:=qG a; rw[iG,fP]at k; have o:=bB aN a.f3; have s:=bB dH a.f4; have g:=oU (body:=gX n (cC n) a.f3) (fun i=>((i:Int),a.f0,a.f1,a.f2,a.f3.take i,([]:List aC))) (len:=a.f3.length) (r:=((a.f3.length:Int),false,a.f0,a.f1,a.f2,a.f3,[])) (fun i c=>by
   have b:a.f3[i]? =some a.f3[i]:=z11 c
   generalize a.f3[i]=e at b; have f:=eF aN (z24 b); simp only[gX,eK b,z17,dJ,b,z9,d e (by omega) (by omega),oN,Ax 80 b (by omega) (by omega),aY (show i<4611686018427387904 by omega)]) (by simp only[gX,bC,z16,OX]) (n:=n) (by omega)
  have j:=oU (body:=gW n (cC n) a.f4) (fun i=>((i:Int),a.f0,a.f1,a.f2,a.f3,a.f4.take i)) (len:=a.f4.length) (r:=((a.f4.length:Int),false,a.f0,a.f1,a.f2,a.f3,a.f4)) (fun i c=>by
   have b:a.f4[i]? =some a.f4[i]:=z11 c
   generalize a.f4[i]=e at b; have f:=eF dH (z24 b); have u:=vP e; have l:cC n e.f0 e.f1 e.f2 e.f3 e.f4=some (e.f0,e.f1,e.f2,e.f3,e.f4):=d e.p (by omega) (by omega)
   have m:cC n e.f5 e.f6 e.f7 e.f8 e.f9=some (e.f5,e.f6,e.f7,e.f8,e.f9):=d e.x (by omega) (by omega)
   simp only[gW,eK b,z17,dJ,b,z9,l,m,yS,Ax 160 b (by omega) (by omega),aY (show i<4611686018427387904 by omega)]) (by simp only[gW,bC,z16,OX]) (n:=n) (by omega)
  refine(congrArg (fun q=>Option.bind q _) g).trans ?_
  simp only[z9]; refine(congrArg (fun q=>Option.bind q _) j).trans ?_
  rfl
def eB:Nat→Nat
 | 0=>10
 | d+1=>200+4*eB d
theorem eB_10: ∀d,10≤eB d
 | 0=>z60 _
 | d+1=>by simp only[eB]; omega
theorem QV{d:Nat}(h:d≤3):eB d≤4840:=by
 have:d=0∨d=1∨d=2∨d=3:=by omega
 rcases this with e | e | e | e<;>rw[e]<;>simp [eB]
def DE(B:Nat)(r:Int×Int×List UInt8×List aA×List aC×List Int×Int×Int):Prop:=aN (.mk r.1 r.2.1 r.2.2.1 r.2.2.2.1 r.2.2.2.2.1)≤B∧Cur r.2.2.2.2.2.1 r.2.2.2.2.2.2.1
theorem DE.mk{B:Nat}{k m:Int}{s:List UInt8}{l:List aA}{c:List aC}{b:List Int}{i h:Int}(d:3+s.length+dl aN l+dl dH c≤B)(a:Cur b i):DE B (k,m,s,l,c,b,i,h):=⟨by rw[wL]; exact d,a⟩
def ES(X m:Nat)(x:Int×Int×List UInt8×List aA×List aC×List Int×Int×Int):Prop:=x.2.2.1.length≤5∧x.2.2.2.2.1=[]∧dl aN x.2.2.2.1+m*(1+X)≤1+2*(1+X)∧Cur x.2.2.2.2.2.1 x.2.2.2.2.2.2.1
def CS(X m:Nat)(x:Int×Int×List UInt8×List aA×List aC×List Int×Int×Int):Prop:=x.2.2.1=[]∧dl aN x.2.2.2.1≤2+X∧dl dH x.2.2.2.2.1+m*(53+X)≤1+2*(53+X)∧Cur x.2.2.2.2.2.1 x.2.2.2.2.2.2.1
theorem Ll(n d K:Nat)(c:List (List UInt8))(E:d≤2)(w:K+10*d≤200)(x:Nm K c)(A: ∀ {K':Nat} {b:List Int} {i h:Int} {c:List (List UInt8)},K'+10*d≤200→Cur b i→Nm K' c→Gt (bH n (d:Int) c b i h) (DE (eB d)))(m:Nat)(y:m≤2)(s:Int×Int×Int×List UInt8×List aA×List aC×List Int×Int×Int)(z:s.1=(m:Int)∧ES (eB d) m s.2):Gt (kI n (bH n) ((d+1:Nat):Int) c s) (Rnd (fun m s=>m≤2∧s.1=(m:Int)∧ES (eB d) m s.2) (fun r=>ES (eB d) 0 r.2.2) m):=by
 obtain⟨v,w0,G,H,o,I,J,L,M⟩:=s; obtain⟨B,f,l,g,j⟩:=z; simp only at B f l g j; subst l; have D:=QV (d:=d) (by omega)
 have F:=bB aN o; unfold kI; simp only; by_cases k:(0:Int)<v
 ·rw[z14 k,z17]
  obtain⟨a,rfl⟩: ∃a,m=a+1:=⟨m - 1,by omega⟩
  rw[z73]at g; have p:IntKind.wrap .i64 (((d+1:Nat):Int) - 1)=(d:Int):=by rw[wrap_i64 (by omega) (by omega)]; omega
  rw[p]; refine Gt.bind (A w j x) fun r ⟨C,t⟩=>Gt.bind (jM (by simp only[z21]; omega) (by omega)) fun q e=> ?_
  rw[wrap_i64 (n:=v - 1) (by omega) (by omega)]
  subst e; have u:dl aN (o++[.mk r.1 r.2.1 r.2.2.1 r.2.2.2.1 r.2.2.2.2.1])+a*(1+eB d)≤1+2*(1+eB d):=by rw[gH]; omega
  refine Gt.pure ⟨a,rfl,by omega,(by show v - 1=(a:Int); omega),f,rfl,u,t⟩
 ·rw[z10 k,z16]
  have:m=0:=by omega
  subst this; exact Gt.pure ⟨f,rfl,g,j⟩
theorem Lk(n d K:Nat)(c:List (List UInt8))(F:d≤2)(w:K+10*d≤200)(x:Nm K c)(A: ∀ {K':Nat} {b:List Int} {i h:Int} {c:List (List UInt8)},K'+10*d≤200→Cur b i→Nm K' c→Gt (bH n (d:Int) c b i h) (DE (eB d)))(m:Nat)(y:m≤2)(s:Int×Int×Int×List UInt8×List aA×List aC×List Int×Int×Int)(z:(s.1+m=2∧0≤s.1)∧ES (eB d) m s.2):Gt (kH n (bH n) ((d+1:Nat):Int) c s) (Rnd (fun m s=>m≤2∧(s.1+m=2∧0≤s.1)∧ES (eB d) m s.2) (fun r=>ES (eB d) 0 r.2.2) m):=by
 obtain⟨v,w0,H,I,o,J,L,M,N⟩:=s; obtain⟨⟨C,B⟩,f,l,g,j⟩:=z; simp only at C f l g j B; subst l; have E:=QV (d:=d) (by omega)
 have G:=bB aN o; unfold kH; simp only; by_cases k:v<(2:Int)
 ·rw[z14 k,z17]
  obtain⟨a,rfl⟩: ∃a,m=a+1:=⟨m - 1,by omega⟩
  rw[z73]at g; have p:IntKind.wrap .i64 (((d+1:Nat):Int) - 1)=(d:Int):=by rw[wrap_i64 (by omega) (by omega)]; omega
  rw[p]; refine Gt.bind (A w j x) fun r ⟨D,t⟩=>Gt.bind (jM (by simp only[z21]; omega) (by omega)) fun q e=> ?_
  rw[wrap_i64 (n:=v+1) (by omega) (by omega)]
  subst e; have u:dl aN (o++[.mk r.1 r.2.1 r.2.2.1 r.2.2.2.1 r.2.2.2.2.1])+a*(1+eB d)≤1+2*(1+eB d):=by rw[gH]; omega
  refine Gt.pure ⟨a,rfl,by omega,⟨(by show v+1+(a:Int)=2; omega),(by show 0≤v+1; omega)⟩,f,rfl,u,t⟩
 ·rw[z10 k,z16]
  have:m=0:=by omega
  subst this; exact Gt.pure ⟨f,rfl,g,j⟩
theorem Lj(n d K:Nat)(c:List (List UInt8))(F:d≤2)(w:K+10*d≤200)(x:Nm K c)(A: ∀ {K':Nat} {b:List Int} {i h:Int} {c:List (List UInt8)},K'+10*d≤200→Cur b i→Nm K' c→Gt (bH n (d:Int) c b i h) (DE (eB d)))(m:Nat)(y:m≤2)(s:Int×Int×Int×List UInt8×List aA×List aC×List Int×Int×Int)(z:(s.1+m=1∧0≤s.1)∧ES (eB d) m s.2):Gt (kG n (bH n) ((d+1:Nat):Int) c s) (Rnd (fun m s=>m≤2∧(s.1+m=1∧0≤s.1)∧ES (eB d) m s.2) (fun r=>ES (eB d) 0 r.2.2) m):=by
 obtain⟨v,w0,H,I,o,J,L,M,N⟩:=s; obtain⟨⟨C,B⟩,f,l,g,j⟩:=z; simp only at C f l g j B; subst l; have E:=QV (d:=d) (by omega)
 have G:=bB aN o; unfold kG; simp only; by_cases k:v<(1:Int)
 ·rw[z14 k,z17]
  obtain⟨a,rfl⟩: ∃a,m=a+1:=⟨m - 1,by omega⟩
  rw[z73]at g; have p:IntKind.wrap .i64 (((d+1:Nat):Int) - 1)=(d:Int):=by rw[wrap_i64 (by omega) (by omega)]; omega
  rw[p]; refine Gt.bind (A w j x) fun r ⟨D,t⟩=>Gt.bind (jM (by simp only[z21]; omega) (by omega)) fun q e=> ?_
  rw[wrap_i64 (n:=v+1) (by omega) (by omega)]
  subst e; have u:dl aN (o++[.mk r.1 r.2.1 r.2.2.1 r.2.2.2.1 r.2.2.2.2.1])+a*(1+eB d)≤1+2*(1+eB d):=by rw[gH]; omega
  refine Gt.pure ⟨a,rfl,by omega,⟨(by show v+1+(a:Int)=1; omega),(by show 0≤v+1; omega)⟩,f,rfl,u,t⟩
 ·rw[z10 k,z16]
  have:m=0:=by omega
  subst this; exact Gt.pure ⟨f,rfl,g,j⟩
theorem Lh(n d K:Nat)(c:List (List UInt8))(L:d≤2)(hn:2010<n)(f:n≤1099511627776)(I:K+10*(d+1)≤200)(t:Nm K c)(D: ∀ {K':Nat} {b:List Int} {i h:Int} {c:List (List UInt8)},K'+10*d≤200→Cur b i→Nm K' c→Gt (bH n (d:Int) c b i h) (DE (eB d)))(m:Nat)(B:m≤2)(s:Int×Int×Int×List UInt8×List aA×List aC×List Int×Int×Int)(g:s.1=(m:Int)∧CS (eB d) m s.2):Gt (kF n (bH n) ((d+1:Nat):Int) c s) (Rnd (fun m s=>m≤2∧s.1=(m:Int)∧CS (eB d) m s.2) (fun r=>CS (eB d) 0 r.2.2) m):=by
 obtain⟨v,w0,P,Q,R,w,S,T,U⟩:=s; obtain⟨E,u,j,k,l⟩:=g; simp only at E u j k l; subst u; have J:=QV (d:=d) (by omega)
 have M:=bB dH w; have C:=t.1; unfold kF; simp only; by_cases o:(0:Int)<v
 ·rw[z14 o,z17]
  obtain⟨a,rfl⟩: ∃a,m=a+1:=⟨m - 1,by omega⟩
  rw[z73]at k; have x:IntKind.wrap .i64 (((d+1:Nat):Int) - 1)=(d:Int):=by rw[wrap_i64 (by omega) (by omega)]; omega
  rw[x]; refine Gt.bind (Du 1 n (by omega) (by omega) f (K:=0) (by omega) l ⟨z60 _,fun s g=>by cases g⟩) fun r ⟨f1,f2,p⟩=> ?_
  have y:=p.1; have F:kY (1+1)=4:=rfl; have G:kX (1+1)=49:=rfl; refine Gt.bind (jM (by simp only[z28]; omega) (by omega)) fun N e=> ?_
  rw[QK]at e; subst e; refine Gt.bind (jM (by omega) (by omega)) fun O e=> ?_
  subst e; refine Gt.bind (D (K':=K+4) (by omega) f2 ((t.app p).up (by omega))) fun r2 ⟨H,z⟩=>Gt.bind (jM (by simp only[z21]; omega) (by omega)) fun q e=> ?_
  rw[wrap_i64 (n:=v - 1) (by omega) (by omega)]
  subst e; have A:dl dH (w++[.mk r.1 r.2.1 r.2.2.1 r.2.2.2.1 r.2.2.2.2.1 r2.1 r2.2.1 r2.2.2.1 r2.2.2.2.1 r2.2.2.2.2.1])+a*(53+eB d)≤1+2*(53+eB d):=by rw[gH,ML]; omega
  exact Gt.pure ⟨a,rfl,by omega,(by show v - 1=(a:Int); omega),rfl,j,A,z⟩
 ·rw[z10 o,z16]
  have:m=0:=by omega
  subst this; exact Gt.pure ⟨rfl,j,k,l⟩
theorem Al{n:Nat}{x:Int}:Gt (bM n x) (fun r=>r=(1,x,[],[],[])):=Gt.pure rfl
theorem SW{n:Nat}{s:List UInt8}:Gt (kD n s) (fun r=>r=(2,0,s,[],[])):=Gt.pure rfl
theorem Il: ∀(d n:Nat),d≤3→d+2100<n→n≤1099511627776→ ∀ {K:Nat} {b:List Int} {i h:Int} {z:List (List UInt8)},K+10*d≤200→Cur b i→Nm K z→Gt (bH n (d:Int) z b i h) (DE (eB d))
 | d,0,_,hn,_=>by omega
 | d,n+1,hd,hn,hn2=>fun hK A B=>by
  rename_i K b i h z; rw[xC]; unfold lB; have hX:=eB_10 d; have hml:=B.1; have H: ∀ {k m:Int} {s:List UInt8} {b:List Int} {i h:Int},s.length≤5→Cur b i→DE (eB d) (k,m,s,[],[],b,i,h):=fun C A=>DE.mk (by simp only[dl]; omega) A
  have J: ∀ {b:List Int} {i h:Int},Cur b i→Gt ((bN n ([(0:Int),(1:Int),(2:Int),(5:Int),(40:Int)]:List Int) b i h).bind fun w=>(bM n w.1).bind fun t=>some (t.1,t.2.1,t.2.2.1,t.2.2.2.1,t.2.2.2.2,w.2.1,w.2.2.1,w.2.2.2)) (DE (eB d)):=fun A=>
   Gt.bind (tT A (by simp) (by simp)) fun r ⟨_,v⟩=>Gt.bind Al fun q e=>by subst e; exact Gt.pure (H (by simp) v)
  have D: ∀ {b:List Int} {i h:Int},Cur b i→Gt ((aU n ([([111,107]:List UInt8),([97]:List UInt8),([115,116,111,112]:List UInt8),([116,114,117,101]:List UInt8)]:List (List UInt8)) b i h).bind fun y=>(kD n y.1).bind fun u=>some (u.1,u.2.1,u.2.2.1,u.2.2.2.1,u.2.2.2.2,y.2.1,y.2.2.1,y.2.2.2)) (DE (eB d)):=fun A=>
   Gt.bind (rQ (K:=5) A (by simp) (by simp) (by decide)) fun r ⟨h1,v⟩=>Gt.bind SW fun q e=>by subst e; exact Gt.pure (H h1 v)
  have nC: ∀ {b:List Int} {i h:Int},Cur b i→Gt (bif decide ((0:Int)<(z.length:Int))then(aK n (z.length:Int) b i h).bind fun j=>(ix z j.1).bind fun G=>some ((3:Int),(0:Int),G,([]:List aA),([]:List aC),j.2.1,j.2.2.1,j.2.2.2)else(aK n (4:Int) b i h).bind fun l=>(bM n l.1).bind fun g=>some (g.1,g.2.1,g.2.2.1,g.2.2.2.1,g.2.2.2.2,l.2.1,l.2.2.1,l.2.2.2)) (DE (eB d)):=fun A=>by
   refine Gt.cond (fun e=> ?_) fun _=> ?_
   ·have:=KJ e
    refine Gt.bind (bX A this) fun r ⟨h1,v⟩=> ?_
    obtain⟨N,E⟩:=h1 (by omega)
    exact Gt.bind (MG N E) fun a ha=>Gt.pure (H (B.2 a ha) v)
   ·exact Gt.bind (bX A (by omega)) fun r ⟨_,v⟩=>Gt.bind Al fun q e=>by subst e; exact Gt.pure (H (by simp) v)
  refine Gt.bind (bX A (by omega)) fun r ⟨_,v⟩=>Gt.cond (fun e0=> ?_) fun e0=> ?_
  ·refine Gt.bind (bX v (by omega)) fun r2 ⟨E,I⟩=> ?_
   obtain⟨h6,h7⟩:=E (by omega)
   refine Gt.cond (fun _=>J I) fun q0=>Gt.cond (fun _=>D I) fun O=>Gt.cond (fun _=>nC I) fun P=>Gt.cond (fun _=>nC I) fun S=> ?_
   have:=Oc q0; have:=Oc O; have:=Oc P; have:=Oc S; omega
  ·have:=Oc e0
   obtain⟨p,rfl⟩: ∃p,d=p+1:=⟨d - 1,by omega⟩
   have e1:IntKind.wrap .i64 (((p+1:Nat):Int) - 1)=(p:Int):=by rw[wrap_i64 (by omega) (by omega)]; omega
   have eX:eB (p+1)=200+4*eB p:=rfl; have F: ∀ {K':Nat} {b:List Int} {i h:Int} {z:List (List UInt8)},K'+10*p≤200→Cur b i→Nm K' z→Gt (bH n (p:Int) z b i h) (DE (eB p)):=Il p n (by omega) (by omega) (by omega)
   rw[e1]; have ops: ∀ {b:List Int} {i h:Int},Cur b i→Gt ((aU n ([([43]:List UInt8),([45]:List UInt8),([42]:List UInt8),([61,61]:List UInt8),([60]:List UInt8),([43]:List UInt8)]:List (List UInt8)) b i h).bind fun o=>(bH n (p:Int) z o.2.1 o.2.2.1 o.2.2.2).bind fun c=>(bH n (p:Int) z c.2.2.2.2.2.1 c.2.2.2.2.2.2.1 c.2.2.2.2.2.2.2).bind fun f=>some ((7:Int),(0:Int),o.1,([aA.mk c.1 c.2.1 c.2.2.1 c.2.2.2.1 c.2.2.2.2.1,aA.mk f.1 f.2.1 f.2.2.1 f.2.2.2.1 f.2.2.2.2.1]:List aA),([]:List aC),f.2.2.2.2.2.1,f.2.2.2.2.2.2.1,f.2.2.2.2.2.2.2)) (DE (eB (p+1))):=fun A=>
    Gt.bind (rQ (K:=5) A (by simp) (by simp) (by decide)) fun r ⟨h1,v⟩=>Gt.bind (F (by omega) v B) fun r1 ⟨f1,f2⟩=>Gt.bind (F (by omega) f2 B) fun r2 ⟨g1,R⟩=>Gt.pure (DE.mk (by simp only[dl]; omega) R)
   have L: ∀ {x:Int×Int×List UInt8×List aA×List aC×List Int×Int×Int},ES (eB p) 0 x→DE (eB (p+1)) x:=fun {x} hx=>by
    obtain⟨V,W,X,Y,U,Z,x8,x9⟩:=x; obtain⟨O,P,S,T⟩:=hx; simp only at O P S T; subst P; exact DE.mk (by simp only[dl]; omega) T
   refine Gt.cond (fun _=>J v) fun _=>Gt.cond (fun _=>D v) fun _=>Gt.cond (fun _=>nC v) fun _=>Gt.cond (fun _=>nC v) fun _=>Gt.cond (fun _=>nC v) fun _=>Gt.cond (fun _=>ops v) fun _=>Gt.cond (fun _=>ops v) fun _=>Gt.cond (fun _=> ?_) fun _=>Gt.cond (fun _=> ?_) fun _=>Gt.cond (fun _=> ?_) fun _=> ?_
   ·refine Gt.bind (tT v (by simp) (by simp)) fun r3 ⟨_,N⟩=>Gt.bind (bX N (by omega)) fun Q ⟨E,I⟩=> ?_
    obtain⟨h6,h7⟩:=E (by omega)
    refine Gt.bind (Gt.loop _ _ (fun m s C=>Ll n p K z (by omega) (by omega) B F m C.1 s C.2) (m:=Q.1.toNat) ⟨by omega,by simp only; omega,by simp,rfl, ?_,I⟩ (by omega)) fun r M=> ?_
    ·have a1:Q.1.toNat*(1+eB p)≤2*(1+eB p):=z40 _ (by omega)
     simp only[dl]; omega
    ·obtain⟨x0,x1,V,W,X,Y,U,Z,x8,x9⟩:=r
     exact Gt.pure (L M)
   ·refine Gt.bind (F (by omega) v B) fun r1 ⟨f1,f2⟩=>Gt.bind (F (by omega) f2 B) fun r2 ⟨g1,R⟩=>Gt.pure (DE.mk ?_ R)
    simp only[dl,z28]; rw[wL 5 0]; simp only[dl,z28]; omega
   ·refine Gt.bind (rQ (K:=5) v (by simp) (by simp) (by decide)) fun r3 ⟨N,E⟩=>Gt.cond (fun _=> ?_) fun _=> ?_
    ·refine Gt.bind (Gt.loop _ _ (fun m s C=>Lk n p K z (by omega) (by omega) B F m C.1 s C.2) (m:=2) ⟨by omega,⟨by simp,by simp⟩,N,rfl, ?_,E⟩ (by omega)) fun r M=> ?_
     ·simp only[dl]; omega
     ·obtain⟨x0,x1,V,W,X,Y,U,Z,x8,x9⟩:=r
      exact Gt.pure (L M)
    ·refine Gt.bind (Gt.loop _ _ (fun m s C=>Lj n p K z (by omega) (by omega) B F m C.1 s C.2) (m:=1) ⟨by omega,⟨by simp,by simp⟩,N,rfl, ?_,E⟩ (by omega)) fun r M=> ?_
     ·simp only[dl]; omega
     ·obtain⟨x0,x1,V,W,X,Y,U,Z,x8,x9⟩:=r
      exact Gt.pure (L M)
   ·refine Gt.bind (F (by omega) v B) fun r1 ⟨f1,f2⟩=>Gt.bind (bX f2 (by omega)) fun Q ⟨E,I⟩=> ?_
    obtain⟨h6,h7⟩:=E (by omega)
    rw[wrap_i64 (n:=1+Q.1) (by omega) (by omega)]
    refine Gt.bind (Gt.loop _ _ (fun m s C=>Lh n p K z (by omega) (by omega) (by omega) (by omega) B F m C.1 s C.2) (m:=(1+Q.1).toNat) ⟨by omega,by simp only; omega,rfl, ?_, ?_,I⟩ (by omega)) fun r M=> ?_
    ·simp only[dl]; omega
    ·have a1:(1+Q.1).toNat*(53+eB p)≤2*(53+eB p):=z40 _ (by omega)
     simp only[dl]; omega
    ·obtain⟨x0,x1,V,W,X,Y,U,Z,x8,x9⟩:=r
     obtain⟨O,P,S,T⟩:=M; simp only at O P S T ⊢; subst O; have hl:=bB dH U; have hX5:=QV (d:=p) (by omega)
     refine Gt.bind (zY T (by omega)) fun r5 h8=>Gt.cond (fun _=> ?_) fun _=>Gt.pure (DE.mk (by simp only[z28]; omega) h8)
     refine Gt.bind (F (by omega) h8 B) fun r6 ⟨g1,R⟩=>Gt.bind (jM (by simp only[z21]; omega) (by omega)) fun q e=>Gt.pure (DE.mk ?_ R)
     subst e; rw[gH,ML,wL 3 0]; simp only[dl,z28,z21]; omega
theorem GH{α:Type}(w:α→Nat)(b:α): ∀(l:List α) (k:Nat),dl w (l.set k b)≤dl w l+w b
 | [],k=>by simp [dl]
 | x::r,0=>by simp only[z137,dl]; omega
 | x::r,k+1=>by have:=GH w b r k; simp only[z138,dl]; omega
theorem Im{n B:Nat}{a:aA}(hn:aN a+200<n)(g:n≤1099511627776)(D:aN a≤B)(L:B≤100000){b:List Int}{i h:Int}(y:Cur b i):Gt (iY n a.f0 a.f1 a.f2 a.f3 a.f4 b i h) (DE (2*B+200)):=by
 unfold iY; have f:=BJ n g a (by omega) (by omega)
 have k:aN (.mk a.f0 a.f1 a.f2 a.f3 a.f4)≤B:=by rw[oN]; exact D
 have j:=k; rw[wL]at j; have I:=bB aN a.f3; have J:=bB dH a.f4; simp only[f,z9]; refine Gt.bind (bX y (by omega)) fun r ⟨_,c⟩=> ?_
 refine Gt.cond (fun _=> ?_) fun _=>Gt.cond (fun _=> ?_) fun _=>Gt.cond (fun _=> ?_) fun _=>Gt.cond (fun _=> ?_) fun _=>Gt.cond (fun _=> ?_) fun _=>Gt.cond (fun _=> ?_) fun _=>Gt.cond (fun _=> ?_) fun _=> ?_
 ·exact Gt.bind (bX c (by omega)) fun r ⟨_,c⟩=>Gt.pure (DE.mk (by omega) c)
 ·exact Gt.bind (tT c (by simp) (by simp)) fun r ⟨_,c⟩=>Gt.pure (DE.mk (by omega) c)
 ·exact Gt.bind (rQ (K:=5) c (by simp) (by simp) (by decide)) fun r ⟨h1,c⟩=>Gt.pure (DE.mk (by omega) c)
 ·refine Gt.bind Al fun q e=> ?_
  subst e; refine Gt.bind (jM (by simp only[z21]; omega) (by omega)) fun q e=>Gt.pure (DE.mk ?_ c)
  subst e; rw[gH,wL]; simp only[dl,z28]; omega
 ·refine Gt.bind Al fun q e=> ?_
  subst e; refine Gt.bind (jM (by simp only[z21]; omega) (by omega)) fun q e=>Gt.pure (DE.mk ?_ c)
  subst e; rw[gH,ML,wL 1 1]; simp only[dl,z28]; omega
 ·refine Gt.bind (P:=fun r=>aN (.mk r.2.2.1 r.2.2.2.1 r.2.2.2.2.1 r.2.2.2.2.2.1 r.2.2.2.2.2.2)≤B+54) (Gt.loop (fun(m:Nat) (s:Int×Int×Int×List UInt8×List aA×List aC)=>s.1+m=9∧0≤s.1∧aN (.mk s.2.1 s.2.2.1 s.2.2.2.1 s.2.2.2.2.1 s.2.2.2.2.2)+6*m≤B+54) _ (fun m s d=> ?_) (m:=9) ?_ (by omega)) fun r C=>Gt.pure ⟨z53 C (by omega),c⟩
  ·obtain⟨v,o,p,t,u,w⟩:=s
   obtain⟨F,G,H⟩:=d; simp only at F G H; unfold nG; simp only; by_cases l:v<(9:Int)
   ·rw[z14 l,z17,wrap_i64 (n:=v+1) (by omega) (by omega)]
    refine Gt.pure ⟨m - 1,by omega, ?_, ?_, ?_⟩
    ·show v+1+((m - 1:Nat):Int)=9
     omega
    ·show 0≤v+1
     omega
    ·show aN (.mk 4 0 [] [.mk o p t u w] [])+6*(m - 1)≤B+54
     rw[wL 4 0]; simp only[dl,z28]; omega
   ·rw[z10 l,z16]
    refine Gt.pure ?_
    show aN (.mk o p t u w)≤B+54; omega
  ·exact⟨by simp,by simp,by simp only; omega⟩
 ·refine Gt.cond (fun e=> ?_) fun _=>Gt.pure (DE.mk (by omega) c)
  have:=KJ e; refine Gt.bind (MG (OU _) this) fun e z=>Gt.pure (DE.mk ?_ c)
  have M:=eF dH z; have A:=vP e; have E:aN (.mk e.f5 e.f6 e.f7 e.f8 e.f9)=aN e.x:=congrArg aN (oN e.x); have d:=GH dH (aC.mk 4 0 [] [.mk 3 0 [65] [] [], .mk 3 0 [65] [] []] [] e.f5 e.f6 e.f7 e.f8 e.f9) a.f4 (Int.toNat 0); rw[ML,wL 4 0,E]at d; simp only[dl,z28,wL 3 0 [65] [] [],z21]at d; omega
 ·exact Gt.pure (DE.mk (by omega) c)
theorem Lg{n K:Nat}(hn:10000<n)(a:n≤1099511627776)(l:K≤100){b:List Int}{i h:Int}{f:List (List UInt8)}(g:Cur b i)(j:Nm K f):Gt (jT n f b i h) (DE 4840):=by
 unfold jT; refine Gt.bind (Il 3 n (by omega) (by omega) a (by omega) g j) fun r ⟨h1,d⟩=> ?_
 have k:eB 3=4840:=rfl; have c:=EC n a (.mk r.1 r.2.1 r.2.2.1 r.2.2.2.1 r.2.2.2.2.1) false 10 300 (by omega) (by omega) (by omega) (by omega)
 have c:bO n r.1 r.2.1 r.2.2.1 r.2.2.2.1 r.2.2.2.2.1 false (10:Int) 300=_:=c; unfold nO; rw[c]; simp only[z9]; refine Gt.cond (fun _=>Gt.bind Al fun q e=> ?_) fun _=>Gt.pure ⟨z53 h1 (by omega),d⟩
 subst e; exact Gt.pure (DE.mk (by simp only[dl,z28]; omega) d)
theorem Ph{n:Nat}(hn:20000<n)(c:n≤1099511627776){b:List Int}{i h:Int}(j:Cur b i):Gt (mU n b i h) (DE 9880):=by
 unfold mU; refine Gt.bind (Lg (K:=2) (by omega) c (by omega) j ⟨by simp,by decide⟩) fun r ⟨h1,g⟩=>Gt.bind (zY g (by omega)) fun r2 d=>Gt.cond (fun _=> ?_) fun _=>Gt.pure ⟨z53 h1 (by omega),d⟩
 have:=Im (n:=n) (B:=4840) (a:= .mk r.1 r.2.1 r.2.2.1 r.2.2.2.1 r.2.2.2.2.1) (by omega) c h1 (by omega) (b:=r2.2.1) (i:=r2.2.2.1) (h:=r2.2.2.2) d
 exact Gt.bind this fun q ⟨e,f⟩=>Gt.pure ⟨e,f⟩
theorem JT{n:Nat}(hn:20000<n)(c:n≤1099511627776){b:List Int}{i h:Int}(k:Cur b i):Gt (iR n b i h) (DE 9880):=by
 unfold iR; have m:kX (2+1)=105:=rfl; refine Gt.bind (Du 2 n (by omega) (by omega) c (K:=0) (by omega) k ⟨z60 _,fun s l=>by cases l⟩) fun r ⟨h1,j,_⟩=>Gt.bind (bX j (by omega)) fun r2 ⟨_,e⟩=>Gt.cond (fun _=> ?_) fun _=>Gt.cond (fun _=> ?_) fun _=>Gt.cond (fun _=> ?_) fun _=>Gt.pure ⟨z53 h1 (by omega),e⟩
 ·have:=Im (n:=n) (B:=105) (a:= .mk r.1 r.2.1 r.2.2.1 r.2.2.2.1 r.2.2.2.2.1) (by omega) c h1 (by omega) (b:=r2.2.1) (i:=r2.2.2.1) (h:=r2.2.2.2) e
  exact Gt.bind this fun q ⟨f,g⟩=>Gt.pure ⟨z53 f (by omega),g⟩
 ·have d:=BJ n c (.mk r.1 r.2.1 r.2.2.1 r.2.2.2.1 r.2.2.2.2.1) (by omega) (by omega)
  have d:cC n r.1 r.2.1 r.2.2.1 r.2.2.2.1 r.2.2.2.2.1=some (r.1,r.2.1,r.2.2.1,r.2.2.2.1,r.2.2.2.2.1):=d; rw[d]; simp only[z9]; exact Gt.pure (DE.mk (by simp only[dl,z28]; omega) e)
 ·exact Gt.bind (Ph hn c e) fun q ⟨f,g⟩=>Gt.pure ⟨f,g⟩
def FQ(B D:Nat):(Int×Int×List UInt8×List aB×List Int×Int×Int)⊕(Int×Bool×Int×Int×List UInt8×List aB×Int×Int×List UInt8×List aB×List Int×Int×Int)→Prop
 | .inl r=>DT B r
 | .inr r=>r.2.2.2.2.2.2.2.2.1=[]∧dl aQ r.2.2.2.2.2.2.2.2.2.1≤40*D∧Cur r.2.2.2.2.2.2.2.2.2.2.1 r.2.2.2.2.2.2.2.2.2.2.2.1
def FI(E:List aA)(m:Nat)(s:Int×Int×Int×List UInt8×List aB×Int×Int×List UInt8×List aB×List Int×Int×Int):Prop:=s.1+m=E.length∧0≤s.1∧s.2.2.2.2.2.2.2.1=[]∧dl aQ s.2.2.2.2.2.2.2.2.1≤40*dl aN (E.take s.1.toNat)∧Cur s.2.2.2.2.2.2.2.2.2.1 s.2.2.2.2.2.2.2.2.2.2.1
theorem NU(n B:Nat)(k:Int)(E:List aA)(H:dl aN E≤100000)(G:3+40*dl aN E≤B)(A: ∀(e:aA),e∈E→ ∀ {b:List Int} {i h:Int},Cur b i→Gt (cP n e.f0 e.f1 e.f2 e.f3 e.f4 b i h) (DT (40*aN e)))(m:Nat)(s:Int×Int×Int×List UInt8×List aB×Int×Int×List UInt8×List aB×List Int×Int×Int)(y:FI E m s):Gt (lP n (cP n) k E s) (Rnd (FI E) (FQ B (dl aN E)) m):=by
 obtain⟨v,w0,L,M,N,O,Q,R,l,S,T,F⟩:=s; obtain⟨C,D,p,f,g⟩:=y; simp only at C D p f g; subst p; have w:=bB aN E; have d:=jQ aN E v.toNat; have J:=bB aQ l; unfold lP; simp only; by_cases o:v<(E.length:Int)
 ·rw[z14 o,z17]
  obtain⟨j,rfl⟩: ∃j:Nat,v=j:=⟨v.toNat,by omega⟩
  have c:E[j]? =some (E[j]'(by omega)):=z11 _
  generalize E[j]'(by omega)=e at c
  have a:=z24 c; have I:=eF aN a; have K:=mA aN c; have z:=jQ aN E (j+1); rw[dJ,c,z9]; rw[z66]at f d; refine Gt.bind (A e a g) fun r ⟨f1,f2⟩=> ?_
  have t:=f1; rw[Ea]at t; have x:=bB aQ r.2.2.2.1; refine Gt.bind (P:=fun _=>True) (Gt.cond (fun _=>Gt.pure trivial) fun _=>Gt.pure trivial) fun _ _=>Gt.cond (fun _=> ?_) fun _=> ?_
  ·refine Gt.cond (fun _=> ?_) fun _=> ?_
   ·refine Gt.bind (jM (by simp only[z28]; omega) (by omega)) fun q e=>Gt.pure (show DT _ _ from DT.mk ?_ f2)
    subst e; rw[z86]; simp only[z28]; omega
   ·refine Gt.bind (jM (by omega) (by omega)) fun q e=>Gt.pure (show DT _ _ from DT.mk ?_ f2)
    subst e; have:=pC aQ l r.2.2.2.1; simp only[z28]; omega
  ·refine Gt.bind (jM (by simp only[z21]; omega) (by omega)) fun q e=> ?_
   subst e; rw[aY (by omega)]
   have u:dl aQ (l++[.mk r.1 r.2.1 r.2.2.1 r.2.2.2.1])≤40*dl aN (E.take (j+1)):=by rw[gH]; omega
   exact Gt.pure ⟨m - 1,by omega,by simp only; omega,by simp only; omega,rfl,by simp only[z66]; exact u,f2⟩
 ·rw[z10 o,z16]
  exact Gt.pure ⟨rfl,z53 f (by omega),g⟩
theorem NT(n B:Nat)(k:Int)(E:List aA)(H:dl aN E≤100000)(G:3+40*dl aN E≤B)(A: ∀(e:aA),e∈E→ ∀ {b:List Int} {i h:Int},Cur b i→Gt (cP n e.f0 e.f1 e.f2 e.f3 e.f4 b i h) (DT (40*aN e)))(m:Nat)(s:Int×Int×Int×List UInt8×List aB×Int×Int×List UInt8×List aB×List Int×Int×Int)(y:FI E m s):Gt (lO n (cP n) k E s) (Rnd (FI E) (FQ B (dl aN E)) m):=by
 obtain⟨v,w0,L,M,N,O,Q,R,l,S,T,F⟩:=s; obtain⟨C,D,p,f,g⟩:=y; simp only at C D p f g; subst p; have w:=bB aN E; have d:=jQ aN E v.toNat; have J:=bB aQ l; unfold lO; simp only; by_cases o:v<(E.length:Int)
 ·rw[z14 o,z17]
  obtain⟨j,rfl⟩: ∃j:Nat,v=j:=⟨v.toNat,by omega⟩
  have c:E[j]? =some (E[j]'(by omega)):=z11 _
  generalize E[j]'(by omega)=e at c
  have a:=z24 c; have I:=eF aN a; have K:=mA aN c; have z:=jQ aN E (j+1); rw[dJ,c,z9]; rw[z66]at f d; refine Gt.bind (A e a g) fun r ⟨f1,f2⟩=> ?_
  have t:=f1; rw[Ea]at t; have x:=bB aQ r.2.2.2.1; refine Gt.bind (P:=fun _=>True) (Gt.cond (fun _=>Gt.pure trivial) fun _=>Gt.pure trivial) fun _ _=>Gt.cond (fun _=> ?_) fun _=> ?_
  ·refine Gt.cond (fun _=> ?_) fun _=> ?_
   ·refine Gt.bind (jM (by simp only[z28]; omega) (by omega)) fun q e=>Gt.pure (show DT _ _ from DT.mk ?_ f2)
    subst e; rw[z86]; simp only[z28]; omega
   ·refine Gt.bind (jM (by omega) (by omega)) fun q e=>Gt.pure (show DT _ _ from DT.mk ?_ f2)
    subst e; have:=pC aQ l r.2.2.2.1; simp only[z28]; omega
  ·refine Gt.bind (jM (by simp only[z21]; omega) (by omega)) fun q e=> ?_
   subst e; rw[aY (by omega)]
   have u:dl aQ (l++[.mk r.1 r.2.1 r.2.2.1 r.2.2.2.1])≤40*dl aN (E.take (j+1)):=by rw[gH]; omega
   exact Gt.pure ⟨m - 1,by omega,by simp only; omega,by simp only; omega,rfl,by simp only[z66]; exact u,f2⟩
 ·rw[z10 o,z16]
  exact Gt.pure ⟨rfl,z53 f (by omega),g⟩
theorem NS(n B:Nat)(E:List aA)(G:dl aN E≤100000)(F:3+40*dl aN E≤B)(z: ∀(e:aA),e∈E→ ∀ {b:List Int} {i h:Int},Cur b i→Gt (cP n e.f0 e.f1 e.f2 e.f3 e.f4 b i h) (DT (40*aN e)))(m:Nat)(s:Int×Int×Int×List UInt8×List aB×Int×Int×List UInt8×List aB×List Int×Int×Int)(x:FI E m s):Gt (lN n (cP n) E s) (Rnd (FI E) (FQ B (dl aN E)) m):=by
 obtain⟨v,w0,K,L,M,N,O,P,k,Q,R,D⟩:=s; obtain⟨A,C,o,f,g⟩:=x; simp only at A C o f g; subst o; have u:=bB aN E; have d:=jQ aN E v.toNat; have I:=bB aQ k; unfold lN; simp only; by_cases l:v<(E.length:Int)
 ·rw[z14 l,z17]
  obtain⟨j,rfl⟩: ∃j:Nat,v=j:=⟨v.toNat,by omega⟩
  have c:E[j]? =some (E[j]'(by omega)):=z11 _
  generalize E[j]'(by omega)=e at c
  have a:=z24 c; have H:=eF aN a; have J:=mA aN c; have y:=jQ aN E (j+1); rw[dJ,c,z9]; rw[z66]at f d; refine Gt.bind (z e a g) fun r ⟨f1,f2⟩=> ?_
  have p:=f1; rw[Ea]at p; have w:=bB aQ r.2.2.2.1; refine Gt.cond (fun _=> ?_) fun _=> ?_
  ·refine Gt.cond (fun _=> ?_) fun _=> ?_
   ·refine Gt.bind (jM (by simp only[z28]; omega) (by omega)) fun q e=>Gt.pure (show DT _ _ from DT.mk ?_ f2)
    subst e; rw[z86]; simp only[z28]; omega
   ·refine Gt.bind (jM (by omega) (by omega)) fun q e=>Gt.pure (show DT _ _ from DT.mk ?_ f2)
    subst e; have:=pC aQ k r.2.2.2.1; simp only[z28]; omega
  ·refine Gt.bind (jM (by simp only[z21]; omega) (by omega)) fun q e=> ?_
   subst e; rw[aY (by omega)]
   have t:dl aQ (k++[.mk r.1 r.2.1 r.2.2.1 r.2.2.2.1])≤40*dl aN (E.take (j+1)):=by rw[gH]; omega
   exact Gt.pure ⟨m - 1,by omega,by simp only; omega,by simp only; omega,rfl,by simp only[z66]; exact t,f2⟩
 ·rw[z10 l,z16]
  exact Gt.pure ⟨rfl,z53 f (by omega),g⟩
theorem Ky: ∀(n:Nat),n≤1099511627776→ ∀(p:aA),aN p+20<n→aN p≤100000→ ∀ {b:List Int} {i h:Int},Cur b i→Gt (cP n p.f0 p.f1 p.f2 p.f3 p.f4 b i h) (DT (40*aN p))
 | 0,_,p,h,_=>by omega
 | n+1,hn,p,M,L=>fun a=>by
  rw[yL]; unfold mQ; have H:=qG p; rw[iG,fP]at H; have J:=bB aN p.f3; have K:=bB dH p.f4; have C: ∀(e:aA),e∈p.f3→ ∀ {b:List Int} {i h:Int},Cur b i→Gt (cP n e.f0 e.f1 e.f2 e.f3 e.f4 b i h) (DT (40*aN e)):=fun e G=>by
   have:=eF aN G; intro b i h a; exact Ky n (by omega) e (by omega) (by omega) a
  have g: ∀(x y z:Int) {b:List Int} {i h:Int},Cur b i→FI p.f3 p.f3.length ((0:Int),x,y,([]:List UInt8),([]:List aB),z,(0:Int),([]:List UInt8),([]:List aB),b,i,h):=fun x y z b i h a=>⟨by simp only; omega,OU _,rfl,by simp only[Int.toNat_zero,Mh,dl]; omega,a⟩
  refine Gt.cond (fun _=>Gt.pure (DT.mk (by simp only[dl,z28]; omega) a)) fun _=>Gt.cond (fun _=>Gt.pure (DT.mk (by simp only[dl]; omega) a)) fun _=>Gt.cond (fun _=> ?_) fun _=>Gt.cond (fun _=> ?_) fun _=>Gt.cond (fun _=> ?_) fun _=> ?_
  ·refine Gt.bind (Gt.loop _ _ (fun m s j=>NU n (40*aN p) p.f0 p.f3 (by omega) (by omega) C m s j) (m:=p.f3.length) (g _ _ _ a) (by omega)) fun q c=> ?_
   rcases q with⟨x0,x1,u,v,w,A,B⟩ | ⟨x0,x1,u,v,w,A,B,D,E,F,l,o,t⟩
   ·exact Gt.pure c
   ·obtain⟨d,k,f⟩:=c
    simp only at d k f; subst d; exact Gt.pure (DT.mk (by simp only[z28]; omega) f)
  ·refine Gt.bind (Gt.loop _ _ (fun m s j=>NT n (40*aN p) p.f0 p.f3 (by omega) (by omega) C m s j) (m:=p.f3.length) (g _ _ _ a) (by omega)) fun q c=> ?_
   rcases q with⟨x0,x1,u,v,w,A,B⟩ | ⟨x0,x1,u,v,w,A,B,D,E,F,l,o,t⟩
   ·exact Gt.pure c
   ·obtain⟨d,k,f⟩:=c
    simp only at d k f; subst d; exact Gt.pure (DT.mk (by simp only[z28]; omega) f)
  ·refine Gt.bind (Gt.loop _ _ (fun m s j=>NS n (40*aN p) p.f3 (by omega) (by omega) C m s j) (m:=p.f3.length) (g _ _ _ a) (by omega)) fun q c=> ?_
   rcases q with⟨x0,x1,u,v,w,A,B⟩ | ⟨x0,x1,u,v,w,A,B,D,E,F,l,o,t⟩
   ·exact Gt.pure c
   ·obtain⟨d,k,f⟩:=c
    simp only at d k f; subst d; exact Gt.pure (DT.mk (by simp only[z28]; omega) f)
  ·have I:trB 1=34:=rfl
   exact Gt.bind (zX 1 n (by omega) (by omega) a) fun r ⟨f1,f2⟩=>Gt.pure ⟨z53 f1 (by omega),f2⟩
def DM(r:Int×Int×List UInt8×List aA×List aC×Int×Int×List UInt8×List aB):Prop:=aN (.mk r.1 r.2.1 r.2.2.1 r.2.2.2.1 r.2.2.2.2.1)≤9880∧aQ (.mk r.2.2.2.2.2.1 r.2.2.2.2.2.2.1 r.2.2.2.2.2.2.2.1 r.2.2.2.2.2.2.2.2)≤4200
theorem IB{n:Nat}(hn:30000<n)(a:n≤1099511627776)(code:List Int)(j:code.length≤1048576):Gt (hH n code) DM:=by
 unfold hH; have l:kX (2+1)=105:=rfl; refine Gt.bind (Kz (by omega) code j) fun m h0=>Gt.bind (Du 2 n (by omega) (by omega) a (K:=0) (by omega) h0 ⟨z60 _,fun s k=>by cases k⟩) fun r ⟨h1,f,_⟩=> ?_
 have g:=Ky n a (.mk r.1 r.2.1 r.2.2.1 r.2.2.2.1 r.2.2.2.2.1) (by omega) (by omega) (b:=r.2.2.2.2.2.1) (i:=r.2.2.2.2.2.2.1) (h:=r.2.2.2.2.2.2.2.1) f
 refine Gt.bind g fun r2 ⟨f1,f2⟩=>Gt.bind (bX f2 (by omega)) fun o ⟨_,d⟩=>Gt.cond (fun _=> ?_) fun _=>Gt.cond (fun _=> ?_) fun _=>Gt.pure ⟨z53 h1 (by omega),z53 f1 (by omega)⟩
 ·exact Gt.bind (Pi (by omega) a d) fun q ⟨c,e⟩=>Gt.pure ⟨z53 h1 (by omega),z53 c (by omega)⟩
 ·exact Gt.bind (JT (by omega) a d) fun q ⟨c,e⟩=>Gt.pure ⟨c,z53 f1 (by omega)⟩

theorem tB: ∀(n:Nat),n≤1099511627776→(∀(a:aB),aQ a<n→cL n a.f0 a.f1 a.f2 a.f3 a.f0 a.f1 a.f2 a.f3=some true)∧ ∀(l:List aB),dl aQ l<n→bQ n l l=some true
 | 0,_=>⟨fun a h=>by omega,fun l h=>by omega⟩
 | n+1,hn=>by
  obtain⟨c,d⟩:=tB n (by omega)
  refine⟨fun a h=> ?_,fun l h=> ?_⟩
  ·rw[nN]
   unfold fZ; rw[qF,eW]at h; simp only[d a.f3 (by omega),z9,decide_true,z17]
  ·rw[iI]
   unfold cG; have e:=bB aQ l; simp only[decide_true,z38,z16]; rw[Ku l (fun i a b=>by
    have f:=eF aQ (z24 b); have g:=iF b; simp only[cJ,eK b,z17,dJ,b,z9,c a (by omega),z38,z16,aY (show i<4611686018427387904 by omega)]) (by simp only[cJ,bC,z16]) (by omega)]
   simp only[z9]
theorem Fj: ∀(n:Nat),n≤1099511627776→(∀(a b:aB),aQ a<n→Gt (cL n a.f0 a.f1 a.f2 a.f3 b.f0 b.f1 b.f2 b.f3) (fun _=>True))∧ ∀(l m:List aB),dl aQ l<n→Gt (bQ n l m) (fun _=>True)
 | 0,_=>⟨fun a b h=>by omega,fun l m h=>by omega⟩
 | n+1,hn=>by
  obtain⟨g,i⟩:=Fj n (by omega)
  refine⟨fun a b h=> ?_,fun l m h=> ?_⟩
  ·rw[nN]
   unfold fZ; rw[qF,eW]at h; have no:Gt (some false) (fun _=>True):=Gt.pure trivial
   refine Gt.bind (P:=fun _=>True) (Gt.cond (fun _=>Gt.cond (fun _=>Gt.cond (fun _=> ?_) fun _=>no) fun _=>no) fun _=>no) fun _ _=>Gt.pure trivial
   exact Gt.bind (i a.f3 b.f3 (by omega)) fun _ _=>Gt.pure trivial
  ·rw[iI]
   unfold cG; have p:=bB aQ l; refine Gt.cond (fun _=>Gt.pure trivial) fun e=> ?_
   have e:l.length=m.length:=by
    cases d:decide ((l.length:Int)=(m.length:Int))with
    | true=>have:=KJ d; omega
    | false=>rw[d]at e; cases e
   refine Gt.bind (P:=fun _=>True) (Gt.loop (fun(k:Nat) (v:Int)=>v+k=(l.length:Int)∧0≤v) (fun _=>True) (fun k v ⟨r,j⟩=> ?_) (m:=l.length) (s:=(0:Int)) ⟨by omega,by omega⟩ (by omega)) fun q _=>by cases q<;>exact Gt.pure trivial
   unfold cJ; refine Gt.cond (fun f=> ?_) fun _=>Gt.pure trivial
   have f:=KJ f; refine Gt.bind (MG j f) fun a o=>Gt.bind (MG j (by omega)) fun b t=> ?_
   have d:=eF aQ o; refine Gt.bind (g a b (by omega)) fun c _=>Gt.cond (fun _=>Gt.pure trivial) fun _=>Gt.pure ⟨k - 1,by omega, ?_, ?_⟩
   ·rw[wrap_i64 (by omega) (by omega)]; omega
   ·rw[wrap_i64 (by omega) (by omega)]; omega
theorem BX{n:Nat}(hn:n≤1099511627776){l:List aB}(h:dl aQ l<n):fH n l l=some true:=by
 unfold fH; have c:=bB aQ l; simp only[decide_true,z38,z16]; rw[Ku l (fun i a b=>by
  have d:=eF aQ (z24 b); have e:=iF b; simp only[gL,eK b,z17,dJ,b,z9,(tB n hn).1 a (by omega),z38,z16,aY (show i<4611686018427387904 by omega)]) (by simp only[gL,bC,z16]) (by omega)]
 simp only[z9]
theorem GZ{n:Nat}(hn:n≤1099511627776){l:List aB}(h:dl aQ l<n)(d:l.length≤20000000):gZ n l=some l:=by
 unfold gZ; have e:=bB aQ l; have:=oU (body:=eO n l) (fun i=>(l.take i,(i:Int))) (len:=l.length) (r:=(l,(l.length:Int),false)) (fun i c=>by
  have b:l[i]? =some l[i]:=z11 c
  generalize l[i]=a at b; have f:=eF aQ (z24 b); simp only[eO,eK b,z17,dJ,b,z9,BK n (a:=a) (by omega) hn,aW,Ax 56 b d (by omega),aY (show i<4611686018427387904 by omega)]) (by simp only[eO,bC,z16,OX]) (n:=n) (by omega)
 simp only[Mh]at this; rw[show((0:Nat):Int)=0 from rfl]at this; rw[this]; rfl
def rB(p:aA)(l:List aB):Int:=Eg (fun t=>(jP p t).2) 0 l
def yV(p:aA)(l:List aB):Int×Int×List UInt8×List aB×List aB×Bool:=
 bif decide (rB p l<0)then(0,0,[],[],l,false)else((l.getD (rB p l).toNat (.mk 0 0 [] [])).f0,(l.getD (rB p l).toNat (.mk 0 0 [] [])).f1,(l.getD (rB p l).toNat (.mk 0 0 [] [])).f2,(l.getD (rB p l).toNat (.mk 0 0 [] [])).f3,l.eraseIdx (rB p l).toNat,true)
theorem getD_of{α:Type}{l:List α}{i:Nat}{a d:α}(h:l[i]? =some a):l.getD i d=a:=by rw[z88,h]; rfl
theorem Ge{n:Nat}(hn:n≤1099511627776)(p:aA)(l:List aB)(h:aN p+dl aQ l+400<n):mC n p.f0 p.f1 p.f2 p.f3 p.f4 l=some (yV p l):=by
 unfold mC; have c:=bB aQ l; rw[(sG n hn).2 l (by omega),z9]
 have:=vX (body:=kA n p.f0 l p.f1 p.f2 p.f3 p.f4) l (fun t=>(jP p t).2) (fun i=>((i:Int),(0:Int),(0:Int),([]:List UInt8),([]:List aB)))
  (fun k=> .inl (l.eraseIdx k,true,(l.getD k (.mk 0 0 [] [])).f0,(l.getD k (.mk 0 0 [] [])).f1,(l.getD k (.mk 0 0 [] [])).f2,(l.getD k (.mk 0 0 [] [])).f3)) (.inr ((l.length:Int),false,(0:Int),(0:Int),([]:List UInt8),([]:List aB))) (fun i a b=>by
  have d:=eF aQ (z24 b); have f:=iF b; simp only[kA,eK b,z17,dJ,b,z9,wK n hn p a (by omega),aY (show i<4611686018427387904 by omega),getD_of b]
  cases (jP p a).2 with
  | false=>rfl
  | true=>
   have e:dW n l (i:Int) ((i+1:Nat):Int)=some (l.eraseIdx i):=by
    unfold dW; rw[z14 (show((i+1:Nat):Int)=(i:Int)+1 by omega),z14 (show(0:Int)≤(i:Int)by omega),z14 (show(i:Int)<(l.length:Int)by omega),z66]
    rfl
   simp only[z17,e,z9]) (by simp only[kA,bC,z16]) (n:=n) (by omega)
 rw[show((0:Nat):Int)=0 from rfl]at this; rw[this,z9]; unfold yV rB; cases decide (Eg (fun t=>(jP p t).2) 0 l<0)<;>rfl
theorem GV{n:Nat}(hn:n≤1099511627776)(p:aA)(l:List aB)(h:aN p+dl aQ l+400<n)(C:l.length≤10000000):mB n p.f0 p.f1 p.f2 p.f3 p.f4 l=some (yV p l):=by
 unfold mB; have z:=bB aQ l; have g:=El n hn p (by omega)
 rw[GZ hn (by omega) (by omega),z9]
 cases hq:CM p with
 | false=>
  rw[hq]at g; have q:rB p l= -1:=by
   rcases sD (fun t=>(jP p t).2) l 0 with⟨h,_⟩ | ⟨k,a,_,_,h,_⟩
   ·exact h
   ·simp only[jP,hq,Bool.false_and,z16]at h; cases h
  obtain⟨m,rfl⟩: ∃m,n=m+1:=⟨n - 1,by omega⟩
  have e:fV (m+1) p.f0 l l p.f1 p.f2 p.f3 p.f4 ((0:Int),(0:Int),(0:Int),([]:List UInt8),([]:List aB))=some (.inr (.inr ((0:Int),false,(0:Int),(0:Int),([]:List UInt8),([]:List aB)))):=by
   simp only[fV,g]; cases decide ((0:Int)<(l.length:Int))<;>rfl
  rw[loopN,e]; unfold yV; rw[q]; rfl
 | true=>
  rw[hq]at g
  have:=vX (body:=fV n p.f0 l l p.f1 p.f2 p.f3 p.f4) l (fun t=>(jP p t).2) (fun i=>((i:Int),(0:Int),(0:Int),([]:List UInt8),([]:List aB)))
   (fun k=> .inl (l.eraseIdx k,true,(l.getD k (.mk 0 0 [] [])).f0,(l.getD k (.mk 0 0 [] [])).f1,(l.getD k (.mk 0 0 [] [])).f2,(l.getD k (.mk 0 0 [] [])).f3)) (.inr ((l.length:Int),false,(0:Int),(0:Int),([]:List UInt8),([]:List aB))) (fun i a c=>by
   have A:=eF aQ (z24 c); have B:=iF c; have s:jA n a.f0 a.f1 a.f2 a.f3=some (xP a):=by
    have:=Ce n a.f0 a.f1 a.f2 a.f3 (by rw[aW]; omega) (by omega)
    rwa[aW]at this
   have u:IntKind.wrap .i64 ((i:Int)+1)=((i+1:Nat):Int):=aY (by omega)
   simp only[fV,eK c,z17,g,z9,dJ,c,s,u,getD_of c]; cases hT:xP a with
   | false=>simp only[jP,hT,z80,z16,z9]
   | true=>
    obtain⟨L,j,o,f⟩:=(uB n hn).1 10 p a [] (Fo hq) (by omega) (by simp only[z28]; omega)
    have ho:j=(jP p a).2:=by
     simp only[jP,hq,hT,z96,z17]; cases hM:mt 10 p a with
     | none=>rw[hM]at f; exact f
     | some M=>rw[hM]at f; exact f.2
    simp only[z17,o,z9, ←ho]; cases j with
    | false=>rfl
    | true=>
     have v:sub l none (some (i:Int))=some (l.take i):=FM (by omega)
     have w:fS 56 ([]:List aB) (l.take i)=some (l.take i):=(jM (k:=56) (a:=([]:List aB)) (b:=l.take i) (by simp only[z28,z37]; omega) (by omega)).elim fun r d=>by rw[d.1,d.2]; rfl
     have x:sub l (some ((i+1:Nat):Int)) none=some (l.drop (i+1)):=vG (by omega)
     have y:fS 56 (l.take i) (l.drop (i+1))=some (l.take i++l.drop (i+1)):=(jM (k:=56) (a:=l.take i) (b:=l.drop (i+1)) (by simp only[z65,z37]; omega) (by omega)).elim fun r d=>by rw[d.1,d.2]
     simp only[z17,v,w,x,y,z9,z79]) (by simp only[fV,bC,z16,z9]) (n:=n) (by omega)
  rw[show((0:Nat):Int)=0 from rfl]at this; rw[this,z9]; unfold yV rB; cases decide (Eg (fun t=>(jP p t).2) 0 l<0)<;>rfl
def DTk(r:Int×Int×List UInt8×List aA×List aC×List aB):Prop:=aN (.mk r.1 r.2.1 r.2.2.1 r.2.2.2.1 r.2.2.2.2.1)≤9880∧dl aQ r.2.2.2.2.2≤10000
theorem Jk{n:Nat}(hn:30000<n)(f:n≤1099511627776){code:List Int}(k:code.length≤1048576):Gt (iS n code) DTk:=by
 unfold iS; refine Gt.bind (Kz (by omega) code k) fun H h0=>Gt.bind (IB hn f code k) fun r1 ⟨j,C⟩=>Gt.bind (bX h0 (by omega)) fun r2 ⟨b1,b2⟩=> ?_
 have b1:=b1 (by omega)
 have D:trB 1=34:=rfl; refine Gt.bind (P:=fun(q:List aB×Int×Bool×List Int×Int×Int)=>dl aQ q.1≤1000∧q.1.length≤5∧Cur q.2.2.2.1 q.2.2.2.2.1) (Gt.loop (fun(m:Nat) (s:List aB×Int×List Int×Int×Int)=>s.2.1≤(m:Int)∧s.1.length+m≤5∧dl aQ s.1≤1+40*s.1.length∧Cur s.2.2.1 s.2.2.2.1) _ (fun m s w=> ?_) (m:=r2.1.toNat) ⟨by simp only; omega,by simp only[z28]; omega,by simp [dl],b2⟩ (by omega)) fun q t=> ?_
 ·obtain⟨l,v,b,i,h⟩:=s
  obtain⟨z,A,B,g⟩:=w; simp only at z A B g; unfold lX; refine Gt.cond (fun e=> ?_) fun _=>Gt.pure ⟨by simp only; omega,by simp only; omega,g⟩
  have e:=KJ e; obtain⟨d,rfl⟩: ∃d,m=d+1:=⟨m - 1,by omega⟩
  refine Gt.bind (zX 1 n (by omega) (by omega) g) fun r ⟨E,p⟩=>Gt.bind (jM (by simp only[z21]; omega) (by omega)) fun u a=>Gt.pure ⟨d,rfl, ?_, ?_, ?_,p⟩
  ·show IntKind.wrap .i64 (v - 1)≤(d:Int)
   by_cases G:v<100
   ·rw[wrap_i64 (by omega) (by omega)]; omega
   ·omega
  ·subst a
   simp only[z30,z21]; omega
  ·subst a
   simp only[gH,z30,z21]; omega
 ·obtain⟨l,v,c,b,i,h⟩:=q
  obtain⟨x,y,o⟩:=t; simp only at x y o ⊢; refine Gt.bind (zY o (by omega)) fun I F=>Gt.cond (fun _=> ?_) fun _=>Gt.pure ⟨j,by simp only; omega⟩
  refine Gt.bind (jM (by simp only[z21]; omega) (by omega)) fun u a=>Gt.pure ⟨j, ?_⟩
  subst a; simp only[gH]; omega
theorem Jg{α:Type}{l:List α}{k:Nat}(h:k<l.length):(l.eraseIdx k).drop k=l.drop (k+1):=by
 rw[z79,List.drop_append]; simp [z37,Nat.min_eq_left (Nat.le_of_lt h)]
theorem Sb{α:Type}(w:α→Nat){l:List α}: ∀k,dl w (l.drop k)≤dl w l:=by
 induction l with
 | nil=>intro k; simp
 | cons a l ih=>
  intro k; cases k with
  | zero=>exact z60 _
  | succ k=>
   have:=ih k; simp only[z131,dl]; omega
theorem law(a:List Int)(ho:a.length≤maxLen∧ ∀x∈a,IntKind.u8.min≤x∧x≤IntKind.u8.max): ∃n,mN n a=some true:=by
 refine⟨1000000, ?_⟩
 generalize hN:(1000000:Nat)=n; have hn:n≤1099511627776:=by omega
 unfold mN tC; simp only[z9]; by_cases hz:(1048576:Int)<(a.length:Int)
 ·rw[z14 hz]; rfl
 rw[z10 hz,z16]; obtain⟨r,S,W,V⟩:=Jk (n:=n) (by omega) hn (code:=a) (by omega)
 rw[S]; simp only[z9]; obtain⟨d,r1,r2,e,f,l⟩:=r; simp only at W V ⊢; have K:mC n d r1 r2 e f l=some (yV (.mk d r1 r2 e f) l):=Ge hn (.mk d r1 r2 e f) l (by omega)
 have R:=bB aQ l; have L:mB n d r1 r2 e f l=some (yV (.mk d r1 r2 e f) l):=GV hn (.mk d r1 r2 e f) l (by omega) (by omega)
 have H: ∀t:aB,t∈l→iL n d r1 r2 e f t.f0 t.f1 t.f2 t.f3=some (jP (.mk d r1 r2 e f) t):=fun t U=>by
  have:=eF aQ U; exact wK n hn (.mk d r1 r2 e f) t (by omega)
 generalize aA.mk d r1 r2 e f=p at*; rw[K,L]; simp only[z9]; rcases sD (fun t=>(jP p t).2) l 0 with⟨B,_⟩ | ⟨k,t,B,g,O,Q⟩
 ·have:yV p l=(0,0,[],[],l,false):=by
   unfold yV rB; rw[B]; rfl
  rw[this]; simp only[BX hn (show dl aQ l<n by omega),beq_self_eq_true,z38,z16,z9,Mg,z17]
 ·have o:=bR g
  have hd:=eF aQ (z24 g); have P:yV p l=(t.f0,t.f1,t.f2,t.f3,l.eraseIdx k,true):=by
   unfold yV rB; rw[B,z32,z10 (by omega),z66,getD_of g]; rfl
  have eL:(l.eraseIdx k).length=l.length - 1:=z134 o; rw[P]; simp only[beq_self_eq_true,z38,z16,z9]; obtain⟨⟨v,c⟩,M,E⟩:Gt (loopN (jL n (d,r1,r2,e,f,l) (t.f0,t.f1,t.f2,t.f3,l.eraseIdx k,true)) n (0:Int)) (fun q=>(k:Int)≤q.1):=by
   refine Gt.loop (fun(m:Nat) (v:Int)=>v+m=((l.eraseIdx k).length:Int)∧0≤v) _ (fun m v ⟨s1,s2⟩=> ?_) (m:=(l.eraseIdx k).length) ⟨by omega,by omega⟩ (by omega)
   obtain⟨i,rfl⟩: ∃i:Nat,v=i:=⟨v.toNat,by omega⟩
   unfold jL; have J: ∀(b:Bool),(b=false→(k:Int)≤(i:Int))→(b=true→0<m)→Gt ((some b).bind fun G=>bif G then some (Sum.inl (IntKind.wrap .i64 ((i:Int)+1)))else some (Sum.inr ((i:Int),false))) (Rnd (fun(m:Nat) (v:Int)=>v+m=((l.eraseIdx k).length:Int)∧0≤v) (fun(q:Int×Bool)=>(k:Int)≤q.1) m):=fun b h1 N=>by
    cases b with
    | false=>exact Gt.pure (h1 rfl)
    | true=>
     have:=N rfl; exact Gt.pure ⟨m - 1,by omega,by rw[aY (by omega)]; omega,by rw[aY (by omega)]; omega⟩
   by_cases C:i<(l.eraseIdx k).length
   ·simp only
    rw[z14 (show(i:Int)<((l.eraseIdx k).length:Int)by omega),z17]
    obtain⟨x,w⟩: ∃x,(l.eraseIdx k)[i]? =some x:=⟨_,z11 C⟩
    obtain⟨y,I⟩: ∃y,l[i]? =some y:=⟨_,z11 (by omega)⟩
    have F:x∈l:=List.mem_of_mem_eraseIdx (z24 w); have X:=eF aQ F; rw[dJ,w,z9,dJ,I,z9]; obtain⟨s,A,_⟩:=(Fj n hn).1 x y (by omega)
    rw[A,z9]; refine J s (fun T=> ?_) (fun _=>by omega)
    subst T; by_cases D:i<k
    ·rw[z158,z18 D,I]at w
     have j:=z46 w; rw[←j,(tB n hn).1 y (by rw[j]; omega)]at A
     cases A
    ·omega
   ·simp only
    rw[z10 (show ¬ (i:Int)<((l.eraseIdx k).length:Int)by omega),z16]
    exact J false (fun _=>by omega) (fun h=>by cases h)
  rw[M]; simp only[z9]; have u:=oU (body:=gB n (d,r1,r2,e,f,l) (t.f0,t.f1,t.f2,t.f3,l.eraseIdx k,true) v) (fun i=>(i:Int)) (len:=k) (r:= .inl true) (fun i C=>by
   obtain⟨x,z⟩: ∃x,l[i]? =some x:=⟨_,z11 (by omega)⟩
   simp only[gB,eK z,z17,dJ,z,z9,H x (z24 z),aY (show i<4611686018427387904 by omega),Q i x C z,z16]) (by
   have w1:IntKind.wrap .i64 ((l.length:Int) - 1)=((l.length - 1:Nat):Int):=by rw[wrap_i64 (by omega) (by omega)]; omega
   have Y:sub (l.eraseIdx k) (some (k:Int)) none=some ((l.eraseIdx k).drop k):=vG (by omega)
   have Z:sub l (some ((k+1:Nat):Int)) none=some (l.drop (k+1)):=vG (by omega)
   have q3:=Sb aQ (l:=l) (k+1); simp only[gB,eK g,z17,dJ,g,z9,H t (z24 g),aY (show k<4611686018427387904 by omega),O,(tB n hn).1 t (by omega),z14 E,w1,z14 (show((l.eraseIdx k).length:Int)=((l.length - 1:Nat):Int)by omega),Y,Z,Jg o,BX hn (show dl aQ (l.drop (k+1))<n by omega)]) (n:=n) (by omega)
  rw[show((0:Nat):Int)=0 from rfl]at u; rw[u]; rfl
end Go.Own.Q
