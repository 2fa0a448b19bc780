/- Loops over lists and small things, in plain Lean. No conditions. -/
import Derived.Test.YtloebajamceclaaDoorW39W
set_option linter.unusedVariables false
set_option linter.unusedSimpArgs false
set_option linter.unnecessarySimpa false
namespace Go.Own.Q
open Go Go.Proofs
theorem oF{σ ρ:Type}{body:σ→Option (σ⊕ρ)}(st:Nat→σ){len:Nat}{r:ρ}(d: ∀i,i<len→body (st i)=some (.inl (st (i+1))))(b:body (st len)=some (.inr r)){n:Nat}(hn:len<n):loopN body n (st 0)=some r:=by
 have a: ∀k i,i+k=len→ ∀n,k<n→loopN body n (st i)=some r:=by
  intro k; induction k with
  | zero=>
   intro i c n hn; obtain⟨m,rfl⟩: ∃m,n=m+1:=⟨n - 1,by omega⟩
   have:i=len:=by omega
   subst this; simp only[loopN,b]
  | succ k e=>
   intro i c n hn; obtain⟨m,rfl⟩: ∃m,n=m+1:=⟨n - 1,by omega⟩
   simp only[loopN,d i (by omega)]
   exact e (i+1) (by omega) m (by omega)
 exact a len 0 (by omega) n hn

def qP{α σ ρ:Type}(f:σ→α→σ⊕ρ):List α→σ→σ⊕ρ
 | [],s=> .inl s
 | a::r,s=>match f s a with
  | .inl s'=>qP f r s'
  | .inr q=> .inr q
theorem Dj{α σ τ ρ κ:Type}{body:σ→Option (σ⊕ρ)}(l:List α)(f:τ→α→τ⊕κ)(enc:τ→Nat→σ)(b:τ→ρ)(out:κ→ρ)(I:τ→Prop)(v: ∀(i:Nat) a t,l[i]? =some a→I t→(∃d,f t a= .inl d∧I d∧body (enc t i)=some (.inl (enc d (i+1))))∨(∃q,f t a= .inr q∧body (enc t i)=some (.inr (out q))))
  (p: ∀t,I t→body (enc t l.length)=some (.inr (b t))){n:Nat}(hn:l.length<n){t0:τ}(h0:I t0):loopN body n (enc t0 0)=some (match qP f l t0 with | .inl t=>b t | .inr q=>out q):=by
 have j: ∀(r:List α) (i:Nat) (t:τ) (n:Nat),l.drop i=r→I t→r.length<n→i≤l.length→loopN body n (enc t i)=some (match qP f r t with | .inl t=>b t | .inr q=>out q):=by
  intro r; induction r with
  | nil=>
   intro i t n c h hn s; obtain⟨m,rfl⟩: ∃m,n=m+1:=⟨n - 1,by simp at hn; omega⟩
   have:i=l.length:=by
    have:=congrArg List.length c; simp at this; omega
   subst this; simp only[loopN,p t h,qP]
  | cons a r ih=>
   intro i t n c h hn s; obtain⟨m,rfl⟩: ∃m,n=m+1:=⟨n - 1,by simp at hn; omega⟩
   have u:i<l.length:=by
    have:=congrArg List.length c; simp at this; omega
   have o:l[i]? =some a:=by
    have:=congrArg (·[0]?) c
    simpa using this
   have g:l.drop (i+1)=r:=by
    have:=congrArg List.tail c; simpa using this
   rcases v i a t o h with⟨d,h1,k,e⟩ | ⟨q,h1,e⟩
   ·simp only[loopN,e,qP,h1]
    exact ih (i+1) d m g k (by simp at hn; omega) (by omega)
   ·simp only[loopN,e,qP,h1]
 exact j l 0 t0 n rfl h0 hn (by omega)

theorem dH{α:Type}(l:List α)(i:Nat):ix l (i:Int)=l[i]? :=by
 unfold ix; rw[z17 (by omega)]
 simp
theorem CD(s:List UInt8)(i:Nat):ixs s (i:Int)=(s[i]?).map fun b=>(b.toNat:Int):=by
 unfold ixs; rw[z17 (by omega)]
 simp
theorem bB{i:Nat}(h:i<4611686018427387904):IntKind.wrap .i64 ((i:Int)+1)=((i+1:Nat):Int):=by
 rw[wrap_i64 (by omega) (by omega)]; omega
theorem nS{α:Type}{l:List α}{i:Nat}{a:α}(h:l[i]? =some a):l.take i++[a]=l.take (i+1):=by
 rw[List.take_add_one,h]; rfl
theorem CG{α:Type}{b:Nat}{l1 l2:List α}(h:(l1.length+l2.length)*b≤140737488355328)(a:l1.length+l2.length≤maxLen):BM b l1 l2=some (l1++l2):=by
 unfold BM; rw[z17 ⟨a,h⟩]
theorem hI{α:Type}{l:List α}{i:Nat}{a:α}(h:l[i]? =some a):i<l.length:=(z80.1 h).1
theorem eK{α:Type}{l:List α}{i:Nat}{a:α}(h:l[i]? =some a):decide ((i:Int)<(l.length:Int))=true:=by
 have:=hI h; exact z18 (by omega)
theorem aS{k:Nat}:decide ((k:Int)<(k:Int))=false:=z10 (by omega)
def hG{α:Type}(z:α→Nat):List α→Nat
 | []=>0
 | a::r=>z a+hG z r
theorem CJ{α:Type}(z:α→Nat){a:α}: ∀ {l:List α},a∈l→z a≤hG z l
 | b::r,h=>by
  cases h with
  | head=>simp only[hG]; omega
  | tail _ h=>have:=CJ z h; simp only[hG]; omega
def zl{α:Type}(z:α→Nat)(l:List α):Nat:=l.length+hG z l
def dl{α:Type}(d:α→Nat):List α→Nat
 | []=>1
 | a::r=>1+d a+dl d r
theorem iS{α:Type}(d:α→Nat){a:α}: ∀ {l:List α},a∈l→d a<dl d l
 | b::r,h=>by
  cases h with
  | head=>simp only[dl]; omega
  | tail _ h=>have:=iS d h; simp only[dl]; omega
theorem hJ{α:Type}(d:α→Nat): ∀l:List α,l.length<dl d l
 | []=>by simp [dl]
 | b::r=>by have:=hJ d r; simp only[dl,z20]; omega
theorem Hn{k:Nat}{left:Int}(a:k≤maxLen)(h0:0≤left)(h1:left≤1048576):IntKind.wrap .i64 (left - (k:Int))=left - k:=by
 simp only[maxLen]at a; exact wrap_i64 (by omega) (by omega)

theorem IV{α:Type}{body:Int×Int→Option ((Int×Int)⊕(Int⊕(Int×Int×Bool)))}(l:List α)(z:α→Nat)(j: ∀(i:Nat) a (left:Int),l[i]? =some a→0≤left→left≤1048576→body (left,(i:Int))=some (if(z a:Int)≤left then .inl (left - z a,((i+1:Nat):Int))else .inr (.inl (-1))))
  (k: ∀left:Int,body (left,(l.length:Int))=some (.inr (.inr (left,(l.length:Int),false)))){n:Nat}(hn:l.length<n){left:Int}(h0:0≤left)(h1:left≤1048576):loopN body n (left,(0:Int))=some (if(hG z l:Int)≤left then .inr (left - hG z l,(l.length:Int),false)else .inl (-1)):=by
 have h:=Dj (body:=body) l (fun(t:Int) a=>if(z a:Int)≤t then .inl (t - z a)else .inr ()) (fun t i=>(t,(i:Int))) (fun t=> .inr (t,(l.length:Int),false)) (fun _=> .inl (-1)) (fun t=>0≤t∧t≤1048576) (fun i a t g b=>by
  by_cases c:(z a:Int)≤t
  ·left
   refine⟨t - z a,z17 c,⟨by omega,by omega⟩, ?_⟩
   rw[j i a t g b.1 b.2,z17 c]
  ·right
   refine⟨(),z11 c, ?_⟩
   rw[j i a t g b.1 b.2,z11 c]) (fun t _=>k t) hn (t0:=left) ⟨h0,h1⟩
 have d: ∀(l:List α) (t:Int),0≤t→qP (fun(t:Int) a=>if(z a:Int)≤t then Sum.inl (t - z a)else Sum.inr ()) l t=if(hG z l:Int)≤t then .inl (t - hG z l)else .inr ():=by
  intro l; induction l with
  | nil=>intro t b; simp [qP,hG,b]
  | cons a r ih=>
   intro t b; have e:hG z (a::r)=z a+hG z r:=rfl; generalize hG z (a::r)=q at e; simp only[qP]; by_cases c:(z a:Int)≤t
   ·rw[z17 c]
    simp only; rw[ih _ (by omega)]
    by_cases f:(q:Int)≤t
    ·rw[z17 f,z17 (by omega)]; congr 1; omega
    ·rw[z11 f,z11 (by omega)]
   ·rw[z11 c,z11 (by omega)]
 refine h.trans ?_
 rw[d l left h0]; by_cases c:(hG z l:Int)≤left
 ·rw[z17 c,z17 c]
 ·rw[z11 c,z11 c]

theorem IU{α β:Type}{body:List β×Int→Option ((List β×Int)⊕(List β×Int×Bool))}(l:List α)(c:α→β)(z:β)(m: ∀(i:Nat) a (o:List β) (b:β),l[i]? =some a→o[i]? =some b→body (o,(i:Int))=some (.inl (o.set i (c a),((i+1:Nat):Int))))
  (f: ∀o:List β,body (o,(l.length:Int))=some (.inr (o,(l.length:Int),false))){n:Nat}(hn:l.length<n):loopN body n (List.replicate l.length z,(0:Int))=some (l.map c,(l.length:Int),false):=by
 have h:=oF (body:=body) (fun i=>((l.take i).map c++List.replicate (l.length - i) z,(i:Int))) (len:=l.length) (r:=(l.map c,(l.length:Int),false)) (fun i g=>by
  have e:l[i]? =some l[i]:=z13 g
  have d:((l.take i).map c).length=i:=by simp; omega
  have ho:((l.take i).map c++List.replicate (l.length - i) z)[i]? =some z:=by
   rw[z55 (by omega),d,Lj,z113,z17 (by omega)]
  rw[m i _ _ z e ho]; congr 2
  rw[List.set_append_right _ _ (by omega),d,Lj]
  obtain⟨k,j⟩: ∃k,l.length - i=k+1:=⟨l.length - i - 1,by omega⟩
  rw[j,List.replicate_succ,z134,show l.length - (i+1)=k by omega,z156,z156, ←nS (l:=l.map c) (i:=i) (a:=c l[i]) (by rw[z31,e]; rfl),z71]
  rfl) (by simp [f]) hn
 simpa using h

theorem IW{α:Type}{body:Int→Option (Int⊕(Bool⊕(Int×Bool)))}(l:List α)(d: ∀(i:Nat) a,l[i]? =some a→body (i:Int)=some (.inl ((i+1:Nat):Int)))(b:body (l.length:Int)=some (.inr (.inr ((l.length:Int),false)))){n:Nat}(hn:l.length<n):loopN body n (0:Int)=some (.inr ((l.length:Int),false)):=
 oF (body:=body) (fun i=>(i:Int)) (len:=l.length) (fun i c=>d i _ (z13 c)) b hn
theorem Mp{α:Type}{body:Int→Option (Int⊕(Bool⊕(Int×Bool)))}(l:List α)(b:α→Bool)(f: ∀(i:Nat) a,l[i]? =some a→body (i:Int)=some (if b a then .inl ((i+1:Nat):Int)else .inr (.inl false)))(g:body (l.length:Int)=some (.inr (.inr ((l.length:Int),false)))){n:Nat}(hn:l.length<n):loopN body n (0:Int)=some (if l.all b then .inr ((l.length:Int),false)else .inl false):=by
 have h:=Dj (body:=body) l (fun(_:Unit) a=>if b a then .inl ()else .inr ()) (fun _ i=>(i:Int)) (fun _=> .inr ((l.length:Int),false)) (fun _=> .inl false) (fun _=>True) (fun i a t e _=>by
  by_cases c:b a=true
  ·left; exact⟨(),z17 c,trivial,by rw[f i a e,z17 c]⟩
  ·right; exact⟨(),z11 c,by rw[f i a e,z11 c]⟩) (fun _ _=>g) hn (t0:=()) trivial
 have d: ∀l:List α,qP (fun(_:Unit) a=>if b a then Sum.inl ()else Sum.inr ()) l ()=if l.all b then .inl ()else .inr ():=by
  intro l; induction l with
  | nil=>rfl
  | cons a r ih=>
   simp only[qP,z95]; by_cases c:b a=true
   ·rw[z17 c]; simp only[ih,c,z37]
   ·rw[z11 c]; simp [c]
 refine h.trans ?_
 rw[d l]; by_cases c:l.all b=true
 ·rw[z17 c,z17 c]
 ·rw[z11 c,z11 c]
theorem BY{α σ τ ρ κ:Type}{body:σ→Option (σ⊕ρ)}(l:List α)(f:τ→α→τ⊕κ)(enc:τ→Nat→σ)(c:τ→ρ)(b:κ→ρ→Prop)(I:τ→Prop)(y: ∀(i:Nat) a t,l[i]? =some a→I t→(∃e,f t a= .inl e∧I e∧body (enc t i)=some (.inl (enc e (i+1))))∨(∃q r,f t a= .inr q∧body (enc t i)=some (.inr r)∧b q r))
  (u: ∀t,I t→body (enc t l.length)=some (.inr (c t))){n:Nat}(hn:l.length<n){t0:τ}(h0:I t0): ∃r,loopN body n (enc t0 0)=some r∧(match qP f l t0 with | .inl t=>r=c t | .inr q=>b q r):=by
 have k: ∀(r:List α) (i:Nat) (t:τ) (n:Nat),l.drop i=r→I t→r.length<n→i≤l.length→ ∃x,loopN body n (enc t i)=some x∧(match qP f r t with | .inl t=>x=c t | .inr q=>b q x):=by
  intro r; induction r with
  | nil=>
   intro i t n d j hn v; obtain⟨m,rfl⟩: ∃m,n=m+1:=⟨n - 1,by simp at hn; omega⟩
   have:i=l.length:=by
    have:=congrArg List.length d; simp at this; omega
   subst this; simp only[loopN,u t j,qP]; exact⟨_,rfl,rfl⟩
  | cons a r ih=>
   intro i t n d j hn v; obtain⟨m,rfl⟩: ∃m,n=m+1:=⟨n - 1,by simp at hn; omega⟩
   have w:i<l.length:=by
    have:=congrArg List.length d; simp at this; omega
   have s:l[i]? =some a:=by
    have:=congrArg (·[0]?) d
    simpa using this
   have h:l.drop (i+1)=r:=by
    have:=congrArg List.tail d; simpa using this
   rcases y i a t s j with⟨e,h1,o,g⟩ | ⟨q,x,h1,g,p⟩
   ·simp only[loopN,g,qP,h1]
    exact ih (i+1) e m h o (by simp at hn; omega) (by omega)
   ·simp only[loopN,g,qP,h1]
    exact⟨x,rfl,p⟩
 exact k l 0 t0 n rfl h0 hn (by omega)
def vK{α:Type}(b:Nat→α→Bool):Nat→List α→Bool
 | _,[]=>true
 | i,a::r=>b i a&&vK b (i+1) r
theorem wX{α:Type}{body:Int→Option (Int⊕(Bool⊕(Int×Bool)))}(l:List α)(d:Nat→α→Bool)(h: ∀(i:Nat) a,l[i]? =some a→body (i:Int)=some (if d i a then .inl ((i+1:Nat):Int)else .inr (.inl false)))(j:body (l.length:Int)=some (.inr (.inr ((l.length:Int),false)))){n:Nat}(hn:l.length<n):loopN body n (0:Int)=some (if vK d 0 l then .inr ((l.length:Int),false)else .inl false):=by
 have f: ∀(r:List α) (i n:Nat),l.drop i=r→r.length<n→i≤l.length→loopN body n (i:Int)=some (if vK d i r then .inr ((l.length:Int),false)else .inl false):=by
  intro r; induction r with
  | nil=>
   intro i n b hn k; obtain⟨m,rfl⟩: ∃m,n=m+1:=⟨n - 1,by simp at hn; omega⟩
   have:i=l.length:=by
    have:=congrArg List.length b; simp at this; omega
   subst this; simp only[loopN,j,vK,if_true]
  | cons a r ih=>
   intro i n b hn k; obtain⟨m,rfl⟩: ∃m,n=m+1:=⟨n - 1,by simp at hn; omega⟩
   have o:i<l.length:=by
    have:=congrArg List.length b; simp at this; omega
   have g:l[i]? =some a:=by
    have:=congrArg (·[0]?) b
    simpa using this
   have e:l.drop (i+1)=r:=by
    have:=congrArg List.tail b; simpa using this
   by_cases c:d i a=true
   ·simp only[loopN,h i a g,z17 c,vK,c,z37]
    exact ih (i+1) m e (by simp at hn; omega) (by omega)
   ·simp only[loopN,h i a g,z11 c,vK]
    simp [c]
 exact f l 0 n rfl hn (by omega)
def Fo{α:Type}(p:α→Bool):Nat→List α→Int
 | _,[]=> -1
 | i,a::r=>bif p a then(i:Int)else Fo p (i+1) r
theorem xA{α:Type}(p:α→Bool): ∀(l:List α) (i:Nat),(Fo p i l= -1∧ ∀a∈l,p a=false)∨ ∃k a,Fo p i l=((i+k:Nat):Int)∧l[k]? =some a∧p a=true∧ ∀(j:Nat) b,j<k→l[j]? =some b→p b=false
 | [],i=> .inl ⟨rfl,by simp⟩
 | a::r,i=>by
  unfold Fo; cases h:p a with
  | true=>exact .inr ⟨0,a,rfl,rfl,h,fun j b o=>by omega⟩
  | false=>
   rw[z16]; rcases xA p r (i+1)with⟨h1,d⟩ | ⟨k,b,h1,d,g,m⟩
   ·exact .inl ⟨h1,fun b e=>by
     rcases OG.1 e with rfl | e
     ·exact h
     ·exact d b e⟩
   ·refine .inr ⟨k+1,b,by rw[h1]; omega,d,g,fun j c o f=> ?_⟩
    cases j with
    | zero=>simp only[z21,z8]at f; subst f; exact h
    | succ j=>exact m j c (by omega) f
theorem Dk{α σ ρ:Type}{body:σ→Option (σ⊕ρ)}(l:List α)(p:α→Bool)(enc:Nat→σ)(out:Nat→ρ)(b:ρ)(g: ∀(i:Nat) a,l[i]? =some a→body (enc i)=some (bif p a then .inr (out i)else .inl (enc (i+1))))(j:body (enc l.length)=some (.inr b)){n:Nat}(hn:l.length<n):
  loopN body n (enc 0)=some (bif decide (Fo p 0 l<0)then b else out (Fo p 0 l).toNat):=by
 have e: ∀(r:List α) (i n:Nat),l.drop i=r→r.length<n→i≤l.length→loopN body n (enc i)=some (bif decide (Fo p i r<0)then b else out (Fo p i r).toNat):=by
  intro r; induction r with
  | nil=>
   intro i n c hn o; obtain⟨m,rfl⟩: ∃m,n=m+1:=⟨n - 1,by simp at hn; omega⟩
   have:i=l.length:=by
    have:=congrArg List.length c; simp at this; omega
   subst this; simp only[loopN,j]; rfl
  | cons a r ih=>
   intro i n c hn o; obtain⟨m,rfl⟩: ∃m,n=m+1:=⟨n - 1,by simp at hn; omega⟩
   have q:i<l.length:=by
    have:=congrArg List.length c; simp at this; omega
   have f:l[i]? =some a:=by
    have:=congrArg (·[0]?) c
    simpa using this
   have d:l.drop (i+1)=r:=by
    have:=congrArg List.tail c; simpa using this
   have k:Fo p i (a::r)=bif p a then(i:Int)else Fo p (i+1) r:=rfl
   rw[k]; cases h:p a with
   | true=>
    simp only[loopN,g i a f,h,z19]; rw[z10 (by omega),z16,z92]
   | false=>
    simp only[loopN,g i a f,h,z16]; exact ih (i+1) m d (by simp at hn; omega) (by omega)
 exact e l 0 n rfl hn (by omega)
theorem Gc{α:Type}(d:Nat→α→Bool): ∀(l:List α) (i:Nat),vK d i l=true↔ ∀(j:Nat) a,l[j]? =some a→d (i+j) a=true
 | [],i=>by simp [vK]
 | a::r,i=>by
  simp only[vK,z7,Gc d r (i+1)]; constructor
  ·rintro ⟨h1,e⟩ j b c
   cases j with
   | zero=>simp only[z21,z8]at c; subst c; exact h1
   | succ j=>have:=e j b c; rwa[show i+1+j=i+(j+1)by omega]at this
  ·intro h
   refine⟨h 0 a rfl,fun j b c=> ?_⟩
   have:=h (j+1) b c; rwa[show i+(j+1)=i+1+j by omega]at this
theorem dW(a:aD):aD.mk a.f0 a.f1 a.f2 a.f3 a.f4=a:=by cases a; rfl
theorem AX(a:aB):aB.mk a.f0 a.f1 a.f2 a.f3 a.f4=a:=by cases a; rfl
mutual
def fP:aD→Nat
 | .mk _ _ s l c=>s.length+wK l+lR c
def wK:List aD→Nat
 | []=>0
 | x::r=>1+fP x+wK r
def lR:List aC→Nat
 | []=>0
 | x::r=>1+cN x+lR r
def cN:aC→Nat
 | .two p x=>fP p+fP x
end
mutual
def kQ:aD→Nat
 | .mk _ _ s l c=>3+s.length+pW l+iV c
def pW:List aD→Nat
 | []=>1
 | x::r=>1+kQ x+pW r
def iV:List aC→Nat
 | []=>1
 | x::r=>1+gU x+iV r
def gU:aC→Nat
 | .two p x=>3+kQ p+kQ x
end
mutual
def aU:aB→Nat
 | .mk _ _ s l c=>3+s.length+pP l+lS c
def pP:List aB→Nat
 | []=>1
 | x::r=>1+aU x+pP r
def lS:List aA→Nat
 | []=>1
 | x::r=>1+dA x+lS r
def dA:aA→Nat
 | .two p x=>3+aU p+aU x
end
mutual
def oL:aD→aB
 | .mk a b s l c=> .mk a b s (lP l) (eD c)
def lP:List aD→List aB
 | []=> []
 | x::r=>oL x::lP r
def eD:List aC→List aA
 | []=> []
 | x::r=>qY x::eD r
def qY:aC→aA
 | .two p x=> .two (oL p) (oL x)
end
mutual
def okExpr:aD→Prop
 | .mk a b s l c=>(IntKind.i64.min≤a∧a≤IntKind.i64.max)∧(IntKind.i64.min≤b∧b≤IntKind.i64.max)∧s.length≤maxLen∧(l.length≤maxLen∧uA l)∧(c.length≤maxLen∧lB c)
def uA:List aD→Prop
 | []=>True
 | x::r=>okExpr x∧uA r
def lB:List aC→Prop
 | []=>True
 | x::r=>okClause x∧lB r
def okClause:aC→Prop
 | .two p x=>okExpr p∧okExpr x
end
theorem IH(a:aD):fP a=a.f2.length+wK a.f3+lR a.f4:=by cases a; simp only[fP]; rfl
theorem Ig(a:aD):kQ a=3+a.f2.length+pW a.f3+iV a.f4:=by cases a; simp only[kQ]; rfl
theorem tW(a:aB):aU a=3+a.f2.length+pP a.f3+lS a.f4:=by cases a; simp only[aU]; rfl
theorem DS(a:aC):cN a=fP a.p+fP a.x:=by obtain⟨p,x⟩:=a; simp only[cN]; rfl
theorem Dw(a:aC):gU a=3+kQ a.p+kQ a.x:=by obtain⟨p,x⟩:=a; simp only[gU]; rfl
theorem mF(a:aA):dA a=3+aU a.p+aU a.x:=by obtain⟨p,x⟩:=a; simp only[dA]; rfl
theorem Kb(a:aD):okExpr a↔(IntKind.i64.min≤a.f0∧a.f0≤IntKind.i64.max)∧(IntKind.i64.min≤a.f1∧a.f1≤IntKind.i64.max)∧a.f2.length≤maxLen∧(a.f3.length≤maxLen∧uA a.f3)∧(a.f4.length≤maxLen∧lB a.f4):=by cases a; simp only[okExpr]; rfl
theorem Gx(a:aC):okClause a↔okExpr a.p∧okExpr a.x:=by obtain⟨p,x⟩:=a; simp only[okClause]; rfl
theorem Gb{a0 a1:Int}{a2:List UInt8}{a3:List aD}{a4:List aC}:oL (.mk a0 a1 a2 a3 a4)= .mk a0 a1 a2 (lP a3) (eD a4):=by simp only[oL]
theorem yM: ∀l,wK l=zl fP l
 | []=>rfl
 | x::r=>by simp only[wK,zl,hG,yM r,z20]; omega
theorem rU: ∀l:List aC,lR l=zl cN l
 | []=>rfl
 | x::r=>by
  have e:=rU r; have a:lR (x::r)=1+cN x+lR r:=by simp only[lR]
  have b:zl cN (x::r)=(x::r).length+(cN x+hG cN r):=rfl; have c:zl cN r=r.length+hG cN r:=rfl; rw[a,b,e,c,z20]; omega
theorem zC: ∀l,pW l=dl kQ l
 | []=>rfl
 | x::r=>by simp only[pW,dl,zC r]
theorem sC: ∀l:List aC,iV l=dl gU l
 | []=>rfl
 | x::r=>by
  have e:=sC r; have a:iV (x::r)=1+gU x+iV r:=by simp only[iV]
  rw[a,e]; rfl
theorem lA: ∀l,pP l=dl aU l
 | []=>rfl
 | x::r=>by simp only[pP,dl,lA r]
theorem jJ: ∀l:List aA,lS l=dl dA l
 | []=>rfl
 | x::r=>by
  have e:=jJ r; have a:lS (x::r)=1+dA x+lS r:=by simp only[lS]
  rw[a,e]; rfl
theorem Bm: ∀l,lP l=l.map oL
 | []=>rfl
 | x::r=>by simp only[lP,Bm r,z50]
def cCl(a:aC):aA:=qY a
theorem wH: ∀l:List aC,eD l=l.map cCl
 | []=>rfl
 | x::r=>by
  have e:=wH r; have a:eD (x::r)=qY x::eD r:=by simp only[eD]
  rw[a,e]; rfl
theorem okExprs_iff: ∀l,uA l↔ ∀a∈l,okExpr a
 | []=>by simp [uA]
 | x::r=>by simp [uA,okExprs_iff r]
theorem okClauses_iff: ∀l:List aC,lB l↔ ∀a∈l,okClause a
 | []=>by simp [lB]
 | x::r=>by
  have e:=okClauses_iff r; have b:lB (x::r)↔okClause x∧lB r:=by simp only[lB]
  rw[b,e]; simp
mutual
theorem Br: ∀x,aU (oL x)=kQ x
 | .mk a b s l c=>by simp only[oL,aU,kQ,Fv l,BO c]
theorem Fv: ∀l,pP (lP l)=pW l
 | []=>rfl
 | x::r=>by simp only[lP,pP,pW,Br x,Fv r]
theorem BO: ∀l,lS (eD l)=iV l
 | []=>rfl
 | x::r=>by simp only[eD,lS,iV,Ip x,BO r]
theorem Ip: ∀x,dA (qY x)=gU x
 | .two p x=>by simp only[qY,dA,gU,Br p,Br x]
end
mutual
theorem CF: ∀x,kQ x≤15*fP x+5
 | .mk a b s l c=>by have:=GZ l; have:=Bl c; simp only[kQ,fP]; omega
theorem GZ: ∀l,pW l≤15*wK l+1
 | []=>by simp [pW]
 | x::r=>by have:=CF x; have:=GZ r; simp only[pW,wK]; omega
theorem Bl: ∀l,iV l≤15*lR l+1
 | []=>by simp [iV]
 | x::r=>by have:=JT x; have:=Bl r; simp only[iV,lR]; omega
theorem JT: ∀x,gU x≤15*cN x+13
 | .two p x=>by have:=CF p; have:=CF x; simp only[gU,cN]; omega
end
theorem BR: ∀(n:Nat),(∀(a:aD) (left:Int),kQ a<n→okExpr a→0≤left→left≤1048576→cB n a.f0 a.f1 a.f2 a.f3 a.f4 left=some (if(fP a:Int)≤left then left - fP a else -1))∧(∀(l:List aD) (left:Int),dl kQ l<n→l.length≤maxLen→(∀a∈l,okExpr a)→0≤left→left≤1048576→dR n l left=some (if(zl fP l:Int)≤left then left - zl fP l else -1))∧
  (∀(a:aC) (left:Int),gU a<n→okClause a→0≤left→left≤1048576→dE n a.f0 a.f1 a.f2 a.f3 a.f4 a.f5 a.f6 a.f7 a.f8 a.f9 left=some (if(cN a:Int)≤left then left - cN a else -1))∧(∀(l:List aC) (left:Int),dl gU l<n→l.length≤maxLen→(∀a∈l,okClause a)→0≤left→left≤1048576→cS n l left=some (if(zl cN l:Int)≤left then left - zl cN l else -1))
 | 0=>⟨fun a left h=>by omega,fun l left h=>by omega,fun a left h=>by omega,fun l left h=>by omega⟩
 | n+1=>by
  obtain⟨f,k,m,o⟩:=BR n; refine⟨fun a left h ho h0 h1=> ?_,fun l left h hl ho h0 h1=> ?_,fun a left h ho h0 h1=> ?_,fun l left h hl ho h0 h1=> ?_⟩
  ·rw[uL]
   unfold kE; rw[Ig,zC,sC]at h; rw[Kb]at ho; have hz:=IH a; rw[yM,rU]at hz; obtain⟨_,_,B,s,u⟩:=ho; rw[Hn B h0 h1,hz]; by_cases c:left - (a.f2.length:Int)<0
   ·rw[z18 c,z19,z11 (by omega)]
   rw[z10 c,z16]; rw[k a.f3 _ (by omega) s.1 ((okExprs_iff _).1 s.2) (by omega) (by omega)]
   by_cases b:(zl fP a.f3:Int)≤left - a.f2.length
   ·rw[z17 b,z9,z10 (by omega),z16]
    rw[o a.f4 _ (by omega) u.1 ((okClauses_iff _).1 u.2) (by omega) (by omega)]
    by_cases r:(zl cN a.f4:Int)≤left - a.f2.length - zl fP a.f3
    ·rw[z17 r,z17 (by omega),z9,z10 (by omega)]
     simp only[z16,z8]; omega
    ·rw[z11 r,z11 (by omega)]; rfl
   ·rw[z11 b,z11 (by omega)]; rfl
  ·rw[sL]
   unfold iY; have y:=hJ kQ l; have j:zl fP l=l.length+hG fP l:=rfl; rw[j,Hn hl h0 h1]; by_cases c:left - (l.length:Int)<0
   ·rw[z18 c,z19,z11 (by omega)]
   rw[z10 c,z16]; rw[IV l fP (fun i a t d t0 q=>by
    have g:=z34 d; have z:=iS kQ g; have A:=hI d; have e:=f a t (by omega) (ho a g) t0 q
    simp only[iP,eK d,z19,dH,d,z9,e,bB (show i<4611686018427387904 by simp only[maxLen]at hl; omega)]
    by_cases b:(fP a:Int)≤t
    ·rw[z17 b,z17 b,z10 (by omega)]; rfl
    ·rw[z11 b,z11 b]; rfl) (fun t=>by simp only[iP,aS,z16]) (by omega) (by omega) (by omega)]
   by_cases b:(hG fP l:Int)≤left - l.length
   ·rw[z17 b,z17 (by omega)]
    simp only[z9,z8]; omega
   ·rw[z11 b,z11 (by omega)]; rfl
  ·rw[rF]
   unfold iA; rw[Dw]at h; rw[Gx]at ho; have hz:=DS a; have v:cB n a.f0 a.f1 a.f2 a.f3 a.f4 left=_:=f a.p left (by omega) ho.1 h0 h1
   rw[v,hz]; by_cases c:(fP a.p:Int)≤left
   ·rw[z17 c,z9,z10 (by omega),z16]
    have w:cB n a.f5 a.f6 a.f7 a.f8 a.f9 (left - fP a.p)=_:=f a.x _ (by omega) ho.2 (by omega) (by omega)
    rw[w]; by_cases b:(fP a.x:Int)≤left - fP a.p
    ·rw[z17 b,z17 (by omega),z9,z10 (by omega)]
     simp only[z16,z8]; omega
    ·rw[z11 b,z11 (by omega)]; rfl
   ·rw[z11 c,z11 (by omega)]; rfl
  ·rw[qK]
   unfold gG; have y:=hJ gU l; have j:zl cN l=l.length+hG cN l:=rfl; rw[j,Hn hl h0 h1]; by_cases c:left - (l.length:Int)<0
   ·rw[z18 c,z19,z11 (by omega)]
   rw[z10 c,z16]; rw[IV l cN (fun i a t d t0 q=>by
    have g:=z34 d; have z:=iS gU g; have A:=hI d; have e:=m a t (by omega) (ho a g) t0 q
    simp only[fX,eK d,z19,dH,d,z9,e,bB (show i<4611686018427387904 by simp only[maxLen]at hl; omega)]
    by_cases b:(cN a:Int)≤t
    ·rw[z17 b,z17 b,z10 (by omega)]; rfl
    ·rw[z11 b,z11 b]; rfl) (fun t=>by simp only[fX,aS,z16]) (by omega) (by omega) (by omega)]
   by_cases b:(hG cN l:Int)≤left - l.length
   ·rw[z17 b,z17 (by omega)]
    simp only[z9,z8]; omega
   ·rw[z11 b,z11 (by omega)]; rfl
theorem Iu(n:Nat){a0 a1:Int}{a2:List UInt8}{a3:List aD}{a4:List aC}{left:Int}(h:kQ (.mk a0 a1 a2 a3 a4)<n)(ho:okExpr (.mk a0 a1 a2 a3 a4))(h0:0≤left)(h1:left≤1048576):cB n a0 a1 a2 a3 a4 left=some (if(fP (.mk a0 a1 a2 a3 a4):Int)≤left then left - fP (.mk a0 a1 a2 a3 a4)else -1):=(BR n).1 _ _ h ho h0 h1
theorem BQ: ∀(n:Nat),(∀(a:aD),kQ a<n→fP a≤1048576→bE n a.f0 a.f1 a.f2 a.f3 a.f4=some (a.f0,a.f1,a.f2,lP a.f3,eD a.f4))∧(∀(l:List aD),dl kQ l<n→zl fP l≤1048576→dQ n l=some (lP l))∧
  (∀(a:aC),gU a<n→cN a≤1048576→dD n a.f0 a.f1 a.f2 a.f3 a.f4 a.f5 a.f6 a.f7 a.f8 a.f9=some (a.f0,a.f1,a.f2,lP a.f3,eD a.f4,a.f5,a.f6,a.f7,lP a.f8,eD a.f9))∧(∀(l:List aC),dl gU l<n→zl cN l≤1048576→cR n l=some (eD l))
 | 0=>⟨fun a h=>by omega,fun l h=>by omega,fun a h=>by omega,fun l h=>by omega⟩
 | n+1=>by
  obtain⟨d,k,m,q⟩:=BQ n; refine⟨fun a h hz=> ?_,fun l h hz=> ?_,fun a h hz=> ?_,fun l h hz=> ?_⟩
  ·rw[uK]
   unfold kD; rw[Ig,zC,sC]at h; rw[IH,yM,rU]at hz; simp only[k a.f3 (by omega) (by omega),q a.f4 (by omega) (by omega),z9]
  ·rw[sK]
   unfold iX; have u:=hJ kQ l; have t:zl fP l=l.length+hG fP l:=rfl; have g:decide (0≤(l.length:Int)∧(l.length:Int)≤maxLen∧80*(l.length:Int)≤281474976710656)=true:=z18 ⟨by omega,by simp only[maxLen]; omega,by omega⟩
   rw[g]; simp only[ck,z19,z9,z92]; rw[IU l oL _ (fun i a o b c f=>by
    have e:=z34 c; have v:=iS kQ e; have w:=hI c; have y:=CJ fP e; simp only[iO,eK c,z19,dH,c,f,z9,d a (by omega) (by omega),bB (show i<4611686018427387904 by omega),z92, ←Gb,dW]) (fun o=>by simp only[iO,aS,z16]) (by omega)]
   simp only[z9,Bm]
  ·rw[rE]
   unfold hY; rw[Dw]at h; rw[DS]at hz; have r:bE n a.f0 a.f1 a.f2 a.f3 a.f4=some (a.f0,a.f1,a.f2,lP a.f3,eD a.f4):=d a.p (by omega) (by omega)
   have s:bE n a.f5 a.f6 a.f7 a.f8 a.f9=some (a.f5,a.f6,a.f7,lP a.f8,eD a.f9):=d a.x (by omega) (by omega)
   simp only[r,s,z9]
  ·rw[qJ]
   unfold gF; have u:=hJ gU l; have t:zl cN l=l.length+hG cN l:=rfl; have g:decide (0≤(l.length:Int)∧(l.length:Int)≤maxLen∧160*(l.length:Int)≤281474976710656)=true:=z18 ⟨by omega,by simp only[maxLen]; omega,by omega⟩
   rw[g]; simp only[ck,z19,z9,z92]; rw[IU l cCl _ (fun i a o b c f=>by
    have e:=z34 c; have v:=iS gU e; have w:=hI c; have y:=CJ cN e; have j:aA.mk a.f0 a.f1 a.f2 (lP a.f3) (eD a.f4) a.f5 a.f6 a.f7 (lP a.f8) (eD a.f9)=cCl a:=by
     obtain⟨p,x⟩:=a; show _=qY (.two p x); simp only[qY]; cases p; cases x; simp only[oL]; rfl
    simp only[fW,eK c,z19,dH,c,f,z9,m a (by omega) (by omega),bB (show i<4611686018427387904 by omega),z92,j]) (fun o=>by simp only[fW,aS,z16]) (by omega)]
   simp only[z9,wH]
theorem Is(n:Nat){a0 a1:Int}{a2:List UInt8}{a3:List aD}{a4:List aC}(h:kQ (.mk a0 a1 a2 a3 a4)<n)(hz:fP (.mk a0 a1 a2 a3 a4)≤1048576):bE n a0 a1 a2 a3 a4=some ((oL (.mk a0 a1 a2 a3 a4)).f0,(oL (.mk a0 a1 a2 a3 a4)).f1,(oL (.mk a0 a1 a2 a3 a4)).f2,(oL (.mk a0 a1 a2 a3 a4)).f3,(oL (.mk a0 a1 a2 a3 a4)).f4):=by
 have e:bE n a0 a1 a2 a3 a4=_:=(BQ n).1 (.mk a0 a1 a2 a3 a4) h hz; rw[e,Gb]; rfl
theorem Bk: ∀(n:Nat),n≤4611686018427387904→(∀(a:aB),aU a<n→cC n a.f0 a.f1 a.f2 a.f3 a.f4 a.f0 a.f1 a.f2 a.f3 a.f4=some true)∧(∀(l:List aB),dl aU l<n→dS n l l=some true)∧
  (∀(a:aA),dA a<n→dF n a.f0 a.f1 a.f2 a.f3 a.f4 a.f5 a.f6 a.f7 a.f8 a.f9 a.f0 a.f1 a.f2 a.f3 a.f4 a.f5 a.f6 a.f7 a.f8 a.f9=some true)∧(∀(l:List aA),dl dA l<n→cU n l l=some true)
 | 0,_=>⟨fun a h=>by omega,fun l h=>by omega,fun a h=>by omega,fun l h=>by omega⟩
 | n+1,hn=>by
  obtain⟨c,e,f,g⟩:=Bk n (by omega)
  refine⟨fun a h=> ?_,fun l h=> ?_,fun a h=> ?_,fun l h=> ?_⟩
  ·rw[uM]
   unfold kF; rw[tW,lA,jJ]at h; simp only[e a.f3 (by omega),g a.f4 (by omega),z9,decide_true,z40,z16]
  ·rw[sM]
   unfold iZ; have m:=hJ aU l; simp only[decide_true,z40,z16]; rw[IW l (fun i a b=>by
    have d:=z34 b; have o:=iS aU d; have q:=hI b; simp only[iQ,eK b,z19,dH,b,z9,c a (by omega),z40,z16,bB (show i<4611686018427387904 by omega)]) (by simp only[iQ,aS,z16]) (by omega)]
   simp only[z9]
  ·rw[rG]
   unfold iB; rw[mF]at h; have j:cC n a.f0 a.f1 a.f2 a.f3 a.f4 a.f0 a.f1 a.f2 a.f3 a.f4=some true:=c a.p (by omega)
   have k:cC n a.f5 a.f6 a.f7 a.f8 a.f9 a.f5 a.f6 a.f7 a.f8 a.f9=some true:=c a.x (by omega)
   simp only[j,k,z9,z40,z16]
  ·rw[qL]
   unfold gH; have m:=hJ dA l; simp only[decide_true,z40,z16]; rw[IW l (fun i a b=>by
    have d:=z34 b; have o:=iS dA d; have q:=hI b; simp only[fY,eK b,z19,dH,b,z9,f a (by omega),z40,z16,bB (show i<4611686018427387904 by omega)]) (by simp only[fY,aS,z16]) (by omega)]
   simp only[z9]
theorem JR(n:Nat){a0 a1:Int}{a2:List UInt8}{a3:List aB}{a4:List aA}(h:aU (.mk a0 a1 a2 a3 a4)<n)(hn:n≤4611686018427387904):cC n a0 a1 a2 a3 a4 a0 a1 a2 a3 a4=some true:=(Bk n hn).1 (.mk a0 a1 a2 a3 a4) h
theorem qU(n:Nat)(x a b:Int):cM n x a b=some (decide (a≤x)&&decide (x≤b)):=by
 unfold cM; cases decide (a≤x)<;>rfl
theorem uZ(n:Nat)(x a b:Int):dT n x a b=some (decide (a≤x)&&decide (x≤b)):=by
 unfold dT; cases decide (a≤x)<;>rfl
theorem Be(n:Nat)(x:Int):eW n x=some (decide (97≤x)&&decide (x≤122)):=by
 unfold eW; cases decide (97≤x)<;>rfl
theorem zT(n:Nat)(x:Int):dV n x=some (decide (48≤x)&&decide (x≤57)):=by
 unfold dV; cases decide (48≤x)<;>rfl
def mH(c:Int):Bool:=decide (97≤c)&&decide (c≤122)
def DN(c:Int):Bool:=decide (48≤c)&&decide (c≤57)
def EJ(i:Nat)(c:UInt8):Bool:=mH c.toNat||(!decide (i=0)&&(DN c.toNat||decide ((c.toNat:Int)=95)))
def wT(s:List UInt8):Bool:=vK EJ 0 s&&(decide (1≤(s.length:Int))&&decide ((s.length:Int)≤20))
theorem Bq(c:UInt8):IntKind.wrap .i64 ((c.toNat:Nat):Int)=c.toNat:=by
 have:=c.toNat_lt; exact wrap_i64 (by omega) (by omega)
theorem Hu(i:Nat):decide ((i:Int)=0)=decide (i=0):=by
 by_cases h:i=0<;>simp [h]
theorem Ar(n:Nat)(s:List UInt8)(h:s.length<n)(hn:s.length<4611686018427387904):kK n s=some (wT s):=by
 unfold kK; rw[wX s EJ (fun i c a=>by
  have b:=hI a; simp only[jL,eK a,z19,CD,a,z38,z9,qU,Bq,bB (show i<4611686018427387904 by omega),Hu]
  unfold EJ mH DN; cases decide (97≤(c.toNat:Int))<;>cases decide ((c.toNat:Int)≤122)<;>cases decide (i=0)<;>cases decide (48≤(c.toNat:Int))<;>cases decide ((c.toNat:Int)≤57)<;>cases decide ((c.toNat:Int)=95)<;>rfl) (by simp only[jL,aS,z16]) h]
 unfold wT; by_cases c:vK EJ 0 s=true
 ·rw[z17 c,c]; simp only[z9,qU,z37]
 ·rw[z11 c]; simp only[z75]at c; rw[c]; rfl
theorem Au(n:Nat)(s:List UInt8)(h:s.length<n)(hn:s.length<4611686018427387904):kM n s=some (wT s):=by
 unfold kM; rw[wX s EJ (fun i c a=>by
  have b:=hI a; simp only[jM,eK a,z19,CD,a,z38,z9,Be,zT,bB (show i<4611686018427387904 by omega),Hu]
  unfold EJ mH DN; cases decide (97≤(c.toNat:Int))<;>cases decide ((c.toNat:Int)≤122)<;>cases decide (i=0)<;>cases decide (48≤(c.toNat:Int))<;>cases decide ((c.toNat:Int)≤57)<;>cases decide ((c.toNat:Int)=95)<;>rfl) (by simp only[jM,aS,z16]) h]
 unfold wT; by_cases c:vK EJ 0 s=true
 ·rw[z17 c,c]; simp only[z9,uZ,z37]
 ·rw[z11 c]; simp only[z75]at c; rw[c]; rfl
def kY(c:Int):Bool:=(decide (65≤c)&&decide (c≤90))||decide (c=95)
theorem Bf(n:Nat)(x:Int):gP n x=some (kY x):=by
 unfold gP kY; cases decide (65≤x)<;>cases decide (x≤90)<;>rfl
theorem HB(n:Nat)(c:UInt8):jF n (c.toNat:Int)=some (kY c.toNat):=by
 unfold jF kY; rw[Bq,qU]; cases decide (65≤(c.toNat:Int))<;>cases decide ((c.toNat:Int)≤90)<;>rfl
theorem HA(n:Nat)(c:UInt8):jE n (c.toNat:Int)=some (mH c.toNat):=by
 unfold jE mH; rw[Bq,qU]; rfl
theorem HC(n:Nat)(c:UInt8):jG n (c.toNat:Int)=some (DN c.toNat):=by
 unfold jG DN; rw[Bq,qU]; rfl
theorem FY(n:Nat)(x:Int):eW n x=some (mH x):=Be n x
theorem JK(n:Nat)(x:Int):dV n x=some (DN x):=zT n x
def rV(c:UInt8):Bool:=mH c.toNat||(kY c.toNat||DN c.toNat)
theorem Ck(n:Nat)(x:Int):fN n x=some (mH x||(kY x||DN x)):=by
 unfold fN; rw[FY,Bf,JK]; cases mH x<;>cases kY x<;>cases DN x<;>rfl
def Hf(i:Nat)(c:UInt8):Bool:=kY c.toNat||(!decide (i=0)&&(mH c.toNat||DN c.toNat))
def Cb(s:List UInt8):Bool:=vK Hf 0 s&&(decide (1≤(s.length:Int))&&decide ((s.length:Int)≤20))
theorem Ci(n:Nat)(s:List UInt8)(h:s.length<n)(hn:s.length<4611686018427387904):jD n s=some (Cb s):=by
 unfold jD; rw[wX s Hf (fun i c a=>by
  have b:=hI a; simp only[iN,eK a,z19,CD,a,z38,z9,HB,HA,HC,bB (show i<4611686018427387904 by omega),Hu]
  unfold Hf; cases kY (c.toNat:Int)<;>cases decide (i=0)<;>cases mH (c.toNat:Int)<;>cases DN (c.toNat:Int)<;>rfl) (by simp only[iN,aS,z16]) h]
 unfold Cb; by_cases c:vK Hf 0 s=true
 ·rw[z17 c,c]; simp only[z9,qU,z37]
 ·rw[z11 c]; simp only[z75]at c; rw[c]; rfl
theorem Dz: ∀(r:List UInt8) (i:Nat),0<i→vK Hf i r=r.all rV
 | [],i,h=>rfl
 | c::r,i,h=>by
  have e:Hf i c=rV c:=by
   unfold Hf rV; rw[z10 (by omega)]
   cases kY (c.toNat:Int)<;>cases mH (c.toNat:Int)<;>cases DN (c.toNat:Int)<;>rfl
  simp only[vK,z95,Dz r (i+1) (by omega),e]
theorem Cm(n:Nat)(s:List UInt8)(h:s.length<n)(hn:s.length<4611686018427387904):lH n s=some (Cb s):=by
 unfold lH; rw[Mp s rV (fun i c b=>by
  have k:=hI b; simp only[kR,eK b,z19,CD,b,z38,z9,Ck,bB (show i<4611686018427387904 by omega)]
  unfold rV; cases mH (c.toNat:Int)<;>cases kY (c.toNat:Int)<;>cases DN (c.toNat:Int)<;>rfl) (by simp only[kR,aS,z16]) h]
 unfold Cb; cases s with
 | nil=>rfl
 | cons c r=>
  have e:vK Hf 0 (c::r)=(kY c.toNat&&r.all rV):=by
   simp only[vK,z32,Dz r 1 (by omega)]
   unfold Hf; rw[z18 rfl]; cases kY (c.toNat:Int)<;>rfl
  have f:(c::r).all rV=(rV c&&r.all rV):=z95; have j:ixs (c::r) (0:Int)=some (c.toNat:Int):=rfl; have g:kY c.toNat=true→rV c=true:=fun h=>by unfold rV; rw[h]; cases mH (c.toNat:Int)<;>rfl
  rw[e,f]; generalize r.all rV=q; by_cases a:(rV c&&q)=true
  ·rw[z17 a]
   simp only[z9,uZ,j,Bf]; have d:q=true:=by cases q with | true=>rfl | false=>simp at a
   subst d; cases decide (1≤((c::r).length:Int))<;>cases decide (((c::r).length:Int)≤20)<;>cases kY (c.toNat:Int)<;>rfl
  ·rw[z11 a]
   cases hl:kY (c.toNat:Int)with
   | false=>rfl
   | true=>
    rw[g hl]at a; cases q with
    | true=>simp at a
    | false=>rfl
def mW(s:List UInt8):Bool:=wT s&&(!decide (s=[99,97,115,101])&&(!decide (s=[111,102])&& !decide (s=[101,110,100])))
theorem Gn(n:Nat)(s:List UInt8)(h:s.length<n)(hn:s.length<4611686018427387904):gM n s=some (mW s):=by
 unfold gM mW; rw[Au n s h hn,z9]; generalize decide (s=[99,97,115,101])=a; generalize decide (s=[111,102])=b; generalize decide (s=[101,110,100])=c; cases wT s<;>cases a<;>cases b<;>cases c<;>rfl
theorem JI(n:Nat)(s:List UInt8)(h:s.length<n)(hn:s.length<4611686018427387904):iJ n s=some (mW s):=by
 unfold iJ mW iM; rw[Ar n s h hn,z9]; generalize decide (s=[99,97,115,101])=a; generalize decide (s=[111,102])=b; generalize decide (s=[101,110,100])=c; cases wT s<;>cases a<;>cases b<;>cases c<;>rfl
def Jb(s:List UInt8):Bool:=decide (s=[43])||(decide (s=[45])||(decide (s=[42])||(decide (s=[61,61])||decide (s=[60]))))
theorem NA(n:Nat)(s:List UInt8):mJ n s=some (Jb s):=by
 unfold mJ Jb; generalize decide (s=[43])=a; generalize decide (s=[45])=b; generalize decide (s=[42])=c; generalize decide (s=[61,61])=d; generalize decide (s=[60])=e; cases a<;>cases b<;>cases c<;>cases d<;>cases e<;>rfl
theorem Mx(n:Nat)(s:List UInt8):mI n s=some (Jb s):=by
 unfold mI Jb; generalize decide (s=[43])=a; generalize decide (s=[45])=b; generalize decide (s=[42])=c; generalize decide (s=[61,61])=d; generalize decide (s=[60])=e; cases a<;>cases b<;>cases c<;>cases d<;>cases e<;>rfl

theorem Ko(n:Nat)(l:List (List UInt8))(s:List UInt8)(hn:l.length<n)(c:n<4611686018427387904):eA n l s=some (Fo (fun a=>decide (s=a)) 0 l):=by
 unfold eA; have e:=Dk (body:=cW n l s) l (fun a=>decide (s=a)) (fun i=>(i:Int)) (fun i=>Sum.inl (i:Int)) (Sum.inr ((l.length:Int),false)) (fun i a b=>by
  have d:=hI b; simp only[cW,eK b,z19,dH,b,z9,bB (show i<4611686018427387904 by omega)]
  cases decide (s=a)<;>rfl) (by simp only[cW,aS,z16]) hn
 refine(congrArg (fun q=>Option.bind q _) e).trans ?_
 rcases xA (fun a=>decide (s=a)) l 0 with⟨h,_⟩ | ⟨k,a,h,_⟩
 ·rw[h]; rfl
 ·rw[h,z10 (by omega)]
  simp only[z9,z16,z92]
theorem Ff(n:Nat)(l:List (List UInt8))(s:List UInt8)(hn:l.length<n)(c:n<4611686018427387904):cX n l s=some (decide (s∈l)):=by
 unfold cX; rw[Ko n l s hn c]; simp only[z9,z8]; rcases xA (fun a=>decide (s=a)) l 0 with⟨h,h1⟩ | ⟨k,a,h,h1,b,_⟩
 ·rw[h,z10 (by omega),z10 (fun d=>by have:=h1 s d; simp at this)]
 ·simp only[z29]at b
  subst b; rw[h,z18 (by omega),z18 (z34 h1)]
def EY(l:List (List UInt8)):Bool:=vK (fun i a=> !(decide (a∈l.take i))) 0 l
theorem Ka(l:List (List UInt8)):EY l=true↔l.Nodup:=by
 unfold EY; rw[Gc,List.Nodup,List.pairwise_iff_getElem]; constructor
 ·intro h i j d b f e
  have:=h j l[j] (z13 b)
  simp only[z32,z35,z36]at this; exact this (by rw[←e]; exact z139.2 ⟨i,by omega,rfl⟩)
 ·intro h j a c
  simp only[z32,z35,z36]; intro g; obtain⟨i,d,e⟩:=z139.1 g; obtain⟨b,rfl⟩:=z80.1 c
  exact h i j (by omega) b (by omega) e
theorem Hm{α:Type}{l:List α}{i:Nat}(h:i≤l.length):sub l none (some (i:Int))=some (l.take i):=by
 unfold sub bnd; rw[z17 ⟨by simp,by simp only[Option.getD_none,z67]; omega,by simp only[z67]; omega⟩]
 simp
theorem Kk(n:Nat)(l:List (List UInt8))(s:List UInt8)(hn:l.length<n)(f:n<4611686018427387904):lG n l s=some (decide (s∈l)):=by
 unfold lG; have e:=Dk (body:=iE n l s) l (fun a=>decide (a=s)) (fun i=>(i:Int)) (fun i=>Sum.inl true) (Sum.inr ((l.length:Int),false)) (fun i a b=>by
  have g:=hI b; simp only[iE,eK b,z19,dH,b,z9,bB (show i<4611686018427387904 by omega)]
  cases decide (a=s)<;>rfl) (by simp only[iE,aS,z16]) hn
 refine(congrArg (fun q=>Option.bind q _) e).trans ?_
 rcases xA (fun a=>decide (a=s)) l 0 with⟨h,h1⟩ | ⟨k,a,h,h1,c,_⟩
 ·rw[h,z18 (show(-1:Int)<0 by omega),z10 (show ¬ s∈l from fun d=>by have:=h1 s d; simp at this)]; rfl
 ·simp only[z29]at c
  subst c; rw[h,z10 (by omega),z18 (z34 h1)]
  rfl
theorem JH(n:Nat)(l:List (List UInt8))(hn:l.length<n)(c:n<4611686018427387904):kI n l=some (EY l):=by
 unfold kI; rw[wX l (fun i a=> !(decide (a∈l.take i))) (fun i a b=>by
  have d:=hI b; simp only[jK,eK b,z19,dH,b,z9,bB (show i<4611686018427387904 by omega),Hm (show i≤l.length by omega),Kk n (l.take i) a (by rw[z58]; omega) c]
  cases decide (a∈l.take i)<;>rfl) (by simp only[jK,aS,z16]) hn]
 unfold EY; cases vK (fun i a=> !(decide (a∈l.take i))) 0 l<;>rfl
def xU(k m:Int)(s:List UInt8)(a:Int):Bool:=
 bif decide (k=1)then(decide (0≤m)&&decide (m≤1000000000000))&&(decide (s=[])&&decide (a=0))
 else bif decide (k=2)then decide (m=0)&&(mW s&&decide (a=0))
 else bif decide (k=3)then decide (m=0)&&(Cb s&&decide (a=0))
 else bif decide (k=4)then decide (m=0)&&(decide (s=[])&&decide (a≤20))
 else bif decide (k=5)then decide (m=0)&&(decide (s=[])&&decide (a≤20))
 else bif decide (k=6)then decide (m=0)&&(decide (s=[])&&(decide (2≤a)&&decide (a≤6)))
 else bif decide (k=7)then decide (m=0)&&(Jb s&&decide (a=2))
 else bif decide (k=8)then decide (m=0)&&(mW s&&decide (a≤4))
 else bif decide (k=9)then decide (m=0)&&(decide (s=[])&&decide (a=1))
 else false
theorem BS(n:Nat)(k m:Int)(s:List UInt8)(a:Int)(h:s.length<n)(hn:s.length<4611686018427387904):gO n k m s a=some (xU k m s a):=by
 unfold gO xU; rw[Gn n s h hn,Cm n s h hn,NA n s]; simp only[uZ,z9]; cases decide (k=1)with
 | true=>cases decide (0≤m)<;>cases decide (m≤1000000000000)<;>cases decide (s=[])<;>rfl
 | false=>
 cases decide (k=2)with
 | true=>cases decide (m=0)<;>cases mW s<;>rfl
 | false=>
 cases decide (k=3)with
 | true=>cases decide (m=0)<;>cases Cb s<;>rfl
 | false=>
 cases decide (k=4)with
 | true=>cases decide (m=0)<;>cases decide (s=[])<;>rfl
 | false=>
 cases decide (k=5)with
 | true=>cases decide (m=0)<;>cases decide (s=[])<;>rfl
 | false=>
 cases decide (k=6)with
 | true=>cases decide (m=0)<;>cases decide (s=[])<;>rfl
 | false=>
 cases decide (k=7)with
 | true=>cases decide (m=0)<;>cases Jb s<;>rfl
 | false=>
 cases decide (k=8)with
 | true=>cases decide (m=0)<;>cases mW s<;>rfl
 | false=>
 cases decide (k=9)with
 | true=>cases decide (m=0)<;>cases decide (s=[])<;>rfl
 | false=>rfl
def shp(a:Bool)(k m:Int)(s:List UInt8)(c b:Int):Bool:=
 bif decide (k=9)then(!a&&xU k m s c)&&(decide (1≤b)&&decide (b≤6))
 else !decide (0<b)&&(xU k m s c&&(bif a then !decide (6<k)else !(decide (k=3)&&decide (s=[95]))))
theorem Gz(n:Nat)(k m:Int)(s:List UInt8)(l:List aB)(c:List aA)(a:Bool)(h:s.length<n)(hn:s.length<4611686018427387904):jC n k m s l c a=some (shp a k m s l.length c.length):=by
 unfold jC shp xU; rw[JI n s h hn,Ci n s h hn,Mx n s]; simp only[qU,z9]; generalize (l.length:Int)=ne; generalize (c.length:Int)=nc; by_cases h1:k=1
 ·subst h1
  cases decide (0<nc)<;>cases decide (0≤m)<;>cases decide (m≤1000000000000)<;>cases decide (s=[])<;>cases decide (ne=0)<;>cases a<;>rfl
 by_cases b:k=2
 ·subst b
  cases decide (0<nc)<;>cases decide (m=0)<;>cases mW s<;>cases decide (ne=0)<;>cases a<;>rfl
 by_cases d:k=3
 ·subst d
  cases decide (0<nc)<;>cases decide (m=0)<;>cases Cb s<;>cases decide (ne=0)<;>cases a<;>cases decide (s=[95])<;>rfl
 by_cases e:k=4
 ·subst e
  cases decide (0<nc)<;>cases decide (m=0)<;>cases decide (s=[])<;>cases decide (ne≤20)<;>cases a<;>rfl
 by_cases f:k=5
 ·subst f
  cases decide (0<nc)<;>cases decide (m=0)<;>cases decide (s=[])<;>cases decide (ne≤20)<;>cases a<;>rfl
 by_cases g:k=6
 ·subst g
  cases decide (0<nc)<;>cases decide (m=0)<;>cases decide (s=[])<;>cases decide (2≤ne)<;>cases decide (ne≤6)<;>cases a<;>rfl
 by_cases i:k=7
 ·subst i
  cases decide (0<nc)<;>cases decide (m=0)<;>cases Jb s<;>cases decide (ne=2)<;>cases a<;>rfl
 by_cases j:k=8
 ·subst j
  cases decide (0<nc)<;>cases decide (m=0)<;>cases mW s<;>cases decide (ne≤4)<;>cases a<;>rfl
 by_cases o:k=9
 ·subst o
  cases decide (m=0)<;>cases decide (s=[])<;>cases decide (ne=1)<;>cases decide (1≤nc)<;>cases decide (nc≤6)<;>cases a<;>rfl
 rw[z10 h1,z10 b,z10 d,z10 e,z10 f,z10 g,z10 i,z10 j,z10 o]; cases decide (0<nc)<;>cases decide (m=0)<;>rfl
theorem KT(k m:Int)(s:List UInt8)(d c:Int):(xU k m s d&&(!(decide (k=3)&&decide (s=[95]))&&(!(!(decide (k=9) == decide (0<c)))&& !decide (6<c))))=shp false k m s d c:=by
 unfold shp; by_cases e:k=9
 ·subst e
  by_cases a:0<c
  ·rw[z18 a,z18 (show(1:Int)≤c by omega)]
   by_cases b:6<c
   ·rw[z18 b,z10 (show ¬ c≤6 by omega)]; cases xU 9 m s d<;>rfl
   ·rw[z10 b,z18 (show c≤6 by omega)]; cases xU 9 m s d<;>rfl
  ·rw[z10 a,z10 (show ¬ (1:Int)≤c by omega)]
   cases xU 9 m s d<;>rfl
 ·rw[z10 e]
  by_cases a:0<c
  ·rw[z18 a]; cases xU k m s d<;>cases (decide (k=3)&&decide (s=[95]))<;>rfl
  ·rw[z10 a,z10 (show ¬ 6<c by omega)]
   cases xU k m s d<;>cases (decide (k=3)&&decide (s=[95]))<;>rfl
theorem MW(k m:Int)(s:List UInt8)(b a:Int):(!decide (6<k)&&(!decide (0<a)&&xU k m s b))=shp true k m s b a:=by
 unfold shp; by_cases c:k=9
 ·subst c; rfl
 ·rw[z10 c]
  cases decide (6<k)<;>cases decide (0<a)<;>cases xU k m s b<;>rfl

mutual
def mQ:aB→List (List UInt8)
 | .mk k _ s l _=>bif decide (k=3)then(bif decide (s=[95])then []else [s])else gW l
def gW:List aB→List (List UInt8)
 | []=> []
 | x::r=>mQ x++gW r
end
theorem LO(a:aB):mQ a=bif decide (a.f0=3)then(bif decide (a.f2=[95])then []else [a.f2])else gW a.f3:=by cases a; simp only[mQ]; rfl
theorem DU: ∀(a b:List aB),gW (a++b)=gW a++gW b
 | [],b=>rfl
 | x::r,b=>by simp only[z89,gW,DU r b,z71]
theorem Iq(a:aB):gW [a]=mQ a:=by simp only[gW,Lo]
mutual
theorem Fw: ∀e,(mQ e).length≤aU e
 | .mk k m s l c=>by
  have:=yP l; simp only[mQ,aU]; cases decide (k=3)<;>cases decide (s=[95])<;>simp<;>omega
theorem yP: ∀l,(gW l).length≤pP l
 | []=>by simp [gW]
 | x::r=>by have:=Fw x; have:=yP r; simp only[gW,pP,z15]; omega
end
mutual
def fH:aB→Nat
 | .mk _ _ _ l c=>1+jI l+EI c
def jI:List aB→Nat
 | []=>0
 | x::r=>fH x+jI r
def EI:List aA→Nat
 | []=>0
 | x::r=>Cg x+EI r
def Cg:aA→Nat
 | .two p x=>fH p+fH x
end
theorem Ew(a:aB):fH a=1+jI a.f3+EI a.f4:=by cases a; simp only[fH]; rfl
theorem Le(a:aA):Cg a=fH a.p+fH a.x:=by cases a; simp only[Cg]; rfl
theorem yO: ∀l,jI l=hG fH l
 | []=>rfl
 | x::r=>by simp only[jI,hG,yO r]
theorem zF: ∀l,EI l=hG Cg l
 | []=>rfl
 | x::r=>by simp only[EI,hG,zF r]
def xok:Nat→Bool→aB→Bool
 | 0,_,_=>false
 | d+1,a,e=>shp a e.f0 e.f1 e.f2 e.f3.length e.f4.length&&(e.f3.all (xok d a)&&e.f4.all (fun c=>EY (mQ c.p)&&(xok d true c.p&&xok d false c.x)))
def cok(d:Nat)(c:aA):Bool:=EY (mQ c.p)&&(xok d true c.p&&xok d false c.x)
theorem wV(d:Nat)(a:Bool)(e:aB):xok (d+1) a e=(shp a e.f0 e.f1 e.f2 e.f3.length e.f4.length&&(e.f3.all (xok d a)&&e.f4.all (cok d))):=rfl
def rP(e:aB):Bool:=xok 10 false e&&decide ((fH e:Int)≤300)
def tk(b:Bool)(c:Nat)(t:Int):Int:=bif b&&decide ((c:Int)≤t)then t - c else -1
theorem Oi(b:Bool)(c:Nat){t:Int}(h:t<c):tk b c t= -1:=by
 unfold tk; rw[z10 (by omega),z72]; rfl
theorem Lw(b:Bool)(c:Nat)(t:Int)(h: -1≤t): -1≤tk b c t∧tk b c t≤t:=by
 unfold tk; by_cases q:(b&&decide ((c:Int)≤t))=true
 ·rw[q]
  simp only[z7,z29]at q; simp only[z19]; omega
 ·rw[z75]at q; rw[q]; simp only[z16]; omega
def Hg{α:Type}(b:α→Bool)(c:α→Nat):List α→Int→Int
 | [],t=>t
 | a::r,t=>bif decide (0≤t)then Hg b c r (tk (b a) (c a) t)else t
theorem CL{α:Type}(b:α→Bool)(c:α→Nat): ∀(l:List α) {t:Int},t<0→Hg b c l t=t
 | [],t,h=>rfl
 | a::r,t,h=>by unfold Hg; rw[z10 (by omega)]; rfl
theorem Ee{α:Type}(b:α→Bool)(c:α→Nat): ∀(l:List α) {t:Int},0≤t→Hg b c l t=tk (l.all b) (hG c l) t
 | [],t,h=>by
  unfold Hg tk; rw[z18 (show((hG c []:Nat):Int)≤t by simp only[hG]; omega)]
  simp [hG]
 | a::r,t,h=>by
  unfold Hg; rw[z18 h,z19,z95]; have e:hG c (a::r)=c a+hG c r:=rfl; rw[e]; by_cases q:(b a&&decide ((c a:Int)≤t))=true
  ·have d:tk (b a) (c a) t=t - c a:=by unfold tk; rw[q]; rfl
   simp only[z7,z29]at q; rw[d,Ee b c r (by omega),q.1,z37]
   unfold tk; by_cases z:((hG c r:Nat):Int)≤t - c a
   ·rw[z18 z,z18 (by omega)]
    cases r.all b
    ·rfl
    ·simp only[Ll,z19]; omega
   ·rw[z10 z,z10 (by omega)]
    cases r.all b<;>rfl
  ·have d:tk (b a) (c a) t= -1:=by unfold tk; rw[z75]at q; rw[q]; rfl
   rw[d,CL b c r (by omega)]
   unfold tk; cases ha:b a with
   | false=>rfl
   | true=>
    rw[ha,z37,z29]at q; rw[z10 (by omega),z72]; rfl
theorem yV{α ρ:Type}{body:Int×Int→Option ((Int×Int)⊕ρ)}(l:List α)(d:α→Bool)(c:α→Nat)(b:Int→ρ→Prop)(s: ∀(i:Nat) a (t:Int),l[i]? =some a→0≤t→t≤300→body (t,(i:Int))=some (.inl (tk (d a) (c a) t,((i+1:Nat):Int)))∨(∃r,body (t,(i:Int))=some (.inr r)∧b (-1) r∧tk (d a) (c a) t= -1))
  (hn: ∀(i:Nat) (t:Int),t<0→i<l.length→ ∃r,body (t,(i:Int))=some (.inr r)∧b t r)(p: ∀t:Int, ∃r,body (t,(l.length:Int))=some (.inr r)∧b t r): ∀(r:List α) (i:Nat) (t:Int) (n:Nat),l.drop i=r→ -1≤t→t≤300→r.length<n→i≤l.length→ ∃x,loopN body n (t,(i:Int))=some x∧b (Hg d c r t) x
 | [],i,t,n,h,h0,h1,j,y=>by
  obtain⟨m,rfl⟩: ∃m,n=m+1:=⟨n - 1,by simp at j; omega⟩
  have:i=l.length:=by
   have:=congrArg List.length h; simp at this; omega
  subst this; obtain⟨x,f,g⟩:=p t; simp only[loopN,f]; exact⟨x,rfl,g⟩
 | a::r,i,t,n,h,h0,h1,j,y=>by
  obtain⟨m,rfl⟩: ∃m,n=m+1:=⟨n - 1,by simp at j; omega⟩
  have k:i<l.length:=by
   have:=congrArg List.length h; simp at this; omega
  have v:l[i]? =some a:=by
   have:=congrArg (·[0]?) h
   simpa using this
  have o:l.drop (i+1)=r:=by
   have:=congrArg List.tail h; simpa using this
  have e:Hg d c (a::r) t=bif decide (0≤t)then Hg d c r (tk (d a) (c a) t)else t:=rfl
  rw[e]; by_cases q:0≤t
  ·rw[z18 q,z19]
   have w:=Lw (d a) (c a) t h0; rcases s i a t v q h1 with f | ⟨x,f,g,u⟩
   ·simp only[loopN,f]
    exact yV l d c b s hn p r (i+1) _ m o w.1 (by omega) (by simp at j; omega) (by omega)
   ·simp only[loopN,f]
    rw[u,CL d c r (by omega)]
    exact⟨x,rfl,g⟩
  ·rw[z10 q,z16]
   obtain⟨x,f,g⟩:=hn i t (by omega) k
   simp only[loopN,f]; exact⟨x,rfl,g⟩
theorem Ie{α:Type}(w:α→Nat): ∀(l:List α) (i:Nat),dl w (l.take i)≤dl w l
 | [],i=>by simp
 | a::r,0=>by simp only[z78,dl]; omega
 | a::r,i+1=>by have:=Ie w r i; simp only[z129,dl]; omega
theorem rI: ∀(n:Nat),n≤1099511627776→ ∀(a:aB),aU a<n→eQ n a.f0 a.f1 a.f2 a.f3 a.f4=some (mQ a)
 | 0,_,a,h=>by omega
 | n+1,hn,a,h=>by
  have o:=rI n (by omega)
  rw[uJ,LO]; unfold kC; rw[tW,lA,jJ]at h; have f:=hJ aU a.f3; cases decide (a.f0=3)with
  | true=>
   simp only[z19]; have c:BM 16 ([]:List (List UInt8)) [a.f2]=some [a.f2]:=CG (by simp) (by simp [maxLen])
   rw[c]; cases decide (a.f2=[95])<;>rfl
  | false=>
   simp only[z16]; generalize a.f3=l at h f; have m:=oF (body:=gK n (eQ n) l) (fun i=>(gW (l.take i),(i:Int))) (len:=l.length) (r:=(gW l,(l.length:Int),false)) (fun i k=>by
    have d:l[i]? =some l[i]:=z13 k
    generalize l[i]=b at d; have p:=iS aU (z34 d); have e:gW (l.take (i+1))=gW (l.take i)++mQ b:=by rw[←nS d,DU,Iq]
    have g:=yP (l.take (i+1)); have j:pP (l.take (i+1))≤dl aU l:=by
     rw[lA]; exact Ie aU l (i+1)
    rw[e,z15]at g; have c:BM 16 (gW (l.take i)) (mQ b)=some (gW (l.take (i+1))):=by
     rw[e]; exact CG (by omega) (by simp only[maxLen]; omega)
    simp only[gK,eK d,z19,dH,d,z9,o b (by omega),c,bB (show i<4611686018427387904 by omega)]) (by simp only[gK,aS,z16,z84]) (n:=n) (by omega)
   refine(congrArg (fun q=>Option.bind q _) m).trans ?_
   rfl
def val2:Int⊕(Int×Int×Bool)→Int
 | .inl v=>v
 | .inr (v,_,_)=>v
theorem Ft: ∀(n:Nat),n≤1099511627776→ ∀(a:aB) (f:Bool) (d:Nat) (t:Int),d≤10→ -1≤t→t≤300→aU a<n→bU n a.f0 a.f1 a.f2 a.f3 a.f4 f (d:Int) t=some (tk (xok d f a) (fH a) t)
 | 0,_,a,f,d,t,L,t0,Q,h=>by omega
 | n+1,hn,a,f,d,t,L,t0,Q,h=>by
  have D:=Ft n (by omega)
  rw[uI]; unfold kB; rw[tW,lA,jJ]at h; have M:=hJ aU a.f3; have B:=hJ dA a.f4; rw[Gz n a.f0 a.f1 a.f2 a.f3 a.f4 f (by omega) (by omega)]
  have C:=Ew a; cases d with
  | zero=>
   rw[z18 (show((0:Nat):Int)<1 by omega)]
   have e:tk (xok 0 f a) (fH a) t= -1:=rfl; rw[e]; rfl
  | succ d=>
   rw[z10 (show ¬ ((d+1:Nat):Int)<1 by omega)]
   by_cases o:t<1
   ·rw[z18 o,Oi _ _ (by omega)]; rfl
   rw[z10 o,wV]; generalize fH a=q at C ⊢; simp only[z16,z9]; cases hs:shp f a.f0 a.f1 a.f2 a.f3.length a.f4.length with
   | false=>rfl
   | true=>
    simp only[z40,z16,z37]; generalize a.f3=l at h M C ⊢; generalize a.f4=c at h B C ⊢; have G:IntKind.wrap .i64 (((d+1:Nat):Int) - 1)=(d:Int):=by rw[wrap_i64 (by omega) (by omega)]; omega
    rw[wrap_i64 (n:=t - 1) (by omega) (by omega)]
    obtain⟨x,h1,H⟩:=yV (body:=dK n (bU n) f ((d+1:Nat):Int) l) l (xok d f) fH (fun t r=>r.1=t) (fun i b t j E F=>by
     have N:=iS aU (z34 j); have A:=hI j; left
     simp only[dK,eK j,z19,dH,j,z9,z18 E,G,D b f d t (by omega) (by omega) F (by omega),bB (show i<4611686018427387904 by omega)]) (fun i t o A=>⟨(t,(i:Int),false),by
      simp only[dK,z18 (show(i:Int)<(l.length:Int)by omega),z19,z9,z10 (show ¬ 0≤t by omega),z16],rfl⟩) (fun t=>⟨(t,(l.length:Int),false),by simp only[dK,aS,z16,z9],rfl⟩) l 0 (t - 1) n rfl (by omega) (by omega) (by omega) (by omega)
    have h1:loopN (dK n (bU n) f ((d+1:Nat):Int) l) n (t - 1,(0:Int))=some x:=h1; rw[h1]; obtain⟨x1,V,W⟩:=x; simp only at H; subst H; simp only[z9]; rw[Ee (xok d f) fH l (by omega), ←yO]
    have j:=Lw (l.all (xok d f)) (jI l) (t - 1) (by omega)
    obtain⟨y,u,I⟩:=yV (body:=dJ n (bU n) ((d+1:Nat):Int) c) c (cok d) Cg (fun t r=>val2 r=t) (fun i b t m E F=>by
     have N:=iS dA (z34 m); have A:=hI m; have U:=mF b; have R:eQ n b.f0 b.f1 b.f2 b.f3 b.f4=some (mQ b.p):=rI n (by omega) b.p (by omega)
     have P:=Fw b.p; have S:bU n b.f0 b.f1 b.f2 b.f3 b.f4 true (d:Int) t=some (tk (xok d true b.p) (fH b.p) t):=D b.p true d t (by omega) (by omega) F (by omega)
     have w:=Lw (xok d true b.p) (fH b.p) t (by omega)
     have T:bU n b.f5 b.f6 b.f7 b.f8 b.f9 false (d:Int) (tk (xok d true b.p) (fH b.p) t)=some (tk (xok d false b.x) (fH b.x) (tk (xok d true b.p) (fH b.p) t)):=D b.x false d _ (by omega) w.1 (by omega) (by omega)
     have K:=Le b; have O:=Ew b.p; unfold cok; simp only[dJ,eK m,z19,dH,m,z9,z18 E,R,JH n (mQ b.p) (by omega) (by omega),G,S,T,bB (show i<4611686018427387904 by omega)]
     cases ho:EY (mQ b.p)with
     | false=>
      right
      exact⟨.inl (-1),rfl,rfl,by unfold tk; rfl⟩
     | true=>
      left
      simp only[z40,z16,z37]; by_cases g:0≤tk (xok d true b.p) (fH b.p) t
      ·rw[z18 g]
       simp only[z19,z9,z8,Sum.inl.injEq,z42,and_true]; unfold tk at g ⊢; cases hx:xok d true b.p with
       | false=>rw[hx]at g; simp at g
       | true=>
        rw[hx,z37]at g; simp only[z37]; by_cases z:(fH b.p:Int)≤t
        ·rw[z18 z,z19]
         by_cases k:(fH b.x:Int)≤t - fH b.p
         ·rw[z18 k,z18 (show(Cg b:Int)≤t by omega)]
          cases xok d false b.x
          ·rfl
          ·simp only[Ll,z19]; omega
         ·rw[z10 k,z10 (show ¬ (Cg b:Int)≤t by omega)]
          cases xok d false b.x<;>rfl
        ·rw[z10 z]at g; simp at g
      ·rw[z10 g]
       have s:tk (xok d true b.p) (fH b.p) t= -1:=by omega
       simp only[z16,z9,z8,Sum.inl.injEq,z42,and_true]; rw[s]; unfold tk at g ⊢; cases hx:xok d true b.p with
       | false=>rfl
       | true=>
        rw[hx,z37]at g; by_cases z:(fH b.p:Int)≤t
        ·rw[z18 z,z19]at g; omega
        ·rw[z10 (show ¬ (Cg b:Int)≤t by omega),z72]; rfl) (fun i t o A=>⟨.inr (t,(i:Int),false),by
      simp only[dJ,z18 (show(i:Int)<(c.length:Int)by omega),z19,z9,z10 (show ¬ 0≤t by omega),z16],rfl⟩) (fun t=>⟨.inr (t,(c.length:Int),false),by simp only[dJ,aS,z16,z9],rfl⟩) c 0 (tk (l.all (xok d f)) (jI l) (t - 1)) n rfl j.1 (by omega) (by omega) (by omega)
    have u:loopN (dJ n (bU n) ((d+1:Nat):Int) c) n (tk (l.all (xok d f)) (jI l) (t - 1),(0:Int))=some y:=u; rw[u]; simp only[z9]; have J:some (val2 y)=some (tk (l.all (xok d f)&&c.all (cok d)) q t):=by
     rw[I]; congr 1
     by_cases g:0≤tk (l.all (xok d f)) (jI l) (t - 1)
     ·rw[Ee (cok d) Cg c g, ←zF]
      unfold tk at g ⊢; cases hx:l.all (xok d f)with
      | false=>rw[hx]at g; simp at g
      | true=>
       rw[hx,z37]at g; simp only[z37]; by_cases z:(jI l:Int)≤t - 1
       ·rw[z18 z,z19]
        by_cases k:(EI c:Int)≤t - 1 - jI l
        ·rw[z18 k,z18 (show(q:Int)≤t by omega)]
         cases c.all (cok d)
         ·rfl
         ·simp only[Ll,z19]; omega
        ·rw[z10 k,z10 (show ¬ (q:Int)≤t by omega)]
         cases c.all (cok d)<;>rfl
       ·rw[z10 z]at g; simp at g
     ·have s:tk (l.all (xok d f)) (jI l) (t - 1)= -1:=by omega
      rw[s,CL _ _ _ (by omega)]
      unfold tk at g ⊢; cases hx:l.all (xok d f)with
      | false=>rfl
      | true=>
       rw[hx,z37]at g; by_cases z:(jI l:Int)≤t - 1
       ·rw[z18 z,z19]at g; omega
       ·rw[z10 (show ¬ (q:Int)≤t by omega),z72]; rfl
    rw[←J]; rcases y with v | ⟨v,i,b⟩<;>rfl
def fr:List (List UInt8)→List (List UInt8)→Bool
 | _,[]=>true
 | P,v::r=> !decide (v∈P)&&fr (P++[v]) r
theorem Ld: ∀(V W P:List (List UInt8)),fr P (V++W)=(fr P V&&fr (P++V) W)
 | [],W,P=>by simp [fr]
 | v::V,W,P=>by
  simp only[z89,fr,Ld V W (P++[v]),z71,Bool.and_assoc,NZ]
theorem Hw: ∀(V P:List (List UInt8)),P.Nodup→(fr P V=true↔(P++V).Nodup)
 | [],P,h=>by simp [fr,h]
 | v::V,P,h=>by
  simp only[fr,z7,z35,z36]; have e:P++v::V=(P++[v])++V:=by simp
  constructor
  ·rintro ⟨h1,c⟩
   have hn:(P++[v]).Nodup:=by
    rw[z145]; exact⟨h,by simp,fun a f b d=>by simp only[z83]at d; subst d; exact fun e=>h1 (e ▸ f)⟩
   rw[e]; exact(Hw V _ hn).1 c
  ·intro c
   rw[e]at c; have hn:=(z145.1 c).1; refine⟨fun g=> ?_,(Hw V _ hn).2 c⟩
   exact(z145.1 hn).2.2 v g v (by simp) rfl
theorem PO(V:List (List UInt8)):fr [] V=EY V:=by
 rw[OL,Hw V [] OH,Ka]; simp

mutual
theorem Fx: ∀e,(mQ e).length≤fH e
 | .mk k m s l c=>by
  have:=DT l; simp only[mQ,fH]; cases decide (k=3)<;>cases decide (s=[95])<;>simp<;>omega
theorem DT: ∀l,(gW l).length≤jI l
 | []=>by simp [gW]
 | x::r=>by have:=Fx x; have:=DT r; simp only[gW,jI,z15]; omega
end
abbrev JS:=Int×List (List UInt8)
def Gk(d:Nat)(t:JS)(a:aB):JS⊕Unit:=bif xok d true a&&(decide (t.1+fH a≤300)&&fr t.2 (mQ a))then .inl (t.1+fH a,t.2++mQ a)else .inr ()
theorem Dq(d:Nat): ∀(l:List aB) (t:JS),t.1≤300→qP (Gk d) l t=bif l.all (xok d true)&&(decide (t.1+jI l≤300)&&fr t.2 (gW l))then .inl (t.1+jI l,t.2++gW l)else .inr ()
 | [],t,h=>by
  have e:decide (t.1+((jI []:Nat):Int)≤300)=true:=z18 (by simp only[jI]; omega)
  rw[e]; simp [qP,gW,fr,jI]
 | a::r,t,h=>by
  simp only[qP]; have c:jI (a::r)=fH a+jI r:=by simp only[jI]
  have f:gW (a::r)=mQ a++gW r:=by simp only[gW]
  rw[c,f,Ld,z95]; by_cases q:(xok d true a&&(decide (t.1+fH a≤300)&&fr t.2 (mQ a)))=true
  ·have b:Gk d t a= .inl (t.1+fH a,t.2++mQ a):=by unfold Gk; rw[q]; rfl
   simp only[z7,z29]at q; obtain⟨g,i,j⟩:=q; rw[b,g,j,z37,z37]; simp only; rw[Dq d r _ i]; simp only; rw[show t.1+((fH a+jI r:Nat):Int)=t.1+fH a+jI r by omega,z71]
  ·have b:Gk d t a= .inr ():=by unfold Gk; rw[z75]at q; rw[q]; rfl
   rw[b]; simp only; cases h1:xok d true a with
   | false=>rfl
   | true=>
    rw[h1,z37]at q; cases h3:fr t.2 (mQ a)with
    | false=>cases r.all (xok d true)<;>simp
    | true=>
     rw[h3,Ll,z29]at q; rw[z10 (show ¬ t.1+((fH a+jI r:Nat):Int)≤300 by omega)]
     cases r.all (xok d true)<;>rfl
def jv:(Bool×Int×List (List UInt8))⊕(Int×Bool×Int×List (List UInt8))→Option (Bool×Int×List (List UInt8))
 | .inl (v,w,z)=>some (v,w,z)
 | .inr (_,_,w,z)=>some (true,w,z)
def pJ(b:Bool)(c:Int)(a:List (List UInt8))(r:Bool×Int×List (List UInt8)):Prop:=r.1=b∧(b=true→r.2=(c,a))
theorem wF: ∀(n:Nat),n≤1099511627776→ ∀(a:aB) (d:Nat) (c:Int) (g:List (List UInt8)),d≤10→0≤c→c≤300→(g.length:Int)≤c→aU a+400<n→ ∃r,bJ n a.f0 a.f1 a.f2 a.f3 a.f4 (11 - (d:Int)) c g=some r∧pJ (xok d true a&&(decide (c+fH a≤300)&&fr g (mQ a))) (c+fH a) (g++mQ a) r
 | 0,_,a,d,c,g,Z,Q,R,M,h=>by omega
 | n+1,hn,a,d,c,g,Z,Q,R,M,h=>by
  have ih:=wF n (by omega)
  rw[qM]; unfold gI; rw[tW,lA,jJ]at h; have hl:=hJ aU a.f3; have hp:=Ew a; have A:=LO a; rw[BS n _ _ _ _ (by omega) (by omega),wrap_i64 (n:=c+1) (by omega) (by omega)]
  cases d with
  | zero=>
   rw[z18 (show(10:Int)<11 - ((0:Nat):Int)by omega)]
   exact⟨_,rfl,rfl,fun h=>by cases h⟩
  | succ d=>
   rw[z10 (show ¬ (10:Int)<11 - ((d+1:Nat):Int)by omega),wV]
   by_cases y:300<c+1
   ·rw[z18 y,z10 (show ¬ c+(fH a:Int)≤300 by omega)]
    refine⟨_,rfl, ?_, ?_⟩<;>cases shp true a.f0 a.f1 a.f2 a.f3.length a.f4.length<;>cases (a.f3.all (xok d true)&&a.f4.all (cok d))<;>simp
   rw[z10 y]; have j:=MW a.f0 a.f1 a.f2 a.f3.length a.f4.length; cases F:shp true a.f0 a.f1 a.f2 a.f3.length a.f4.length with
   | false=>
    rw[F]at j; refine⟨(false,c+1,g), ?_,rfl,fun h=>by cases h⟩
    revert j
    cases decide (6<a.f0)<;>cases decide ((0:Int)<a.f4.length)<;>cases xU a.f0 a.f1 a.f2 a.f3.length<;>intro j<;>first | rfl | cases j
   | true=>
    rw[F]at j; simp only[z7,z35]at j; obtain⟨p1,G,D⟩:=j; have B:a.f4=[]:=by
     rw[z36]at G; cases m:a.f4 with
     | nil=>rfl
     | cons x r=>rw[m]at G; simp only[z20]at G; omega
    rw[p1,G,D]; have J:a.f4.all (cok d)=true:=by rw[B]; rfl
    have Y:EI a.f4=0:=by rw[B]; rfl
    rw[J,Ll]; simp only[z16,z9,z40,z37]; generalize fH a=q at hp ⊢; have H:IntKind.wrap .i64 (11 - ((d+1:Nat):Int)+1)=11 - (d:Int):=by rw[wrap_i64 (by omega) (by omega)]; omega
    have o: ∀(l:List aB),dl aU l+401≤n→ ∀(body:Int×Int×List (List UInt8)→Option ((Int×Int×List (List UInt8))⊕((Bool×Int×List (List UInt8))⊕(Int×Bool×Int×List (List UInt8))))),(∀(i:Nat) b (t:JS),l[i]? =some b→body ((i:Int),t.1,t.2)=(bJ n b.f0 b.f1 b.f2 b.f3 b.f4 (11 - (d:Int)) t.1 t.2).bind fun r=>bif !r.1 then some (.inr (.inl (false,r.2.1,r.2.2)))else some (.inl (((i+1:Nat):Int),r.2.1,r.2.2)))→(∀t:JS,body ((l.length:Int),t.1,t.2)=some (.inr (.inr ((l.length:Int),false,t.1,t.2))))→
      ∀t0:JS,0≤t0.1→t0.1≤300→(t0.2.length:Int)≤t0.1→ ∃x,loopN body n ((0:Int),t0.1,t0.2)=some x∧(match qP (Gk d) l t0 with | .inl t=>x= .inr ((l.length:Int),false,t.1,t.2) | .inr _=> ∃u v,x= .inl (false,u,v)):=by
     intro l hw body F he t0 g0 W X; have hll:=hJ aU l; obtain⟨x,x1,s⟩:=BY (body:=body) l (Gk d) (fun t i=>((i:Int),t.1,t.2)) (fun t=> .inr ((l.length:Int),false,t.1,t.2)) (fun _ x=> ∃u v,x= .inl (false,u,v)) (fun t=>0≤t.1∧t.1≤300∧(t.2.length:Int)≤t.1) (fun i b t k y=>by
      have K:=iS aU (z34 k); obtain⟨r,r1,r2,O⟩:=ih b d t.1 t.2 (by omega) y.1 y.2.1 y.2.2 (by omega)
      rw[F i b t k,r1]; unfold Gk; obtain⟨rb,rc,rn⟩:=r; simp only at r2 O; simp only[z9]; rw[r2]; by_cases hz:(xok d true b&&(decide (t.1+fH b≤300)&&fr t.2 (mQ b)))=true
      ·left
       have P:=O hz; simp only[z42]at P; obtain⟨rfl,rfl⟩:=P; rw[hz]; simp only[z7,z29]at hz; have hvc:=Fx b; refine⟨_,rfl,⟨?_,hz.2.1, ?_⟩,rfl⟩
       ·show 0≤t.1+(fH b:Int); omega
       ·show((t.2++mQ b).length:Int)≤t.1+(fH b:Int)
        rw[z15]; omega
      ·right
       rw[z75]at hz; rw[hz]; exact⟨(),_,rfl,rfl,_,_,rfl⟩) (fun t _=>he t) (n:=n) (by omega) (t0:=t0) ⟨g0,W,X⟩
     refine⟨x,x1, ?_⟩
     revert s
     cases qP (Gk d) l t0<;>exact id
    have p: ∀(t0:JS) (x:(Bool×Int×List (List UInt8))⊕(Int×Bool×Int×List (List UInt8))),t0.1=c+1→(match qP (Gk d) a.f3 t0 with | .inl t=>x= .inr ((a.f3.length:Int),false,t.1,t.2) | .inr _=> ∃u v,x= .inl (false,u,v))→
      ∃r,jv x=some r∧pJ (a.f3.all (xok d true)&&(decide (c+(q:Int)≤300)&&fr t0.2 (gW a.f3))) (c+q) (t0.2++gW a.f3) r:=by
     intro t0 x S m; rw[Dq d a.f3 t0 (by omega),S,show c+1+(jI a.f3:Int)=c+q by omega]at m
     cases hz:(a.f3.all (xok d true)&&(decide (c+(q:Int)≤300)&&fr t0.2 (gW a.f3)))with
     | true=>
      rw[hz]at m; simp only[z19]at m; subst m; exact⟨_,rfl,rfl,fun _=>rfl⟩
     | false=>
      rw[hz]at m; simp only[z16]at m; obtain⟨u,v,rfl⟩:=m; exact⟨_,rfl,rfl,fun h=>by cases h⟩
    by_cases E:a.f0=3
    ·have L:a.f3=[]:=by
      rw[E]at D; have e:xU 3 a.f1 a.f2 a.f3.length=(decide (a.f1=0)&&(Cb a.f2&&decide ((a.f3.length:Int)=0))):=rfl; rw[e]at D; simp only[z7,z29]at D; have:=D.2.2; cases m:a.f3 with
      | nil=>rfl
      | cons x r=>rw[m]at this; simp only[z20]at this; omega
     rw[z18 E]; rw[z18 E]at A; simp only[z19]at A; rw[A]; have C:gW a.f3=[]:=by rw[L]; rfl
     cases hu:decide (a.f2=[95])with
     | true=>
      simp only[z40,z19,z9,z16]; obtain⟨x,x1,s⟩:=o a.f3 (by omega) (bT n (bJ n) (11 - ((d+1:Nat):Int)) a.f3) (fun i b t k=>by
       have N:=hI k; simp only[bT,eK k,z19,dH,k,z9,H,bB (show i<4611686018427387904 by omega)]) (fun t=>by simp only[bT,aS,z16]) (c+1,g) (by show 0≤c+1; omega) (by show c+1≤300; omega) (by show(g.length:Int)≤c+1; omega)
      have f:=p (c+1,g) x rfl s; rw[C]at f; rw[x1]; obtain⟨r,f1,f2⟩:=f; exact⟨r,by rcases x with⟨u,v,w⟩ | ⟨u,v,w,z⟩<;>exact f1,f2⟩
     | false=>
      simp only[OI,z19,z9]; rw[Ff n g a.f2 (by omega) (by omega)]
      simp only[z9]; cases K:decide (a.f2∈g)with
      | true=>
       have U:fr g [a.f2]=false:=by simp only[fr,K]; rfl
       have V:(a.f3.all (xok d true)&&(decide (c+(q:Int)≤300)&&fr g [a.f2]))=false:=by rw[U]; cases a.f3.all (xok d true)<;>simp
       rw[z16,V]; exact⟨_,rfl,rfl,fun h=>by cases h⟩
      | false=>
       have I:BM 16 g [a.f2]=some (g++[a.f2]):=CG (by simp only[z60]; omega) (by simp only[z60,maxLen]; omega)
       rw[I]; simp only[z16,z9]; obtain⟨x,x1,s⟩:=o a.f3 (by omega) (eB n (bJ n) (11 - ((d+1:Nat):Int)) a.f3) (fun i b t k=>by
        have N:=hI k; simp only[eB,eK k,z19,dH,k,z9,H,bB (show i<4611686018427387904 by omega)]) (fun t=>by simp only[eB,aS,z16]) (c+1,g++[a.f2]) (by show 0≤c+1; omega) (by show c+1≤300; omega) (by show((g++[a.f2]).length:Int)≤c+1; rw[z15,z60]; omega)
       have f:=p (c+1,g++[a.f2]) x rfl s; rw[C,Lo]at f; have T:fr g [a.f2]=fr (g++[a.f2]) []:=by simp only[fr,K]; rfl
       rw[T,x1]; obtain⟨r,f1,f2⟩:=f; exact⟨r,by rcases x with⟨u,v,w⟩ | ⟨u,v,w,z⟩<;>exact f1,f2⟩
    ·rw[z10 E]at A ⊢
     simp only[z16]at A; rw[A]; simp only[z16,z9]; obtain⟨x,x1,s⟩:=o a.f3 (by omega) (bT n (bJ n) (11 - ((d+1:Nat):Int)) a.f3) (fun i b t k=>by
      have N:=hI k; simp only[bT,eK k,z19,dH,k,z9,H,bB (show i<4611686018427387904 by omega)]) (fun t=>by simp only[bT,aS,z16]) (c+1,g) (by show 0≤c+1; omega) (by show c+1≤300; omega) (by show(g.length:Int)≤c+1; omega)
     have f:=p (c+1,g) x rfl s; rw[x1]; obtain⟨r,f1,f2⟩:=f; exact⟨r,by rcases x with⟨u,v,w⟩ | ⟨u,v,w,z⟩<;>exact f1,f2⟩
mutual
def nmx:aB→List (List UInt8)→List (List UInt8)
 | .mk _ _ _ l c,a=>nmc c (Nh l a)
def Nh:List aB→List (List UInt8)→List (List UInt8)
 | [],a=>a
 | x::r,a=>Nh r (nmx x a)
def nmc:List aA→List (List UInt8)→List (List UInt8)
 | [],a=>a
 | x::r,a=>nmc r (nmk x a)
def nmk:aA→List (List UInt8)→List (List UInt8)
 | .two p x,_=>nmx x (mQ p)
end
theorem nmx_e(a:aB)(b:List (List UInt8)):nmx a b=nmc a.f4 (Nh a.f3 b):=by cases a; simp only[nmx]; rfl
theorem nmk_e(a:aA)(b:List (List UInt8)):nmk a b=nmx a.x (mQ a.p):=by cases a; simp only[nmk]; rfl
def jst{α:Type}(d:α→Bool)(c:α→Nat)(b:α→List (List UInt8)→List (List UInt8))(t:JS)(a:α):JS⊕Unit:=bif d a&&decide (t.1+c a≤300)then .inl (t.1+c a,b a t.2)else .inr ()
def yJ{α:Type}(c:α→List (List UInt8)→List (List UInt8)):List α→List (List UInt8)→List (List UInt8)
 | [],b=>b
 | a::r,b=>yJ c r (c a b)
theorem Df: ∀(l:List aB) (a:List (List UInt8)),Nh l a=yJ nmx l a
 | [],a=>rfl
 | x::r,a=>by simp only[Nh,yJ,Df r]
theorem GI: ∀(l:List aA) (a:List (List UInt8)),nmc l a=yJ nmk l a
 | [],a=>rfl
 | x::r,a=>by simp only[nmc,yJ,GI r]
theorem GO{α:Type}(b:α→Bool)(c:α→Nat)(d:α→List (List UInt8)→List (List UInt8)): ∀(l:List α) (t:JS),t.1≤300→qP (jst b c d) l t=bif l.all b&&decide (t.1+hG c l≤300)then .inl (t.1+hG c l,yJ d l t.2)else .inr ()
 | [],t,h=>by
  have e:decide (t.1+((hG c []:Nat):Int)≤300)=true:=z18 (by simp only[hG]; omega)
  rw[e]; simp [qP,hG,yJ]
 | a::r,t,h=>by
  simp only[qP]; have g:hG c (a::r)=c a+hG c r:=rfl; rw[g,z95]; by_cases q:(b a&&decide (t.1+c a≤300))=true
  ·have f:jst b c d t a= .inl (t.1+c a,d a t.2):=by unfold jst; rw[q]; rfl
   simp only[z7,z29]at q; rw[f,q.1,z37]; simp only; rw[GO b c d r _ q.2]; simp only; rw[show t.1+((c a+hG c r:Nat):Int)=t.1+c a+hG c r by omega]
   rfl
  ·have f:jst b c d t a= .inr ():=by unfold jst; rw[z75]at q; rw[q]; rfl
   rw[f]; simp only; cases h1:b a with
   | false=>rfl
   | true=>
    rw[h1,z37,z29]at q; rw[z10 (show ¬ t.1+((c a+hG c r:Nat):Int)≤300 by omega)]
    cases r.all b<;>rfl
theorem BZ{α:Type}{body:Int×Int×List (List UInt8)→Option ((Int×Int×List (List UInt8))⊕((Bool×Int×List (List UInt8))⊕(Int×Bool×Int×List (List UInt8))))}(l:List α)(b:α→Bool)(c:α→Nat)(d:α→List (List UInt8)→List (List UInt8))
  (m: ∀(i:Nat) a (t:JS),l[i]? =some a→0≤t.1→t.1≤300→ ∃u v,body ((i:Int),t.1,t.2)=some (bif b a&&decide (t.1+c a≤300)then .inl (((i+1:Nat):Int),t.1+c a,d a t.2)else .inr (.inl (false,u,v))))(k: ∀t:JS,body ((l.length:Int),t.1,t.2)=some (.inr (.inr ((l.length:Int),false,t.1,t.2)))){n:Nat}(hn:l.length<n)
  (t0:JS)(g0:0≤t0.1)(e:t0.1≤300): ∃x,loopN body n ((0:Int),t0.1,t0.2)=some x∧(bif l.all b&&decide (t0.1+hG c l≤300)then x= .inr ((l.length:Int),false,t0.1+hG c l,yJ d l t0.2)else ∃u v,x= .inl (false,u,v)):=by
 obtain⟨x,x1,g⟩:=BY (body:=body) l (jst b c d) (fun t i=>((i:Int),t.1,t.2)) (fun t=> .inr ((l.length:Int),false,t.1,t.2)) (fun _ x=> ∃u v,x= .inl (false,u,v)) (fun t=>0≤t.1∧t.1≤300) (fun i a t j f=>by
  obtain⟨u,v,h⟩:=m i a t j f.1 f.2; unfold jst; by_cases z:(b a&&decide (t.1+c a≤300))=true
  ·rw[z]at h ⊢
   simp only[z7,z29]at z; left; exact⟨_,rfl,⟨by show 0≤t.1+(c a:Int); omega,z.2⟩,h⟩
  ·rw[z75]at z
   rw[z]at h ⊢; right; exact⟨(),_,rfl,h,_,_,rfl⟩) (fun t _=>k t) hn (t0:=t0) ⟨g0,e⟩
 refine⟨x,x1, ?_⟩
 rw[GO b c d l t0 e]at g; revert g
 cases (l.all b&&decide (t0.1+hG c l≤300))<;>exact id
theorem tO: ∀(n:Nat),n≤1099511627776→ ∀(a:aB) (d:Nat) (c:Int) (g:List (List UInt8)),d≤10→0≤c→c≤300→aU a+400<n→ ∃r,aV n a.f0 a.f1 a.f2 a.f3 a.f4 (11 - (d:Int)) c g=some r∧pJ (xok d false a&&decide (c+fH a≤300)) (c+fH a) (nmx a g) r
 | 0,_,a,d,c,g,X,S,T,h=>by omega
 | n+1,hn,a,d,c,g,X,S,T,h=>by
  have J:=tO n (by omega)
  rw[pA]; unfold fJ; rw[tW,lA,jJ]at h; have Z:=hJ aU a.f3; have C:=hJ dA a.f4; have w:=Ew a; rw[BS n _ _ _ _ (by omega) (by omega),wrap_i64 (n:=c+1) (by omega) (by omega)]
  cases d with
  | zero=>
   rw[z18 (show(10:Int)<11 - ((0:Nat):Int)by omega)]
   exact⟨_,rfl,rfl,fun h=>by cases h⟩
  | succ d=>
   rw[z10 (show ¬ (10:Int)<11 - ((d+1:Nat):Int)by omega),wV]
   by_cases I:300<c+1
   ·rw[z18 I,z10 (show ¬ c+(fH a:Int)≤300 by omega),z72]
    exact⟨_,rfl,rfl,fun h=>by cases h⟩
   rw[z10 I]; have e:=KT a.f0 a.f1 a.f2 a.f3.length a.f4.length; cases hs:shp false a.f0 a.f1 a.f2 a.f3.length a.f4.length with
   | false=>
    rw[hs]at e; refine⟨(false,c+1,g), ?_,rfl,fun h=>by cases h⟩
    generalize decide (a.f2=[95])=z1 at e ⊢; generalize decide ((6:Int)<a.f4.length)=z2 at e ⊢; revert e
    cases xU a.f0 a.f1 a.f2 a.f3.length<;>cases decide (a.f0=3)<;>cases decide (a.f0=9)<;>cases decide ((0:Int)<a.f4.length)<;>cases z1<;>cases z2<;>intro e<;>first | rfl | cases e
   | true=>
    rw[hs]at e; simp only[z7]at e; obtain⟨p1,K,L,M⟩:=e; simp only[Bool.not_not]at L; have D:(bif decide (a.f0=3)then some (decide (a.f2=[95]))else some false)=some false:=by
     generalize decide (a.f2=[95])=z1 at K ⊢; revert K
     cases decide (a.f0=3)<;>cases z1<;>simp
    rw[z35]at M; rw[p1,L,M]; simp only[z16,z9,z40,z37,D]; rw[nmx_e,GI,Df]; rw[yO,zF]at w; generalize fH a=q at w ⊢; generalize a.f3=l at h Z w ⊢; generalize a.f4=o at h C w ⊢; have H:IntKind.wrap .i64 (11 - ((d+1:Nat):Int)+1)=11 - (d:Int):=by rw[wrap_i64 (by omega) (by omega)]; omega
    obtain⟨x,x1,m⟩:=BZ (body:=cQ n (aV n) (11 - ((d+1:Nat):Int)) l) l (xok d false) fH nmx (fun i b t f t0 F=>by
     have Y:=hI f; have hm:=iS aU (z34 f); obtain⟨⟨N,z,A⟩,r1,r2,j⟩:=J b d t.1 t.2 (by omega) t0 F (by omega)
     simp only at r2 j; refine⟨z,A, ?_⟩
     simp only[cQ,eK f,z19,dH,f,z9,H,r1,bB (show i<4611686018427387904 by omega)]
     rw[r2]; revert j
     cases (xok d false b&&decide (t.1+fH b≤300))with
     | true=>
      intro j; have s:=j rfl; simp only[z42]at s; obtain⟨rfl,rfl⟩:=s; rfl
     | false=>intro _; rfl) (fun t=>by simp only[cQ,aS,z16]) (n:=n) (by omega) (c+1,g) (by show 0≤c+1; omega) (by show c+1≤300; omega)
    have x1:loopN (cQ n (aV n) (11 - ((d+1:Nat):Int)) l) n ((0:Int),c+1,g)=some x:=x1; simp only[x1,z9]; simp only at m; cases hz:(l.all (xok d false)&&decide (c+1+(hG fH l:Int)≤300))with
    | false=>
     rw[hz]at m; simp only[z16]at m; obtain⟨u,v,rfl⟩:=m; have U:(l.all (xok d false)&&o.all (cok d)&&decide (c+(q:Int)≤300))=false:=by
      cases h1:l.all (xok d false)with
      | false=>rfl
      | true=>
       rw[h1,z37,z36]at hz; rw[z10 (show ¬ c+(q:Int)≤300 by omega),z72]
     rw[U]; exact⟨_,rfl,rfl,fun h=>by cases h⟩
    | true=>
     rw[hz]at m; simp only[z19]at m; subst m; simp only[z7,z29]at hz; rw[hz.1,z37]; simp only; obtain⟨y,G,k⟩:=BZ (body:=cP n (aV n) (11 - ((d+1:Nat):Int)) o) o (cok d) Cg nmk (fun i b t f t0 F=>by
      have Y:=hI f; have hm:=iS dA (z34 f); have hw:=mF b; have W:=Le b; obtain⟨⟨N,z,A⟩,r1,r2,j⟩:=wF n (by omega) b.p d t.1 [] (by omega) t0 F (by simpa using t0) (by omega)
      have r1:bJ n b.f0 b.f1 b.f2 b.f3 b.f4 (11 - (d:Int)) t.1 []=some (N,z,A):=r1; simp only at r2 j; simp only[cP,eK f,z19,dH,f,z9,H,r1,bB (show i<4611686018427387904 by omega)]
      rw[PO]at r2 j; rw[r2]; unfold cok; rw[nmk_e]; cases h1:(xok d true b.p&&(decide (t.1+fH b.p≤300)&&EY (mQ b.p)))with
      | false=>
       refine⟨z,A, ?_⟩
       have V:(EY (mQ b.p)&&(xok d true b.p&&xok d false b.x)&&decide (t.1+Cg b≤300))=false:=by
        cases h2:xok d true b.p with
        | false=>cases EY (mQ b.p)<;>rfl
        | true=>
         cases h3:EY (mQ b.p)with
         | false=>rfl
         | true=>
          rw[h2,h3,z37,Ll,z36]at h1; rw[z10 (show ¬ t.1+(Cg b:Int)≤300 by omega),z72]
       rw[V]; rfl
      | true=>
       rw[h1]at j; have s:=j rfl; simp only[z42,NZ]at s; obtain⟨rfl,rfl⟩:=s; simp only[z7,z29]at h1; rw[h1.1,h1.2.2,z37,z37]; obtain⟨⟨sb,Q,R⟩,E,O,B⟩:=J b.x d (t.1+fH b.p) (mQ b.p) (by omega) (by omega) h1.2.1 (by omega)
       have E:aV n b.f5 b.f6 b.f7 b.f8 b.f9 (11 - (d:Int)) (t.1+fH b.p) (mQ b.p)=some (sb,Q,R):=E; simp only at O B; simp only[z40,z16,E,z9]; rw[O]; rw[show t.1+(Cg b:Int)=t.1+fH b.p+fH b.x by omega]
       refine⟨Q,R, ?_⟩
       revert B
       cases (xok d false b.x&&decide (t.1+(fH b.p:Int)+fH b.x≤300))with
       | true=>
        intro B; have P:=B rfl; simp only[z42]at P; obtain⟨rfl,rfl⟩:=P; rfl
       | false=>intro _; rfl) (fun t=>by simp only[cP,aS,z16]) (n:=n) (by omega) (c+1+(hG fH l:Int),yJ nmx l g) (by show 0≤c+1+(hG fH l:Int); omega) hz.2
     have G:loopN (cP n (aV n) (11 - ((d+1:Nat):Int)) o) n ((0:Int),c+1+(hG fH l:Int),yJ nmx l g)=some y:=G; rw[G]; simp only at k; rw[show c+1+(hG fH l:Int)+(hG Cg o:Int)=c+q by omega]at k
     cases hz2:(o.all (cok d)&&decide (c+(q:Int)≤300))with
     | true=>
      rw[hz2]at k; simp only[z19]at k; subst k; exact⟨_,rfl,rfl,fun _=>rfl⟩
     | false=>
      rw[hz2]at k; simp only[z16]at k; obtain⟨u,v,rfl⟩:=k; exact⟨_,rfl,rfl,fun h=>by cases h⟩
theorem Aq(n:Nat)(hn:n≤1099511627776)(a:aB)(h:aU a<n):kJ n a.f0 a.f1 a.f2 a.f3 a.f4=some (rP a):=by
 unfold kJ rP; have h1:=Ft n hn a false 10 300 (by omega) (by omega) (by omega) h
 have h1:bU n a.f0 a.f1 a.f2 a.f3 a.f4 false (10:Int) 300=_:=h1; rw[h1]; unfold tk; simp only[z9,z8]; cases q:(xok 10 false a&&decide ((fH a:Int)≤300))with
 | true=>
  simp only[z7,z29]at q; rw[z19]; exact z18 (by omega)
 | false=>rfl
theorem At(n:Nat)(hn:n≤1099511627776)(a:aB)(h:aU a+400<n):kL n a.f0 a.f1 a.f2 a.f3 a.f4=some (rP a):=by
 unfold kL rP; obtain⟨r,r1,r2,b⟩:=tO n hn a 10 0 [] (by omega) (by omega) (by omega) h
 have r1:aV n a.f0 a.f1 a.f2 a.f3 a.f4 (1:Int) 0 []=some r:=r1; rw[r1]; simp only[z9,z8]; rw[r2,Int.zero_add]
theorem ckA{a b:Nat}(h:a+b≤9223372036854775807):ck (decide (a+b≤9223372036854775807))=some ():=by rw[z18 h]; rfl
theorem yK{α:Type}{l:List α}{i:Nat}{a d:α}(h:l[i]? =some a):l.getD i d=a:=by rw[z87,h]; rfl
theorem pL{α:Type}(w:α→Nat): ∀(l:List α) (i:Nat),dl w (l.take i)≤dl w l
 | [],i=>by simp
 | a::l,0=>by simp only[z78,dl]; omega
 | a::l,i+1=>by
  have:=pL w l i; simp only[z129,dl]; omega
theorem zR{α:Type}(f:α→List UInt8)(w:α→Nat)(c:List UInt8): ∀(l:List α),(∀a∈l,(f a).length+c.length≤40*(1+w a))→(Lib.joinTail c (l.map f)).length+40≤40*dl w l
 | [],_=>by simp [Lib.joinTail,dl]
 | a::l,h=>by
  have h1:=zR f w c l (fun b d=>h b (z28 _ d))
  have g:=h a z33; simp only[Lib.joinTail,z50,OO,z15,dl]at h1 ⊢; omega
theorem yA{α:Type}(f:α→List UInt8)(w:α→Nat)(c:List UInt8): ∀(l:List α),(∀a∈l,(f a).length+c.length≤40*(1+w a))→(Lib.join (l.map f) c).length+40≤40*dl w l
 | [],_=>by simp [Lib.join_nil,dl]
 | a::l,h=>by
  have h1:=zR f w c l (fun b d=>h b (z28 _ d))
  have g:=h a z33; rw[z50,Lib.join_cons]; simp only[z15,dl]; omega
theorem JJ(x:List UInt8)(a:List UInt8): ∀l:List (List UInt8),Lib.join (l++[x]) a=bif l.isEmpty then x else Lib.join l a++(a++x)
 | []=>Lib.join_one x a
 | y::l=>by
  rw[z89,Lib.join_cons,Lib.join_cons]; simp only[List.isEmpty_cons,z16,Lib.joinTail,z154,z50,z81,List.flatten_append,OO,List.flatten_nil,Lo,z71]
theorem Dr{α:Type}{f:α→List UInt8}{c:List UInt8}{l:List α}{i:Nat}{a:α}(h:l[i]? =some a):Lib.join ((l.take (i+1)).map f) c=bif decide ((0:Int)<(i:Int))then Lib.join ((l.take i).map f) c++(c++f a)else f a:=by
 rw[←nS h,z154,z50,z81,JJ]; have d:=bP h; cases i with
 | zero=>rfl
 | succ i=>
  have:((l.take (i+1)).map f).isEmpty=false:=by
   cases l with
   | nil=>simp at d
   | cons b l=>rfl
  rw[this,z18 (by omega)]; rfl
theorem LR{v:Nat}(h:v<10):EC [IntKind.wrap .u8 (IntKind.wrap .i64 ((48:Int)+(v:Int)))]=some [UInt8.ofNat (48+v)]:=by
 have e:IntKind.wrap .i64 ((48:Int)+(v:Int))=((48+v:Nat):Int):=by rw[wrap_i64 (by omega) (by omega)]; omega
 have:v=0∨v=1∨v=2∨v=3∨v=4∨v=5∨v=6∨v=7∨v=8∨v=9:=by omega
 rw[e]; rcases this with rfl | rfl | rfl | rfl | rfl | rfl | rfl | rfl | rfl | rfl<;>rfl
theorem Et: ∀(k v:Nat),v<10 ^ (k+1)→(Lib.decDigits v).length≤k+1
 | k,v,h=>by
  by_cases a:v<10
  ·rw[Lib.decDigits_one a,z60]; omega
  ·cases k with
   | zero=>rw[z32,Nat.pow_one]at h; omega
   | succ k=>
    have:=Et k (v / 10) (Nat.div_lt_of_lt_mul (by rw[OE]; exact h))
    rw[Lib.decDigits,dif_neg a,z15,z60]; omega
theorem Dp: ∀(k n v:Nat),v<10 ^ (k+1)→k<16→k<n→hH n (v:Int)=some (Lib.decDigits v)
 | k,0,v,_,_,h=>by omega
 | k,n+1,v,b,i,hn=>by
  rw[vQ]; unfold lE; rw[z10 (show ¬ ((v:Nat):Int)<0 by omega),z16]
  by_cases h:v<10
  ·rw[z18 (show((v:Nat):Int)<10 by omega),z19,LR h,Lib.decDigits_one h]; rfl
  ·rw[z10 (show ¬ ((v:Nat):Int)<10 by omega),z16]
   cases k with
   | zero=>rw[z32,Nat.pow_one]at b; omega
   | succ k=>
    have g:(10:Nat) ^ (k+1+1)≤10 ^ 17:=Nat.pow_le_pow_right (by omega) (by omega)
    have a:v / 10<10 ^ (k+1):=Nat.div_lt_of_lt_mul (by rw[OE]; exact b)
    have c:Int.tdiv (v:Int) 10=((v / 10:Nat):Int):=rfl; have d:Int.tmod (v:Int) 10=((v % 10:Nat):Int):=rfl; have f:IntKind.wrap .i64 ((v / 10:Nat):Int)=((v / 10:Nat):Int):=wrap_i64 (by omega) (by omega)
    have j:=Et k (v / 10) a; rw[c,d,f,Dp k n (v / 10) a (by omega) (by omega),z9,LR (Nat.mod_lt _ (by omega)),z9,ckA (by simp only[z60]; omega),z9]
    conv=>rhs; rw[Lib.decDigits,dif_neg h]
theorem Kl{n:Nat}{v:Int}(h0:0≤v)(h1:v≤1000000000000)(hn:20<n):hH n v=some (Lib.itoa v):=by
 obtain⟨k,rfl⟩: ∃k:Nat,v=k:=⟨v.toNat,by omega⟩
 rw[Lib.itoa_nonneg]; exact Dp 12 n k (by omega) (by omega) (by omega)
theorem Mz{v:Int}(h0:0≤v)(h1:v≤1000000000000):(Lib.itoa v).length≤20:=by
 obtain⟨k,rfl⟩: ∃k:Nat,v=k:=⟨v.toNat,by omega⟩
 rw[Lib.itoa_nonneg]; have:=Et 12 k (by omega)
 omega
def zE:aB:= .mk 0 0 [] [] []
def tx:Nat→aB→List UInt8
 | 0,_=> []
 | d+1,e=>
  bif decide (e.f0=1)then Lib.itoa e.f1 else bif decide (e.f0=2)then e.f2 else bif decide (e.f0=3)then e.f2
  else bif decide (e.f0=4)then([123]++Lib.join (e.f3.map (tx d)) [44,32])++[125]
  else bif decide (e.f0=5)then([91]++Lib.join (e.f3.map (tx d)) [44,32])++[93]
  else bif decide (e.f0=6)then((([91]++Lib.join ((e.f3.take (e.f3.length - 1)).map (tx d)) [44,32])++[32,124,32])++tx d (e.f3.getD (e.f3.length - 1) zE))++[93]
  else bif decide (e.f0=7)then((((([40]++tx d (e.f3.getD 0 zE))++[32])++e.f2)++[32])++tx d (e.f3.getD 1 zE))++[41]
  else bif decide (e.f0=8)then((e.f2++[40])++Lib.join (e.f3.map (tx d)) [44,32])++[41]
  else((([99,97,115,101,32]++tx d (e.f3.getD 0 zE))++[32,111,102,32])++Lib.join (e.f4.map fun c=>(tx d c.p++[32,45,62,32])++tx d c.x) [59,32])++[32,101,110,100]
def txc(d:Nat)(c:aA):List UInt8:=(tx d c.p++[32,45,62,32])++tx d c.x
structure Kinds (e:aB):Prop where
 k1:e.f0=1→0≤e.f1∧e.f1≤1000000000000
 k6:e.f0=6→2≤e.f3.length
 k7:e.f0=7→e.f3.length=2
 k9:e.f0≠1→e.f0≠2→e.f0≠3→e.f0≠4→e.f0≠5→e.f0≠6→e.f0≠7→e.f0≠8→e.f3.length=1
theorem yN{d:Nat}{f:Bool}{e:aB}(h:xok (d+1) f e=true):Kinds e∧(∀a∈e.f3,xok d f a=true)∧ ∀c∈e.f4,xok d true c.p=true∧xok d false c.x=true:=by
 rw[wV,z7,z7]at h; obtain⟨b,i,g⟩:=h; refine⟨?_,z14.1 i,fun c j=> ?_⟩
 ·have h0:xU e.f0 e.f1 e.f2 e.f3.length=true:=by
   unfold shp at b; cases h9:decide (e.f0=9)with
   | true=>rw[h9]at b; simp only[z19,z7]at b; exact b.1.2
   | false=>rw[h9]at b; simp only[z16,z7]at b; exact b.2.1
  unfold xU at h0; refine⟨fun k=> ?_,fun k=> ?_,fun k=> ?_,fun k1 l m o q k6 k7 r=> ?_⟩
  ·rw[k]at h0
   have h0:((decide (0≤e.f1)&&decide (e.f1≤1000000000000))&&(decide (e.f2=[])&&decide ((e.f3.length:Int)=0)))=true:=h0; simp only[z7,z29]at h0; exact h0.1
  ·rw[k]at h0
   have h0:(decide (e.f1=0)&&(decide (e.f2=[])&&(decide (2≤(e.f3.length:Int))&&decide ((e.f3.length:Int)≤6))))=true:=h0; simp only[z7,z29]at h0; omega
  ·rw[k]at h0
   have h0:(decide (e.f1=0)&&(Jb e.f2&&decide ((e.f3.length:Int)=2)))=true:=h0; simp only[z7,z29]at h0; omega
  ·rw[z10 k1,z10 l,z10 m,z10 o,z10 q,z10 k6,z10 k7,z10 r]at h0
   simp only[z16]at h0; cases h9:decide (e.f0=9)with
   | false=>rw[h9]at h0; cases h0
   | true=>
    rw[h9]at h0; simp only[z19,z7,z29]at h0; omega
 ·have:=z14.1 g c j
  unfold cok at this; simp only[z7]at this; exact this.2
theorem wE_d(a:aB):aU a=3+a.f2.length+dl aU a.f3+dl dA a.f4:=by rw[tW,lA,jJ]
theorem pH: ∀(d:Nat) (f:Bool) (e:aB),xok d f e=true→(tx d e).length+20≤40*aU e
 | 0,f,e,h=>by cases h
 | d+1,f,e,h=>by
  obtain⟨j,k,z⟩:=yN h; have G:=yA (tx d) aU [44,32] e.f3 (fun a g=>by have:=pH d f a (k a g); simp only[z20,z24]; omega)
  have A:=yA (txc d) dA [59,32] e.f4 (fun c B=>by
   have a1:=pH d true c.p (z c B).1; have a2:=pH d false c.x (z c B).2; have a3:=mF c; simp only[txc,z15,z20,z24]; omega)
  have D:=yA (tx d) aU [44,32] (e.f3.take (e.f3.length - 1)) (fun a g=>by have:=pH d f a (k a (z85 g)); simp only[z20,z24]; omega)
  have H:=pL aU e.f3 (e.f3.length - 1); have I:=wE_d e; have mem: ∀i,i<e.f3.length→(tx d (e.f3.getD i zE)).length+20≤40*aU (e.f3.getD i zE)∧aU (e.f3.getD i zE)<dl aU e.f3:=fun i o=>by
   have g:e.f3[i]? =some e.f3[i]:=z13 o
   rw[yK g]; exact⟨pH d f _ (k _ (z88 o)),iS aU (z88 o)⟩
  unfold tx; by_cases k1:e.f0=1
  ·rw[z18 k1,z19]
   have:=Mz (j.k1 k1).1 (j.k1 k1).2; omega
  rw[z10 k1,z16]; by_cases s:e.f0=2
  ·rw[z18 s,z19]; omega
  rw[z10 s,z16]; by_cases t:e.f0=3
  ·rw[z18 t,z19]; omega
  rw[z10 t,z16]; by_cases u:e.f0=4
  ·rw[z18 u,z19]
   simp only[z15,z20,z24]; omega
  rw[z10 u,z16]; by_cases v:e.f0=5
  ·rw[z18 v,z19]
   simp only[z15,z20,z24]; omega
  rw[z10 v,z16]; by_cases k6:e.f0=6
  ·rw[z18 k6,z19]
   have q:=j.k6 k6; have m:=mem (e.f3.length - 1) (by omega)
   have E:dl aU (e.f3.take (e.f3.length - 1))+1+aU (e.f3.getD (e.f3.length - 1) zE)=dl aU e.f3:=by
    have g:e.f3[e.f3.length - 1]? =some e.f3[e.f3.length - 1]:=z13 (by omega)
    have y:=nS g; rw[show e.f3.length - 1+1=e.f3.length by omega,z84]at y
    rw[yK g]; have: ∀(l:List aB) a,dl aU (l++[a])=dl aU l+1+aU a:=fun l a=>by
     induction l with
     | nil=>simp only[NZ,dl]; omega
     | cons b l ih=>simp only[z89,dl,ih]; omega
    have C:=this (e.f3.take (e.f3.length - 1)) (e.f3[e.f3.length - 1]'(by omega))
    rw[y]at C; omega
   simp only[z15,z20,z24]; omega
  rw[z10 k6,z16]; by_cases k7:e.f0=7
  ·rw[z18 k7,z19]
   have q:=j.k7 k7; have F:=mem 0 (by omega)
   have J:=mem 1 (by omega)
   have E:aU (e.f3.getD 0 zE)+aU (e.f3.getD 1 zE)+3≤dl aU e.f3:=by
    match hl:e.f3 with
    | []=>rw[hl]at q; cases q
    | [a]=>rw[hl]at q; cases q
    | a::b::r=>
     have:=hJ aU r; show aU a+aU b+3≤dl aU (a::b::r); simp only[dl]; omega
   simp only[z15,z20,z24]; omega
  rw[z10 k7,z16]; by_cases w:e.f0=8
  ·rw[z18 w,z19]
   simp only[z15,z20,z24]; omega
  rw[z10 w,z16]; have q:=j.k9 k1 s t u v k6 k7 w; have F:=mem 0 (by omega)
  have A:(Lib.join (e.f4.map fun c=>(tx d c.p++[32,45,62,32])++tx d c.x) [59,32]).length+40≤40*dl dA e.f4:=A
  simp only[z15,z20,z24]; omega
theorem Lc{n:Nat}{xs:List (List UInt8)}{a:List UInt8}(h1:xs.length≤140737488355328)(b:(Lib.join xs a).length≤140737488355328):eV n xs a=some (Lib.join xs a):=by
 unfold eV; rw[z18 h1,z18 b]; rfl
theorem OC{α:Type}{f:α→List UInt8}{l:List α}{i:Nat}{a:α}(h:l[i]? =some a)(c:l.length≤1099511627776):BM 16 ((l.take i).map f) [f a]=some ((l.take (i+1)).map f):=by
 have b:=bP h; rw[CG (by simp only[z59,z58,z60]; omega) (by simp only[z59,z58,z60,maxLen]; omega), ←nS h,z154]; rfl
theorem GP{d:Nat}{b:Bool}{l:List aB}(h: ∀a∈l,xok d b a=true)(i:Nat):(Lib.join ((l.take i).map (tx d)) [44,32]).length+40≤40*dl aU l:=by
 have h1:=yA (tx d) aU [44,32] (l.take i) (fun a c=>by have:=pH d b a (h a (z85 c)); simp only[z20,z24]; omega)
 have e:=pL aU l i; omega
theorem GQ{d:Nat}{l:List aA}(h: ∀c∈l,xok d true c.p=true∧xok d false c.x=true)(i:Nat):(Lib.join ((l.take i).map (txc d)) [59,32]).length+40≤40*dl dA l:=by
 have h1:=yA (txc d) dA [59,32] (l.take i) (fun c a=>by
  have a1:=pH d true c.p (h c (z85 a)).1; have a2:=pH d false c.x (h c (z85 a)).2; have a3:=mF c; simp only[txc,z15,z20,z24]; omega)
 have b:=pL dA l i; omega
theorem No{α:Type}{l:List α}(h:0<l.length)(a:l.length≤1099511627776):IntKind.wrap .i64 ((l.length:Int) - 1)=((l.length - 1:Nat):Int):=by
 rw[wrap_i64 (by omega) (by omega)]; omega
theorem tP: ∀(n:Nat),n≤1099511627776→(∀(d:Nat) (f:Bool) (e:aB),xok d f e=true→aU e+30<n→bC n e.f0 e.f1 e.f2 e.f3 e.f4=some (tx d e))∧
  (∀(d:Nat) (f:Bool) (l:List aB),(∀a∈l,xok d f a=true)→dl aU l+30<n→gN n l=some (Lib.join (l.map (tx d)) [44,32]))
 | 0,_=>⟨fun d f e h F=>by omega,fun d f l h F=>by omega⟩
 | n+1,hn=>by
  obtain⟨k,m⟩:=tP n (by omega)
  refine⟨fun d f e h F=> ?_,fun d f l h F=> ?_⟩
  ·rw[qN]
   cases d with
   | zero=>cases h
   | succ d=>
    obtain⟨A,w,y⟩:=yN h; have hE:=wE_d e; have g:=pH (d+1) f e h; have R:=hJ aU e.f3; have Z:=hJ dA e.f4; have o: ∀i,i<e.f3.length→ ∃a,e.f3[i]? =some a∧bC n a.f0 a.f1 a.f2 a.f3 a.f4=some (tx d a):=fun i t=>by
     have j:e.f3[i]? =some e.f3[i]:=z13 t
     have N:=iS aU (z88 t); exact⟨_,j,k d f _ (w _ (z88 t)) (by omega)⟩
    unfold gJ; unfold tx at g ⊢; by_cases B:e.f0=1
    ·simp only[z18 B,z19]
     have:jB n e.f1=some (Lib.itoa e.f1):=by
      have:=A.k1 B; unfold jB; rw[z18 (by omega),z18 (by omega)]; rfl
     rw[this]; rfl
    simp only[z10 B,z16]at g ⊢; by_cases H:e.f0=2
    ·simp only[z18 H,z19]
    simp only[z10 H,z16]at g ⊢; by_cases I:e.f0=3
    ·simp only[z18 I,z19]
    simp only[z10 I,z16]at g ⊢; by_cases J:e.f0=4
    ·simp only[z18 J,z19]at g ⊢
     simp only[z15,z20,z24]at g; simp (disch:=(simp only[z15,z20,z24]; omega)) only[m d f e.f3 w (by omega),z9,ckA]
    simp only[z10 J,z16]at g ⊢; by_cases K:e.f0=5
    ·simp only[z18 K,z19]at g ⊢
     simp only[z15,z20,z24]at g; simp (disch:=(simp only[z15,z20,z24]; omega)) only[m d f e.f3 w (by omega),z9,ckA]
    simp only[z10 K,z16]at g ⊢; by_cases C:e.f0=6
    ·simp only[z18 C,z19]at g ⊢
     have q:=A.k6 C; obtain⟨a,j,v⟩:=o (e.f3.length - 1) (by omega)
     have S:sub e.f3 none (some ((e.f3.length - 1:Nat):Int))=some (e.f3.take (e.f3.length - 1)):=Hm (by omega)
     have ht:=pL aU e.f3 (e.f3.length - 1); have E:=m d f (e.f3.take (e.f3.length - 1)) (fun x T=>w x (z85 T)) (by omega)
     rw[yK j]at g ⊢; simp only[z15,z20,z24]at g; simp (disch:=(simp only[z15,z20,z24]; omega)) only[No (show 0<e.f3.length by omega) (by omega),S,dH,j,v,E,z9,ckA]
    simp only[z10 C,z16]at g ⊢; by_cases D:e.f0=7
    ·simp only[z18 D,z19]at g ⊢
     have q:=A.k7 D; obtain⟨a,j,v⟩:=o 0 (by omega)
     obtain⟨b,M,P⟩:=o 1 (by omega)
     have G:ix e.f3 (0:Int)=some a:=(dH e.f3 0).trans j; have U:ix e.f3 (1:Int)=some b:=(dH e.f3 1).trans M; rw[yK j,yK M]at g ⊢; simp only[z15,z20,z24]at g; simp (disch:=(simp only[z15,z20,z24]; omega)) only[G,U,v,P,z9,ckA]
    simp only[z10 D,z16]at g ⊢; by_cases L:e.f0=8
    ·simp only[z18 L,z19]at g ⊢
     simp only[z15,z20,z24]at g; simp (disch:=(simp only[z15,z20,z24]; omega)) only[m d f e.f3 w (by omega),z9,ckA]
    simp only[z10 L,z16]at g ⊢; have q:=A.k9 B H I J K C D L; obtain⟨a,j,v⟩:=o 0 (by omega)
    have G:ix e.f3 (0:Int)=some a:=(dH e.f3 0).trans j; rw[yK j]at g ⊢; have u:=oF (body:=eC n (bC n) e.f4) (fun i=>((e.f4.take i).map (txc d),(i:Int))) (len:=e.f4.length) (r:=(e.f4.map (txc d),(e.f4.length:Int),false)) (fun i t=>by
     obtain⟨c,z⟩: ∃c,e.f4[i]? =some c:=⟨_,z13 t⟩
     have s:=z34 z; have N:=iS dA s; have he:=mF c; have X:bC n c.f0 c.f1 c.f2 c.f3 c.f4=some (tx d c.p):=k d true c.p (y c s).1 (by omega)
     have Y:bC n c.f5 c.f6 c.f7 c.f8 c.f9=some (tx d c.x):=k d false c.x (y c s).2 (by omega)
     have t1:=pH d true c.p (y c s).1; have t2:=pH d false c.x (y c s).2; have O:BM 16 ((e.f4.take i).map (txc d)) [(tx d c.p++[32,45,62,32])++tx d c.x]=some ((e.f4.take (i+1)).map (txc d)):=OC z (by omega)
     simp (disch:=(simp only[z15,z20,z24]; omega)) only[eC,eK z,z19,dH,z,z9,X,Y,ckA,O,bB (show i<4611686018427387904 by omega)]) (by simp only[eC,aS,z16,z84]) (n:=n) (by omega)
    simp only[z78,z81]at u; rw[show((0:Nat):Int)=0 from rfl]at u; have V:=GQ y e.f4.length; rw[z84]at V; have E:eV n (e.f4.map (txc d)) [59,32]=some (Lib.join (e.f4.map (txc d)) [59,32]):=Lc (by rw[z59]; omega) (by omega)
    have Q:(e.f4.map fun c=>(tx d c.p++[32,45,62,32])++tx d c.x)=e.f4.map (txc d):=rfl
    rw[Q]at g ⊢; simp only[z15,z20,z24]at g; rw[u]; simp (disch:=(simp only[z15,z20,z24]; omega)) only[G,v,E,z9,ckA]
  ·rw[sN]
   unfold jA; have R:=hJ aU l; have u:=oF (body:=fM n (bC n) l) (fun i=>((l.take i).map (tx d),(i:Int))) (len:=l.length) (r:=(l.map (tx d),(l.length:Int),false)) (fun i t=>by
    obtain⟨a,j⟩: ∃a,l[i]? =some a:=⟨_,z13 t⟩
    have s:=z34 j; have N:=iS aU s; simp only[fM,eK j,z19,dH,j,z9,k d f a (h a s) (by omega),OC j (show l.length≤1099511627776 by omega),bB (show i<4611686018427387904 by omega)]) (by simp only[fM,aS,z16,z84]) (n:=n) (by omega)
   simp only[z78,z81]at u; rw[show((0:Nat):Int)=0 from rfl]at u; have W:=GP h l.length; rw[z84]at W; rw[u]; simp only[z9,Lc (show(l.map (tx d)).length≤140737488355328 by rw[z59]; omega) (show(Lib.join (l.map (tx d)) [44,32]).length≤140737488355328 by omega)]
theorem decF{p:Prop} [Decidable p](h:decide p=false): ¬ p:=of_decide_eq_false h
theorem tL: ∀(n:Nat),n≤1099511627776→(∀(d:Nat) (f:Bool) (e:aB),xok d f e=true→aU e+30<n→cA n e.f0 e.f1 e.f2 e.f3 e.f4=some (tx d e))∧
  (∀(d:Nat) (f:Bool) (l:List aB),(∀a∈l,xok d f a=true)→dl aU l+30<n→iI n l=some (Lib.join (l.map (tx d)) [44,32]))
 | 0,_=>⟨fun d f e h G=>by omega,fun d f l h G=>by omega⟩
 | n+1,hn=>by
  obtain⟨k,s⟩:=tL n (by omega)
  refine⟨fun d f e h G=> ?_,fun d f l h G=> ?_⟩
  ·rw[uG]
   cases d with
   | zero=>cases h
   | succ d=>
    obtain⟨C,A,B⟩:=yN h; have hE:=wE_d e; have g:=pH (d+1) f e h; have U:=hJ aU e.f3; have g4:=hJ dA e.f4; have t: ∀i,i<e.f3.length→ ∃a,e.f3[i]? =some a∧cA n a.f0 a.f1 a.f2 a.f3 a.f4=some (tx d a):=fun i v=>by
     have j:e.f3[i]? =some e.f3[i]:=z13 v
     have O:=iS aU (z88 v); exact⟨_,j,k d f _ (A _ (z88 v)) (by omega)⟩
    unfold jZ; unfold tx at g ⊢; by_cases D:e.f0=1
    ·simp only[z18 D,z19]
     rw[Kl (C.k1 D).1 (C.k1 D).2 (by omega)]; rfl
    simp only[z10 D,z16]at g ⊢; by_cases I:e.f0=2
    ·simp only[z18 I,z19]
    simp only[z10 I,z16]at g ⊢; by_cases J:e.f0=3
    ·simp only[z18 J,z19]
    simp only[z10 J,z16]at g ⊢; by_cases K:e.f0=4
    ·simp only[z18 K,z19]at g ⊢
     simp only[z15,z20,z24]at g; simp (disch:=(first | omega | (simp only[z15,z20,z24]; omega))) only[s d f e.f3 A (by omega),z9,ckA]
    simp only[z10 K,z16]at g ⊢; by_cases L:e.f0=5
    ·simp only[z18 L,z19]at g ⊢
     simp only[z15,z20,z24]at g; simp (disch:=(first | omega | (simp only[z15,z20,z24]; omega))) only[s d f e.f3 A (by omega),z9,ckA]
    simp only[z10 L,z16]at g ⊢; by_cases E:e.f0=6
    ·simp only[z18 E,z19]at g ⊢
     have q:=C.k6 E; obtain⟨a,j,z⟩:=t (e.f3.length - 1) (by omega)
     have W:sub e.f3 none (some ((e.f3.length - 1:Nat):Int))=some (e.f3.take (e.f3.length - 1)):=Hm (by omega)
     have ht:=pL aU e.f3 (e.f3.length - 1); have S:=s d f (e.f3.take (e.f3.length - 1)) (fun x X=>A x (z85 X)) (by omega)
     rw[yK j]at g ⊢; simp only[z15,z20,z24]at g; simp (disch:=(first | omega | (simp only[z15,z20,z24]; omega))) only[No (show 0<e.f3.length by omega) (by omega),W,dH,j,z,S,z9,ckA]
    simp only[z10 E,z16]at g ⊢; by_cases F:e.f0=7
    ·simp only[z18 F,z19]at g ⊢
     have q:=C.k7 F; obtain⟨a,j,z⟩:=t 0 (by omega)
     obtain⟨b,N,R⟩:=t 1 (by omega)
     have H:ix e.f3 (0:Int)=some a:=(dH e.f3 0).trans j; have Y:ix e.f3 (1:Int)=some b:=(dH e.f3 1).trans N; rw[yK j,yK N]at g ⊢; simp only[z15,z20,z24]at g; simp (disch:=(first | omega | (simp only[z15,z20,z24]; omega))) only[H,Y,z,R,z9,ckA]
    simp only[z10 F,z16]at g ⊢; by_cases M:e.f0=8
    ·simp only[z18 M,z19]at g ⊢
     simp only[z15,z20,z24]at g; simp (disch:=(first | omega | (simp only[z15,z20,z24]; omega))) only[s d f e.f3 A (by omega),z9,ckA]
    simp only[z10 M,z16]at g ⊢; have q:=C.k9 D I J K L E F M; obtain⟨a,j,z⟩:=t 0 (by omega)
    have H:ix e.f3 (0:Int)=some a:=(dH e.f3 0).trans j; rw[yK j]at g ⊢; have T:(e.f4.map fun c=>(tx d c.p++[32,45,62,32])++tx d c.x)=e.f4.map (txc d):=rfl
    rw[T]at g ⊢; simp only[z15,z20,z24]at g; obtain⟨m,u⟩: ∃m,m=([99,97,115,101,32]++tx d a)++[32,111,102,32]:=⟨_,rfl⟩; have V:m.length=9+(tx d a).length:=by rw[u]; simp only[z15,z20,z24]; omega
    have w:=oF (body:=eO n (cA n) e.f4) (fun i=>(m++Lib.join ((e.f4.take i).map (txc d)) [59,32],(i:Int))) (len:=e.f4.length) (r:=(m++Lib.join (e.f4.map (txc d)) [59,32],(e.f4.length:Int),false)) (fun i v=>by
     obtain⟨c,y⟩: ∃c,e.f4[i]? =some c:=⟨_,z13 v⟩
     have o:=z34 y; have O:=iS dA o; have he:=mF c; have P:cA n c.f0 c.f1 c.f2 c.f3 c.f4=some (tx d c.p):=k d true c.p (B c o).1 (by omega)
     have Q:cA n c.f5 c.f6 c.f7 c.f8 c.f9=some (tx d c.x):=k d false c.x (B c o).2 (by omega)
     have t1:=pH d true c.p (B c o).1; have t2:=pH d false c.x (B c o).2; have Z:=GQ B i; rw[Dr y]; cases hz:decide ((0:Int)<(i:Int))with
     | true=>
      simp (disch:=(first | omega | (simp only[z15,z20,z24]; omega))) only[eO,eK y,hz,z19,dH,y,z9,P,Q,ckA,bB (show i<4611686018427387904 by omega)]
      simp only[txc,z71]
     | false=>
      have hz:=decF hz; obtain rfl:i=0:=by omega
      simp (disch:=(first | omega | (simp only[z15,z20,z24]; omega))) only[eO,eK y,z10 hz,z19,z16,dH,y,z9,P,Q,ckA,bB (show 0<4611686018427387904 by omega),z78,z81,Lib.join_nil,Lo]
      simp only[txc,z71]) (by simp only[eO,aS,z16,z84]) (n:=n) (by omega)
    simp only[z78,z81,Lib.join_nil,Lo]at w; rw[show((0:Nat):Int)=0 from rfl,u]at w; simp (disch:=(first | omega | (simp only[z15,z20,z24]; omega))) only[H,z,w,z9,ckA]
  ·rw[uH]
   unfold kA; have U:=hJ aU l; have w:=oF (body:=eP n (cA n) l) (fun i=>(Lib.join ((l.take i).map (tx d)) [44,32],(i:Int))) (len:=l.length) (r:=(Lib.join (l.map (tx d)) [44,32],(l.length:Int),false)) (fun i v=>by
    obtain⟨a,j⟩: ∃a,l[i]? =some a:=⟨_,z13 v⟩
    have o:=z34 j; have O:=iS aU o; have t1:=pH d f a (h a o); have Z:=GP h i; rw[Dr j]; cases hz:decide ((0:Int)<(i:Int))with
    | true=>
     simp (disch:=(first | omega | (simp only[z15,z20,z24]; omega))) only[eP,eK j,hz,z19,dH,j,z9,k d f a (h a o) (by omega),ckA,bB (show i<4611686018427387904 by omega)]
     simp only[z71]
    | false=>
     have hz:=decF hz; obtain rfl:i=0:=by omega
     simp (disch:=(first | omega | (simp only[z15,z20,z24]; omega))) only[eP,eK j,z10 hz,z19,z16,dH,j,z9,k d f a (h a o) (by omega),ckA,bB (show 0<4611686018427387904 by omega),z78,z81,Lib.join_nil,NZ]) (by simp only[eP,aS,z16,z84]) (n:=n) (by omega)
   simp only[z78,z81,Lib.join_nil]at w; rw[show((0:Nat):Int)=0 from rfl]at w; rw[w]; rfl
def Ex(x:aB):List UInt8:=bif !rP x then []else tx 10 x
theorem Bj{x:aB}(h:rP x=true):xok 10 false x=true:=by
 unfold rP at h; simp only[z7]at h; exact h.1
theorem xL{n:Nat}(hn:n≤1099511627776)(x:aB)(h:aU x+400<n):iG n x.f0 x.f1 x.f2 x.f3 x.f4=some (Ex x):=by
 unfold iG Ex; rw[At n hn x h,z9]; cases hx:rP x with
 | false=>rfl
 | true=>
  rw[(tP n hn).1 10 false x (Bj hx) (by omega)]; rfl
theorem xK{n:Nat}(hn:n≤1099511627776)(x:aB)(h:aU x+400<n):iF n x.f0 x.f1 x.f2 x.f3 x.f4=some (Ex x):=by
 unfold iF Ex; rw[Aq n hn x (by omega),z9]
 cases hx:rP x with
 | false=>rfl
 | true=>
  rw[(tL n hn).1 10 false x (Bj hx) (by omega)]; rfl
theorem law(a:aD)(ho:okExpr a): ∃n,eE n a.f0 a.f1 a.f2 a.f3 a.f4=some true:=by
 refine⟨kQ a+500, ?_⟩
 generalize c:kQ a+500=n; unfold eE; rw[Iu n (h:=by rw[dW]; omega) (ho:=by rw[dW]; exact ho) (h0:=by omega) (h1:=by omega),dW]
 by_cases hz:(fP a:Int)≤1048576
 ·have d:=CF a
  rw[z17 hz]; simp only[z9]; rw[z10 (by omega),z16]
  rw[Is n (h:=by rw[dW]; omega) (hz:=by rw[dW]; omega)]
  simp only[dW,z9]; have e:aU (oL a)=kQ a:=Br a; generalize oL a=x at*; have hn:n≤1099511627776:=by omega
  have b:=JR n (a0:=x.f0) (a1:=x.f1) (a2:=x.f2) (a3:=x.f3) (a4:=x.f4) (by rw[AX]; omega) (by omega)
  simp only[xK hn x (by omega),xL hn x (by omega),b,z9,decide_true,z40,z16]
 ·rw[z11 hz]; rfl
end Go.Own.Q
