/- Loops over lists and small things, in plain Lean. No conditions. -/
import Derived.Test.YtloebajamceclaaW42W
set_option linter.unusedVariables false
set_option linter.unusedSimpArgs false
set_option linter.unnecessarySimpa false
namespace Go.Own.Q
open Go Go.Proofs
theorem zP{σ ρ:Type}{body:σ→Option (σ⊕ρ)}(st:Nat→σ){len:Nat}{r:ρ}(d: ∀i,i<len→body (st i)=some (.inl (st (i+1))))(b:body (st len)=some (.inr r)){n:Nat}(hn:len<n):loopN body n (st 0)=some r:=by
 have a: ∀k i,i+k=len→ ∀n,k<n→loopN body n (st i)=some r:=by
  intro k; induction k with
  | zero=>
   intro i c n hn; obtain⟨m,rfl⟩: ∃m,n=m+1:=⟨n - 1,by omega⟩
   have:i=len:=by omega
   subst this; simp only[loopN,b]
  | succ k e=>
   intro i c n hn; obtain⟨m,rfl⟩: ∃m,n=m+1:=⟨n - 1,by omega⟩
   simp only[loopN,d i (by omega)]
   exact e (i+1) (by omega) m (by omega)
 exact a len 0 (by omega) n hn

def qG{α σ ρ:Type}(f:σ→α→σ⊕ρ):List α→σ→σ⊕ρ
 | [],s=> .inl s
 | a::r,s=>match f s a with
  | .inl s'=>qG f r s'
  | .inr q=> .inr q
theorem Dk{α σ τ ρ κ:Type}{body:σ→Option (σ⊕ρ)}(l:List α)(f:τ→α→τ⊕κ)(enc:τ→Nat→σ)(b:τ→ρ)(out:κ→ρ)(I:τ→Prop)(v: ∀(i:Nat) a t,l[i]? =some a→I t→(∃d,f t a= .inl d∧I d∧body (enc t i)=some (.inl (enc d (i+1))))∨(∃q,f t a= .inr q∧body (enc t i)=some (.inr (out q))))
  (p: ∀t,I t→body (enc t l.length)=some (.inr (b t))){n:Nat}(hn:l.length<n){t0:τ}(h0:I t0):loopN body n (enc t0 0)=some (match qG f l t0 with | .inl t=>b t | .inr q=>out q):=by
 have j: ∀(r:List α) (i:Nat) (t:τ) (n:Nat),l.drop i=r→I t→r.length<n→i≤l.length→loopN body n (enc t i)=some (match qG f r t with | .inl t=>b t | .inr q=>out q):=by
  intro r; induction r with
  | nil=>
   intro i t n c h hn s; obtain⟨m,rfl⟩: ∃m,n=m+1:=⟨n - 1,by simp at hn; omega⟩
   have:i=l.length:=by
    have:=congrArg List.length c; simp at this; omega
   subst this; simp only[loopN,p t h,qG]
  | cons a r ih=>
   intro i t n c h hn s; obtain⟨m,rfl⟩: ∃m,n=m+1:=⟨n - 1,by simp at hn; omega⟩
   have u:i<l.length:=by
    have:=congrArg List.length c; simp at this; omega
   have o:l[i]? =some a:=by
    have:=congrArg (·[0]?) c
    simpa using this
   have g:l.drop (i+1)=r:=by
    have:=congrArg List.tail c; simpa using this
   rcases v i a t o h with⟨d,h1,k,e⟩ | ⟨q,h1,e⟩
   ·simp only[loopN,e,qG,h1]
    exact ih (i+1) d m g k (by simp at hn; omega) (by omega)
   ·simp only[loopN,e,qG,h1]
 exact j l 0 t0 n rfl h0 hn (by omega)

theorem dT{α:Type}(l:List α)(i:Nat):ix l (i:Int)=l[i]? :=by
 unfold ix; rw[z17 (by omega)]
 simp
theorem HH(s:List UInt8)(i:Nat):ixs s (i:Int)=(s[i]?).map fun b=>(b.toNat:Int):=by
 unfold ixs; rw[z17 (by omega)]
 simp
theorem aV{i:Nat}(h:i<4611686018427387904):IntKind.wrap .i64 ((i:Int)+1)=((i+1:Nat):Int):=by
 rw[wrap_i64 (by omega) (by omega)]; omega
theorem sW{α:Type}{l:List α}{i:Nat}{a:α}(h:l[i]? =some a):l.take i++[a]=l.take (i+1):=by
 rw[List.take_add_one,h]; rfl
theorem tG{α:Type}{b:Nat}{l1 l2:List α}(h:(l1.length+l2.length)*b≤140737488355328)(a:l1.length+l2.length≤maxLen):wX b l1 l2=some (l1++l2):=by
 unfold wX; rw[z17 ⟨a,h⟩]
theorem dR{α:Type}{l:List α}{i:Nat}{a:α}(h:l[i]? =some a):i<l.length:=(z74.1 h).1
theorem dY{α:Type}{l:List α}{i:Nat}{a:α}(h:l[i]? =some a):decide ((i:Int)<(l.length:Int))=true:=by
 have:=dR h; exact z13 (by omega)
theorem aQ{k:Nat}:decide ((k:Int)<(k:Int))=false:=z10 (by omega)
theorem SC{α:Type}(c:Bool)(a b:α):(bif c then some a else some b)=some (bif c then a else b):=by cases c<;>rfl
def pE{α:Type}(z:α→Nat):List α→Nat
 | []=>0
 | a::r=>z a+pE z r
theorem zO{α:Type}(z:α→Nat){a:α}: ∀ {l:List α},a∈l→z a≤pE z l
 | b::r,h=>by
  cases h with
  | head=>simp only[pE]; omega
  | tail _ h=>have:=zO z h; simp only[pE]; omega
def zl{α:Type}(z:α→Nat)(l:List α):Nat:=l.length+pE z l
def dl{α:Type}(d:α→Nat):List α→Nat
 | []=>1
 | a::r=>1+d a+dl d r
theorem fR{α:Type}(d:α→Nat){a:α}: ∀ {l:List α},a∈l→d a<dl d l
 | b::r,h=>by
  cases h with
  | head=>simp only[dl]; omega
  | tail _ h=>have:=fR d h; simp only[dl]; omega
theorem dM{α:Type}(d:α→Nat): ∀l:List α,l.length<dl d l
 | []=>by simp [dl]
 | b::r=>by have:=dM d r; simp only[dl,z34]; omega
theorem Sc{α β:Type}(d:β→Nat)(f:α→β): ∀l:List α,dl d (l.map f)=dl (fun a=>d (f a)) l
 | []=>rfl
 | a::r=>by simp only[z54,dl,Sc d f r]
theorem MP{α:Type}{d e:α→Nat}: ∀ {l:List α},(∀a∈l,d a=e a)→dl d l=dl e l
 | [],_=>rfl
 | a::r,h=>by
  simp only[dl]; rw[h a z27,MP (l:=r) fun b c=>h b (z23 _ c)]
theorem Vf{α:Type}{d z:α→Nat}{A B C:Nat}(h: ∀a,d a≤A*z a+B)(b:A≤C)(c:1+B≤C): ∀l:List α,dl d l≤C*zl z l+1
 | []=>by simp [dl]
 | a::r=>by
  have h1:=Vf h b c r; have f:=h a; have g:A*z a≤C*z a:=z64 _ b; have e:zl z (a::r)=1+z a+zl z r:=by simp only[zl,pE,z34]; omega
  rw[e,Nat.mul_add,Nat.mul_add]; simp only[dl]; omega
theorem CN{k:Nat}{left:Int}(a:k≤maxLen)(h0:0≤left)(h1:left≤1048576):IntKind.wrap .i64 (left - (k:Int))=left - k:=by
 simp only[maxLen]at a; exact wrap_i64 (by omega) (by omega)

theorem HB{α:Type}{body:Int×Int→Option ((Int×Int)⊕(Int⊕(Int×Int×Bool)))}(l:List α)(z:α→Nat)(j: ∀(i:Nat) a (left:Int),l[i]? =some a→0≤left→left≤1048576→body (left,(i:Int))=some (if(z a:Int)≤left then .inl (left - z a,((i+1:Nat):Int))else .inr (.inl (-1))))
  (k: ∀left:Int,body (left,(l.length:Int))=some (.inr (.inr (left,(l.length:Int),false)))){n:Nat}(hn:l.length<n){left:Int}(h0:0≤left)(h1:left≤1048576):loopN body n (left,(0:Int))=some (if(pE z l:Int)≤left then .inr (left - pE z l,(l.length:Int),false)else .inl (-1)):=by
 have h:=Dk (body:=body) l (fun(t:Int) a=>if(z a:Int)≤t then .inl (t - z a)else .inr ()) (fun t i=>(t,(i:Int))) (fun t=> .inr (t,(l.length:Int),false)) (fun _=> .inl (-1)) (fun t=>0≤t∧t≤1048576) (fun i a t g b=>by
  by_cases c:(z a:Int)≤t
  ·left
   refine⟨t - z a,z17 c,⟨by omega,by omega⟩, ?_⟩
   rw[j i a t g b.1 b.2,z17 c]
  ·right
   refine⟨(),z11 c, ?_⟩
   rw[j i a t g b.1 b.2,z11 c]) (fun t _=>k t) hn (t0:=left) ⟨h0,h1⟩
 have d: ∀(l:List α) (t:Int),0≤t→qG (fun(t:Int) a=>if(z a:Int)≤t then Sum.inl (t - z a)else Sum.inr ()) l t=if(pE z l:Int)≤t then .inl (t - pE z l)else .inr ():=by
  intro l; induction l with
  | nil=>intro t b; simp [qG,pE,b]
  | cons a r ih=>
   intro t b; have e:pE z (a::r)=z a+pE z r:=rfl; generalize pE z (a::r)=q at e; simp only[qG]; by_cases c:(z a:Int)≤t
   ·rw[z17 c]
    simp only; rw[ih _ (by omega)]
    by_cases f:(q:Int)≤t
    ·rw[z17 f,z17 (by omega)]; congr 1; omega
    ·rw[z11 f,z11 (by omega)]
   ·rw[z11 c,z11 (by omega)]
 refine h.trans ?_
 rw[d l left h0]; by_cases c:(pE z l:Int)≤left
 ·rw[z17 c,z17 c]
 ·rw[z11 c,z11 c]

theorem HA{α β:Type}{body:List β×Int→Option ((List β×Int)⊕(List β×Int×Bool))}(l:List α)(c:α→β)(z:β)(m: ∀(i:Nat) a (o:List β) (b:β),l[i]? =some a→o[i]? =some b→body (o,(i:Int))=some (.inl (o.set i (c a),((i+1:Nat):Int))))
  (f: ∀o:List β,body (o,(l.length:Int))=some (.inr (o,(l.length:Int),false))){n:Nat}(hn:l.length<n):loopN body n (List.replicate l.length z,(0:Int))=some (l.map c,(l.length:Int),false):=by
 have h:=zP (body:=body) (fun i=>((l.take i).map c++List.replicate (l.length - i) z,(i:Int))) (len:=l.length) (r:=(l.map c,(l.length:Int),false)) (fun i g=>by
  have e:l[i]? =some l[i]:=z16 g
  have d:((l.take i).map c).length=i:=by simp; omega
  have ho:((l.take i).map c++List.replicate (l.length - i) z)[i]? =some z:=by
   rw[z55 (by omega),d,z99,z117,z17 (by omega)]
  rw[m i _ _ z e ho]; congr 2
  rw[z161 _ _ (by omega),d,z99]
  obtain⟨k,j⟩: ∃k,l.length - i=k+1:=⟨l.length - i - 1,by omega⟩
  rw[j,List.replicate_succ,Vx,show l.length - (i+1)=k by omega,Vp,Vp, ←sW (l:=l.map c) (i:=i) (a:=c l[i]) (by rw[z28,e]; rfl),z75]
  rfl) (by simp [f]) hn
 simpa using h

theorem HC{α:Type}{body:Int→Option (Int⊕(Bool⊕(Int×Bool)))}(l:List α)(d: ∀(i:Nat) a,l[i]? =some a→body (i:Int)=some (.inl ((i+1:Nat):Int)))(b:body (l.length:Int)=some (.inr (.inr ((l.length:Int),false)))){n:Nat}(hn:l.length<n):loopN body n (0:Int)=some (.inr ((l.length:Int),false)):=
 zP (body:=body) (fun i=>(i:Int)) (len:=l.length) (fun i c=>d i _ (z16 c)) b hn
theorem Tv{α:Type}{body:Int→Option (Int⊕(Bool⊕(Int×Bool)))}(l:List α)(b:α→Bool)(f: ∀(i:Nat) a,l[i]? =some a→body (i:Int)=some (if b a then .inl ((i+1:Nat):Int)else .inr (.inl false)))(g:body (l.length:Int)=some (.inr (.inr ((l.length:Int),false)))){n:Nat}(hn:l.length<n):loopN body n (0:Int)=some (if l.all b then .inr ((l.length:Int),false)else .inl false):=by
 have h:=Dk (body:=body) l (fun(_:Unit) a=>if b a then .inl ()else .inr ()) (fun _ i=>(i:Int)) (fun _=> .inr ((l.length:Int),false)) (fun _=> .inl false) (fun _=>True) (fun i a t e _=>by
  by_cases c:b a=true
  ·left; exact⟨(),z17 c,trivial,by rw[f i a e,z17 c]⟩
  ·right; exact⟨(),z11 c,by rw[f i a e,z11 c]⟩) (fun _ _=>g) hn (t0:=()) trivial
 have d: ∀l:List α,qG (fun(_:Unit) a=>if b a then Sum.inl ()else Sum.inr ()) l ()=if l.all b then .inl ()else .inr ():=by
  intro l; induction l with
  | nil=>rfl
  | cons a r ih=>
   simp only[qG,z91]; by_cases c:b a=true
   ·rw[z17 c]; simp only[ih,c,z41]
   ·rw[z11 c]; simp [c]
 refine h.trans ?_
 rw[d l]; by_cases c:l.all b=true
 ·rw[z17 c,z17 c]
 ·rw[z11 c,z11 c]
theorem GQ{α σ τ ρ κ:Type}{body:σ→Option (σ⊕ρ)}(l:List α)(f:τ→α→τ⊕κ)(enc:τ→Nat→σ)(c:τ→ρ)(b:κ→ρ→Prop)(I:τ→Prop)(y: ∀(i:Nat) a t,l[i]? =some a→I t→(∃e,f t a= .inl e∧I e∧body (enc t i)=some (.inl (enc e (i+1))))∨(∃q r,f t a= .inr q∧body (enc t i)=some (.inr r)∧b q r))
  (u: ∀t,I t→body (enc t l.length)=some (.inr (c t))){n:Nat}(hn:l.length<n){t0:τ}(h0:I t0): ∃r,loopN body n (enc t0 0)=some r∧(match qG f l t0 with | .inl t=>r=c t | .inr q=>b q r):=by
 have k: ∀(r:List α) (i:Nat) (t:τ) (n:Nat),l.drop i=r→I t→r.length<n→i≤l.length→ ∃x,loopN body n (enc t i)=some x∧(match qG f r t with | .inl t=>x=c t | .inr q=>b q x):=by
  intro r; induction r with
  | nil=>
   intro i t n d j hn v; obtain⟨m,rfl⟩: ∃m,n=m+1:=⟨n - 1,by simp at hn; omega⟩
   have:i=l.length:=by
    have:=congrArg List.length d; simp at this; omega
   subst this; simp only[loopN,u t j,qG]; exact⟨_,rfl,rfl⟩
  | cons a r ih=>
   intro i t n d j hn v; obtain⟨m,rfl⟩: ∃m,n=m+1:=⟨n - 1,by simp at hn; omega⟩
   have w:i<l.length:=by
    have:=congrArg List.length d; simp at this; omega
   have s:l[i]? =some a:=by
    have:=congrArg (·[0]?) d
    simpa using this
   have h:l.drop (i+1)=r:=by
    have:=congrArg List.tail d; simpa using this
   rcases y i a t s j with⟨e,h1,o,g⟩ | ⟨q,x,h1,g,p⟩
   ·simp only[loopN,g,qG,h1]
    exact ih (i+1) e m h o (by simp at hn; omega) (by omega)
   ·simp only[loopN,g,qG,h1]
    exact⟨x,rfl,p⟩
 exact k l 0 t0 n rfl h0 hn (by omega)
def Bf{α:Type}(b:Nat→α→Bool):Nat→List α→Bool
 | _,[]=>true
 | i,a::r=>b i a&&Bf b (i+1) r
theorem CY{α:Type}{body:Int→Option (Int⊕(Bool⊕(Int×Bool)))}(l:List α)(d:Nat→α→Bool)(h: ∀(i:Nat) a,l[i]? =some a→body (i:Int)=some (if d i a then .inl ((i+1:Nat):Int)else .inr (.inl false)))(j:body (l.length:Int)=some (.inr (.inr ((l.length:Int),false)))){n:Nat}(hn:l.length<n):loopN body n (0:Int)=some (if Bf d 0 l then .inr ((l.length:Int),false)else .inl false):=by
 have f: ∀(r:List α) (i n:Nat),l.drop i=r→r.length<n→i≤l.length→loopN body n (i:Int)=some (if Bf d i r then .inr ((l.length:Int),false)else .inl false):=by
  intro r; induction r with
  | nil=>
   intro i n b hn k; obtain⟨m,rfl⟩: ∃m,n=m+1:=⟨n - 1,by simp at hn; omega⟩
   have:i=l.length:=by
    have:=congrArg List.length b; simp at this; omega
   subst this; simp only[loopN,j,Bf,if_true]
  | cons a r ih=>
   intro i n b hn k; obtain⟨m,rfl⟩: ∃m,n=m+1:=⟨n - 1,by simp at hn; omega⟩
   have o:i<l.length:=by
    have:=congrArg List.length b; simp at this; omega
   have g:l[i]? =some a:=by
    have:=congrArg (·[0]?) b
    simpa using this
   have e:l.drop (i+1)=r:=by
    have:=congrArg List.tail b; simpa using this
   by_cases c:d i a=true
   ·simp only[loopN,h i a g,z17 c,Bf,c,z41]
    exact ih (i+1) m e (by simp at hn; omega) (by omega)
   ·simp only[loopN,h i a g,z11 c,Bf]
    simp [c]
 exact f l 0 n rfl hn (by omega)
def La{α:Type}(p:α→Bool):Nat→List α→Int
 | _,[]=> -1
 | i,a::r=>bif p a then(i:Int)else La p (i+1) r
theorem vB{α:Type}(p:α→Bool): ∀(l:List α) (i:Nat),(La p i l= -1∧ ∀a∈l,p a=false)∨ ∃k a,La p i l=((i+k:Nat):Int)∧l[k]? =some a∧p a=true∧ ∀(j:Nat) b,j<k→l[j]? =some b→p b=false
 | [],i=> .inl ⟨rfl,by simp⟩
 | a::r,i=>by
  unfold La; cases h:p a with
  | true=>exact .inr ⟨0,a,rfl,rfl,h,fun j b o=>by omega⟩
  | false=>
   rw[z12]; rcases vB p r (i+1)with⟨h1,d⟩ | ⟨k,b,h1,d,g,m⟩
   ·exact .inl ⟨h1,fun b e=>by
     rcases Qq.1 e with rfl | e
     ·exact h
     ·exact d b e⟩
   ·refine .inr ⟨k+1,b,by rw[h1]; omega,d,g,fun j c o f=> ?_⟩
    cases j with
    | zero=>simp only[z20,z9]at f; subst f; exact h
    | succ j=>exact m j c (by omega) f
theorem AH{α σ ρ:Type}{body:σ→Option (σ⊕ρ)}(l:List α)(p:α→Bool)(enc:Nat→σ)(out:Nat→ρ)(b:ρ)(g: ∀(i:Nat) a,l[i]? =some a→body (enc i)=some (bif p a then .inr (out i)else .inl (enc (i+1))))(j:body (enc l.length)=some (.inr b)){n:Nat}(hn:l.length<n):
  loopN body n (enc 0)=some (bif decide (La p 0 l<0)then b else out (La p 0 l).toNat):=by
 have e: ∀(r:List α) (i n:Nat),l.drop i=r→r.length<n→i≤l.length→loopN body n (enc i)=some (bif decide (La p i r<0)then b else out (La p i r).toNat):=by
  intro r; induction r with
  | nil=>
   intro i n c hn o; obtain⟨m,rfl⟩: ∃m,n=m+1:=⟨n - 1,by simp at hn; omega⟩
   have:i=l.length:=by
    have:=congrArg List.length c; simp at this; omega
   subst this; simp only[loopN,j]; rfl
  | cons a r ih=>
   intro i n c hn o; obtain⟨m,rfl⟩: ∃m,n=m+1:=⟨n - 1,by simp at hn; omega⟩
   have q:i<l.length:=by
    have:=congrArg List.length c; simp at this; omega
   have f:l[i]? =some a:=by
    have:=congrArg (·[0]?) c
    simpa using this
   have d:l.drop (i+1)=r:=by
    have:=congrArg List.tail c; simpa using this
   have k:La p i (a::r)=bif p a then(i:Int)else La p (i+1) r:=rfl
   rw[k]; cases h:p a with
   | true=>
    simp only[loopN,g i a f,h,z15]; rw[z10 (by omega),z12,z53]
   | false=>
    simp only[loopN,g i a f,h,z12]; exact ih (i+1) m d (by simp at hn; omega) (by omega)
 exact e l 0 n rfl hn (by omega)
theorem MW{α:Type}(d:Nat→α→Bool): ∀(l:List α) (i:Nat),Bf d i l=true↔ ∀(j:Nat) a,l[j]? =some a→d (i+j) a=true
 | [],i=>by simp [Bf]
 | a::r,i=>by
  simp only[Bf,z7,MW d r (i+1)]; constructor
  ·rintro ⟨h1,e⟩ j b c
   cases j with
   | zero=>simp only[z20,z9]at c; subst c; exact h1
   | succ j=>have:=e j b c; rwa[show i+1+j=i+(j+1)by omega]at this
  ·intro h
   refine⟨h 0 a rfl,fun j b c=> ?_⟩
   have:=h (j+1) b c; rwa[show i+(j+1)=i+1+j by omega]at this
theorem S_laws_Term_eta(a:aM):aM.mk a.f0 a.f1 a.f2 a.f3=a:=by cases a; rfl
theorem aW(a:aA):aA.mk a.f0 a.f1 a.f2 a.f3=a:=by cases a; rfl
mutual
def mH:aM→Nat
 | .mk _ _ s l=>s.length+FL l
def FL:List aM→Nat
 | []=>0
 | x::r=>1+mH x+FL r
end
mutual
def bS:aA→Nat
 | .mk _ _ s l=>3+s.length+rB l
def rB:List aA→Nat
 | []=>1
 | x::r=>1+bS x+rB r
end
mutual
def uZ:aM→aA
 | .mk a b s l=> .mk a b s (yC l)
def yC:List aM→List aA
 | []=> []
 | x::r=>uZ x::yC r
end
mutual
def rM:aM→Nat
 | .mk _ _ s l=>3+s.length+xY l
def xY:List aM→Nat
 | []=>1
 | x::r=>1+rM x+xY r
end
mutual
def okTerm:aM→Prop
 | .mk a b s l=>(IntKind.i64.min≤a∧a≤IntKind.i64.max)∧(IntKind.i64.min≤b∧b≤IntKind.i64.max)∧s.length≤maxLen∧l.length≤maxLen∧DL l
def DL:List aM→Prop
 | []=>True
 | x::r=>okTerm x∧DL r
end
theorem MU{a0 a1:Int}{a2:List UInt8}{a3:List aM}:uZ (.mk a0 a1 a2 a3)= .mk a0 a1 a2 (yC a3):=by simp only[uZ]
theorem DY: ∀l,FL l=zl mH l
 | []=>rfl
 | x::r=>by simp only[FL,zl,pE,DY r,z34]; omega
theorem Dt: ∀l,xY l=dl rM l
 | []=>rfl
 | x::r=>by simp only[xY,dl,Dt r]
theorem fQ: ∀l,rB l=dl bS l
 | []=>rfl
 | x::r=>by simp only[rB,dl,fQ r]
theorem Gh: ∀l,yC l=l.map uZ
 | []=>rfl
 | x::r=>by simp only[yC,Gh r,z54]
theorem okTerms_iff: ∀l,DL l↔ ∀a∈l,okTerm a
 | []=>by simp [DL]
 | x::r=>by simp [DL,okTerms_iff r]
mutual
theorem OP: ∀x,bS (uZ x)=rM x
 | .mk a b s l=>by simp only[uZ,bS,rM,Lg l]
theorem Lg: ∀l,rB (yC l)=xY l
 | []=>rfl
 | x::r=>by simp only[yC,rB,xY,OP x,Lg r]
end
mutual
theorem Ov: ∀x,rM x≤5*mH x+4
 | .mk a b s l=>by have:=MQ l; simp only[rM,mH]; omega
theorem MQ: ∀l,xY l≤5*FL l+1
 | []=>by simp [xY]
 | x::r=>by have:=Ov x; have:=MQ r; simp only[xY,FL]; omega
end
theorem GH: ∀(n:Nat),(∀(a0 a1:Int) (a2:List UInt8) (a3:List aM) (left:Int),rM (.mk a0 a1 a2 a3)<n→okTerm (.mk a0 a1 a2 a3)→0≤left→left≤1048576→iC n a0 a1 a2 a3 left=some (if(mH (.mk a0 a1 a2 a3):Int)≤left then left - mH (.mk a0 a1 a2 a3)else -1))∧ ∀(l:List aM) (left:Int),dl rM l<n→l.length≤maxLen→(∀a∈l,okTerm a)→0≤left→left≤1048576→kK n l left=some (if(zl mH l:Int)≤left then left - zl mH l else -1)
 | 0=>⟨fun a0 a1 a2 a3 left h=>by omega,fun l left h=>by omega⟩
 | n+1=>by
  obtain⟨f,g⟩:=GH n; refine⟨fun a0 a1 a2 a3 left h ho h0 h1=> ?_,fun l left h hl ho h0 h1=> ?_⟩
  ·rw[As]
   unfold oD; simp only[rM,okTerm,mH,DY,Dt]at h ho ⊢; obtain⟨_,_,m,o,p⟩:=ho; rw[CN m h0 h1]; by_cases c:left - (a2.length:Int)<0
   ·rw[z13 c,z15,z11 (by omega)]
   rw[z10 c,z12]; rw[g a3 _ (by omega) o ((okTerms_iff _).1 p) (by omega) (by omega)]
   by_cases b:(zl mH a3:Int)≤left - a2.length
   ·rw[z17 b,z17 (by omega),z8,z10 (by omega)]
    simp only[z12,z9]; omega
   ·rw[z11 b,z11 (by omega)]; rfl
  ·rw[zC]
   unfold mK; have r:=dM rM l; have k:zl mH l=l.length+pE mH l:=rfl; rw[k,CN hl h0 h1]; by_cases c:left - (l.length:Int)<0
   ·rw[z13 c,z15,z11 (by omega)]
   rw[z10 c,z12]; rw[HB l mH (fun i a t d t0 q=>by
    have j:=z24 d; have s:=fR rM j; have u:=dR d; have e:=f a.f0 a.f1 a.f2 a.f3 t (by rw[S_laws_Term_eta]; omega) (by rw[S_laws_Term_eta]; exact ho a j) t0 q
    rw[S_laws_Term_eta]at e; simp only[lX,dY d,z15,dT,d,z8,e,aV (show i<4611686018427387904 by simp only[maxLen]at hl; omega)]
    by_cases b:(mH a:Int)≤t
    ·rw[z17 b,z17 b,z10 (by omega)]; rfl
    ·rw[z11 b,z11 b]; rfl) (fun t=>by simp only[lX,aQ,z12]) (by omega) (by omega) (by omega)]
   by_cases b:(pE mH l:Int)≤left - l.length
   ·rw[z17 b,z17 (by omega)]
    simp only[z8,z9]; omega
   ·rw[z11 b,z11 (by omega)]; rfl
theorem PQ(n:Nat){a0 a1:Int}{a2:List UInt8}{a3:List aM}{left:Int}(h:rM (.mk a0 a1 a2 a3)<n)(ho:okTerm (.mk a0 a1 a2 a3))(h0:0≤left)(h1:left≤1048576):iC n a0 a1 a2 a3 left=some (if(mH (.mk a0 a1 a2 a3):Int)≤left then left - mH (.mk a0 a1 a2 a3)else -1):=(GH n).1 _ _ _ _ _ h ho h0 h1
theorem GF: ∀(n:Nat),(∀(a0 a1:Int) (a2:List UInt8) (a3:List aM),rM (.mk a0 a1 a2 a3)<n→mH (.mk a0 a1 a2 a3)≤1048576→iB n a0 a1 a2 a3=some (a0,a1,a2,yC a3))∧ ∀(l:List aM),dl rM l<n→zl mH l≤1048576→kJ n l=some (yC l)
 | 0=>⟨fun a0 a1 a2 a3 h=>by omega,fun l h=>by omega⟩
 | n+1=>by
  obtain⟨d,e⟩:=GF n; refine⟨fun a0 a1 a2 a3 h hz=> ?_,fun l h hz=> ?_⟩
  ·rw[Aq]
   unfold oB; simp only[rM,mH,DY,Dt]at h hz; simp only[e a3 (by omega) (by omega),z8]
  ·rw[zA]
   unfold mI; have m:=dM rM l; have k:zl mH l=l.length+pE mH l:=rfl; have j:decide (0≤(l.length:Int)∧(l.length:Int)≤maxLen∧56*(l.length:Int)≤281474976710656)=true:=z13 ⟨by omega,by simp only[maxLen]; omega,by omega⟩
   rw[j]; simp only[ck,z15,z8,z53]; rw[HA l uZ _ (fun i a o b c g=>by
    have f:=z24 c; have p:=fR rM f; have q:=dR c; have r:=zO mH f; simp only[lU,dY c,z15,dT,c,g,z8,d a.f0 a.f1 a.f2 a.f3 (by rw[S_laws_Term_eta]; omega) (by rw[S_laws_Term_eta]; omega),aV (show i<4611686018427387904 by omega),z53, ←MU,S_laws_Term_eta]) (fun o=>by simp only[lU,aQ,z12]) (by omega)]
   simp only[z8,Gh]
theorem PM(n:Nat){a0 a1:Int}{a2:List UInt8}{a3:List aM}(h:rM (.mk a0 a1 a2 a3)<n)(hz:mH (.mk a0 a1 a2 a3)≤1048576):iB n a0 a1 a2 a3=some ((uZ (.mk a0 a1 a2 a3)).f0,(uZ (.mk a0 a1 a2 a3)).f1,(uZ (.mk a0 a1 a2 a3)).f2,(uZ (.mk a0 a1 a2 a3)).f3):=by
 rw[(GF n).1 _ _ _ _ h hz,MU]; rfl
theorem Gc: ∀(n:Nat),n≤4611686018427387904→(∀(a0 a1:Int) (a2:List UInt8) (a3:List aA),bS (.mk a0 a1 a2 a3)<n→dV n a0 a1 a2 a3 a0 a1 a2 a3=some true)∧ ∀(l:List aA),dl bS l<n→kL n l l=some true
 | 0,_=>⟨fun a0 a1 a2 a3 h=>by omega,fun l h=>by omega⟩
 | n+1,hn=>by
  obtain⟨c,d⟩:=Gc n (by omega)
  refine⟨fun a0 a1 a2 a3 h=> ?_,fun l h=> ?_⟩
  ·rw[Au]
   unfold oF; simp only[bS,fQ]at h; simp only[d a3 (by omega),z8,decide_true,z31,z12]
  ·rw[zE]
   unfold mM; have f:=dM bS l; simp only[decide_true,z31,z12]; rw[HC l (fun i a b=>by
    have e:=z24 b; have g:=fR bS e; have j:=dR b; simp only[mA,dY b,z15,dT,b,z8,c a.f0 a.f1 a.f2 a.f3 (by rw[aW]; omega),z31,z12,aV (show i<4611686018427387904 by omega)]) (by simp only[mA,aQ,z12]) (by omega)]
   simp only[z8]
theorem JP(n:Nat){a0 a1:Int}{a2:List UInt8}{a3:List aA}(h:bS (.mk a0 a1 a2 a3)<n)(hn:n≤4611686018427387904):dV n a0 a1 a2 a3 a0 a1 a2 a3=some true:=(Gc n hn).1 _ _ _ _ h
theorem bT(a:aH):aH.mk a.f0 a.f1 a.f2 a.f3 a.f4=a:=by cases a; rfl
theorem Ew(a:aC):aC.mk a.f0 a.f1 a.f2 a.f3 a.f4=a:=by cases a; rfl
theorem Bq(a:aB):aB.mk a.f0 a.f1 a.f2 a.f3 a.f4 a.f5 a.f6 a.f7 a.f8 a.f9=a:=by
 obtain⟨p,x⟩:=a; cases p; cases x; rfl
mutual
def jC:aH→Nat
 | .mk _ _ s l c=>s.length+CM l+qJ c
def CM:List aH→Nat
 | []=>0
 | x::r=>1+jC x+CM r
def qJ:List aE→Nat
 | []=>0
 | x::r=>1+dW x+qJ r
def dW:aE→Nat
 | .two p x=>jC p+jC x
end
mutual
def nB:aH→Nat
 | .mk _ _ s l c=>3+s.length+vR l+mG c
def vR:List aH→Nat
 | []=>1
 | x::r=>1+nB x+vR r
def mG:List aE→Nat
 | []=>1
 | x::r=>1+kP x+mG r
def kP:aE→Nat
 | .two p x=>3+nB p+nB x
end
mutual
def bH:aC→Nat
 | .mk _ _ s l c=>3+s.length+rC l+kT c
def rC:List aC→Nat
 | []=>1
 | x::r=>1+bH x+rC r
def kT:List aB→Nat
 | []=>1
 | x::r=>1+dX x+kT r
def dX:aB→Nat
 | .two p x=>3+bH p+bH x
end
mutual
def tR:aH→aC
 | .mk a b s l c=> .mk a b s (qH l) (gM c)
def qH:List aH→List aC
 | []=> []
 | x::r=>tR x::qH r
def gM:List aE→List aB
 | []=> []
 | x::r=>xF x::gM r
def xF:aE→aB
 | .two p x=> .two (tR p) (tR x)
end
mutual
def okExpr:aH→Prop
 | .mk a b s l c=>(IntKind.i64.min≤a∧a≤IntKind.i64.max)∧(IntKind.i64.min≤b∧b≤IntKind.i64.max)∧s.length≤maxLen∧(l.length≤maxLen∧Ab l)∧(c.length≤maxLen∧pS c)
def Ab:List aH→Prop
 | []=>True
 | x::r=>okExpr x∧Ab r
def pS:List aE→Prop
 | []=>True
 | x::r=>okClause x∧pS r
def okClause:aE→Prop
 | .two p x=>okExpr p∧okExpr x
end
theorem OO(a:aH):jC a=a.f2.length+CM a.f3+qJ a.f4:=by cases a; simp only[jC]; rfl
theorem Oy(a:aH):nB a=3+a.f2.length+vR a.f3+mG a.f4:=by cases a; simp only[nB]; rfl
theorem sA(a:aC):bH a=3+a.f2.length+rC a.f3+kT a.f4:=by cases a; simp only[bH]; rfl
theorem Ii(a:aE):dW a=jC a.p+jC a.x:=by obtain⟨p,x⟩:=a; simp only[dW]; rfl
theorem JR(a:aE):kP a=3+nB a.p+nB a.x:=by obtain⟨p,x⟩:=a; simp only[kP]; rfl
theorem Ik(a:aB):dX a=3+bH a.p+bH a.x:=by obtain⟨p,x⟩:=a; simp only[dX]; rfl
theorem RS(a:aH):okExpr a↔(IntKind.i64.min≤a.f0∧a.f0≤IntKind.i64.max)∧(IntKind.i64.min≤a.f1∧a.f1≤IntKind.i64.max)∧a.f2.length≤maxLen∧(a.f3.length≤maxLen∧Ab a.f3)∧(a.f4.length≤maxLen∧pS a.f4):=by cases a; simp only[okExpr]; rfl
theorem Ms(a:aE):okClause a↔okExpr a.p∧okExpr a.x:=by obtain⟨p,x⟩:=a; simp only[okClause]; rfl
theorem MV{a0 a1:Int}{a2:List UInt8}{a3:List aH}{a4:List aE}:tR (.mk a0 a1 a2 a3 a4)= .mk a0 a1 a2 (qH a3) (gM a4):=by simp only[tR]
theorem DZ: ∀l,CM l=zl jC l
 | []=>rfl
 | x::r=>by simp only[CM,zl,pE,DZ r,z34]; omega
theorem yF: ∀l:List aE,qJ l=zl dW l
 | []=>rfl
 | x::r=>by
  have e:=yF r; have a:qJ (x::r)=1+dW x+qJ r:=by simp only[qJ]
  have b:zl dW (x::r)=(x::r).length+(dW x+pE dW r):=rfl; have c:zl dW r=r.length+pE dW r:=rfl; rw[a,b,e,c,z34]; omega
theorem Du: ∀l,vR l=dl nB l
 | []=>rfl
 | x::r=>by simp only[vR,dl,Du r]
theorem yO: ∀l:List aE,mG l=dl kP l
 | []=>rfl
 | x::r=>by
  have e:=yO r; have a:mG (x::r)=1+kP x+mG r:=by simp only[mG]
  rw[a,e]; rfl
theorem eS: ∀l,rC l=dl bH l
 | []=>rfl
 | x::r=>by simp only[rC,dl,eS r]
theorem dI: ∀l:List aB,kT l=dl dX l
 | []=>rfl
 | x::r=>by
  have e:=dI r; have a:kT (x::r)=1+dX x+kT r:=by simp only[kT]
  rw[a,e]; rfl
theorem Gi: ∀l,qH l=l.map tR
 | []=>rfl
 | x::r=>by simp only[qH,Gi r,z54]
def cCl(a:aE):aB:=xF a
theorem CH: ∀l:List aE,gM l=l.map cCl
 | []=>rfl
 | x::r=>by
  have e:=CH r; have a:gM (x::r)=xF x::gM r:=by simp only[gM]
  rw[a,e]; rfl
theorem okExprs_iff: ∀l,Ab l↔ ∀a∈l,okExpr a
 | []=>by simp [Ab]
 | x::r=>by simp [Ab,okExprs_iff r]
theorem okClauses_iff: ∀l:List aE,pS l↔ ∀a∈l,okClause a
 | []=>by simp [pS]
 | x::r=>by
  have e:=okClauses_iff r; have b:pS (x::r)↔okClause x∧pS r:=by simp only[pS]
  rw[b,e]; simp
mutual
theorem Gn: ∀x,bH (tR x)=nB x
 | .mk a b s l c=>by simp only[tR,bH,nB,Lh l,GD c]
theorem Lh: ∀l,rC (qH l)=vR l
 | []=>rfl
 | x::r=>by simp only[qH,rC,vR,Gn x,Lh r]
theorem GD: ∀l,kT (gM l)=mG l
 | []=>rfl
 | x::r=>by simp only[gM,kT,mG,PJ x,GD r]
theorem PJ: ∀x,dX (xF x)=kP x
 | .two p x=>by simp only[xF,dX,kP,Gn p,Gn x]
end
mutual
theorem HL: ∀x,nB x≤15*jC x+5
 | .mk a b s l c=>by have:=MS l; have:=Gg c; simp only[nB,jC]; omega
theorem MS: ∀l,vR l≤15*CM l+1
 | []=>by simp [vR]
 | x::r=>by have:=HL x; have:=MS r; simp only[vR,CM]; omega
theorem Gg: ∀l,mG l≤15*qJ l+1
 | []=>by simp [mG]
 | x::r=>by have:=Pw x; have:=Gg r; simp only[mG,qJ]; omega
theorem Pw: ∀x,kP x≤15*dW x+13
 | .two p x=>by have:=HL p; have:=HL x; simp only[kP,dW]; omega
end
theorem GI: ∀(n:Nat),(∀(a:aH) (left:Int),nB a<n→okExpr a→0≤left→left≤1048576→dC n a.f0 a.f1 a.f2 a.f3 a.f4 left=some (if(jC a:Int)≤left then left - jC a else -1))∧(∀(l:List aH) (left:Int),dl nB l<n→l.length≤maxLen→(∀a∈l,okExpr a)→0≤left→left≤1048576→fO n l left=some (if(zl jC l:Int)≤left then left - zl jC l else -1))∧
  (∀(a:aE) (left:Int),kP a<n→okClause a→0≤left→left≤1048576→eK n a.f0 a.f1 a.f2 a.f3 a.f4 a.f5 a.f6 a.f7 a.f8 a.f9 left=some (if(dW a:Int)≤left then left - dW a else -1))∧(∀(l:List aE) (left:Int),dl kP l<n→l.length≤maxLen→(∀a∈l,okClause a)→0≤left→left≤1048576→eB n l left=some (if(zl dW l:Int)≤left then left - zl dW l else -1))
 | 0=>⟨fun a left h=>by omega,fun l left h=>by omega,fun a left h=>by omega,fun l left h=>by omega⟩
 | n+1=>by
  obtain⟨f,k,m,o⟩:=GI n; refine⟨fun a left h ho h0 h1=> ?_,fun l left h hl ho h0 h1=> ?_,fun a left h ho h0 h1=> ?_,fun l left h hl ho h0 h1=> ?_⟩
  ·rw[At]
   unfold oE; rw[Oy,Du,yO]at h; rw[RS]at ho; have hz:=OO a; rw[DZ,yF]at hz; obtain⟨_,_,B,s,u⟩:=ho; rw[CN B h0 h1,hz]; by_cases c:left - (a.f2.length:Int)<0
   ·rw[z13 c,z15,z11 (by omega)]
   rw[z10 c,z12]; rw[k a.f3 _ (by omega) s.1 ((okExprs_iff _).1 s.2) (by omega) (by omega)]
   by_cases b:(zl jC a.f3:Int)≤left - a.f2.length
   ·rw[z17 b,z8,z10 (by omega),z12]
    rw[o a.f4 _ (by omega) u.1 ((okClauses_iff _).1 u.2) (by omega) (by omega)]
    by_cases r:(zl dW a.f4:Int)≤left - a.f2.length - zl jC a.f3
    ·rw[z17 r,z17 (by omega),z8,z10 (by omega)]
     simp only[z12,z9]; omega
    ·rw[z11 r,z11 (by omega)]; rfl
   ·rw[z11 b,z11 (by omega)]; rfl
  ·rw[zD]
   unfold mL; have y:=dM nB l; have j:zl jC l=l.length+pE jC l:=rfl; rw[j,CN hl h0 h1]; by_cases c:left - (l.length:Int)<0
   ·rw[z13 c,z15,z11 (by omega)]
   rw[z10 c,z12]; rw[HB l jC (fun i a t d t0 q=>by
    have g:=z24 d; have z:=fR nB g; have A:=dR d; have e:=f a t (by omega) (ho a g) t0 q
    simp only[lY,dY d,z15,dT,d,z8,e,aV (show i<4611686018427387904 by simp only[maxLen]at hl; omega)]
    by_cases b:(jC a:Int)≤t
    ·rw[z17 b,z17 b,z10 (by omega)]; rfl
    ·rw[z11 b,z11 b]; rfl) (fun t=>by simp only[lY,aQ,z12]) (by omega) (by omega) (by omega)]
   by_cases b:(pE jC l:Int)≤left - l.length
   ·rw[z17 b,z17 (by omega)]
    simp only[z8,z9]; omega
   ·rw[z11 b,z11 (by omega)]; rfl
  ·rw[xK]
   unfold kY; rw[JR]at h; rw[Ms]at ho; have hz:=Ii a; have v:dC n a.f0 a.f1 a.f2 a.f3 a.f4 left=_:=f a.p left (by omega) ho.1 h0 h1
   rw[v,hz]; by_cases c:(jC a.p:Int)≤left
   ·rw[z17 c,z8,z10 (by omega),z12]
    have w:dC n a.f5 a.f6 a.f7 a.f8 a.f9 (left - jC a.p)=_:=f a.x _ (by omega) ho.2 (by omega) (by omega)
    rw[w]; by_cases b:(jC a.x:Int)≤left - jC a.p
    ·rw[z17 b,z17 (by omega),z8,z10 (by omega)]
     simp only[z12,z9]; omega
    ·rw[z11 b,z11 (by omega)]; rfl
   ·rw[z11 c,z11 (by omega)]; rfl
  ·rw[wM]
   unfold jW; have y:=dM kP l; have j:zl dW l=l.length+pE dW l:=rfl; rw[j,CN hl h0 h1]; by_cases c:left - (l.length:Int)<0
   ·rw[z13 c,z15,z11 (by omega)]
   rw[z10 c,z12]; rw[HB l dW (fun i a t d t0 q=>by
    have g:=z24 d; have z:=fR kP g; have A:=dR d; have e:=m a t (by omega) (ho a g) t0 q
    simp only[jM,dY d,z15,dT,d,z8,e,aV (show i<4611686018427387904 by simp only[maxLen]at hl; omega)]
    by_cases b:(dW a:Int)≤t
    ·rw[z17 b,z17 b,z10 (by omega)]; rfl
    ·rw[z11 b,z11 b]; rfl) (fun t=>by simp only[jM,aQ,z12]) (by omega) (by omega) (by omega)]
   by_cases b:(pE dW l:Int)≤left - l.length
   ·rw[z17 b,z17 (by omega)]
    simp only[z8,z9]; omega
   ·rw[z11 b,z11 (by omega)]; rfl
theorem Db(n:Nat){a0 a1:Int}{a2:List UInt8}{a3:List aH}{a4:List aE}{left:Int}(h:nB (.mk a0 a1 a2 a3 a4)<n)(ho:okExpr (.mk a0 a1 a2 a3 a4))(h0:0≤left)(h1:left≤1048576):dC n a0 a1 a2 a3 a4 left=some (if(jC (.mk a0 a1 a2 a3 a4):Int)≤left then left - jC (.mk a0 a1 a2 a3 a4)else -1):=(GI n).1 _ _ h ho h0 h1
theorem GG: ∀(n:Nat),(∀(a:aH),nB a<n→jC a≤1048576→bR n a.f0 a.f1 a.f2 a.f3 a.f4=some (a.f0,a.f1,a.f2,qH a.f3,gM a.f4))∧(∀(l:List aH),dl nB l<n→zl jC l≤1048576→fM n l=some (qH l))∧
  (∀(a:aE),kP a<n→dW a≤1048576→eI n a.f0 a.f1 a.f2 a.f3 a.f4 a.f5 a.f6 a.f7 a.f8 a.f9=some (a.f0,a.f1,a.f2,qH a.f3,gM a.f4,a.f5,a.f6,a.f7,qH a.f8,gM a.f9))∧(∀(l:List aE),dl kP l<n→zl dW l≤1048576→eA n l=some (gM l))
 | 0=>⟨fun a h=>by omega,fun l h=>by omega,fun a h=>by omega,fun l h=>by omega⟩
 | n+1=>by
  obtain⟨d,k,m,q⟩:=GG n; refine⟨fun a h hz=> ?_,fun l h hz=> ?_,fun a h hz=> ?_,fun l h hz=> ?_⟩
  ·rw[Ar]
   unfold oC; rw[Oy,Du,yO]at h; rw[OO,DZ,yF]at hz; simp only[k a.f3 (by omega) (by omega),q a.f4 (by omega) (by omega),z8]
  ·rw[zB]
   unfold mJ; have u:=dM nB l; have t:zl jC l=l.length+pE jC l:=rfl; have g:decide (0≤(l.length:Int)∧(l.length:Int)≤maxLen∧80*(l.length:Int)≤281474976710656)=true:=z13 ⟨by omega,by simp only[maxLen]; omega,by omega⟩
   rw[g]; simp only[ck,z15,z8,z53]; rw[HA l tR _ (fun i a o b c f=>by
    have e:=z24 c; have v:=fR nB e; have w:=dR c; have y:=zO jC e; simp only[lV,dY c,z15,dT,c,f,z8,d a (by omega) (by omega),aV (show i<4611686018427387904 by omega),z53, ←MV,bT]) (fun o=>by simp only[lV,aQ,z12]) (by omega)]
   simp only[z8,Gi]
  ·rw[xJ]
   unfold kX; rw[JR]at h; rw[Ii]at hz; have r:bR n a.f0 a.f1 a.f2 a.f3 a.f4=some (a.f0,a.f1,a.f2,qH a.f3,gM a.f4):=d a.p (by omega) (by omega)
   have s:bR n a.f5 a.f6 a.f7 a.f8 a.f9=some (a.f5,a.f6,a.f7,qH a.f8,gM a.f9):=d a.x (by omega) (by omega)
   simp only[r,s,z8]
  ·rw[wL]
   unfold jV; have u:=dM kP l; have t:zl dW l=l.length+pE dW l:=rfl; have g:decide (0≤(l.length:Int)∧(l.length:Int)≤maxLen∧160*(l.length:Int)≤281474976710656)=true:=z13 ⟨by omega,by simp only[maxLen]; omega,by omega⟩
   rw[g]; simp only[ck,z15,z8,z53]; rw[HA l cCl _ (fun i a o b c f=>by
    have e:=z24 c; have v:=fR kP e; have w:=dR c; have y:=zO dW e; have j:aB.mk a.f0 a.f1 a.f2 (qH a.f3) (gM a.f4) a.f5 a.f6 a.f7 (qH a.f8) (gM a.f9)=cCl a:=by
     obtain⟨p,x⟩:=a; show _=xF (.two p x); simp only[xF]; cases p; cases x; simp only[tR]; rfl
    simp only[jL,dY c,z15,dT,c,f,z8,m a (by omega) (by omega),aV (show i<4611686018427387904 by omega),z53,j]) (fun o=>by simp only[jL,aQ,z12]) (by omega)]
   simp only[z8,CH]
theorem PN(n:Nat){a0 a1:Int}{a2:List UInt8}{a3:List aH}{a4:List aE}(h:nB (.mk a0 a1 a2 a3 a4)<n)(hz:jC (.mk a0 a1 a2 a3 a4)≤1048576):bR n a0 a1 a2 a3 a4=some ((tR (.mk a0 a1 a2 a3 a4)).f0,(tR (.mk a0 a1 a2 a3 a4)).f1,(tR (.mk a0 a1 a2 a3 a4)).f2,(tR (.mk a0 a1 a2 a3 a4)).f3,(tR (.mk a0 a1 a2 a3 a4)).f4):=by
 have e:bR n a0 a1 a2 a3 a4=_:=(GG n).1 (.mk a0 a1 a2 a3 a4) h hz; rw[e,MV]; rfl
theorem Ge: ∀(n:Nat),n≤4611686018427387904→(∀(a:aC),bH a<n→dD n a.f0 a.f1 a.f2 a.f3 a.f4 a.f0 a.f1 a.f2 a.f3 a.f4=some true)∧(∀(l:List aC),dl bH l<n→fP n l l=some true)∧
  (∀(a:aB),dX a<n→eM n a.f0 a.f1 a.f2 a.f3 a.f4 a.f5 a.f6 a.f7 a.f8 a.f9 a.f0 a.f1 a.f2 a.f3 a.f4 a.f5 a.f6 a.f7 a.f8 a.f9=some true)∧(∀(l:List aB),dl dX l<n→eC n l l=some true)
 | 0,_=>⟨fun a h=>by omega,fun l h=>by omega,fun a h=>by omega,fun l h=>by omega⟩
 | n+1,hn=>by
  obtain⟨c,e,f,g⟩:=Ge n (by omega)
  refine⟨fun a h=> ?_,fun l h=> ?_,fun a h=> ?_,fun l h=> ?_⟩
  ·rw[Av]
   unfold oG; rw[sA,eS,dI]at h; simp only[e a.f3 (by omega),g a.f4 (by omega),z8,decide_true,z31,z12]
  ·rw[zF]
   unfold mN; have m:=dM bH l; simp only[decide_true,z31,z12]; rw[HC l (fun i a b=>by
    have d:=z24 b; have o:=fR bH d; have q:=dR b; simp only[mB,dY b,z15,dT,b,z8,c a (by omega),z31,z12,aV (show i<4611686018427387904 by omega)]) (by simp only[mB,aQ,z12]) (by omega)]
   simp only[z8]
  ·rw[xL]
   unfold kZ; rw[Ik]at h; have j:dD n a.f0 a.f1 a.f2 a.f3 a.f4 a.f0 a.f1 a.f2 a.f3 a.f4=some true:=c a.p (by omega)
   have k:dD n a.f5 a.f6 a.f7 a.f8 a.f9 a.f5 a.f6 a.f7 a.f8 a.f9=some true:=c a.x (by omega)
   simp only[j,k,z8,z31,z12]
  ·rw[wP]
   unfold jY; have m:=dM dX l; simp only[decide_true,z31,z12]; rw[HC l (fun i a b=>by
    have d:=z24 b; have o:=fR dX d; have q:=dR b; simp only[jN,dY b,z15,dT,b,z8,f a (by omega),z31,z12,aV (show i<4611686018427387904 by omega)]) (by simp only[jN,aQ,z12]) (by omega)]
   simp only[z8]
theorem Pu(n:Nat){a0 a1:Int}{a2:List UInt8}{a3:List aC}{a4:List aB}(h:bH (.mk a0 a1 a2 a3 a4)<n)(hn:n≤4611686018427387904):dD n a0 a1 a2 a3 a4 a0 a1 a2 a3 a4=some true:=(Ge n hn).1 (.mk a0 a1 a2 a3 a4) h

theorem iZ(a:S_laws_Bind):S_laws_Bind.mk a.f0 a.f1 a.f2 a.f3 a.f4=a:=rfl
theorem wA(a:aG):aG.mk a.f0 a.f1 a.f2 a.f3 a.f4=a:=rfl
def rK:S_laws_Bind→Nat
 | .mk a0 a1 a2 a3 a4=>a0.length+mH (.mk a1 a2 a3 a4)
def sQ:S_laws_Bind→Nat
 | .mk a0 a1 a2 a3 a4=>3+a0.length+rM (.mk a1 a2 a3 a4)
def fV:aG→Nat
 | .mk a0 a1 a2 a3 a4=>3+a0.length+bS (.mk a1 a2 a3 a4)
def okBind:S_laws_Bind→Prop
 | .mk a0 a1 a2 a3 a4=>(a0.length≤maxLen)∧(okTerm (.mk a1 a2 a3 a4))
def FJ:S_laws_Bind→aG
 | .mk a0 a1 a2 a3 a4=> .mk a0 (uZ (.mk a1 a2 a3 a4)).f0 (uZ (.mk a1 a2 a3 a4)).f1 (uZ (.mk a1 a2 a3 a4)).f2 (uZ (.mk a1 a2 a3 a4)).f3
theorem PR(n:Nat){a0:List UInt8}{a1:Int}{a2:Int}{a3:List UInt8}{a4:List aM}{left:Int}(h:sQ (.mk a0 a1 a2 a3 a4)<n)(ho:okBind (.mk a0 a1 a2 a3 a4))(h0:0≤left)(h1:left≤1048576):oO n a0 a1 a2 a3 a4 left=some (if(rK (.mk a0 a1 a2 a3 a4):Int)≤left then left - rK (.mk a0 a1 a2 a3 a4)else -1):=by
 unfold oO; simp only[sQ,okBind]at h ho; have c:rK (.mk a0 a1 a2 a3 a4)=a0.length+mH (.mk a1 a2 a3 a4):=rfl; generalize rK (.mk a0 a1 a2 a3 a4)=zz at c ⊢; obtain⟨d,e⟩:=ho; rw[CN d (by omega) (by omega)]
 by_cases a:left - ((a0.length:Nat):Int)<0
 ·rw[z13 a,z15,z11 (by omega)]
 rw[z10 a,z12]; rw[PQ n (h:=by omega) (ho:=e) (h0:=by omega) (h1:=by omega)]
 by_cases b:((mH (.mk a1 a2 a3 a4):Nat):Int)≤left - (a0.length:Nat)
 rotate_left
 ·rw[z11 b,z11 (by omega)]; rfl
 rw[z17 b,z8,z10 (by omega),z12]
 rw[z17 (by omega)]
 congr 1; omega
theorem PO(n:Nat){a0:List UInt8}{a1:Int}{a2:Int}{a3:List UInt8}{a4:List aM}(h:sQ (.mk a0 a1 a2 a3 a4)<n)(hz:rK (.mk a0 a1 a2 a3 a4)≤1048576):oN n a0 a1 a2 a3 a4=some ((FJ (.mk a0 a1 a2 a3 a4)).f0,(FJ (.mk a0 a1 a2 a3 a4)).f1,(FJ (.mk a0 a1 a2 a3 a4)).f2,(FJ (.mk a0 a1 a2 a3 a4)).f3,(FJ (.mk a0 a1 a2 a3 a4)).f4):=by
 unfold oN; simp only[sQ,rK]at h hz; rw[PM n (h:=by omega) (hz:=by omega)]
 try simp only[z8]
 rfl
theorem Pv(n:Nat){a0:List UInt8}{a1:Int}{a2:Int}{a3:List UInt8}{a4:List aA}(h:fV (.mk a0 a1 a2 a3 a4)<n)(hn:n≤4611686018427387904):oP n a0 a1 a2 a3 a4 a0 a1 a2 a3 a4=some true:=by
 unfold oP; simp only[fV]at h; try simp only[decide_true,z155,z31,z12]
 rw[JP n (h:=by omega) (hn:=hn)]
 simp only[z8,decide_true,z155,z31,z12]
theorem TT(a:S_laws_Bind):fV (FJ a)=sQ a:=by
 cases a; simp only[FJ,fV,sQ,aW,OP]
theorem UO(a:S_laws_Bind):sQ a≤5*rK a+7:=by
 obtain⟨a0,a1,a2,a3,a4⟩:=a; have:=Ov (.mk a1 a2 a3 a4); show 3+a0.length+rM (.mk a1 a2 a3 a4)≤5*(a0.length+mH (.mk a1 a2 a3 a4))+7; omega
def IZ(l:List S_laws_Bind):List aG:=l.map FJ
theorem GJ(n:Nat)(l:List S_laws_Bind)(left:Int)(h:dl sQ l<n)(e:l.length≤maxLen)(ho: ∀a∈l,okBind a)(h0:0≤left)(h1:left≤1048576):mU n l left=some (if(zl rK l:Int)≤left then left - zl rK l else -1):=by
 unfold mU; have k:=dM sQ l; have g:zl rK l=l.length+pE rK l:=rfl; rw[g,CN e h0 h1]; by_cases c:left - (l.length:Int)<0
 ·rw[z13 c,z15,z11 (by omega)]
 rw[z10 c,z12]; rw[HB l rK (fun i a t d t0 j=>by
  have f:=z24 d; have m:=fR sQ f; have o:=dR d; simp only[lZ,dY d,z15,dT,d,z8,aV (show i<4611686018427387904 by simp only[maxLen]at e; omega)]
  rw[PR n (h:=by rw[iZ]; omega) (ho:=by rw[iZ]; exact ho a f) (h0:=t0) (h1:=j),iZ]
  by_cases b:(rK a:Int)≤t
  ·rw[z17 b,z17 b,z8,z10 (by omega),z12]
  ·rw[z11 b,z11 b]; rfl) (fun t=>by simp only[lZ,aQ,z12]) (by omega) (by omega) (by omega)]
 by_cases b:(pE rK l:Int)≤left - l.length
 ·rw[z17 b,z17 (by omega)]
  simp only[z8,z9]; omega
 ·rw[z11 b,z11 (by omega)]; rfl
theorem Mi(n:Nat)(l:List S_laws_Bind)(h:dl sQ l<n)(hz:zl rK l≤1048576):fN n l=some (IZ l):=by
 unfold fN; have j:=dM sQ l; have g:zl rK l=l.length+pE rK l:=rfl; have f:decide (0≤(l.length:Int)∧(l.length:Int)≤maxLen∧72*(l.length:Int)≤281474976710656)=true:=z13 ⟨by omega,by simp only[maxLen]; omega,by omega⟩
 rw[f]; simp only[ck,z15,z8,z53]; rw[HA l FJ _ (fun i a o b c e=>by
  have d:=z24 c; have k:=fR sQ d; have m:=dR c; have p:=zO rK d; simp only[lW,dY c,z15,dT,c,e,z8,aV (show i<4611686018427387904 by omega),z53]
  rw[PO n (h:=by rw[iZ]; omega) (hz:=by rw[iZ]; omega)]
  simp only[z8,iZ,wA]) (fun o=>by simp only[lW,aQ,z12]) (by omega)]
 rfl
theorem NH(n:Nat)(l:List aG)(h:dl fV l<n)(hn:n≤4611686018427387904):mV n l l=some true:=by
 unfold mV; have d:=dM fV l; simp only[decide_true,z31,z12]; rw[HC l (fun i a b=>by
  have c:=z24 b; have e:=fR fV c; have f:=dR b; simp only[mC,dY b,z15,dT,b,z8,aV (show i<4611686018427387904 by omega)]
  rw[Pv n (h:=by rw[wA]; omega) (hn:=hn)]
  rfl) (by simp only[mC,aQ,z12]) (by omega)]
 rfl
theorem Rv(l:List S_laws_Bind):dl fV (IZ l)=dl sQ l:=by
 unfold IZ; rw[Sc]; exact MP fun a _=>TT a
theorem uN(n:Nat)(x a b:Int):cU n x a b=some (decide (a≤x)&&decide (x≤b)):=by
 unfold cU; cases decide (a≤x)<;>rfl
theorem wG(n:Nat)(x a b:Int):dU n x a b=some (decide (a≤x)&&decide (x≤b)):=by
 unfold dU; cases decide (a≤x)<;>rfl
theorem GX(n:Nat)(x:Int):iP n x=some (decide (97≤x)&&decide (x≤122)):=by
 unfold iP; cases decide (97≤x)<;>rfl
theorem EN(n:Nat)(x:Int):fY n x=some (decide (48≤x)&&decide (x≤57)):=by
 unfold fY; cases decide (48≤x)<;>rfl
def rD(c:Int):Bool:=decide (97≤c)&&decide (c≤122)
def If(c:Int):Bool:=decide (48≤c)&&decide (c≤57)
def Jh(i:Nat)(c:UInt8):Bool:=rD c.toNat||(!decide (i=0)&&(If c.toNat||decide ((c.toNat:Int)=95)))
def uD(s:List UInt8):Bool:=Bf Jh 0 s&&(decide (1≤(s.length:Int))&&decide ((s.length:Int)≤20))
theorem Gl(c:UInt8):IntKind.wrap .i64 ((c.toNat:Nat):Int)=c.toNat:=by
 have:=c.toNat_lt; exact wrap_i64 (by omega) (by omega)
theorem Nw(i:Nat):decide ((i:Int)=0)=decide (i=0):=by
 by_cases h:i=0<;>simp [h]
theorem xR(n:Nat)(s:List UInt8)(h:s.length<n)(hn:s.length<4611686018427387904):lM n s=some (uD s):=by
 unfold lM; rw[CY s Jh (fun i c a=>by
  have b:=dR a; simp only[nD,dY a,z15,HH,a,z33,z8,uN,Gl,aV (show i<4611686018427387904 by omega),Nw]
  unfold Jh rD If; cases decide (97≤(c.toNat:Int))<;>cases decide ((c.toNat:Int)≤122)<;>cases decide (i=0)<;>cases decide (48≤(c.toNat:Int))<;>cases decide ((c.toNat:Int)≤57)<;>cases decide ((c.toNat:Int)=95)<;>rfl) (by simp only[nD,aQ,z12]) h]
 unfold uD; by_cases c:Bf Jh 0 s=true
 ·rw[z17 c,c]; simp only[z8,uN,z41]
 ·rw[z11 c]; simp only[z90]at c; rw[c]; rfl
theorem xT(n:Nat)(s:List UInt8)(h:s.length<n)(hn:s.length<4611686018427387904):lN n s=some (uD s):=by
 unfold lN; rw[CY s Jh (fun i c a=>by
  have b:=dR a; simp only[nE,dY a,z15,HH,a,z33,z8,GX,EN,aV (show i<4611686018427387904 by omega),Nw]
  unfold Jh rD If; cases decide (97≤(c.toNat:Int))<;>cases decide ((c.toNat:Int)≤122)<;>cases decide (i=0)<;>cases decide (48≤(c.toNat:Int))<;>cases decide ((c.toNat:Int)≤57)<;>cases decide ((c.toNat:Int)=95)<;>rfl) (by simp only[nE,aQ,z12]) h]
 unfold uD; by_cases c:Bf Jh 0 s=true
 ·rw[z17 c,c]; simp only[z8,wG,z41]
 ·rw[z11 c]; simp only[z90]at c; rw[c]; rfl
def pN(c:Int):Bool:=(decide (65≤c)&&decide (c≤90))||decide (c=95)
theorem GY(n:Nat)(x:Int):kN n x=some (pN x):=by
 unfold kN pN; cases decide (65≤x)<;>cases decide (x≤90)<;>rfl
theorem Mx(n:Nat)(c:UInt8):mR n (c.toNat:Int)=some (pN c.toNat):=by
 unfold mR pN; rw[Gl,uN]; cases decide (65≤(c.toNat:Int))<;>cases decide ((c.toNat:Int)≤90)<;>rfl
theorem Mw(n:Nat)(c:UInt8):mQ n (c.toNat:Int)=some (rD c.toNat):=by
 unfold mQ rD; rw[Gl,uN]; rfl
theorem My(n:Nat)(c:UInt8):mS n (c.toNat:Int)=some (If c.toNat):=by
 unfold mS If; rw[Gl,uN]; rfl
theorem LD(n:Nat)(x:Int):iP n x=some (rD x):=GX n x
theorem Pn(n:Nat)(x:Int):fY n x=some (If x):=EN n x
def yG(c:UInt8):Bool:=rD c.toNat||(pN c.toNat||If c.toNat)
theorem Hp(n:Nat)(x:Int):jB n x=some (rD x||(pN x||If x)):=by
 unfold jB; rw[LD,GY,Pn]; cases rD x<;>cases pN x<;>cases If x<;>rfl
def Ng(i:Nat)(c:UInt8):Bool:=pN c.toNat||(!decide (i=0)&&(rD c.toNat||If c.toNat))
def FC(s:List UInt8):Bool:=Bf Ng 0 s&&(decide (1≤(s.length:Int))&&decide ((s.length:Int)≤20))
theorem Hm(n:Nat)(s:List UInt8)(h:s.length<n)(hn:s.length<4611686018427387904):mP n s=some (FC s):=by
 unfold mP; rw[CY s Ng (fun i c a=>by
  have b:=dR a; simp only[lT,dY a,z15,HH,a,z33,z8,Mx,Mw,My,aV (show i<4611686018427387904 by omega),Nw]
  unfold Ng; cases pN (c.toNat:Int)<;>cases decide (i=0)<;>cases rD (c.toNat:Int)<;>cases If (c.toNat:Int)<;>rfl) (by simp only[lT,aQ,z12]) h]
 unfold FC; by_cases c:Bf Ng 0 s=true
 ·rw[z17 c,c]; simp only[z8,uN,z41]
 ·rw[z11 c]; simp only[z90]at c; rw[c]; rfl
theorem JW: ∀(r:List UInt8) (i:Nat),0<i→Bf Ng i r=r.all yG
 | [],i,h=>rfl
 | c::r,i,h=>by
  have e:Ng i c=yG c:=by
   unfold Ng yG; rw[z10 (by omega)]
   cases pN (c.toNat:Int)<;>cases rD (c.toNat:Int)<;>cases If (c.toNat:Int)<;>rfl
  simp only[Bf,z91,JW r (i+1) (by omega),e]
theorem Hr(n:Nat)(s:List UInt8)(h:s.length<n)(hn:s.length<4611686018427387904):pZ n s=some (FC s):=by
 unfold pZ; rw[Tv s yG (fun i c b=>by
  have k:=dR b; simp only[oY,dY b,z15,HH,b,z33,z8,Hp,aV (show i<4611686018427387904 by omega)]
  unfold yG; cases rD (c.toNat:Int)<;>cases pN (c.toNat:Int)<;>cases If (c.toNat:Int)<;>rfl) (by simp only[oY,aQ,z12]) h]
 unfold FC; cases s with
 | nil=>rfl
 | cons c r=>
  have e:Bf Ng 0 (c::r)=(pN c.toNat&&r.all yG):=by
   simp only[Bf,z30,JW r 1 (by omega)]
   unfold Ng; rw[z13 rfl]; cases pN (c.toNat:Int)<;>rfl
  have f:(c::r).all yG=(yG c&&r.all yG):=z91; have j:ixs (c::r) (0:Int)=some (c.toNat:Int):=rfl; have g:pN c.toNat=true→yG c=true:=fun h=>by unfold yG; rw[h]; cases rD (c.toNat:Int)<;>rfl
  rw[e,f]; generalize r.all yG=q; by_cases a:(yG c&&q)=true
  ·rw[z17 a]
   simp only[z8,wG,j,GY]; have d:q=true:=by cases q with | true=>rfl | false=>simp at a
   subst d; cases decide (1≤((c::r).length:Int))<;>cases decide (((c::r).length:Int)≤20)<;>cases pN (c.toNat:Int)<;>rfl
  ·rw[z11 a]
   cases hl:pN (c.toNat:Int)with
   | false=>rfl
   | true=>
    rw[g hl]at a; cases q with
    | true=>simp at a
    | false=>rfl
def pV(s:List UInt8):Bool:=uD s&&(!decide (s=[99,97,115,101])&&(!decide (s=[111,102])&& !decide (s=[101,110,100])))
theorem Mh(n:Nat)(s:List UInt8)(h:s.length<n)(hn:s.length<4611686018427387904):kM n s=some (pV s):=by
 unfold kM pV; rw[xT n s h hn,z8]; generalize decide (s=[99,97,115,101])=a; generalize decide (s=[111,102])=b; generalize decide (s=[101,110,100])=c; cases uD s<;>cases a<;>cases b<;>cases c<;>rfl
theorem Pk(n:Nat)(s:List UInt8)(h:s.length<n)(hn:s.length<4611686018427387904):lL n s=some (pV s):=by
 unfold lL pV lS; rw[xR n s h hn,z8]; generalize decide (s=[99,97,115,101])=a; generalize decide (s=[111,102])=b; generalize decide (s=[101,110,100])=c; cases uD s<;>cases a<;>cases b<;>cases c<;>rfl
def Qx(s:List UInt8):Bool:=decide (s=[43])||(decide (s=[45])||(decide (s=[42])||(decide (s=[61,61])||decide (s=[60]))))
theorem UC(n:Nat)(s:List UInt8):rH n s=some (Qx s):=by
 unfold rH Qx; generalize decide (s=[43])=a; generalize decide (s=[45])=b; generalize decide (s=[42])=c; generalize decide (s=[61,61])=d; generalize decide (s=[60])=e; cases a<;>cases b<;>cases c<;>cases d<;>cases e<;>rfl
theorem UA(n:Nat)(s:List UInt8):rF n s=some (Qx s):=by
 unfold rF Qx; generalize decide (s=[43])=a; generalize decide (s=[45])=b; generalize decide (s=[42])=c; generalize decide (s=[61,61])=d; generalize decide (s=[60])=e; cases a<;>cases b<;>cases c<;>cases d<;>cases e<;>rfl

theorem Ri(n:Nat)(l:List (List UInt8))(s:List UInt8)(hn:l.length<n)(c:n<4611686018427387904):gE n l s=some (La (fun a=>decide (s=a)) 0 l):=by
 unfold gE; have e:=AH (body:=eD n l s) l (fun a=>decide (s=a)) (fun i=>(i:Int)) (fun i=>Sum.inl (i:Int)) (Sum.inr ((l.length:Int),false)) (fun i a b=>by
  have d:=dR b; simp only[eD,dY b,z15,dT,b,z8,aV (show i<4611686018427387904 by omega)]
  cases decide (s=a)<;>rfl) (by simp only[eD,aQ,z12]) hn
 refine(congrArg (fun q=>Option.bind q _) e).trans ?_
 rcases vB (fun a=>decide (s=a)) l 0 with⟨h,_⟩ | ⟨k,a,h,_⟩
 ·rw[h]; rfl
 ·rw[h,z10 (by omega)]
  simp only[z8,z12,z53]
theorem LL(n:Nat)(l:List (List UInt8))(s:List UInt8)(hn:l.length<n)(c:n<4611686018427387904):eE n l s=some (decide (s∈l)):=by
 unfold eE; rw[Ri n l s hn c]; simp only[z8,z9]; rcases vB (fun a=>decide (s=a)) l 0 with⟨h,h1⟩ | ⟨k,a,h,h1,b,_⟩
 ·rw[h,z10 (by omega),z10 (fun d=>by have:=h1 s d; simp at this)]
 ·simp only[z36]at b
  subst b; rw[h,z13 (by omega),z13 (z24 h1)]
def Nj(l:List (List UInt8)):Bool:=Bf (fun i a=> !(decide (a∈l.take i))) 0 l
theorem RR(l:List (List UInt8)):Nj l=true↔l.Nodup:=by
 unfold Nj; rw[MW,List.Nodup,List.pairwise_iff_getElem]; constructor
 ·intro h i j d b f e
  have:=h j l[j] (z16 b)
  simp only[z30,z35,z39]at this; exact this (by rw[←e]; exact z140.2 ⟨i,by omega,rfl⟩)
 ·intro h j a c
  simp only[z30,z35,z39]; intro g; obtain⟨i,d,e⟩:=z140.1 g; obtain⟨b,rfl⟩:=z74.1 c
  exact h i j (by omega) b (by omega) e
theorem SM{α:Type}{l:List α}{i:Nat}(h:i≤l.length):sub l none (some (i:Int))=some (l.take i):=by
 unfold sub bnd; rw[z17 ⟨by simp,by simp only[Option.getD_none,z62]; omega,by simp only[z62]; omega⟩]
 simp
theorem Rf(n:Nat)(l:List (List UInt8))(s:List UInt8)(hn:l.length<n)(f:n<4611686018427387904):pX n l s=some (decide (s∈l)):=by
 unfold pX; have e:=AH (body:=lF n l s) l (fun a=>decide (a=s)) (fun i=>(i:Int)) (fun i=>Sum.inl true) (Sum.inr ((l.length:Int),false)) (fun i a b=>by
  have g:=dR b; simp only[lF,dY b,z15,dT,b,z8,aV (show i<4611686018427387904 by omega)]
  cases decide (a=s)<;>rfl) (by simp only[lF,aQ,z12]) hn
 refine(congrArg (fun q=>Option.bind q _) e).trans ?_
 rcases vB (fun a=>decide (a=s)) l 0 with⟨h,h1⟩ | ⟨k,a,h,h1,c,_⟩
 ·rw[h,z13 (show(-1:Int)<0 by omega),z10 (show ¬ s∈l from fun d=>by have:=h1 s d; simp at this)]; rfl
 ·simp only[z36]at c
  subst c; rw[h,z10 (by omega),z13 (z24 h1)]
  rfl
theorem JI(n:Nat)(l:List (List UInt8))(hn:l.length<n)(c:n<4611686018427387904):lK n l=some (Nj l):=by
 unfold lK; rw[CY l (fun i a=> !(decide (a∈l.take i))) (fun i a b=>by
  have d:=dR b; simp only[nC,dY b,z15,dT,b,z8,aV (show i<4611686018427387904 by omega),SM (show i≤l.length by omega),Rf n (l.take i) a (by rw[z44]; omega) c]
  cases decide (a∈l.take i)<;>rfl) (by simp only[nC,aQ,z12]) hn]
 unfold Nj; cases Bf (fun i a=> !(decide (a∈l.take i))) 0 l<;>rfl
def FD(k m:Int)(s:List UInt8)(len:Nat):Bool:=
 bif decide (k=1)then((decide (-1000000000000≤m)&&decide (m≤1000000000000))&&decide (s=[]))&&decide ((len:Int)=0)
 else bif decide (k=2)then(uD s&&decide (m=0))&&decide ((len:Int)=0)
 else bif decide (k=3)then((decide (0≤m)&&decide (m≤1000000))&&decide (s=[]))&&decide ((len:Int)=0)
 else bif decide (k=4)then(decide (m=0)&&decide (s=[]))&&decide ((len:Int)≤20)
 else bif decide (k=5)then(decide (m=0)&&decide (s=[]))&&decide ((len:Int)≤60)
 else false
theorem Mz(n:Nat)(k m:Int)(s:List UInt8)(l:List aA)(h:s.length<n)(hn:s.length<4611686018427387904):mT n k m s l=some (FD k m s l.length):=by
 unfold mT FD; rw[xR n s h hn]; simp only[uN,z8]; cases decide (k=1)<;>cases decide (k=2)<;>cases decide (k=3)<;>cases decide (k=4)<;>cases decide (k=5)<;>cases decide (-1000000000000≤m)<;>cases decide (m≤1000000000000)<;>cases decide (s=[])<;>cases decide (m=0)<;>cases decide (0≤m)<;>cases decide (m≤1000000)<;>cases uD s<;>rfl
theorem Mr(n:Nat)(k m:Int)(s:List UInt8)(l:List aA)(h:s.length<n)(hn:s.length<4611686018427387904):gL n k m s l=some (FD k m s l.length):=by
 unfold gL FD; rw[xT n s h hn]; simp only[wG,z8]; cases decide (k=1)<;>cases decide (k=2)<;>cases decide (k=3)<;>cases decide (k=4)<;>cases decide (k=5)<;>cases decide (-1000000000000≤m)<;>cases decide (m≤1000000000000)<;>cases decide (s=[])<;>cases decide (m=0)<;>cases decide (0≤m)<;>cases decide (m≤1000000)<;>cases uD s<;>rfl
mutual
def cnt:aA→Nat
 | .mk _ _ _ l=>1+BC l
def BC:List aA→Nat
 | []=>0
 | x::r=>cnt x+BC r
end
theorem HM(x:aA):1≤cnt x:=by cases x; simp only[cnt]; omega
theorem Dw(x:aA)(r:List aA):BC (x::r)=cnt x+BC r:=by simp only[BC]
def okD:Nat→aA→Bool
 | 0,_=>false
 | d+1,x=>FD x.f0 x.f1 x.f2 x.f3.length&&x.f3.all (okD d)
def okN(d:Nat)(m:Int)(x:aA):Bool:=okD d x&&decide ((cnt x:Int)≤m)
def BE(x:aA):Bool:=okN 8 300 x
def LY(d:Nat)(m:Int)(l:List aA):Bool:=l.all (okD d)&&decide ((BC l:Int)≤m)
theorem Lu(d:Nat){m:Int}(h:0≤m):LY d m []=true:=by
 simp [LY,BC,h]
theorem Iv(d:Nat)(m:Int)(x:aA)(r:List aA)(h:0≤m):LY d m (x::r)=(okN d m x&&LY d (m - cnt x) r):=by
 unfold LY okN; rw[Dw,z91]; by_cases h1:(BC r:Int)≤m - cnt x
 ·rw[z13 h1,z13 (show(cnt x:Int)≤m by omega),z13 (by omega)]
  cases okD d x<;>cases r.all (okD d)<;>rfl
 ·rw[z10 h1,z10 (show ¬ ((cnt x+BC r:Nat):Int)≤m by omega)]
  cases okD d x<;>cases r.all (okD d)<;>simp
theorem SU(d:Nat)(m:Int)(a0 a1:Int)(a2:List UInt8)(a3:List aA):okN (d+1) m (.mk a0 a1 a2 a3)=(FD a0 a1 a2 a3.length&&LY d (m - 1) a3):=by
 unfold okN LY; have e:cnt (.mk a0 a1 a2 a3)=1+BC a3:=by simp only[cnt]
 rw[e]; have a:okD (d+1) (.mk a0 a1 a2 a3)=(FD a0 a1 a2 a3.length&&a3.all (okD d)):=rfl; rw[a,Vq]; congr 2
 by_cases h:(BC a3:Int)≤m - 1
 ·rw[z13 h,z13 (by omega)]
 ·rw[z10 h,z10 (by omega)]
theorem FO{d:Nat}{m:Int}{x:aA}(h:okN d m x=true):(cnt x:Int)≤m:=by
 unfold okN at h; simp only[z7,z36]at h; exact h.2
def mv(d:Nat)(x:aA):Int:=bif okN d 300 x then cnt x else 301
theorem mv_le(d:Nat)(x:aA):1≤mv d x∧mv d x≤301:=by
 unfold mv; cases h:okN d 300 x with
 | true=>have:=FO h; have:=HM x; simp only[z15]; omega
 | false=>simp only[z12]; omega
def NU(d:Nat)(t:Int)(a:aA):Int⊕Unit:=bif decide (300<t+mv d a)then .inr ()else .inl (t+mv d a)
theorem CA(d:Nat): ∀(l:List aA) (t:Int),0≤t→t≤300→qG (NU d) l t=bif LY d (300 - t) l then .inl (t+BC l)else .inr ()
 | [],t,h0,h1=>by rw[Lu d (by omega)]; simp [qG,BC]
 | a::r,t,h0,h1=>by
  rw[Iv d _ _ _ (by omega)]
  have f:=Dw a r; generalize BC (a::r)=q at f ⊢; have g:=HM a; simp only[qG]; have c:okN d (300 - t) a=(okN d 300 a&&decide (t+cnt a≤300)):=by
   unfold okN; rw[Vq]; congr 1
   by_cases h:(cnt a:Int)≤300 - t
   ·rw[z13 h,z13 (show(cnt a:Int)≤300 by omega),z13 (by omega)]; rfl
   ·rw[z10 h,z10 (show ¬ t+(cnt a:Int)≤300 by omega),z83]
  rw[c]; unfold NU mv; cases h:okN d 300 a with
  | false=>
   rw[z12,z13 (by omega)]; rfl
  | true=>
   rw[z15,z41]; by_cases b:t+(cnt a:Int)≤300
   ·rw[z13 b,z10 (by omega),z12,z41]
    have e:=CA d r (t+cnt a) (by omega) b
    unfold NU mv at e; simp only; rw[e,show(300 - t - (cnt a:Int))=300 - (t+cnt a)by omega,show t+(q:Int)=t+cnt a+BC r by omega]
   ·rw[z10 b,z13 (by omega)]; rfl

theorem GO: ∀(n:Nat) (a0 a1:Int) (a2:List UInt8) (a3:List aA) (d:Nat),d≤8→bS (.mk a0 a1 a2 a3)<n→n<4611686018427387904→bY n a0 a1 a2 a3 (9 - (d:Int))=some (mv d (.mk a0 a1 a2 a3))
 | 0,a0,a1,a2,a3,d,k,h,_=>by omega
 | n+1,a0,a1,a2,a3,d,k,h,hn=>by
  rw[tU]; unfold gD; simp only[bS,fQ]at h; have m:=dM bS a3; rw[Mr n a0 a1 a2 a3 (by omega) (by omega)]
  cases d with
  | zero=>
   rw[z13 (show(8:Int)<9 - ((0:Nat):Int)by omega)]
   rfl
  | succ d=>
   rw[z10 (show ¬ (8:Int)<9 - ((d+1:Nat):Int)by omega)]
   have f:cnt (.mk a0 a1 a2 a3)=1+BC a3:=by simp only[cnt]
   unfold mv; rw[SU]; generalize cnt (.mk a0 a1 a2 a3)=q at f ⊢; simp only[z12,z8]; cases hs:FD a0 a1 a2 a3.length with
   | false=>rfl
   | true=>
    simp only[z31,z12,z41]; have h1:=Dk (body:=dB n (bY n) (9 - ((d+1:Nat):Int)) a3) a3 (NU d) (fun t i=>(t,(i:Int))) (fun t=> .inr (t,(a3.length:Int),false)) (fun _=> .inl 301) (fun t=>1≤t∧t≤300) (fun i a t b p=>by
     have o:=fR bS (z24 b); have l:=dR b; have e:IntKind.wrap .i64 (9 - ((d+1:Nat):Int)+1)=9 - (d:Int):=by rw[wrap_i64 (by omega) (by omega)]; omega
     have c:=GO n a.f0 a.f1 a.f2 a.f3 d (by omega) (by rw[aW]; omega) (by omega)
     rw[aW]at c; simp only[dB,dY b,z15,dT,b,z8,e,c,aV (show i<4611686018427387904 by omega)]
     have j:=mv_le d a; rw[wrap_i64 (n:=t+mv d a) (by omega) (by omega)]
     unfold NU; generalize mv d a=g at j; by_cases q:300<t+g
     ·right; exact⟨(),by rw[z13 q]; rfl,by rw[z13 q,z15]⟩
     ·left; exact⟨t+g,by rw[z10 q]; rfl,by omega,by rw[z10 q,z12]⟩) (fun t _=>by simp only[dB,aQ,z12]) (n:=n) (by omega) (t0:=1) ⟨by omega,by omega⟩
    rw[CA d a3 1 (by omega) (by omega)]at h1
    have h1:loopN (dB n (bY n) (9 - ((d+1:Nat):Int)) a3) n ((1:Int),(0:Int))=_:=h1; rw[h1]; cases LY d (300 - 1) a3 with
    | true=>simp only[z15,z8,z9]; omega
    | false=>rfl
theorem Fb(n:Nat)(a0 a1:Int)(a2:List UInt8)(a3:List aA)(h:bS (.mk a0 a1 a2 a3)<n)(hn:n<4611686018427387904):oR n a0 a1 a2 a3=some (BE (.mk a0 a1 a2 a3)):=by
 unfold oR BE; have h1:=GO n a0 a1 a2 a3 8 (by omega) h hn
 have h1:bY n a0 a1 a2 a3 (1:Int)=_:=h1; rw[h1]; unfold mv; simp only[z8,z9]; cases q:okN 8 300 (.mk a0 a1 a2 a3)with
 | true=>have:=FO q; rw[z15]; exact z13 this
 | false=>rfl

def lk(d:Nat)(x:aA)(t:Int):Int:=bif okN d t x then t - cnt x else -1
def lks(d:Nat)(l:List aA)(t:Int):Int:=bif LY d t l then t - BC l else -1
def FG(d:Nat)(t:Int)(a:aA):Int⊕Int:=bif decide (0≤t)then .inl (lk d a t)else .inr t
def OA{α:Type}:α⊕α→α
 | .inl a=>a
 | .inr a=>a
theorem Dm(d:Nat): ∀(l:List aA) (t:Int), -1≤t→OA (qG (FG d) l t)=bif decide (0≤t)then lks d l t else t
 | [],t,h0=>by
  by_cases h:0≤t
  ·rw[z13 h]; unfold lks; rw[Lu d h]; simp [qG,OA,BC]
  ·rw[z10 h]; rfl
 | a::r,t,h0=>by
  simp only[qG]; by_cases h:0≤t
  ·have e:FG d t a= .inl (lk d a t):=by unfold FG; rw[z13 h]; rfl
   rw[e,z13 h,z15]; simp only; unfold lks; rw[Iv d t a r h]; have b:=Dw a r; generalize BC (a::r)=q at b ⊢; unfold lk; cases ha:okN d t a with
   | false=>
    rw[z12,Dm d r _ (by omega)]; rfl
   | true=>
    have:=FO ha; rw[z15,Dm d r _ (by omega),z13 (by omega),z15,z41]
    unfold lks; rw[show t - (q:Int)=t - cnt a - BC r by omega]
  ·have e:FG d t a= .inr t:=by unfold FG; rw[z10 h]; rfl
   rw[e,z10 h]; rfl
theorem Of: ∀(n:Nat) (a0 a1:Int) (a2:List UInt8) (a3:List aA) (d:Nat) (t:Int),d≤8→ -1≤t→t≤300→bS (.mk a0 a1 a2 a3)<n→n<4611686018427387904→fG n a0 a1 a2 a3 (d:Int) t=some (lk d (.mk a0 a1 a2 a3) t)
 | 0,a0,a1,a2,a3,d,t,l,_,_,h,_=>by omega
 | n+1,a0,a1,a2,a3,d,t,l,t0,u,h,hn=>by
  rw[Am]; unfold nY; simp only[bS,fQ]at h; have p:=dM bS a3; rw[Mz n a0 a1 a2 a3 (by omega) (by omega)]
  have m:=HM (.mk a0 a1 a2 a3); cases d with
  | zero=>
   rw[z13 (show((0:Nat):Int)<1 by omega)]
   rfl
  | succ d=>
   rw[z10 (show ¬ ((d+1:Nat):Int)<1 by omega)]
   by_cases b:t<1
   ·rw[z13 b]
    unfold lk; have:okN (d+1) t (.mk a0 a1 a2 a3)=false:=by
     cases q:okN (d+1) t (.mk a0 a1 a2 a3)with
     | false=>rfl
     | true=>have:=FO q; omega
    rw[this]; rfl
   rw[z10 b]; have k:cnt (.mk a0 a1 a2 a3)=1+BC a3:=by simp only[cnt]
   unfold lk; rw[SU]; generalize cnt (.mk a0 a1 a2 a3)=q at k m ⊢; simp only[z12,z8]; cases hs:FD a0 a1 a2 a3.length with
   | false=>rfl
   | true=>
    simp only[z31,z12,z41]; obtain⟨x,h1,f⟩:=GQ (body:=gX n (fG n) ((d+1:Nat):Int) a3) a3 (FG d) (fun t i=>(t,(i:Int))) (fun t=>(t,(a3.length:Int),false)) (fun q r=>r.1=q) (fun t=> -1≤t∧t≤300) (fun i a t c b=>by
     have s:=fR bS (z24 c); have o:=dR c; have e:IntKind.wrap .i64 (((d+1:Nat):Int) - 1)=(d:Int):=by rw[wrap_i64 (by omega) (by omega)]; omega
     have j:=Of n a.f0 a.f1 a.f2 a.f3 d t (by omega) b.1 b.2 (by rw[aW]; omega) (by omega)
     rw[aW]at j; simp only[gX,dY c,z15,dT,c,z8,e,j,aV (show i<4611686018427387904 by omega)]
     unfold FG; by_cases q:0≤t
     ·left
      refine⟨lk d a t,by rw[z13 q]; rfl, ?_,by rw[z13 q,z15]⟩
      unfold lk; have:=HM a; cases q2:okN d t a with
      | false=>rw[z12]; omega
      | true=>have:=FO q2; rw[z15]; omega
     ·right
      exact⟨t,_,by rw[z10 q]; rfl,by rw[z10 q,z12],rfl⟩) (fun t _=>by simp only[gX,aQ,z12,z8]) (n:=n) (by omega) (t0:=t - 1) ⟨by omega,by omega⟩
    have h1:loopN (gX n (fG n) ((d+1:Nat):Int) a3) n (t - 1,(0:Int))=_:=h1; rw[wrap_i64 (n:=t - 1) (by omega) (by omega),h1]
    have g:x.1=OA (qG (FG d) a3 (t - 1)):=by
     revert f
     cases qG (FG d) a3 (t - 1)with
     | inl t'=>intro f; rw[f]; rfl
     | inr q=>exact id
    rw[Dm d a3 _ (by omega),z13 (by omega),z15]at g
    obtain⟨x1,v,w⟩:=x; simp only at g; subst g; simp only[z8,z9]; unfold lks; cases LY d (t - 1) a3 with
    | true=>simp only[z15]; omega
    | false=>rfl
theorem FX(n:Nat)(a0 a1:Int)(a2:List UInt8)(a3:List aA)(h:bS (.mk a0 a1 a2 a3)<n)(hn:n<4611686018427387904):oL n a0 a1 a2 a3=some (BE (.mk a0 a1 a2 a3)):=by
 unfold oL BE; have h1:=Of n a0 a1 a2 a3 8 300 (by omega) (by omega) (by omega) h hn
 have h1:fG n a0 a1 a2 a3 (8:Int) 300=_:=h1; rw[h1]; unfold lk; simp only[z8,z9]; cases q:okN 8 300 (.mk a0 a1 a2 a3)with
 | true=>have:=FO q; rw[z15]; exact z13 (by omega)
 | false=>rfl
theorem CG: ∀(n:Nat),n≤1099511627776→(∀(a0 a1:Int) (a2:List UInt8) (a3:List aA),bS (.mk a0 a1 a2 a3)<n→dA n a0 a1 a2 a3=some (a0,a1,a2,a3))∧ ∀(l:List aA),dl bS l<n→gZ n l=some l
 | 0,_=>⟨fun a0 a1 a2 a3 h=>by omega,fun l h=>by omega⟩
 | n+1,hn=>by
  obtain⟨d,e⟩:=CG n (by omega)
  refine⟨fun a0 a1 a2 a3 h=> ?_,fun l h=> ?_⟩
  ·rw[xM]
   unfold lA; simp only[bS,fQ]at h; simp only[e a3 (by omega),z8]
  ·rw[wR]
   unfold kA; have j:=dM bS l; have g:=zP (body:=gK n (dA n) l) (fun i=>(l.take i,(i:Int))) (len:=l.length) (r:=(l,(l.length:Int),false)) (fun i f=>by
    have b:l[i]? =some l[i]:=z16 f
    generalize l[i]=a at b; have k:=fR bS (z24 b); have c:wX 56 (l.take i) [aA.mk a.f0 a.f1 a.f2 a.f3]=some (l.take (i+1)):=by
     rw[aW, ←sW b]; exact tG (by rw[z44]; simp only[z37]; omega) (by rw[z44]; simp only[z37,maxLen]; omega)
    simp only[gK,dY b,z15,dT,b,z8,d a.f0 a.f1 a.f2 a.f3 (by rw[aW]; omega),c,aV (show i<4611686018427387904 by omega)]) (by simp only[gK,aQ,z12,Ug]) (n:=n) (by omega)
   refine(congrArg (fun q=>Option.bind q _) g).trans ?_
   rfl
theorem LK(n:Nat){a:aA}(h:bS a<n)(hn:n≤1099511627776):dA n a.f0 a.f1 a.f2 a.f3=some (a.f0,a.f1,a.f2,a.f3):=(CG n hn).1 _ _ _ _ (by rw[aW]; exact h)
theorem GU: ∀(n:Nat),n≤1099511627776→ ∀(a0 a1:Int) (a2:List UInt8) (a3:List aA),bS (.mk a0 a1 a2 a3)<n→fH n a0 a1 a2 a3=some (a0,a1,a2,a3)
 | 0,_=>fun a0 a1 a2 a3 h=>by omega
 | n+1,hn=>fun a0 a1 a2 l h=>by
  have d:=GU n (by omega)
  rw[Ao]; unfold nZ; simp only[bS,fQ]at h; have g:=dM bS l; have f:=zP (body:=kC n (fH n) l) (fun i=>((i:Int),a0,a1,a2,l.take i)) (len:=l.length) (r:=((l.length:Int),false,a0,a1,a2,l)) (fun i e=>by
   have b:l[i]? =some l[i]:=z16 e
   generalize l[i]=a at b; have j:=fR bS (z24 b); have c:wX 56 (l.take i) [aA.mk a.f0 a.f1 a.f2 a.f3]=some (l.take (i+1)):=by
    rw[aW, ←sW b]; exact tG (by rw[z44]; simp only[z37]; omega) (by rw[z44]; simp only[z37,maxLen]; omega)
   simp only[kC,dY b,z15,dT,b,z8,d a.f0 a.f1 a.f2 a.f3 (by rw[aW]; omega),c,aV (show i<4611686018427387904 by omega)]) (by simp only[kC,aQ,z12,Ug]) (n:=n) (by omega)
  refine(congrArg (fun q=>Option.bind q _) f).trans ?_
  rfl
theorem Pm(n:Nat){a:aA}(h:bS a<n)(hn:n≤1099511627776):fH n a.f0 a.f1 a.f2 a.f3=some (a.f0,a.f1,a.f2,a.f3):=GU n hn _ _ _ _ (by rw[aW]; exact h)
def LX(k m:Int)(s:List UInt8)(a:Int):Bool:=
 bif decide (k=1)then(decide (0≤m)&&decide (m≤1000000000000))&&(decide (s=[])&&decide (a=0))
 else bif decide (k=2)then decide (m=0)&&(pV s&&decide (a=0))
 else bif decide (k=3)then decide (m=0)&&(FC s&&decide (a=0))
 else bif decide (k=4)then decide (m=0)&&(decide (s=[])&&decide (a≤20))
 else bif decide (k=5)then decide (m=0)&&(decide (s=[])&&decide (a≤20))
 else bif decide (k=6)then decide (m=0)&&(decide (s=[])&&(decide (2≤a)&&decide (a≤6)))
 else bif decide (k=7)then decide (m=0)&&(Qx s&&decide (a=2))
 else bif decide (k=8)then decide (m=0)&&(pV s&&decide (a≤4))
 else bif decide (k=9)then decide (m=0)&&(decide (s=[])&&decide (a=1))
 else false
theorem Mm(n:Nat)(k m:Int)(s:List UInt8)(a:Int)(h:s.length<n)(hn:s.length<4611686018427387904):mW n k m s a=some (LX k m s a):=by
 unfold mW LX; rw[Mh n s h hn,Hr n s h hn,UC n s]; simp only[wG,z8]; cases decide (k=1)with
 | true=>cases decide (0≤m)<;>cases decide (m≤1000000000000)<;>cases decide (s=[])<;>rfl
 | false=>
 cases decide (k=2)with
 | true=>cases decide (m=0)<;>cases pV s<;>rfl
 | false=>
 cases decide (k=3)with
 | true=>cases decide (m=0)<;>cases FC s<;>rfl
 | false=>
 cases decide (k=4)with
 | true=>cases decide (m=0)<;>cases decide (s=[])<;>rfl
 | false=>
 cases decide (k=5)with
 | true=>cases decide (m=0)<;>cases decide (s=[])<;>rfl
 | false=>
 cases decide (k=6)with
 | true=>cases decide (m=0)<;>cases decide (s=[])<;>rfl
 | false=>
 cases decide (k=7)with
 | true=>cases decide (m=0)<;>cases Qx s<;>rfl
 | false=>
 cases decide (k=8)with
 | true=>cases decide (m=0)<;>cases pV s<;>rfl
 | false=>
 cases decide (k=9)with
 | true=>cases decide (m=0)<;>cases decide (s=[])<;>rfl
 | false=>rfl
def shp(a:Bool)(k m:Int)(s:List UInt8)(c b:Int):Bool:=
 bif decide (k=9)then(!a&&LX k m s c)&&(decide (1≤b)&&decide (b≤6))
 else !decide (0<b)&&(LX k m s c&&(bif a then !decide (6<k)else !(decide (k=3)&&decide (s=[95]))))
theorem Mv(n:Nat)(k m:Int)(s:List UInt8)(l:List aC)(c:List aB)(a:Bool)(h:s.length<n)(hn:s.length<4611686018427387904):mO n k m s l c a=some (shp a k m s l.length c.length):=by
 unfold mO shp LX; rw[Pk n s h hn,Hm n s h hn,UA n s]; simp only[uN,z8]; generalize (l.length:Int)=ne; generalize (c.length:Int)=nc; by_cases h1:k=1
 ·subst h1
  cases decide (0<nc)<;>cases decide (0≤m)<;>cases decide (m≤1000000000000)<;>cases decide (s=[])<;>cases decide (ne=0)<;>cases a<;>rfl
 by_cases b:k=2
 ·subst b
  cases decide (0<nc)<;>cases decide (m=0)<;>cases pV s<;>cases decide (ne=0)<;>cases a<;>rfl
 by_cases d:k=3
 ·subst d
  cases decide (0<nc)<;>cases decide (m=0)<;>cases FC s<;>cases decide (ne=0)<;>cases a<;>cases decide (s=[95])<;>rfl
 by_cases e:k=4
 ·subst e
  cases decide (0<nc)<;>cases decide (m=0)<;>cases decide (s=[])<;>cases decide (ne≤20)<;>cases a<;>rfl
 by_cases f:k=5
 ·subst f
  cases decide (0<nc)<;>cases decide (m=0)<;>cases decide (s=[])<;>cases decide (ne≤20)<;>cases a<;>rfl
 by_cases g:k=6
 ·subst g
  cases decide (0<nc)<;>cases decide (m=0)<;>cases decide (s=[])<;>cases decide (2≤ne)<;>cases decide (ne≤6)<;>cases a<;>rfl
 by_cases i:k=7
 ·subst i
  cases decide (0<nc)<;>cases decide (m=0)<;>cases Qx s<;>cases decide (ne=2)<;>cases a<;>rfl
 by_cases j:k=8
 ·subst j
  cases decide (0<nc)<;>cases decide (m=0)<;>cases pV s<;>cases decide (ne≤4)<;>cases a<;>rfl
 by_cases o:k=9
 ·subst o
  cases decide (m=0)<;>cases decide (s=[])<;>cases decide (ne=1)<;>cases decide (1≤nc)<;>cases decide (nc≤6)<;>cases a<;>rfl
 rw[z10 h1,z10 b,z10 d,z10 e,z10 f,z10 g,z10 i,z10 j,z10 o]; cases decide (0<nc)<;>cases decide (m=0)<;>rfl
theorem OT(k m:Int)(s:List UInt8)(b a:Int):(!decide (6<k)&&(!decide (0<a)&&LX k m s b))=shp true k m s b a:=by
 unfold shp; by_cases c:k=9
 ·subst c; rfl
 ·rw[z10 c]
  cases decide (6<k)<;>cases decide (0<a)<;>cases LX k m s b<;>rfl

mutual
def uE:aC→List (List UInt8)
 | .mk k _ s l _=>bif decide (k=3)then(bif decide (s=[95])then []else [s])else kR l
def kR:List aC→List (List UInt8)
 | []=> []
 | x::r=>uE x++kR r
end
theorem SJ(a:aC):uE a=bif decide (a.f0=3)then(bif decide (a.f2=[95])then []else [a.f2])else kR a.f3:=by cases a; simp only[uE]; rfl
theorem Im: ∀(a b:List aC),kR (a++b)=kR a++kR b
 | [],b=>rfl
 | x::r,b=>by simp only[z89,kR,Im r b,z75]
theorem PK(a:aC):kR [a]=uE a:=by simp only[kR,Ue]
mutual
theorem HP: ∀e,(uE e).length≤bH e
 | .mk k m s l c=>by
  have:=Da l; simp only[uE,bH]; cases decide (k=3)<;>cases decide (s=[95])<;>simp<;>omega
theorem Da: ∀l,(kR l).length≤rC l
 | []=>by simp [kR]
 | x::r=>by have:=HP x; have:=Da r; simp only[kR,rC,z32]; omega
end
mutual
def nO:aC→Nat
 | .mk _ _ _ l c=>1+lH l+Jg c
def lH:List aC→Nat
 | []=>0
 | x::r=>nO x+lH r
def Jg:List aB→Nat
 | []=>0
 | x::r=>No x+Jg r
def No:aB→Nat
 | .two p x=>nO p+nO x
end
theorem Ka(a:aC):nO a=1+lH a.f3+Jg a.f4:=by cases a; simp only[nO]; rfl
theorem Xa(a:aB):No a=nO a.p+nO a.x:=by cases a; simp only[No]; rfl
theorem Ij: ∀l,lH l=pE nO l
 | []=>rfl
 | x::r=>by simp only[lH,pE,Ij r]
theorem JT: ∀l,Jg l=pE No l
 | []=>rfl
 | x::r=>by simp only[Jg,pE,JT r]
def xok:Nat→Bool→aC→Bool
 | 0,_,_=>false
 | d+1,a,e=>shp a e.f0 e.f1 e.f2 e.f3.length e.f4.length&&(e.f3.all (xok d a)&&e.f4.all (fun c=>Nj (uE c.p)&&(xok d true c.p&&xok d false c.x)))
def cok(d:Nat)(c:aB):Bool:=Nj (uE c.p)&&(xok d true c.p&&xok d false c.x)
theorem HN(d:Nat)(a:Bool)(e:aC):xok (d+1) a e=(shp a e.f0 e.f1 e.f2 e.f3.length e.f4.length&&(e.f3.all (xok d a)&&e.f4.all (cok d))):=rfl
def Bu(e:aC):Bool:=(xok 10 true e&&decide ((nO e:Int)≤300))&&Nj (uE e)

def tk(b:Bool)(c:Nat)(t:Int):Int:=bif b&&decide ((c:Int)≤t)then t - c else -1
theorem WP(b:Bool)(c:Nat){t:Int}(h:t<c):tk b c t= -1:=by
 unfold tk; rw[z10 (by omega),z83]; rfl
theorem Sw(b:Bool)(c:Nat)(t:Int)(h: -1≤t): -1≤tk b c t∧tk b c t≤t:=by
 unfold tk; by_cases q:(b&&decide ((c:Int)≤t))=true
 ·rw[q]
  simp only[z7,z36]at q; simp only[z15]; omega
 ·rw[z90]at q; rw[q]; simp only[z12]; omega
def Nh{α:Type}(b:α→Bool)(c:α→Nat):List α→Int→Int
 | [],t=>t
 | a::r,t=>bif decide (0≤t)then Nh b c r (tk (b a) (c a) t)else t
theorem HT{α:Type}(b:α→Bool)(c:α→Nat): ∀(l:List α) {t:Int},t<0→Nh b c l t=t
 | [],t,h=>rfl
 | a::r,t,h=>by unfold Nh; rw[z10 (by omega)]; rfl
theorem KG{α:Type}(b:α→Bool)(c:α→Nat): ∀(l:List α) {t:Int},0≤t→Nh b c l t=tk (l.all b) (pE c l) t
 | [],t,h=>by
  unfold Nh tk; rw[z13 (show((pE c []:Nat):Int)≤t by simp only[pE]; omega)]
  simp [pE]
 | a::r,t,h=>by
  unfold Nh; rw[z13 h,z15,z91]; have e:pE c (a::r)=c a+pE c r:=rfl; rw[e]; by_cases q:(b a&&decide ((c a:Int)≤t))=true
  ·have d:tk (b a) (c a) t=t - c a:=by unfold tk; rw[q]; rfl
   simp only[z7,z36]at q; rw[d,KG b c r (by omega),q.1,z41]
   unfold tk; by_cases z:((pE c r:Nat):Int)≤t - c a
   ·rw[z13 z,z13 (by omega)]
    cases r.all b
    ·rfl
    ·simp only[Sj,z15]; omega
   ·rw[z10 z,z10 (by omega)]
    cases r.all b<;>rfl
  ·have d:tk (b a) (c a) t= -1:=by unfold tk; rw[z90]at q; rw[q]; rfl
   rw[d,HT b c r (by omega)]
   unfold tk; cases ha:b a with
   | false=>rfl
   | true=>
    rw[ha,z41,z36]at q; rw[z10 (by omega),z83]; rfl
theorem Dl{α ρ:Type}{body:Int×Int→Option ((Int×Int)⊕ρ)}(l:List α)(d:α→Bool)(c:α→Nat)(b:Int→ρ→Prop)(s: ∀(i:Nat) a (t:Int),l[i]? =some a→0≤t→t≤300→body (t,(i:Int))=some (.inl (tk (d a) (c a) t,((i+1:Nat):Int)))∨(∃r,body (t,(i:Int))=some (.inr r)∧b (-1) r∧tk (d a) (c a) t= -1))
  (hn: ∀(i:Nat) (t:Int),t<0→i<l.length→ ∃r,body (t,(i:Int))=some (.inr r)∧b t r)(p: ∀t:Int, ∃r,body (t,(l.length:Int))=some (.inr r)∧b t r): ∀(r:List α) (i:Nat) (t:Int) (n:Nat),l.drop i=r→ -1≤t→t≤300→r.length<n→i≤l.length→ ∃x,loopN body n (t,(i:Int))=some x∧b (Nh d c r t) x
 | [],i,t,n,h,h0,h1,j,y=>by
  obtain⟨m,rfl⟩: ∃m,n=m+1:=⟨n - 1,by simp at j; omega⟩
  have:i=l.length:=by
   have:=congrArg List.length h; simp at this; omega
  subst this; obtain⟨x,f,g⟩:=p t; simp only[loopN,f]; exact⟨x,rfl,g⟩
 | a::r,i,t,n,h,h0,h1,j,y=>by
  obtain⟨m,rfl⟩: ∃m,n=m+1:=⟨n - 1,by simp at j; omega⟩
  have k:i<l.length:=by
   have:=congrArg List.length h; simp at this; omega
  have v:l[i]? =some a:=by
   have:=congrArg (·[0]?) h
   simpa using this
  have o:l.drop (i+1)=r:=by
   have:=congrArg List.tail h; simpa using this
  have e:Nh d c (a::r) t=bif decide (0≤t)then Nh d c r (tk (d a) (c a) t)else t:=rfl
  rw[e]; by_cases q:0≤t
  ·rw[z13 q,z15]
   have w:=Sw (d a) (c a) t h0; rcases s i a t v q h1 with f | ⟨x,f,g,u⟩
   ·simp only[loopN,f]
    exact Dl l d c b s hn p r (i+1) _ m o w.1 (by omega) (by simp at j; omega) (by omega)
   ·simp only[loopN,f]
    rw[u,HT d c r (by omega)]
    exact⟨x,rfl,g⟩
  ·rw[z10 q,z12]
   obtain⟨x,f,g⟩:=hn i t (by omega) k
   simp only[loopN,f]; exact⟨x,rfl,g⟩
theorem Ou{α:Type}(w:α→Nat): ∀(l:List α) (i:Nat),dl w (l.take i)≤dl w l
 | [],i=>by simp
 | a::r,0=>by simp only[z164,dl]; omega
 | a::r,i+1=>by have:=Ou w r i; simp only[List.take_succ_cons,dl]; omega
theorem sN: ∀(n:Nat),n≤1099511627776→ ∀(a:aC),bH a<n→fJ n a.f0 a.f1 a.f2 a.f3 a.f4=some (uE a)
 | 0,_,a,h=>by omega
 | n+1,hn,a,h=>by
  have o:=sN n (by omega)
  rw[Ap,SJ]; unfold oA; rw[sA,eS,dI]at h; have f:=dM bH a.f3; cases decide (a.f0=3)with
  | true=>
   simp only[z15]; have c:wX 16 ([]:List (List UInt8)) [a.f2]=some [a.f2]:=tG (by simp) (by simp [maxLen])
   rw[c]; cases decide (a.f2=[95])<;>rfl
  | false=>
   simp only[z12]; generalize a.f3=l at h f; have m:=zP (body:=kD n (fJ n) l) (fun i=>(kR (l.take i),(i:Int))) (len:=l.length) (r:=(kR l,(l.length:Int),false)) (fun i k=>by
    have d:l[i]? =some l[i]:=z16 k
    generalize l[i]=b at d; have p:=fR bH (z24 d); have e:kR (l.take (i+1))=kR (l.take i)++uE b:=by rw[←sW d,Im,PK]
    have g:=Da (l.take (i+1)); have j:rC (l.take (i+1))≤dl bH l:=by
     rw[eS]; exact Ou bH l (i+1)
    rw[e,z32]at g; have c:wX 16 (kR (l.take i)) (uE b)=some (kR (l.take (i+1))):=by
     rw[e]; exact tG (by omega) (by simp only[maxLen]; omega)
    simp only[kD,dY d,z15,dT,d,z8,o b (by omega),c,aV (show i<4611686018427387904 by omega)]) (by simp only[kD,aQ,z12,Ug]) (n:=n) (by omega)
   refine(congrArg (fun q=>Option.bind q _) m).trans ?_
   rfl
def val2:Int⊕(Int×Int×Bool)→Int
 | .inl v=>v
 | .inr (v,_,_)=>v
theorem Ld: ∀(n:Nat),n≤1099511627776→ ∀(a:aC) (f:Bool) (d:Nat) (t:Int),d≤10→ -1≤t→t≤300→bH a<n→cS n a.f0 a.f1 a.f2 a.f3 a.f4 f (d:Int) t=some (tk (xok d f a) (nO a) t)
 | 0,_,a,f,d,t,L,t0,Q,h=>by omega
 | n+1,hn,a,f,d,t,L,t0,Q,h=>by
  have D:=Ld n (by omega)
  rw[Al]; unfold nX; rw[sA,eS,dI]at h; have M:=dM bH a.f3; have B:=dM dX a.f4; rw[Mv n a.f0 a.f1 a.f2 a.f3 a.f4 f (by omega) (by omega)]
  have C:=Ka a; cases d with
  | zero=>
   rw[z13 (show((0:Nat):Int)<1 by omega)]
   have e:tk (xok 0 f a) (nO a) t= -1:=rfl; rw[e]; rfl
  | succ d=>
   rw[z10 (show ¬ ((d+1:Nat):Int)<1 by omega)]
   by_cases o:t<1
   ·rw[z13 o,WP _ _ (by omega)]; rfl
   rw[z10 o,HN]; generalize nO a=q at C ⊢; simp only[z12,z8]; cases hs:shp f a.f0 a.f1 a.f2 a.f3.length a.f4.length with
   | false=>rfl
   | true=>
    simp only[z31,z12,z41]; generalize a.f3=l at h M C ⊢; generalize a.f4=c at h B C ⊢; have G:IntKind.wrap .i64 (((d+1:Nat):Int) - 1)=(d:Int):=by rw[wrap_i64 (by omega) (by omega)]; omega
    rw[wrap_i64 (n:=t - 1) (by omega) (by omega)]
    obtain⟨x,h1,H⟩:=Dl (body:=eY n (cS n) f ((d+1:Nat):Int) l) l (xok d f) nO (fun t r=>r.1=t) (fun i b t j E F=>by
     have N:=fR bH (z24 j); have A:=dR j; left
     simp only[eY,dY j,z15,dT,j,z8,z13 E,G,D b f d t (by omega) (by omega) F (by omega),aV (show i<4611686018427387904 by omega)]) (fun i t o A=>⟨(t,(i:Int),false),by
      simp only[eY,z13 (show(i:Int)<(l.length:Int)by omega),z15,z8,z10 (show ¬ 0≤t by omega),z12],rfl⟩) (fun t=>⟨(t,(l.length:Int),false),by simp only[eY,aQ,z12,z8],rfl⟩) l 0 (t - 1) n rfl (by omega) (by omega) (by omega) (by omega)
    have h1:loopN (eY n (cS n) f ((d+1:Nat):Int) l) n (t - 1,(0:Int))=some x:=h1; rw[h1]; obtain⟨x1,V,W⟩:=x; simp only at H; subst H; simp only[z8]; rw[KG (xok d f) nO l (by omega), ←Ij]
    have j:=Sw (l.all (xok d f)) (lH l) (t - 1) (by omega)
    obtain⟨y,u,I⟩:=Dl (body:=eW n (cS n) ((d+1:Nat):Int) c) c (cok d) No (fun t r=>val2 r=t) (fun i b t m E F=>by
     have N:=fR dX (z24 m); have A:=dR m; have U:=Ik b; have R:fJ n b.f0 b.f1 b.f2 b.f3 b.f4=some (uE b.p):=sN n (by omega) b.p (by omega)
     have P:=HP b.p; have S:cS n b.f0 b.f1 b.f2 b.f3 b.f4 true (d:Int) t=some (tk (xok d true b.p) (nO b.p) t):=D b.p true d t (by omega) (by omega) F (by omega)
     have w:=Sw (xok d true b.p) (nO b.p) t (by omega)
     have T:cS n b.f5 b.f6 b.f7 b.f8 b.f9 false (d:Int) (tk (xok d true b.p) (nO b.p) t)=some (tk (xok d false b.x) (nO b.x) (tk (xok d true b.p) (nO b.p) t)):=D b.x false d _ (by omega) w.1 (by omega) (by omega)
     have K:=Xa b; have O:=Ka b.p; unfold cok; simp only[eW,dY m,z15,dT,m,z8,z13 E,R,JI n (uE b.p) (by omega) (by omega),G,S,T,aV (show i<4611686018427387904 by omega)]
     cases ho:Nj (uE b.p)with
     | false=>
      right
      exact⟨.inl (-1),rfl,rfl,by unfold tk; rfl⟩
     | true=>
      left
      simp only[z31,z12,z41]; by_cases g:0≤tk (xok d true b.p) (nO b.p) t
      ·rw[z13 g]
       simp only[z15,z8,z9,Sum.inl.injEq,z38,and_true]; unfold tk at g ⊢; cases hx:xok d true b.p with
       | false=>rw[hx]at g; simp at g
       | true=>
        rw[hx,z41]at g; simp only[z41]; by_cases z:(nO b.p:Int)≤t
        ·rw[z13 z,z15]
         by_cases k:(nO b.x:Int)≤t - nO b.p
         ·rw[z13 k,z13 (show(No b:Int)≤t by omega)]
          cases xok d false b.x
          ·rfl
          ·simp only[Sj,z15]; omega
         ·rw[z10 k,z10 (show ¬ (No b:Int)≤t by omega)]
          cases xok d false b.x<;>rfl
        ·rw[z10 z]at g; simp at g
      ·rw[z10 g]
       have s:tk (xok d true b.p) (nO b.p) t= -1:=by omega
       simp only[z12,z8,z9,Sum.inl.injEq,z38,and_true]; rw[s]; unfold tk at g ⊢; cases hx:xok d true b.p with
       | false=>rfl
       | true=>
        rw[hx,z41]at g; by_cases z:(nO b.p:Int)≤t
        ·rw[z13 z,z15]at g; omega
        ·rw[z10 (show ¬ (No b:Int)≤t by omega),z83]; rfl) (fun i t o A=>⟨.inr (t,(i:Int),false),by
      simp only[eW,z13 (show(i:Int)<(c.length:Int)by omega),z15,z8,z10 (show ¬ 0≤t by omega),z12],rfl⟩) (fun t=>⟨.inr (t,(c.length:Int),false),by simp only[eW,aQ,z12,z8],rfl⟩) c 0 (tk (l.all (xok d f)) (lH l) (t - 1)) n rfl j.1 (by omega) (by omega) (by omega)
    have u:loopN (eW n (cS n) ((d+1:Nat):Int) c) n (tk (l.all (xok d f)) (lH l) (t - 1),(0:Int))=some y:=u; rw[u]; simp only[z8]; have J:some (val2 y)=some (tk (l.all (xok d f)&&c.all (cok d)) q t):=by
     rw[I]; congr 1
     by_cases g:0≤tk (l.all (xok d f)) (lH l) (t - 1)
     ·rw[KG (cok d) No c g, ←JT]
      unfold tk at g ⊢; cases hx:l.all (xok d f)with
      | false=>rw[hx]at g; simp at g
      | true=>
       rw[hx,z41]at g; simp only[z41]; by_cases z:(lH l:Int)≤t - 1
       ·rw[z13 z,z15]
        by_cases k:(Jg c:Int)≤t - 1 - lH l
        ·rw[z13 k,z13 (show(q:Int)≤t by omega)]
         cases c.all (cok d)
         ·rfl
         ·simp only[Sj,z15]; omega
        ·rw[z10 k,z10 (show ¬ (q:Int)≤t by omega)]
         cases c.all (cok d)<;>rfl
       ·rw[z10 z]at g; simp at g
     ·have s:tk (l.all (xok d f)) (lH l) (t - 1)= -1:=by omega
      rw[s,HT _ _ _ (by omega)]
      unfold tk at g ⊢; cases hx:l.all (xok d f)with
      | false=>rfl
      | true=>
       rw[hx,z41]at g; by_cases z:(lH l:Int)≤t - 1
       ·rw[z13 z,z15]at g; omega
       ·rw[z10 (show ¬ (q:Int)≤t by omega),z83]; rfl
    rw[←J]; rcases y with v | ⟨v,i,b⟩<;>rfl
def fr:List (List UInt8)→List (List UInt8)→Bool
 | _,[]=>true
 | P,v::r=> !decide (v∈P)&&fr (P++[v]) r
theorem Sb: ∀(V W P:List (List UInt8)),fr P (V++W)=(fr P V&&fr (P++V) W)
 | [],W,P=>by simp [fr]
 | v::V,W,P=>by
  simp only[z89,fr,Sb V W (P++[v]),z75,Vq,z70]
theorem Ny: ∀(V P:List (List UInt8)),P.Nodup→(fr P V=true↔(P++V).Nodup)
 | [],P,h=>by simp [fr,h]
 | v::V,P,h=>by
  simp only[fr,z7,z35,z39]; have e:P++v::V=(P++[v])++V:=by simp
  constructor
  ·rintro ⟨h1,c⟩
   have hn:(P++[v]).Nodup:=by
    rw[z147]; exact⟨h,by simp,fun a f b d=>by simp only[z72]at d; subst d; exact fun e=>h1 (e ▸ f)⟩
   rw[e]; exact(Ny V _ hn).1 c
  ·intro c
   rw[e]at c; have hn:=(z147.1 c).1; refine⟨fun g=> ?_,(Ny V _ hn).2 c⟩
   exact(z147.1 hn).2.2 v g v (by simp) rfl
theorem Wr(V:List (List UInt8)):fr [] V=Nj V:=by
 rw[Vu,Ny V [] Vr,RR]; simp

mutual
theorem Lj: ∀e,(uE e).length≤nO e
 | .mk k m s l c=>by
  have:=Il l; simp only[uE,nO]; cases decide (k=3)<;>cases decide (s=[95])<;>simp<;>omega
theorem Il: ∀l,(kR l).length≤lH l
 | []=>by simp [kR]
 | x::r=>by have:=Lj x; have:=Il r; simp only[kR,lH,z32]; omega
end
abbrev JS:=Int×List (List UInt8)
def Me(d:Nat)(t:JS)(a:aC):JS⊕Unit:=bif xok d true a&&(decide (t.1+nO a≤300)&&fr t.2 (uE a))then .inl (t.1+nO a,t.2++uE a)else .inr ()
theorem JJ(d:Nat): ∀(l:List aC) (t:JS),t.1≤300→qG (Me d) l t=bif l.all (xok d true)&&(decide (t.1+lH l≤300)&&fr t.2 (kR l))then .inl (t.1+lH l,t.2++kR l)else .inr ()
 | [],t,h=>by
  have e:decide (t.1+((lH []:Nat):Int)≤300)=true:=z13 (by simp only[lH]; omega)
  rw[e]; simp [qG,kR,fr,lH]
 | a::r,t,h=>by
  simp only[qG]; have c:lH (a::r)=nO a+lH r:=by simp only[lH]
  have f:kR (a::r)=uE a++kR r:=by simp only[kR]
  rw[c,f,Sb,z91]; by_cases q:(xok d true a&&(decide (t.1+nO a≤300)&&fr t.2 (uE a)))=true
  ·have b:Me d t a= .inl (t.1+nO a,t.2++uE a):=by unfold Me; rw[q]; rfl
   simp only[z7,z36]at q; obtain⟨g,i,j⟩:=q; rw[b,g,j,z41,z41]; simp only; rw[JJ d r _ i]; simp only; rw[show t.1+((nO a+lH r:Nat):Int)=t.1+nO a+lH r by omega,z75]
  ·have b:Me d t a= .inr ():=by unfold Me; rw[z90]at q; rw[q]; rfl
   rw[b]; simp only; cases h1:xok d true a with
   | false=>rfl
   | true=>
    rw[h1,z41]at q; cases h3:fr t.2 (uE a)with
    | false=>cases r.all (xok d true)<;>simp
    | true=>
     rw[h3,Sj,z36]at q; rw[z10 (show ¬ t.1+((nO a+lH r:Nat):Int)≤300 by omega)]
     cases r.all (xok d true)<;>rfl
def jv:(Bool×Int×List (List UInt8))⊕(Int×Bool×Int×List (List UInt8))→Option (Bool×Int×List (List UInt8))
 | .inl (v,w,z)=>some (v,w,z)
 | .inr (_,_,w,z)=>some (true,w,z)
def pJ(b:Bool)(c:Int)(a:List (List UInt8))(r:Bool×Int×List (List UInt8)):Prop:=r.1=b∧(b=true→r.2=(c,a))
theorem CD: ∀(n:Nat),n≤1099511627776→ ∀(a:aC) (d:Nat) (c:Int) (g:List (List UInt8)),d≤10→0≤c→c≤300→(g.length:Int)≤c→bH a+400<n→ ∃r,cC n a.f0 a.f1 a.f2 a.f3 a.f4 (11 - (d:Int)) c g=some r∧pJ (xok d true a&&(decide (c+nO a≤300)&&fr g (uE a))) (c+nO a) (g++uE a) r
 | 0,_,a,d,c,g,Z,Q,R,M,h=>by omega
 | n+1,hn,a,d,c,g,Z,Q,R,M,h=>by
  have ih:=CD n (by omega)
  rw[wQ]; unfold jZ; rw[sA,eS,dI]at h; have hl:=dM bH a.f3; have hp:=Ka a; have A:=SJ a; rw[Mm n _ _ _ _ (by omega) (by omega),wrap_i64 (n:=c+1) (by omega) (by omega)]
  cases d with
  | zero=>
   rw[z13 (show(10:Int)<11 - ((0:Nat):Int)by omega)]
   exact⟨_,rfl,rfl,fun h=>by cases h⟩
  | succ d=>
   rw[z10 (show ¬ (10:Int)<11 - ((d+1:Nat):Int)by omega),HN]
   by_cases y:300<c+1
   ·rw[z13 y,z10 (show ¬ c+(nO a:Int)≤300 by omega)]
    refine⟨_,rfl, ?_, ?_⟩<;>cases shp true a.f0 a.f1 a.f2 a.f3.length a.f4.length<;>cases (a.f3.all (xok d true)&&a.f4.all (cok d))<;>simp
   rw[z10 y]; have j:=OT a.f0 a.f1 a.f2 a.f3.length a.f4.length; cases F:shp true a.f0 a.f1 a.f2 a.f3.length a.f4.length with
   | false=>
    rw[F]at j; refine⟨(false,c+1,g), ?_,rfl,fun h=>by cases h⟩
    revert j
    cases decide (6<a.f0)<;>cases decide ((0:Int)<a.f4.length)<;>cases LX a.f0 a.f1 a.f2 a.f3.length<;>intro j<;>first | rfl | cases j
   | true=>
    rw[F]at j; simp only[z7,z35]at j; obtain⟨p1,G,D⟩:=j; have B:a.f4=[]:=by
     rw[z39]at G; cases m:a.f4 with
     | nil=>rfl
     | cons x r=>rw[m]at G; simp only[z34]at G; omega
    rw[p1,G,D]; have J:a.f4.all (cok d)=true:=by rw[B]; rfl
    have Y:Jg a.f4=0:=by rw[B]; rfl
    rw[J,Sj]; simp only[z12,z8,z31,z41]; generalize nO a=q at hp ⊢; have H:IntKind.wrap .i64 (11 - ((d+1:Nat):Int)+1)=11 - (d:Int):=by rw[wrap_i64 (by omega) (by omega)]; omega
    have o: ∀(l:List aC),dl bH l+401≤n→ ∀(body:Int×Int×List (List UInt8)→Option ((Int×Int×List (List UInt8))⊕((Bool×Int×List (List UInt8))⊕(Int×Bool×Int×List (List UInt8))))),(∀(i:Nat) b (t:JS),l[i]? =some b→body ((i:Int),t.1,t.2)=(cC n b.f0 b.f1 b.f2 b.f3 b.f4 (11 - (d:Int)) t.1 t.2).bind fun r=>bif !r.1 then some (.inr (.inl (false,r.2.1,r.2.2)))else some (.inl (((i+1:Nat):Int),r.2.1,r.2.2)))→(∀t:JS,body ((l.length:Int),t.1,t.2)=some (.inr (.inr ((l.length:Int),false,t.1,t.2))))→
      ∀t0:JS,0≤t0.1→t0.1≤300→(t0.2.length:Int)≤t0.1→ ∃x,loopN body n ((0:Int),t0.1,t0.2)=some x∧(match qG (Me d) l t0 with | .inl t=>x= .inr ((l.length:Int),false,t.1,t.2) | .inr _=> ∃u v,x= .inl (false,u,v)):=by
     intro l hw body F he t0 g0 W X; have hll:=dM bH l; obtain⟨x,x1,s⟩:=GQ (body:=body) l (Me d) (fun t i=>((i:Int),t.1,t.2)) (fun t=> .inr ((l.length:Int),false,t.1,t.2)) (fun _ x=> ∃u v,x= .inl (false,u,v)) (fun t=>0≤t.1∧t.1≤300∧(t.2.length:Int)≤t.1) (fun i b t k y=>by
      have K:=fR bH (z24 k); obtain⟨r,r1,r2,O⟩:=ih b d t.1 t.2 (by omega) y.1 y.2.1 y.2.2 (by omega)
      rw[F i b t k,r1]; unfold Me; obtain⟨rb,rc,rn⟩:=r; simp only at r2 O; simp only[z8]; rw[r2]; by_cases hz:(xok d true b&&(decide (t.1+nO b≤300)&&fr t.2 (uE b)))=true
      ·left
       have P:=O hz; simp only[z38]at P; obtain⟨rfl,rfl⟩:=P; rw[hz]; simp only[z7,z36]at hz; have hvc:=Lj b; refine⟨_,rfl,⟨?_,hz.2.1, ?_⟩,rfl⟩
       ·show 0≤t.1+(nO b:Int); omega
       ·show((t.2++uE b).length:Int)≤t.1+(nO b:Int)
        rw[z32]; omega
      ·right
       rw[z90]at hz; rw[hz]; exact⟨(),_,rfl,rfl,_,_,rfl⟩) (fun t _=>he t) (n:=n) (by omega) (t0:=t0) ⟨g0,W,X⟩
     refine⟨x,x1, ?_⟩
     revert s
     cases qG (Me d) l t0<;>exact id
    have p: ∀(t0:JS) (x:(Bool×Int×List (List UInt8))⊕(Int×Bool×Int×List (List UInt8))),t0.1=c+1→(match qG (Me d) a.f3 t0 with | .inl t=>x= .inr ((a.f3.length:Int),false,t.1,t.2) | .inr _=> ∃u v,x= .inl (false,u,v))→
      ∃r,jv x=some r∧pJ (a.f3.all (xok d true)&&(decide (c+(q:Int)≤300)&&fr t0.2 (kR a.f3))) (c+q) (t0.2++kR a.f3) r:=by
     intro t0 x S m; rw[JJ d a.f3 t0 (by omega),S,show c+1+(lH a.f3:Int)=c+q by omega]at m
     cases hz:(a.f3.all (xok d true)&&(decide (c+(q:Int)≤300)&&fr t0.2 (kR a.f3)))with
     | true=>
      rw[hz]at m; simp only[z15]at m; subst m; exact⟨_,rfl,rfl,fun _=>rfl⟩
     | false=>
      rw[hz]at m; simp only[z12]at m; obtain⟨u,v,rfl⟩:=m; exact⟨_,rfl,rfl,fun h=>by cases h⟩
    by_cases E:a.f0=3
    ·have L:a.f3=[]:=by
      rw[E]at D; have e:LX 3 a.f1 a.f2 a.f3.length=(decide (a.f1=0)&&(FC a.f2&&decide ((a.f3.length:Int)=0))):=rfl; rw[e]at D; simp only[z7,z36]at D; have:=D.2.2; cases m:a.f3 with
      | nil=>rfl
      | cons x r=>rw[m]at this; simp only[z34]at this; omega
     rw[z13 E]; rw[z13 E]at A; simp only[z15]at A; rw[A]; have C:kR a.f3=[]:=by rw[L]; rfl
     cases hu:decide (a.f2=[95])with
     | true=>
      simp only[z31,z15,z8,z12]; obtain⟨x,x1,s⟩:=o a.f3 (by omega) (cO n (cC n) (11 - ((d+1:Nat):Int)) a.f3) (fun i b t k=>by
       have N:=dR k; simp only[cO,dY k,z15,dT,k,z8,H,aV (show i<4611686018427387904 by omega)]) (fun t=>by simp only[cO,aQ,z12]) (c+1,g) (by show 0≤c+1; omega) (by show c+1≤300; omega) (by show(g.length:Int)≤c+1; omega)
      have f:=p (c+1,g) x rfl s; rw[C]at f; rw[x1]; obtain⟨r,f1,f2⟩:=f; exact⟨r,by rcases x with⟨u,v,w⟩ | ⟨u,v,w,z⟩<;>exact f1,f2⟩
     | false=>
      simp only[z97,z15,z8]; rw[LL n g a.f2 (by omega) (by omega)]
      simp only[z8]; cases K:decide (a.f2∈g)with
      | true=>
       have U:fr g [a.f2]=false:=by simp only[fr,K]; rfl
       have V:(a.f3.all (xok d true)&&(decide (c+(q:Int)≤300)&&fr g [a.f2]))=false:=by rw[U]; cases a.f3.all (xok d true)<;>simp
       rw[z12,V]; exact⟨_,rfl,rfl,fun h=>by cases h⟩
      | false=>
       have I:wX 16 g [a.f2]=some (g++[a.f2]):=tG (by simp only[z37]; omega) (by simp only[z37,maxLen]; omega)
       rw[I]; simp only[z12,z8]; obtain⟨x,x1,s⟩:=o a.f3 (by omega) (gJ n (cC n) (11 - ((d+1:Nat):Int)) a.f3) (fun i b t k=>by
        have N:=dR k; simp only[gJ,dY k,z15,dT,k,z8,H,aV (show i<4611686018427387904 by omega)]) (fun t=>by simp only[gJ,aQ,z12]) (c+1,g++[a.f2]) (by show 0≤c+1; omega) (by show c+1≤300; omega) (by show((g++[a.f2]).length:Int)≤c+1; rw[z32,z37]; omega)
       have f:=p (c+1,g++[a.f2]) x rfl s; rw[C,Ue]at f; have T:fr g [a.f2]=fr (g++[a.f2]) []:=by simp only[fr,K]; rfl
       rw[T,x1]; obtain⟨r,f1,f2⟩:=f; exact⟨r,by rcases x with⟨u,v,w⟩ | ⟨u,v,w,z⟩<;>exact f1,f2⟩
    ·rw[z10 E]at A ⊢
     simp only[z12]at A; rw[A]; simp only[z12,z8]; obtain⟨x,x1,s⟩:=o a.f3 (by omega) (cO n (cC n) (11 - ((d+1:Nat):Int)) a.f3) (fun i b t k=>by
      have N:=dR k; simp only[cO,dY k,z15,dT,k,z8,H,aV (show i<4611686018427387904 by omega)]) (fun t=>by simp only[cO,aQ,z12]) (c+1,g) (by show 0≤c+1; omega) (by show c+1≤300; omega) (by show(g.length:Int)≤c+1; omega)
     have f:=p (c+1,g) x rfl s; rw[x1]; obtain⟨r,f1,f2⟩:=f; exact⟨r,by rcases x with⟨u,v,w⟩ | ⟨u,v,w,z⟩<;>exact f1,f2⟩
theorem LB{α σ τ ρ κ:Type}{body:σ→Option (σ⊕ρ)}(l:List α)(f:τ→α→τ⊕κ)(enc:τ→Nat→σ)(c:τ→ρ)(b:κ→ρ→Prop)(I:Nat→τ→Prop)(y: ∀(i:Nat) a t,l[i]? =some a→I i t→(∃e,f t a= .inl e∧I (i+1) e∧body (enc t i)=some (.inl (enc e (i+1))))∨(∃q r,f t a= .inr q∧body (enc t i)=some (.inr r)∧b q r))
  (u: ∀t,I l.length t→body (enc t l.length)=some (.inr (c t))){n:Nat}(hn:l.length<n){t0:τ}(h0:I 0 t0): ∃r,loopN body n (enc t0 0)=some r∧(match qG f l t0 with | .inl t=>r=c t∧I l.length t | .inr q=>b q r):=by
 have k: ∀(r:List α) (i:Nat) (t:τ) (n:Nat),l.drop i=r→I i t→r.length<n→i≤l.length→ ∃x,loopN body n (enc t i)=some x∧(match qG f r t with | .inl t=>x=c t∧I l.length t | .inr q=>b q x):=by
  intro r; induction r with
  | nil=>
   intro i t n d g hn v; obtain⟨m,rfl⟩: ∃m,n=m+1:=⟨n - 1,by simp at hn; omega⟩
   have:i=l.length:=by
    have:=congrArg List.length d; simp at this; omega
   subst this; simp only[loopN,u t g,qG]; exact⟨_,rfl,rfl,g⟩
  | cons a r ih=>
   intro i t n d g hn v; obtain⟨m,rfl⟩: ∃m,n=m+1:=⟨n - 1,by simp at hn; omega⟩
   have w:i<l.length:=by
    have:=congrArg List.length d; simp at this; omega
   have s:l[i]? =some a:=by
    have:=congrArg (·[0]?) d
    simpa using this
   have j:l.drop (i+1)=r:=by
    have:=congrArg List.tail d; simpa using this
   rcases y i a t s g with⟨e,h1,o,h⟩ | ⟨q,x,h1,h,p⟩
   ·simp only[loopN,h,qG,h1]
    exact ih (i+1) e m j o (by simp at hn; omega) (by omega)
   ·simp only[loopN,h,qG,h1]
    exact⟨x,rfl,p⟩
 exact k l 0 t0 n rfl h0 hn (by omega)

abbrev Mt:=aC→aA→Option (List aG)
theorem Gm(a:aA):bS a=3+a.f2.length+rB a.f3:=by cases a; simp only[bS]; rfl
theorem KX{α:Type}(w:α→Nat): ∀(a b:List α),dl w (a++b)+1=dl w a+dl w b
 | [],b=>by simp only[z70,dl]; omega
 | x::r,b=>by have:=KX w r b; simp only[z89,dl]; omega
theorem Hs(n:Nat)(hn:n≤1099511627776)(a:aC)(h:bH a+400<n):qA n a.f0 a.f1 a.f2 a.f3 a.f4=some (Bu a):=by
 unfold qA Bu; obtain⟨r,r1,r2,b⟩:=CD n hn a 10 0 [] (by omega) (by omega) (by omega) (by simp) h
 have r1:cC n a.f0 a.f1 a.f2 a.f3 a.f4 (1:Int) 0 []=some r:=r1; rw[r1]; simp only[z8,z9]; rw[r2,Int.zero_add,Wr,Vq]
theorem Hn(n:Nat)(hn:n≤1099511627776)(a:aC)(h:bH a<n):pY n a.f0 a.f1 a.f2 a.f3 a.f4=some (Bu a):=by
 unfold pY Bu; have h1:=Ld n hn a true 10 300 (by omega) (by omega) (by omega) h
 have h1:cS n a.f0 a.f1 a.f2 a.f3 a.f4 true (10:Int) 300=_:=h1; have b:=HP a; rw[h1,sN n hn a h]; unfold tk; simp only[z8,JI n (uE a) (by omega) (by omega)]
 cases q:(xok 10 true a&&decide ((nO a:Int)≤300))with
 | true=>
  simp only[z7,z36]at q; rw[z15,z13 (by omega)]; rfl
 | false=>rfl

theorem HO{d:Nat}{a:aC}(h:xok (d+1) true a=true):a.f3.all (xok d true)=true∧shp true a.f0 a.f1 a.f2 a.f3.length a.f4.length=true:=by
 rw[HN]at h; simp only[z7]at h; exact⟨h.2.1,h.1⟩
theorem Lm{k m:Int}{s:List UInt8}{c i:Int}(h:shp true k m s c i=true)(h1:k≠1)(d:k≠2)(e:k≠3)(f:k≠4)(g:k≠5):k=6∧2≤c:=by
 rw[←OT]at h; simp only[z7,z35,z39]at h; obtain⟨j,l,a⟩:=h; unfold LX at a; rw[z10 h1,z10 d,z10 e,z10 f,z10 g,z10 (show ¬ k=7 by omega),z10 (show ¬ k=8 by omega),z10 (show ¬ k=9 by omega)]at a
 by_cases b:k=6
 ·rw[z13 b]at a
  simp only[z15,z12,z7,z36]at a; exact⟨b,a.2.2.1⟩
 ·rw[z10 b]at a; cases a

def Gt{α:Type}(o:Option α)(Q:α→Prop):Prop:= ∃r,o=some r∧Q r
theorem Gt.pure{α:Type}{a:α}{Q:α→Prop}(h:Q a):Gt (some a) Q:=⟨a,rfl,h⟩
theorem Gt.bind{α β:Type}{o:Option α}{f:α→Option β}{P:α→Prop}{Q:β→Prop}(h:Gt o P)(b: ∀r,P r→Gt (f r) Q):Gt (o.bind f) Q:=by
 obtain⟨r,rfl,a⟩:=h; exact b r a
theorem Gt.cond{α:Type}{b:Bool}{x y:Option α}{Q:α→Prop}(h1:b=true→Gt x Q)(h0:b=false→Gt y Q):Gt (bif b then x else y) Q:=by
 cases b with
 | true=>exact h1 rfl
 | false=>exact h0 rfl
theorem Gt.of{α:Type}{o:Option α}{r:α}{Q:α→Prop}(e:o=some r)(h:Q r):Gt o Q:=⟨r,e,h⟩
def Rnd{σ ρ:Type}(I:Nat→σ→Prop)(Q:ρ→Prop)(m:Nat):σ⊕ρ→Prop
 | .inl s=> ∃a,m=a+1∧I a s
 | .inr r=>Q r
theorem Gt.loop{σ ρ:Type}{body:σ→Option (σ⊕ρ)}(I:Nat→σ→Prop)(Q:ρ→Prop)(a: ∀m s,I m s→Gt (body s) (Rnd I Q m)): ∀ {n m:Nat} {s:σ},I m s→m<n→Gt (loopN body n s) Q
 | 0,m,s,h,hn=>by omega
 | n+1,m,s,h,hn=>by
  obtain⟨x,e,b⟩:=a m s h; unfold loopN; rw[e]; cases x with
  | inl s'=>
   obtain⟨d,rfl,c⟩:=b; exact Gt.loop I Q a c (by omega)
  | inr r=>exact⟨r,rfl,b⟩
theorem Vj{α:Type}{k:Nat}{a b:List α}(h:a.length+b.length≤1048576000)(c:k≤255):Gt (wX k a b) (fun r=>r=a++b):=by
 refine Gt.of (tG ?_ (by simp only[maxLen]; omega)) rfl
 have:(a.length+b.length)*k≤1048576000*255:=Nat.mul_le_mul h c; omega
def Kn(b:aG):aA:= .mk b.f1 b.f2 b.f3 b.f4
abbrev Ft:=aC→Option aA
def flL(f:Ft):List aC→Option (List aA)
 | []=>some []
 | x::r=>(f x).bind fun t=>(flL f r).map (t:: ·)
def Jf(L:List aA):Option aA:=match L[L.length - 1]? with
 | some x=>bif decide (x.f0=5)then some (.mk 5 0 [] (L.take (L.length - 1)++x.f3))else none
 | none=>none
def fl(f:List UInt8→Option aA):Nat→Ft
 | 0,_=>none
 | d+1,p=>bif decide (p.f0=1)then some (.mk 1 p.f1 [] [])else bif decide (p.f0=2)then some (.mk 2 0 p.f2 [])else bif decide (p.f0=3)then f p.f2
  else(flL (fl f d) p.f3).bind fun L=>bif decide (p.f0=4)then some (.mk 4 0 [] L)else bif decide (p.f0=5)then some (.mk 5 0 [] L)else Jf L
theorem KV{α:Type}(p:α→Bool): ∀(l:List α) (k:Nat) (a:α),l[k]? =some a→p a=true→(∀(j:Nat) b,j<k→l[j]? =some b→p b=false)→l.find? p=some a
 | [],k,a,h,_,_=>by simp at h
 | x::r,0,a,h,c,_=>by
  simp only[z20,z9]at h
  subst h; simp only[List.find?_cons,c]
 | x::r,k+1,a,h,c,d=>by
  have h0:=d 0 x (by omega) rfl
  simp only[List.find?_cons,h0]
  exact KV p r k a (by simpa using h) c fun j b f e=>d (j+1) b (by omega) (by simpa using e)
def fnd(l:List aG)(s:List UInt8):Option aA:=(l.find? fun b=>decide (b.f0=s)).map Kn
def FV:Option aA→Int×Int×List UInt8×List aA×Bool
 | some t=>(t.f0,t.f1,t.f2,t.f3,true)
 | none=>(0,0,[],[],false)
theorem Gp(a:aG):fV a=3+a.f0.length+bS (Kn a):=by cases a; rfl
theorem QP(n:Nat)(l:List aG)(s:List UInt8)(h:dl fV l<n)(hn:n≤1099511627776):oS n l s=some (FV (fnd l s)):=by
 unfold oS; have r:=dM fV l; have g: ∀ {i:Nat} {a:aG},l[i]? =some a→l.getD i ⟨[],0,0,[],[]⟩=a:=fun c=>by rw[z81,c]; rfl
 have e:=AH (body:=hH n l s) l (fun b=>decide (b.f0=s)) (fun i=>((i:Int),(0:Int),(0:Int),([]:List UInt8),([]:List aA))) (fun i=> .inl (true,(l.getD i ⟨[],0,0,[],[]⟩).f1,(l.getD i ⟨[],0,0,[],[]⟩).f2,(l.getD i ⟨[],0,0,[],[]⟩).f3,(l.getD i ⟨[],0,0,[],[]⟩).f4)) (.inr ((l.length:Int),false,0,0,[],[])) (fun i a c=>by
  have q:=dR c; have p:=fR fV (z24 c); rw[Gp]at p; have f:dA n a.f1 a.f2 a.f3 a.f4=some (a.f1,a.f2,a.f3,a.f4):=LK n (a:=Kn a) (by omega) (by omega)
  simp only[hH,dY c,z15,dT,c,z8,f,g c,aV (show i<4611686018427387904 by omega)]
  cases decide (a.f0=s)<;>rfl) (by simp only[hH,aQ,z12]) (n:=n) (by omega)
 have e:loopN (hH n l s) n ((0:Int),(0:Int),(0:Int),([]:List UInt8),([]:List aA))=_:=e; rw[e]; unfold fnd; rcases vB (fun b:aG=>decide (b.f0=s)) l 0 with⟨h1,d⟩ | ⟨k,a,h1,d,j,m⟩
 ·rw[h1,List.find?_eq_none.2 (fun b o=>by rw[d b o]; simp)]; rfl
 ·rw[h1,KV _ l k a d j m,z10 (by omega)]
  simp only[z12,z8,z30,z53,g d]; rfl
theorem Pz(n:Nat)(A B:List aA)(hn:5<n)(h:A.length+B.length≤60000000):fF n [A,B]=some (A++B):=by
 have d:ix [A,B] (0:Int)=some A:=rfl; have e:ix [A,B] (1:Int)=some B:=rfl; have a:decide ((0:Int)<(([A,B]:List (List aA)).length:Int))=true:=by simp
 have b:decide ((1:Int)<(([A,B]:List (List aA)).length:Int))=true:=by simp
 have c:decide ((2:Int)<(([A,B]:List (List aA)).length:Int))=false:=by simp
 have j:IntKind.wrap .i64 ((0:Int)+1)=1:=by rw[wrap_i64 (by omega) (by omega)]; rfl
 have l:IntKind.wrap .i64 ((1:Int)+1)=2:=by rw[wrap_i64 (by omega) (by omega)]; rfl
 have w:IntKind.wrap .i64 ((0:Int)+(A.length:Int))=(A.length:Int):=by rw[wrap_i64 (by omega) (by omega)]; omega
 have x:IntKind.wrap .i64 ((A.length:Int)+(B.length:Int))=((A.length+B.length:Nat):Int):=by rw[wrap_i64 (by omega) (by omega)]; omega
 have v:bN n [A,B] ((0:Int),(0:Int))=some (.inl ((A.length:Int),(1:Int))):=by
  simp only[bN,a,z15,d,z8,w,j,z10 (show ¬ (A.length:Int)<0 by omega),z12]
 have r1:bN n [A,B] ((A.length:Int),(1:Int))=some (.inl (((A.length+B.length:Nat):Int),(2:Int))):=by
  simp only[bN,b,z15,e,z8,x,l,z10 (show ¬ ((A.length+B.length:Nat):Int)<0 by omega),z12]
 have r2:bN n [A,B] (((A.length+B.length:Nat):Int),(2:Int))=some (.inr (((A.length+B.length:Nat):Int),(2:Int),false)):=by
  simp only[bN,c,z12]
 have a1:wX 56 ([]:List aA) A=some A:=tG (by simp only[z77]; omega) (by simp only[z77,maxLen]; omega)
 have a2:wX 56 A B=some (A++B):=tG (by omega) (by simp only[maxLen]; omega)
 have p:((0:Nat):Int)=0:=rfl; have q:((1:Nat):Int)=1:=rfl; have s:bM n [A,B] (([]:List aA),(0:Int),0)=some (.inl (A,(1:Int),1)):=by
  simp only[bM,a,z15,p,eq_self,decide_true,d,z8,a1,j]
 have t:bM n [A,B] (A,(1:Int),1)=some (.inl (A++B,(2:Int),2)):=by
  simp only[bM,b,z15,q,eq_self,decide_true,e,z8,a2,l]
 have u:bM n [A,B] (A++B,(2:Int),2)=some (.inr (A++B,(2:Int),2,false)):=by
  simp only[bM,c,z12]
 have m:iJ n ([]:List aA) ((A.length+B.length:Nat):Int)=some []:=by
  unfold iJ; rw[z13 (show(0:Int)≤((A.length+B.length:Nat):Int)by omega),z13 (by omega)]; rfl
 have L: ∀ {σ ρ:Type} {body:σ→Option (σ⊕ρ)} {f g i:σ} {r:ρ} (_:body f=some (.inl g)) (_:body g=some (.inl i)) (_:body i=some (.inr r)),loopN body n f=some r:=fun h0 h1 o=>by
  obtain⟨k,rfl⟩: ∃k,n=k+3:=⟨n - 3,by omega⟩
  simp only[loopN,h0,h1,o]
 unfold fF; rw[L v r1 r2]; simp only[z8,m]; rw[L s t u]; rfl
theorem Gf{α:Type}(w:α→Nat){a:α}: ∀ {l:List α},a∈l→l.length+w a≤dl w l
 | x::r,h=>by
  have b:=dM w r; rcases Qq.1 h with rfl | h
  ·simp only[z34,dl]; omega
  ·have:=Gf w h
   simp only[z34,dl]; omega
theorem HK{g:Ft}: ∀ {l:List aC} {L:List aA},flL g l=some L→L.length=l.length∧ ∀x∈L, ∃y∈l,g y=some x
 | [],L,h=>by cases h; exact⟨rfl,fun x a=>by cases a⟩
 | y::r,L,h=>by
  obtain⟨t,h1,h⟩:=z19.1 h; obtain⟨j,b,e⟩:=z22.1 h; subst e; obtain⟨c,d⟩:=HK b; refine⟨by simp only[z34,c],fun x a=> ?_⟩
  rcases Qq.1 a with rfl | a
  ·exact⟨y,z27 ..,h1⟩
  ·obtain⟨z,f,i⟩:=d x a
   exact⟨z,z23 _ f,i⟩
theorem Nz(f:List UInt8→Option aA)(W:Nat)(a: ∀s t,f s=some t→t.f3.length≤W): ∀(d:Nat) (p:aC) (t:aA),fl f d p=some t→t.f3.length≤W+bH p
 | 0,p,t,h=>by cases h
 | d+1,p,t,h=>by
  have c:=sA p; rw[eS,dI]at c; have j:=dM bH p.f3; unfold fl at h; cases h1:decide (p.f0=1)with
  | true=>rw[h1]at h; cases h; simp [aA.f3]
  | false=>
  cases h2:decide (p.f0=2)with
  | true=>rw[h1,h2]at h; cases h; simp [aA.f3]
  | false=>
  cases h3:decide (p.f0=3)with
  | true=>rw[h1,h2,h3]at h; have:=a _ _ h; omega
  | false=>
  rw[h1,h2,h3]at h; simp only[z12]at h; obtain⟨L,b,h⟩:=z19.1 h; obtain⟨k,e⟩:=HK b; cases h4:decide (p.f0=4)with
  | true=>rw[h4]at h; cases h; show L.length≤_; omega
  | false=>
  cases h5:decide (p.f0=5)with
  | true=>rw[h4,h5]at h; cases h; show L.length≤_; omega
  | false=>
  rw[h4,h5]at h; simp only[z12]at h; unfold Jf at h; cases hx:L[L.length - 1]? with
  | none=>rw[hx]at h; cases h
  | some x=>
   rw[hx]at h; cases hq:decide (x.f0=5)with
   | false=>simp only[hq,z12]at h; cases h
   | true=>
    simp only[hq,z15]at h; cases h; obtain⟨y,g,i⟩:=e x (z24 hx); have l:=Nz f W a d y x i; have m:=Gf bH g; show(L.take (L.length - 1)++x.f3).length≤_; rw[z32,z44]; omega
theorem Py(n:Nat)(L:List aA)(hn:5<n)(f:2≤L.length)(g:L.length≤20000000)(e: ∀x∈L,x.f3.length≤40000000):oQ n L=some (FV (Jf L)):=by
 have d:L.length - 1<L.length:=by omega
 have a:L[L.length - 1]? =some L[L.length - 1]:=z16 d
 generalize L[L.length - 1]=x at a; have b:IntKind.wrap .i64 ((L.length:Int) - 1)=((L.length - 1:Nat):Int):=by rw[wrap_i64 (by omega) (by omega)]; omega
 have h:=e x (z24 a); have c:=Pz n (L.take (L.length - 1)) x.f3 hn (by rw[z44]; omega)
 unfold oQ Jf; rw[b,dT,a]; simp only[z8]; cases decide (x.f0=5)with
 | false=>rfl
 | true=>
  rw[SM (by omega)]
  simp only[z31,z12,z8,c]; rfl
def stF(g:Ft)(t:List aA)(a:aC):List aA⊕Unit:=match g a with
 | some x=> .inl (t++[x])
 | none=> .inr ()
theorem Ll(g:Ft): ∀(l:List aC) (t:List aA),qG (stF g) l t=match flL g l with | some L=> .inl (t++L) | none=> .inr ()
 | [],t=>by simp [qG,flL]
 | x::r,t=>by
  have e:stF g t x=match g x with | some y=> .inl (t++[y]) | none=> .inr ():=rfl
  simp only[qG,flL,e]; cases g x with
  | none=>rfl
  | some y=>
   simp only[z8]; rw[Ll g r (t++[y])]; cases flL g r with
   | none=>rfl
   | some L=>simp only[z33,z75,z162]
theorem Oo(l:List aG)(s:List UInt8)(t:aA)(h:fnd l s=some t):t.f3.length≤dl fV l:=by
 unfold fnd at h; obtain⟨b,a,e⟩:=z22.1 h; have c:=fR fV (z142 a)
 rw[Gp]at c; have d:=Gm (Kn b); rw[fQ]at d; have:=dM bS (Kn b).f3; subst e; omega
theorem MM(l:List aG)(s:dl fV l≤16000000): ∀(n:Nat),n≤1099511627776→ ∀(d:Nat) (p:aC),xok d true p=true→bH p+dl fV l+10<n→bH p≤16000000→jF n p.f0 p.f1 p.f2 p.f3 p.f4 l=some (FV (fl (fnd l) d p))
 | 0,_,d,p,f,h,_=>by omega
 | n+1,hn,0,p,f,h,u=>by cases f
 | n+1,hn,d+1,p,f,h,u=>by
  obtain⟨v,z⟩:=HO f; have A:=sA p; rw[eS,dI]at A; have F:=dM bH p.f3; have B: ∀x∈p.f3,jF n x.f0 x.f1 x.f2 x.f3 x.f4 l=some (FV (fl (fnd l) d x)):=fun x q=>by
   have:=fR bH q; exact MM l s n (by omega) d x (z18.1 v x q) (by omega) (by omega)
  rw[Cp]; unfold rE fl; by_cases h1:p.f0=1
  ·rw[z13 h1]; rfl
  rw[z10 h1]; by_cases g:p.f0=2
  ·rw[z13 g]; rfl
  rw[z10 g]; by_cases j:p.f0=3
  ·rw[z13 j,QP n l p.f2 (by omega) (by omega)]; rfl
  rw[z10 j]; simp only[z12]; obtain⟨x,x1,b⟩:=LB (body:=iQ n (jF n) l p.f3) p.f3 (stF (fl (fnd l) d)) (fun t i=>(t,(i:Int),(0:Int),(0:Int),([]:List UInt8),([]:List aA))) (fun t=> .inr (t,(p.f3.length:Int),false,0,0,[],[])) (fun _ x=>x= .inl (false,0,0,[],[])) (fun i t=>t.length=i) (fun i a t c G=>by
   have H:=dR c; have e:=B a (z24 c); have r:stF (fl (fnd l) d) t a=match fl (fnd l) d a with | some y=> .inl (t++[y]) | none=> .inr ():=rfl
   rw[r]; cases hf:fl (fnd l) d a with
   | none=>
    rw[hf]at e; right
    refine⟨(),_,rfl, ?_,rfl⟩
    simp only[iQ,dY c,z15,dT,c,z8,e,FV,z97]
   | some y=>
    rw[hf]at e; left
    have o:wX 56 t [y]=some (t++[y]):=tG (by simp only[z37]; omega) (by simp only[z37,maxLen]; omega)
    refine⟨_,rfl,by simp only[z32,z37]; omega, ?_⟩
    simp only[iQ,dY c,z15,dT,c,z8,e,FV,z31,z12,aW,o,aV (show i<4611686018427387904 by omega)]) (fun t _=>by simp only[iQ,aQ,z12]) (n:=n) (by omega) (t0:=[]) rfl
  have x1:loopN (iQ n (jF n) l p.f3) n (([]:List aA),(0:Int),(0:Int),(0:Int),([]:List UInt8),([]:List aA))=some x:=x1; rw[x1]; rw[Ll]at b; cases hL:flL (fl (fnd l) d) p.f3 with
  | none=>
   rw[hL]at b; have b:x= .inl (false,0,0,[],[]):=b; subst b; rfl
  | some L=>
   rw[hL]at b; obtain⟨rfl,_⟩:=b; simp only[z8,z70]; by_cases k:p.f0=4
   ·rw[z13 k]; rfl
   rw[z10 k]; by_cases m:p.f0=5
   ·rw[z13 m]; rfl
   rw[z10 m]; obtain⟨_,w⟩:=Lm z h1 g j k m; obtain⟨I,C⟩:=HK hL; simp only[z12]; rw[Py n L (by omega) (by omega) (by omega) (fun x f=>by
    obtain⟨y,D,E⟩:=C x f; have:=Nz (fnd l) (dl fV l) (Oo l) d y x E; have:=fR bH D; omega)]
   rfl
theorem FY(n:Nat)(l:List aG)(s:List UInt8)(h:dl fV l<n)(hn:n≤1099511627776):oM n l s=some (FV (fnd l s)):=by
 unfold oM; have r:=dM fV l; have g: ∀ {i:Nat} {a:aG},l[i]? =some a→l.getD i ⟨[],0,0,[],[]⟩=a:=fun c=>by rw[z81,c]; rfl
 have e:=AH (body:=gY n l s) l (fun b=>decide (b.f0=s)) (fun i=>((i:Int),(0:Int),(0:Int),([]:List UInt8),([]:List aA))) (fun i=> .inl (true,(l.getD i ⟨[],0,0,[],[]⟩).f1,(l.getD i ⟨[],0,0,[],[]⟩).f2,(l.getD i ⟨[],0,0,[],[]⟩).f3,(l.getD i ⟨[],0,0,[],[]⟩).f4)) (.inr ((l.length:Int),false,0,0,[],[])) (fun i a c=>by
  have q:=dR c; have p:=fR fV (z24 c); rw[Gp]at p; have f:fH n a.f1 a.f2 a.f3 a.f4=some (a.f1,a.f2,a.f3,a.f4):=Pm n (a:=Kn a) (by omega) (by omega)
  simp only[gY,dY c,z15,dT,c,z8,f,g c,aV (show i<4611686018427387904 by omega)]
  cases decide (a.f0=s)<;>rfl) (by simp only[gY,aQ,z12]) (n:=n) (by omega)
 have e:loopN (gY n l s) n ((0:Int),(0:Int),(0:Int),([]:List UInt8),([]:List aA))=_:=e; rw[e]; unfold fnd; rcases vB (fun b:aG=>decide (b.f0=s)) l 0 with⟨h1,d⟩ | ⟨k,a,h1,d,j,m⟩
 ·rw[h1,List.find?_eq_none.2 (fun b o=>by rw[d b o]; simp)]; rfl
 ·rw[h1,KV _ l k a d j m,z10 (by omega)]
  simp only[z12,z8,z30,z53,g d]; rfl
def OkR(o:Option aA)(r:Int×Int×List UInt8×List aA×Bool):Prop:=match o with
 | some t=>r=FV (some t)
 | none=>r.2.2.2.2=false
theorem OkR.out(o:Option aA):OkR o (FV o):=by cases o<;>rfl
theorem MJ{g:Ft}: ∀ {l:List aC} {i:Nat} {a:aC},l[i]? =some a→g a=none→flL g l=none
 | [],i,a,h,_=>by simp at h
 | x::r,0,a,h,e=>by cases h; simp only[flL,e,Option.bind_none]
 | x::r,i+1,a,h,e=>by
  have:=MJ (l:=r) (i:=i) (by simpa using h) e
  unfold flL; rw[this]; cases g x<;>rfl
theorem MI{g:Ft}{a:aC}{y:aA}(h:g a=some y): ∀ {l:List aC} {T:List aA},flL g l=some T→flL g (l++[a])=some (T++[y])
 | [],T,e=>by cases e; simp [flL,h]
 | x::r,T,e=>by
  unfold flL at e; obtain⟨t,h1,e⟩:=z19.1 e; obtain⟨c,b,e⟩:=z22.1 e; subst e; simp only[z89,flL,h1,MI h b,z8,z33]
theorem AM(l:List aG)(S:dl fV l≤16000000): ∀(n:Nat),n≤1099511627776→ ∀(d:Nat) (p:aC),xok d true p=true→bH p+dl fV l+10<n→bH p≤16000000→Gt (iA n p.f0 p.f1 p.f2 p.f3 p.f4 l) (OkR (fl (fnd l) d p))
 | 0,_,d,p,B,h,_=>by omega
 | n+1,hn,0,p,B,h,W=>by cases B
 | n+1,hn,d+1,p,B,h,W=>by
  obtain⟨Y,hs⟩:=HO B; have hw:=sA p; rw[eS,dI]at hw; have g1:=dM bH p.f3; have ih: ∀x∈p.f3,Gt (iA n x.f0 x.f1 x.f2 x.f3 x.f4 l) (OkR (fl (fnd l) d x)):=fun x A=>by
   have:=fR bH A; exact AM l S n (by omega) d x (z18.1 Y x A) (by omega) (by omega)
  have I:=Nz (fnd l) (dl fV l) (Oo l) d; have H:qN=kB:=rfl; rw[Ak]; unfold nW fl; rw[H]; by_cases h1:p.f0=1
  ·rw[z13 h1]; exact Gt.pure rfl
  rw[z10 h1]; by_cases D:p.f0=2
  ·rw[z13 D]; exact Gt.pure rfl
  rw[z10 D]; by_cases E:p.f0=3
  ·rw[z13 E]
   simp only[z15,z12,FY n l p.f2 (by omega) (by omega),z8]
   exact Gt.pure (OkR.out _)
  rw[z10 E]; simp only[z12]
  have t: ∀(K:Int),(p.f0=4→K=4)→(p.f0≠4→K=5)→
    Gt ((loopN (kB n (iA n) p.f0 l p.f3) n ((0:Int),(0:Int),(0:Int),([]:List UInt8),([]:List aA),K,(0:Int),([]:List UInt8),([]:List aA))).bind fun q=>(match q with | .inl (v5,w1,w2,w3,w4)=>some (w1,w2,w3,w4,v5) | .inr (v7,v39,w1,w2,w3,w4,w6,w7,w8,w9)=>some (w6,w7,w8,w9,true)))
     (OkR ((flL (fl (fnd l) d) p.f3).bind fun L=>bif decide (p.f0=4)then some (.mk 4 0 [] L)else bif decide (p.f0=5)then some (.mk 5 0 [] L)else Jf L)):=fun K G w=>by
   have F:p.f0=4∨p.f0=5∨(p.f0=6∧2≤p.f3.length):=by
    by_cases a:p.f0=4
    ·exact .inl a
    by_cases j:p.f0=5
    ·exact .inr (.inl j)
    obtain⟨k,h7⟩:=Lm hs h1 D E a j; exact .inr (.inr ⟨k,by omega⟩)
   generalize f:(flL (fl (fnd l) d) p.f3).bind _=R; refine Gt.bind (P:=fun q=> ∃r,(match q with | .inl (v5,w1,w2,w3,w4)=>some (w1,w2,w3,w4,v5) | .inr (v7,v39,w1,w2,w3,w4,w6,w7,w8,w9)=>some (w6,w7,w8,w9,true))=some r∧OkR R r) (Gt.loop (fun(m:Nat) s=> ∃(i:Nat) (T:List aA),i+m=p.f3.length∧(p.f0=6→i<p.f3.length)∧s=((i:Int),(0:Int),(0:Int),([]:List UInt8),([]:List aA),K,(0:Int),([]:List UInt8),T)∧flL (fl (fnd l) d) (p.f3.take i)=some T) _ (fun m s U=> ?_) (m:=p.f3.length) ⟨0,[],by omega,by omega,rfl,rfl⟩ (by omega)) fun q Z=> ?_
   ·obtain⟨i,T,i1,O,rfl,C⟩:=U
    have V:=(HK C).1; rw[z44]at V; unfold kB; by_cases X:i<p.f3.length
    ·obtain⟨N,rfl⟩: ∃N,m=N+1:=⟨m - 1,by omega⟩
     have z:p.f3[i]? =some p.f3[i]:=z16 X
     have A:=z24 z; obtain⟨r,e,g⟩:=ih _ A; simp only[dY z,z15,dT,z,z8,e]; cases hf:fl (fnd l) d p.f3[i]with
     | none=>
      rw[hf]at g; have g:r.2.2.2.2=false:=g; rw[g]; refine Gt.pure ⟨_,rfl, ?_⟩
      have:flL (fl (fnd l) d) p.f3=none:=MJ z hf; rw[this]at f; rw[←f]; exact rfl
     | some y=>
      rw[hf]at g; have g:r=FV (some y):=g; subst g; have hy:=I _ _ hf; have hwm:=fR bH A; have o:=MI hf C; rw[sW z]at o; have M:IntKind.wrap .i64 ((p.f3.length:Int) - 1)=((p.f3.length - 1:Nat):Int):=by rw[wrap_i64 (by omega) (by omega)]; omega
      simp only[FV,z31,z12,M,SC,z8]; refine Gt.cond (fun c=> ?_) (fun c=> ?_)
      ·by_cases k:p.f0=6
       ·rw[z13 k,z15]at c
        have c:=of_decide_eq_true c; refine Gt.bind (Vj (by omega) (by omega)) fun v ev=>Gt.pure ⟨_,rfl, ?_⟩
        subst ev; have u:i+1=p.f3.length:=by omega
        rw[u,Ug]at o; rw[o,z8,z10 (by omega),z10 (by omega)]at f
        simp only[z12]at f; rw[←f,w (by omega)]
        unfold Jf; have Q:(T++[y]).length - 1=T.length:=by simp
        rw[Q,z55 (by omega),z99]
        simp only[z20,List.take_left]
        by_cases j:y.f0=5
        ·simp only[z13 j]
         exact congrArg (fun b=>((5:Int),(0:Int),([]:List UInt8),T++y.f3,b)) (z13 j)
        ·simp only[z10 j]
         exact z10 j
       ·rw[z10 k,z12]at c; cases c
      ·refine Gt.bind (Vj (by simp only[z37]; omega) (by omega)) fun v ev=>Gt.pure ⟨N,rfl,i+1,_,by omega,fun k=> ?_,by rw[aV (by omega)], ?_⟩
       ·rw[z13 k,z15]at c
        have c:=of_decide_eq_false c; have:=O k; omega
       ·rw[ev,aW]; exact o
    ·have J:i=p.f3.length:=by omega
     subst J; simp only[aQ,z12]; refine Gt.pure ⟨_,rfl, ?_⟩
     rw[Ug]at C; rw[C,z8]at f; rcases F with a | j | ⟨k,_⟩
     ·rw[z13 a,z15]at f
      rw[←f,G a]; exact rfl
     ·rw[z10 (by omega),z13 j,z12,z15]at f
      rw[←f,w (by omega)]; exact rfl
     ·exact absurd (O k) (Nat.lt_irrefl _)
   ·obtain⟨r,e,g⟩:=Z
    exact⟨r,e,g⟩
  by_cases a:p.f0=4
  ·have:=t 4 (fun _=>rfl) (fun h=>absurd a h)
   rw[z13 a]at this ⊢; rw[a]at this ⊢; exact this
  ·have:=t 5 (fun h=>absurd h a) (fun _=>rfl)
   rw[z10 a]at this ⊢; exact this
theorem Sv(k m:Int)(s:List UInt8)(l:List aA):bS (.mk k m s l)=3+s.length+dl bS l:=by rw[Gm,fQ]; rfl
theorem Ve{g:Ft}{W:Nat}: ∀ {l:List aC} {L:List aA},(∀x∈l, ∀t,g x=some t→bS t≤bH x*(W+1))→flL g l=some L→dl bS L≤dl bH l*(W+1)
 | [],L,_,e=>by
  cases e; show 1≤1*(W+1); omega
 | x::r,L,c,e=>by
  unfold flL at e; obtain⟨t,h1,e⟩:=z19.1 e; obtain⟨j,h,e⟩:=z22.1 e; subst e; have a:=c x z27 t h1; have b:=Ve (fun y i=>c y (z23 _ i)) h
  have d:dl bH (x::r)*(W+1)=bH x*(W+1)+(1+dl bH r)*(W+1):=by
   rw[←z82]; congr 1; simp only[dl]; omega
  have f:(1+dl bH r)*(W+1)=1*(W+1)+dl bH r*(W+1):=z82 _ _ _; rw[d,f]; simp only[dl]; omega
theorem fl_w{f:List UInt8→Option aA}{W:Nat}(q: ∀s t,f s=some t→bS t≤W): ∀(d:Nat) (p:aC) (t:aA),fl f d p=some t→bS t≤bH p*(W+1)
 | 0,p,t,h=>by cases h
 | d+1,p,t,h=>by
  have w:=sA p; rw[eS,dI]at w; have A:=dM bH p.f3; have B:=dM dX p.f4; have up: ∀ {k:Nat},k≤bH p→k*(W+1)≤bH p*(W+1):=fun h=>z64 _ h
  have a: ∀ {k:Nat},k≤k*(W+1):=fun {k}=>z148 _ (by omega)
  unfold fl at h; by_cases h1:p.f0=1
  ·rw[z13 h1]at h; cases h
   rw[Sv]; have z:dl bS ([]:List aA)=1:=rfl; have:=a (k:=bH p); rw[z]; simp only[z77]; omega
  rw[z10 h1,z12]at h; by_cases g:p.f0=2
  ·rw[z13 g]at h; cases h
   rw[Sv]; have z:dl bS ([]:List aA)=1:=rfl; have:=a (k:=bH p); rw[z]; omega
  rw[z10 g,z12]at h; by_cases i:p.f0=3
  ·rw[z13 i,z15]at h
   have:=q _ _ h; have:=up (k:=1) (by omega)
   omega
  rw[z10 i,z12]at h; obtain⟨L,v,h⟩:=z19.1 h; have C:=Ve (W:=W) (fun x _ t=>fl_w q d x t) v
  have y:(3+dl bH p.f3)*(W+1)=3*(W+1)+dl bH p.f3*(W+1):=z82 _ _ _; have E:=up (k:=3+dl bH p.f3) (by omega)
  have e: ∀ {k m:Int} {l:List aA},dl bS l≤dl bS L→bS (.mk k m [] l)≤bH p*(W+1):=fun {k m l} D=>by
   rw[Sv]; simp only[z77]; omega
  by_cases j:p.f0=4
  ·rw[z13 j]at h; cases h; exact e (z59 _)
  rw[z10 j,z12]at h; by_cases o:p.f0=5
  ·rw[z13 o]at h; cases h; exact e (z59 _)
  rw[z10 o,z12]at h; unfold Jf at h; split at h
  ·rename_i x b
   cases hc:decide (x.f0=5)with
   | false=>rw[hc]at h; cases h
   | true=>
    rw[hc]at h; cases h; refine e ?_
    generalize L.length - 1=k at b; have r:=dR b; have a1:=KX bS (L.take k) x.f3; have a2:=KX bS (L.take k) (L.drop k); rw[z160]at a2; have u:x=L[k]:=by rw[z16 r]at b; exact(z50 b).symm
    rw[z139 r, ←u]at a2; simp only[dl]at a2; have c:=Gm x; rw[fQ]at c; omega
  ·cases h
theorem fnd_w{l:List aG}: ∀s t,fnd l s=some t→bS t≤dl fV l:=fun s t h=>by
 unfold fnd at h; obtain⟨b,a,e⟩:=z22.1 h; have c:=fR fV (z142 a)
 rw[Gp]at c; subst e; omega
def gR{α:Type}(F:Nat→α→Nat×α):Nat→List α→Nat×List α
 | k,[]=>(k,[])
 | k,a::r=>((gR F (F k a).1 r).1,(F k a).2::(gR F (F k a).1 r).2)
theorem GP{α:Type}(F:Nat→α→Nat×α): ∀(l:List α) (k:Nat),(gR F k l).2.length=l.length
 | [],k=>rfl
 | a::r,k=>by simp only[gR,z34,GP F r]
theorem JC{α:Type}{F:Nat→α→Nat×α}: ∀ {l:List α},(∀a∈l, ∀k,k≤(F k a).1)→ ∀k,k≤(gR F k l).1
 | [],h,k=>by simp [gR]
 | a::r,h,k=>by
  have h1:=h a z27 k; have d:=JC (l:=r) (fun b c=>h b (z23 _ c)) (F k a).1
  simp only[gR]; omega
theorem GR{α:Type}{body:List α×Int×Int→Option ((List α×Int×Int)⊕(List α×Int×Int×Bool))}(F:Nat→α→Nat×α)(w:α→Nat){B C:Nat}(j: ∀a k,(F k a).1≤k+1+w a){len:Nat}
  (t: ∀(L:List α) (s i:Nat) a,L.length=len→L[i]? =some a→0<s→s+w a<B→w a<C→body (L,(s:Int),(i:Int))=some (.inl (L.set i (F s a).2,((F s a).1:Int),((i+1:Nat):Int))))(l: ∀(L:List α) (s:Nat),L.length=len→body (L,(s:Int),(len:Int))=some (.inr (L,(s:Int),(len:Int),false)))
  (b: ∀a k,k≤(F k a).1): ∀(r p:List α) (k m:Nat),(p++r).length=len→0<k→k+dl w r≤B→dl w r≤C→r.length<m→loopN body m (p++r,(k:Int),(p.length:Int))=some (p++(gR F k r).2,((gR F k r).1:Int),(len:Int),false)
 | [],p,k,m,d,o,g,h,f=>by
  obtain⟨m,rfl⟩: ∃q,m=q+1:=⟨m - 1,by simp at f; omega⟩
  have e:p.length=len:=by simpa using d
  simp only[Ue,loopN,gR]; rw[e,l p k e]
 | a::r,p,k,m,d,o,g,h,f=>by
  obtain⟨m,rfl⟩: ∃q,m=q+1:=⟨m - 1,by simp at f; omega⟩
  have u:(p++a::r)[p.length]? =some a:=by simp
  have c:(p++a::r).set p.length (F k a).2=(p++[(F k a).2])++r:=by
   rw[z161 _ _ (z59 _),z99,Vx,z75]; rfl
  simp only[dl]at g h; have h1:=j a k; have v:=b a k; simp only[loopN,t _ k p.length a d u o (by omega) (by omega),c,gR]
  have:=GR F w j t l b r (p++[(F k a).2]) (F k a).1 m (by rw[←d]; simp) (by omega) (by omega) (by omega) (by simp at f; omega)
  rw[z32,z37]at this; rw[this,z75]; rfl
theorem GS{α ρ:Type}{body:Int×Int→Option ((Int×Int)⊕ρ)}(F:Nat→α→Nat×α)(w:α→Nat){B C:Nat}(h: ∀a k,(F k a).1≤k+1+w a)(b: ∀a k,k≤(F k a).1){L:List α}{out:Nat→ρ}
  (o: ∀(s i:Nat) a,L[i]? =some (F s a).2→0<s→s+w a<B→w a<C→body ((s:Int),(i:Int))=some (.inl (((F s a).1:Int),((i+1:Nat):Int))))(j: ∀s:Nat,body ((s:Int),(L.length:Int))=some (.inr (out s))):
  ∀(r p:List α) (k m:Nat),L=p++(gR F k r).2→0<k→k+dl w r≤B→dl w r≤C→r.length<m→loopN body m ((k:Int),(p.length:Int))=some (out (gR F k r).1)
 | [],p,k,m,c,l,f,g,d=>by
  obtain⟨m,rfl⟩: ∃q,m=q+1:=⟨m - 1,by simp at d; omega⟩
  have e:p.length=L.length:=by rw[c]; simp [gR]
  simp only[loopN,gR]; rw[e,j k]
 | a::r,p,k,m,c,l,f,g,d=>by
  obtain⟨m,rfl⟩: ∃q,m=q+1:=⟨m - 1,by simp at d; omega⟩
  simp only[gR]at c ⊢; have t:L[p.length]? =some (F k a).2:=by rw[c]; simp
  simp only[dl]at f g; have h1:=h a k; have u:=b a k; simp only[loopN,o k p.length a t l (by omega) (by omega)]
  have:=GS F w h b o j r (p++[(F k a).2]) (F k a).1 m (by rw[c,z75]; rfl) (by omega) (by omega) (by omega) (by simp at d; omega)
  rw[z32,z37]at this; exact this
theorem AG{α:Type}{body:List α×Int×Int→Option ((List α×Int×Int)⊕(List α×Int×Int×Bool))}(F:Nat→α→Nat×α)(w:α→Nat){B C:Nat}(g: ∀a k,(F k a).1≤k+w a){len:Nat}
  (j: ∀(L:List α) (s i:Nat) a,L.length=len→L[i]? =some a→0<s→s+w a<B→w a<C→body (L,(s:Int),(i:Int))=some (.inl (L.set i (F s a).2,((F s a).1:Int),((i+1:Nat):Int))))(h: ∀(L:List α) (s:Nat),L.length=len→body (L,(s:Int),(len:Int))=some (.inr (L,(s:Int),(len:Int),false)))
  (b: ∀a k,k≤(F k a).1)(r p:List α)(k m:Nat)(h1:(p++r).length=len)(c:0<k)(d:k+dl w r≤B)(e:dl w r≤C)(f:r.length<m):loopN body m (p++r,(k:Int),(p.length:Int))=some (p++(gR F k r).2,((gR F k r).1:Int),(len:Int),false):=
 GR F w (fun a k=>by have:=g a k; omega) j h b r p k m h1 c d e f
theorem Pe{α ρ:Type}{body:Int×Int→Option ((Int×Int)⊕ρ)}(F:Nat→α→Nat×α)(w:α→Nat){B C:Nat}(g: ∀a k,(F k a).1≤k+w a)(b: ∀a k,k≤(F k a).1){L:List α}{out:Nat→ρ}
  (j: ∀(s i:Nat) a,L[i]? =some (F s a).2→0<s→s+w a<B→w a<C→body ((s:Int),(i:Int))=some (.inl (((F s a).1:Int),((i+1:Nat):Int))))(h: ∀s:Nat,body ((s:Int),(L.length:Int))=some (.inr (out s)))
  (r p:List α)(k m:Nat)(h1:L=p++(gR F k r).2)(c:0<k)(d:k+dl w r≤B)(e:dl w r≤C)(f:r.length<m):loopN body m ((k:Int),(p.length:Int))=some (out (gR F k r).1):=
 GS F w (fun a k=>by have:=g a k; omega) b j h r p k m h1 c d e f
def QV:Nat→Nat→List UInt8→List UInt8
 | 0,_,a=>a
 | m+1,k,a=>bif decide (k=0)then a else QV m (k / 10) (UInt8.ofNat (48+k % 10)::a)
theorem MN: ∀(m k:Nat) (a:List UInt8),(QV m k a).length≤m+a.length
 | 0,k,a=>by simp [QV]
 | m+1,k,a=>by
  unfold QV; cases decide (k=0)with
  | true=>simp only[z15]; omega
  | false=>
   simp only[z12]; have:=MN m (k / 10) (UInt8.ofNat (48+k % 10)::a); simp only[z34]at this; omega
theorem Ws(k:Nat):JY [IntKind.wrap .u8 (IntKind.wrap .i64 (48+Int.tmod (k:Int) 10))]=some [UInt8.ofNat (48+k % 10)]:=by
 have e:Int.tmod (k:Int) 10=((k % 10:Nat):Int):=rfl; have h:k % 10<10:=Nat.mod_lt _ (by omega)
 rw[e,wrap_i64 (by omega) (by omega)]
 have a:IntKind.wrap .u8 (48+((k % 10:Nat):Int))=48+((k % 10:Nat):Int):=by
  generalize k % 10=j at h; have:j=0∨j=1∨j=2∨j=3∨j=4∨j=5∨j=6∨j=7∨j=8∨j=9:=by omega
  rcases this with h | h | h | h | h | h | h | h | h | h<;>(subst h; rfl)
 rw[a]; simp only[JY]; rw[z17 ⟨by omega,by omega⟩]
 have b:(48+((k % 10:Nat):Int)).toNat=48+k % 10:=by omega
 rw[b]; rfl
theorem AT(n:Nat): ∀(d k:Nat) (a:List UInt8) (m:Nat),k<10 ^ d→a.length+d<100→k<4611686018427387904→d<m→loopN (kQ n) m ((k:Int),a)=some ((0:Int),QV d k a,false)
 | 0,k,a,m,b,i,h,j=>by
  obtain⟨m,rfl⟩: ∃q,m=q+1:=⟨m - 1,by omega⟩
  have:k=0:=by simpa using b
  subst this; rfl
 | d+1,k,a,m,b,i,h,j=>by
  obtain⟨m,rfl⟩: ∃q,m=q+1:=⟨m - 1,by omega⟩
  by_cases e:k=0
  ·subst e
   rfl
  ·have c:Int.tdiv (k:Int) 10=((k / 10:Nat):Int):=rfl
   have f:IntKind.wrap .i64 ((k / 10:Nat):Int)=((k / 10:Nat):Int):=wrap_i64 (by omega) (by omega)
   have g:decide (([UInt8.ofNat (48+k % 10)]:List UInt8).length+a.length≤9223372036854775807)=true:=z13 (by simp only[z37]; omega)
   simp only[loopN,kQ,z13 (show(0:Int)<(k:Int)by omega),z15,Ws,z8,g,ck,c,f]
   have:=AT n d (k / 10) (UInt8.ofNat (48+k % 10)::a) m (by rw[Nat.pow_succ]at b; omega) (by simp only[z34]; omega) (by omega) (by omega)
   rw[z162,this]; unfold QV; rw[z10 e,z12]; cases d<;>rfl
def Nl(k:Nat):List UInt8:=109::QV 20 k []
theorem nA(n k:Nat)(hn:20<n)(b:0<k)(h:k<1099511627776):cN n (k:Int)=some (Nl k):=by
 unfold cN; rw[z10 (show ¬ (k:Int)≤0 by omega),z12,AT n 20 k [] n (by omega) (by simp) (by omega) hn]
 have:=MN 20 k []; have a:decide (([109]:List UInt8).length+(QV 20 k []).length≤9223372036854775807)=true:=z13 (by simp only[z37]; simp only[z77]at this; omega)
 simp only[z8,a,ck,z15]; rfl
theorem eT{k:Nat}(h:k<4611686018427387904):IntKind.wrap .i64 ((k:Int)+1)=((k+1:Nat):Int):=aV h
mutual
def sI:aA→Nat→Nat×aA
 | .mk _ _ _ l,k=>((cM l (k+3)).1, .mk (k:Int) ((k+1:Nat):Int) (Nl (k+2)) (cM l (k+3)).2)
def cM:List aA→Nat→Nat×List aA
 | [],k=>(k,[])
 | a::r,k=>((cM r (sI a k).1).1,(sI a k).2::(cM r (sI a k).1).2)
end
theorem rI: ∀(l:List aA) (k:Nat),cM l k=gR (fun k a=>sI a k) k l
 | [],k=>rfl
 | a::r,k=>by simp only[cM,gR,rI r]
mutual
theorem Di: ∀(a:aA) (k:Nat),(sI a k).1≤k+bS a
 | .mk _ _ s l,k=>by have:=BP l (k+3); simp only[sI,bS]; omega
theorem BP: ∀(l:List aA) (k:Nat),(cM l k).1≤k+rB l
 | [],k=>by simp [cM]
 | a::r,k=>by have:=Di a k; have:=BP r (sI a k).1; simp only[cM,rB]; omega
end
mutual
theorem Dj: ∀(a:aA) (k:Nat),k≤(sI a k).1
 | .mk _ _ s l,k=>by have:=wE l (k+3); simp only[sI]; omega
theorem wE: ∀(l:List aA) (k:Nat),k≤(cM l k).1
 | [],k=>by simp [cM]
 | a::r,k=>by have:=Dj a k; have:=wE r (sI a k).1; simp only[cM]; omega
end
theorem p_laws_markTermS_succ(n:Nat):cP (n+1)=gT n (cP n):=rfl
theorem p_laws_heldTermS_succ(n:Nat):dJ (n+1)=gU n (dJ n):=rfl
theorem vH: ∀(n:Nat),n≤1099511627776→ ∀(l:List aA) (k:Nat),20+dl bS l<n→0<k→k+dl bS l≤1099511627776→cP n l (k:Int)=some (((cM l k).1:Int),(cM l k).2)
 | 0,_=>fun l k h=>by omega
 | n+1,hn=>fun l k h j d=>by
  have o:=vH n (by omega)
  rw[p_laws_markTermS_succ]; unfold gT; have p:=dM bS l; have m:=AG (body:=gF n (cP n)) (fun k a=>sI a k) bS (B:=1099511627776) (C:=dl bS l) (fun a k=>Di a k) (len:=l.length) (fun L s i a b c r e f=>by
   have g:=dR c; obtain⟨a0,a1,a2,a3⟩:=a; simp only[bS,fQ]at e f; have t:=dM bS a3
   simp only[gF,z13 (show(i:Int)<(L.length:Int)by omega),z15,dT,c,z8,z53,Vl,z60 g,aA.f0,aA.f1,aA.f2,aA.f3,
    eT (show s<4611686018427387904 by omega),eT (show s+1<4611686018427387904 by omega),eT (show s+1+1<4611686018427387904 by omega),aV (show i<4611686018427387904 by omega),nA n (s+1+1) (by omega) (by omega) (by omega),o a3 (s+1+1+1) (by omega) (by omega) (by omega)]
   rfl) (fun L s b=>by rw[←b]; simp only[gF,aQ,z12]) (fun a k=>Dj a k) l [] k n rfl j d (z59 _) (by omega)
  refine(congrArg (fun q=>Option.bind q _) m).trans ?_
  simp only[z8,z70,rI]
theorem CF: ∀(n:Nat),n≤1099511627776→ ∀(l:List aA) (k:Nat),20+dl bS l<n→0<k→k+dl bS l≤1099511627776→dJ n (cM l k).2 (k:Int)=some ((cM l k).1:Int)
 | 0,_=>fun l k h=>by omega
 | n+1,hn=>fun l k h g d=>by
  have m:=CF n (by omega)
  rw[p_laws_heldTermS_succ]; unfold gU; have o:=dM bS l; have c:(cM l k).2.length=l.length:=by rw[rI,GP]
  have j:=Pe (body:=gI n (dJ n) (cM l k).2) (fun k a=>sI a k) bS (B:=1099511627776) (C:=dl bS l) (fun a k=>Di a k) (fun a k=>Dj a k) (L:=(cM l k).2) (out:=fun s=> .inr ((s:Int),((cM l k).2.length:Int),false)) (fun s i a b t e f=>by
   have r:=dR b; obtain⟨a0,a1,a2,a3⟩:=a; simp only[bS,fQ]at e f; have u:=dM bS a3; have p:=wE a3 (s+3); simp only[sI]at b ⊢
   simp only[gI,dY b,z15,dT,b,z8,aA.f0,aA.f1,aA.f2,aA.f3,decide_true,z31,z12,
    eT (show s<4611686018427387904 by omega),eT (show s+1<4611686018427387904 by omega),eT (show s+1+1<4611686018427387904 by omega),aV (show i<4611686018427387904 by omega),nA n (s+1+1) (by omega) (by omega) (by omega),m a3 (s+3) (by omega) (by omega) (by omega),
    z10 (show ¬ ((cM a3 (s+3)).1:Int)<0 by omega)]) (fun s=>by simp only[gI,aQ,z12]) l [] k n (by rw[z70,rI]) g d (z59 _) (by omega)
  refine(congrArg (fun q=>Option.bind q _) j).trans ?_
  simp only[z8,rI]
theorem Oj(l:List aA)(k:Nat):(cM l k).1≤k+dl bS l:=by have:=BP l k; rw[fQ]at this; exact this
theorem KU(l:List aA)(k:Nat):k≤(cM l k).1:=wE l k

mutual
def mD:aC→Nat→Nat×aC
 | .mk _ _ _ l c,k=>((bC c (bL l (k+1+1+1)).1).1, .mk (k:Int) ((k+1:Nat):Int) (Nl (k+1+1)) (bL l (k+1+1+1)).2 (bC c (bL l (k+1+1+1)).1).2)
def bL:List aC→Nat→Nat×List aC
 | [],k=>(k,[])
 | a::r,k=>((bL r (mD a k).1).1,(mD a k).2::(bL r (mD a k).1).2)
def bC:List aB→Nat→Nat×List aB
 | [],k=>(k,[])
 | a::r,k=>((bC r (kV a k).1).1,(kV a k).2::(bC r (kV a k).1).2)
def kV:aB→Nat→Nat×aB
 | .two p x,k=>((mD x (mD p k).1).1, .two (mD p k).2 (mD x (mD p k).1).2)
end
theorem EG: ∀(l:List aC) (k:Nat),bL l k=gR (fun k a=>mD a k) k l
 | [],k=>rfl
 | a::r,k=>by simp only[bL,gR,EG r]
theorem AS: ∀(l:List aB) (k:Nat),bC l k=gR (fun k a=>kV a k) k l
 | [],k=>rfl
 | a::r,k=>by simp only[bC,gR,AS r]
mutual
theorem AD: ∀(a:aC) (k:Nat),(mD a k).1≤k+bH a
 | .mk _ _ s l c,k=>by have:=BQ l (k+1+1+1); have:=vF c (bL l (k+1+1+1)).1; simp only[mD,bH]; omega
theorem BQ: ∀(l:List aC) (k:Nat),(bL l k).1≤k+rC l
 | [],k=>by simp [bL]
 | a::r,k=>by have:=AD a k; have:=BQ r (mD a k).1; simp only[bL,rC]; omega
theorem vF: ∀(l:List aB) (k:Nat),(bC l k).1≤k+kT l
 | [],k=>by simp [bC]
 | a::r,k=>by have:=EH a k; have:=vF r (kV a k).1; simp only[bC,kT]; omega
theorem EH: ∀(a:aB) (k:Nat),(kV a k).1≤k+dX a
 | .two p x,k=>by have:=AD p k; have:=AD x (mD p k).1; simp only[kV,dX]; omega
end
mutual
theorem AE: ∀(a:aC) (k:Nat),k≤(mD a k).1
 | .mk _ _ s l c,k=>by have:=BR l (k+1+1+1); have:=vG c (bL l (k+1+1+1)).1; simp only[mD]; omega
theorem BR: ∀(l:List aC) (k:Nat),k≤(bL l k).1
 | [],k=>by simp [bL]
 | a::r,k=>by have:=AE a k; have:=BR r (mD a k).1; simp only[bL]; omega
theorem vG: ∀(l:List aB) (k:Nat),k≤(bC l k).1
 | [],k=>by simp [bC]
 | a::r,k=>by have:=EI a k; have:=vG r (kV a k).1; simp only[bC]; omega
theorem EI: ∀(a:aB) (k:Nat),k≤(kV a k).1
 | .two p x,k=>by have:=AE p k; have:=AE x (mD p k).1; simp only[kV]; omega
end
theorem HF(l:List aC)(k:Nat):(bL l k).1≤k+dl bH l:=by have:=BQ l k; rw[eS]at this; exact this
theorem JG(l:List aB)(k:Nat):(bC l k).1≤k+dl dX l:=by have:=vF l k; rw[dI]at this; exact this
theorem HJ(l:List aC)(k:Nat):k≤(bL l k).1:=BR l k
theorem JL(l:List aB)(k:Nat):k≤(bC l k).1:=vG l k
theorem Ky(a0 a1:Int)(a2:List UInt8)(a3:List aC)(a4:List aB)(a5 a6:Int)(a7:List UInt8)(a8:List aC)(a:List aB)(k:Nat):kV (.mk a0 a1 a2 a3 a4 a5 a6 a7 a8 a) k=
  ((bC a (bL a8 ((bC a4 (bL a3 (k+1+1+1)).1).1+1+1+1)).1).1,
   .mk (k:Int) ((k+1:Nat):Int) (Nl (k+1+1)) (bL a3 (k+1+1+1)).2 (bC a4 (bL a3 (k+1+1+1)).1).2
    (((bC a4 (bL a3 (k+1+1+1)).1).1:Nat):Int) (((bC a4 (bL a3 (k+1+1+1)).1).1+1:Nat):Int) (Nl ((bC a4 (bL a3 (k+1+1+1)).1).1+1+1))
    (bL a8 ((bC a4 (bL a3 (k+1+1+1)).1).1+1+1+1)).2 (bC a (bL a8 ((bC a4 (bL a3 (k+1+1+1)).1).1+1+1+1)).1).2):=by
 unfold aB.mk; simp only[kV,mD]
theorem QO{a0 a1:Int}{a2:List UInt8}{a3:List aC}{a4:List aB}{a5 a6:Int}{a7:List UInt8}{a8:List aC}{a:List aB}:(aB.mk a0 a1 a2 a3 a4 a5 a6 a7 a8 a).f0=a0:=rfl
theorem QN{a0 a1:Int}{a2:List UInt8}{a3:List aC}{a4:List aB}{a5 a6:Int}{a7:List UInt8}{a8:List aC}{a:List aB}:(aB.mk a0 a1 a2 a3 a4 a5 a6 a7 a8 a).f1=a1:=rfl
theorem QM{a0 a1:Int}{a2:List UInt8}{a3:List aC}{a4:List aB}{a5 a6:Int}{a7:List UInt8}{a8:List aC}{a:List aB}:(aB.mk a0 a1 a2 a3 a4 a5 a6 a7 a8 a).f2=a2:=rfl
theorem QL{a0 a1:Int}{a2:List UInt8}{a3:List aC}{a4:List aB}{a5 a6:Int}{a7:List UInt8}{a8:List aC}{a:List aB}:(aB.mk a0 a1 a2 a3 a4 a5 a6 a7 a8 a).f3=a3:=rfl
theorem QK{a0 a1:Int}{a2:List UInt8}{a3:List aC}{a4:List aB}{a5 a6:Int}{a7:List UInt8}{a8:List aC}{a:List aB}:(aB.mk a0 a1 a2 a3 a4 a5 a6 a7 a8 a).f4=a4:=rfl
theorem QJ{a0 a1:Int}{a2:List UInt8}{a3:List aC}{a4:List aB}{a5 a6:Int}{a7:List UInt8}{a8:List aC}{a:List aB}:(aB.mk a0 a1 a2 a3 a4 a5 a6 a7 a8 a).f5=a5:=rfl
theorem QI{a0 a1:Int}{a2:List UInt8}{a3:List aC}{a4:List aB}{a5 a6:Int}{a7:List UInt8}{a8:List aC}{a:List aB}:(aB.mk a0 a1 a2 a3 a4 a5 a6 a7 a8 a).f6=a6:=rfl
theorem QH{a0 a1:Int}{a2:List UInt8}{a3:List aC}{a4:List aB}{a5 a6:Int}{a7:List UInt8}{a8:List aC}{a:List aB}:(aB.mk a0 a1 a2 a3 a4 a5 a6 a7 a8 a).f7=a7:=rfl
theorem QG{a0 a1:Int}{a2:List UInt8}{a3:List aC}{a4:List aB}{a5 a6:Int}{a7:List UInt8}{a8:List aC}{a:List aB}:(aB.mk a0 a1 a2 a3 a4 a5 a6 a7 a8 a).f8=a8:=rfl
theorem QF{a0 a1:Int}{a2:List UInt8}{a3:List aC}{a4:List aB}{a5 a6:Int}{a7:List UInt8}{a8:List aC}{a:List aB}:(aB.mk a0 a1 a2 a3 a4 a5 a6 a7 a8 a).f9=a:=rfl
theorem vJ: ∀(n:Nat),n≤1099511627776→(∀(l:List aC) (k:Nat),20+dl bH l<n→0<k→k+dl bH l≤1099511627776→cQ n l (k:Int)=some (((bL l k).1:Int),(bL l k).2))∧(∀(l:List aB) (k:Nat),20+dl dX l<n→0<k→k+dl dX l≤1099511627776→bW n l (k:Int)=some (((bC l k).1:Int),(bC l k).2))
 | 0,_=>⟨fun l k h=>by omega,fun l k h=>by omega⟩
 | n+1,hn=>by
  obtain⟨c,d⟩:=vJ n (by omega)
  refine⟨fun l k h v p=> ?_,fun l k h v p=> ?_⟩
  ·rw[wN]
   unfold jX; have A:=dM bH l; have w:=AG (body:=gG n (bW n) (cQ n)) (fun k a=>mD a k) bH (B:=1099511627776) (C:=dl bH l) (fun a k=>AD a k) (len:=l.length) (fun L s i a g j D r t=>by
    have u:=dR j; obtain⟨a0,a1,a2,a3,a4⟩:=a; simp only[bH,eS,dI]at r t; have x:=HF a3 (s+1+1+1); have r1:=HJ a3 (s+1+1+1); have m:=c a3 (s+1+1+1) (by omega) (by omega) (by omega)
    simp only[mD]; generalize bL a3 (s+1+1+1)=t1 at*; obtain⟨u1,b1⟩:=t1; simp only at x r1 m ⊢; have o:=d a4 u1 (by omega) (by omega) (by omega)
    generalize bC a4 u1=t2 at*
    simp only[gG,z13 (show(i:Int)<(L.length:Int)by omega),z15,dT,j,z8,z53,Vl,z60 u,aC.f0,aC.f1,aC.f2,aC.f3,aC.f4,
     eT (show s<4611686018427387904 by omega),eT (show s+1<4611686018427387904 by omega),eT (show s+1+1<4611686018427387904 by omega),aV (show i<4611686018427387904 by omega),nA n (s+1+1) (by omega) (by omega) (by omega),m,o]) (fun L s g=>by rw[←g]; simp only[gG,aQ,z12]) (fun a k=>AE a k) l [] k n rfl v p (z59 _) (by omega)
   refine(congrArg (fun q=>Option.bind q _) w).trans ?_
   simp only[z8,z70,EG]
  ·rw[tZ]
   unfold iH; have A:=dM dX l; have w:=AG (body:=eP n (bW n) (cQ n)) (fun k a=>kV a k) dX (B:=1099511627776) (C:=dl dX l) (fun a k=>EH a k) (len:=l.length) (fun L s i a g j D r t=>by
    have u:=dR j; obtain⟨a0,a1,a2,a3,a4,a5,a6,a7,a8,f,rfl⟩: ∃a0 a1 a2 a3 a4 a5 a6 a7 a8 f,a=aB.mk a0 a1 a2 a3 a4 a5 a6 a7 a8 f:=⟨_,_,_,_,_,_,_,_,_,_,(Bq a).symm⟩; have e:dX (.mk a0 a1 a2 a3 a4 a5 a6 a7 a8 f)=3+(3+a2.length+rC a3+kT a4)+(3+a7.length+rC a8+kT f):=by
     unfold aB.mk; simp only[dX,bH]
    rw[eS,dI,eS,dI]at e; rw[e]at r t; simp only[Ky]; have x:=HF a3 (s+1+1+1); have r1:=HJ a3 (s+1+1+1); have m:=c a3 (s+1+1+1) (by omega) (by omega) (by omega)
    generalize bL a3 (s+1+1+1)=t1 at*; obtain⟨u1,b1⟩:=t1; simp only at x r1 m ⊢; have F:=JG a4 u1; have r2:=JL a4 u1; have o:=d a4 u1 (by omega) (by omega) (by omega)
    generalize bC a4 u1=t2 at*; obtain⟨b,b2⟩:=t2; simp only at F r2 o ⊢; have G:=HF a8 (b+1+1+1); have H:=HJ a8 (b+1+1+1); have y:=c a8 (b+1+1+1) (by omega) (by omega) (by omega)
    generalize bL a8 (b+1+1+1)=t3 at*; obtain⟨z,I⟩:=t3; simp only at G H y ⊢; have E:=d f z (by omega) (by omega) (by omega)
    generalize bC f z=t4 at*
    simp only[eP,z13 (show(i:Int)<(L.length:Int)by omega),z15,dT,j,z8,z53,Vl,z60 u,QO,QN,QM,QL,QK,QJ,QI,QH,QG,QF,
     eT (show s<4611686018427387904 by omega),eT (show s+1<4611686018427387904 by omega),eT (show s+1+1<4611686018427387904 by omega),aV (show i<4611686018427387904 by omega),nA n (s+1+1) (by omega) (by omega) (by omega),m,o,y,E,
     eT (show b<4611686018427387904 by omega),eT (show b+1<4611686018427387904 by omega),eT (show b+1+1<4611686018427387904 by omega),nA n (b+1+1) (by omega) (by omega) (by omega)]) (fun L s g=>by rw[←g]; simp only[eP,aQ,z12]) (fun a k=>EI a k) l [] k n rfl v p (z59 _) (by omega)
   refine(congrArg (fun q=>Option.bind q _) w).trans ?_
   simp only[z8,z70,AS]
theorem Jl(n:Nat)(hn:n≤1099511627776)(l:List aC)(k:Nat)(h:20+dl bH l<n)(b:0<k)(a:k+dl bH l≤1099511627776):cQ n l (k:Int)=some (((bL l k).1:Int),(bL l k).2):=(vJ n hn).1 l k h b a
theorem Fa(n:Nat)(hn:n≤1099511627776)(l:List aB)(k:Nat)(h:20+dl dX l<n)(b:0<k)(a:k+dl dX l≤1099511627776):bW n l (k:Int)=some (((bC l k).1:Int),(bC l k).2):=(vJ n hn).2 l k h b a
def IU(k:Nat):aG→Nat×aG
 | .mk a0 a1 a2 a3 a4=>((cM a4 (k+1+1+1+1)).1, .mk (Nl (k)) (((k+1:Nat):Int)) (((k+1+1:Nat):Int)) (Nl (k+1+1+1)) ((cM a4 (k+1+1+1+1)).2))
theorem Pc(a:aG)(k:Nat):(IU k a).1≤k+fV a:=by
 obtain⟨a0,a1,a2,a3,a4⟩:=a; have:=Oj a4 (k+1+1+1+1); have e:fV (.mk a0 a1 a2 a3 a4)=(3+a0.length+(3+a3.length+rB a4)):=rfl; rw[fQ]at e; show(cM a4 (k+1+1+1+1)).1≤k+fV (.mk a0 a1 a2 a3 a4); omega
theorem Iy(a:aG)(k:Nat):k≤(IU k a).1:=by
 obtain⟨a0,a1,a2,a3,a4⟩:=a; have:=KU a4 (k+1+1+1+1); show k≤(cM a4 (k+1+1+1+1)).1; omega
def Gz(l:List aG)(k:Nat):Nat×List aG:=gR IU k l
theorem UH(l:List aG)(k:Nat):k≤(Gz l k).1:=JC (fun a _ k=>Iy a k) k
theorem Jm(n:Nat)(hn:n≤1099511627776)(l:List aG)(k:Nat)(h:20+dl fV l<n)(p:0<k)(f:k+dl fV l≤1099511627776):kE n l (k:Int)=some (((Gz l k).1:Int),(Gz l k).2):=by
 unfold kE; have u:=dM fV l; have r:=AG (body:=gH n) IU fV (B:=1099511627776) (C:=dl fV l) (fun a k=>Pc a k) (len:=l.length) (fun L s i a b c v j m=>by
  have o:=dR c; obtain⟨a0,a1,a2,a3,a4⟩:=a; have e:fV (.mk a0 a1 a2 a3 a4)=(3+a0.length+(3+a3.length+rB a4)):=rfl; rw[fQ]at e; rw[e]at j m; have g:IU s (.mk a0 a1 a2 a3 a4)=((cM a4 (s+1+1+1+1)).1, .mk (Nl (s)) (((s+1:Nat):Int)) (((s+1+1:Nat):Int)) (Nl (s+1+1+1)) ((cM a4 (s+1+1+1+1)).2)):=rfl; rw[g]; have t:=Oj a4 (s+1+1+1+1); have r1:=KU a4 (s+1+1+1+1); have d:=vH n hn a4 (s+1+1+1+1) (by omega) (by omega) (by omega)
  generalize cM a4 (s+1+1+1+1)=t1 at*; obtain⟨u1,b1⟩:=t1; simp only at t r1 d ⊢; simp only[gH,z13 (show(i:Int)<(L.length:Int)by omega),z15,dT,c,z8,z53,Vl,z60 o,aV (show i<4611686018427387904 by omega),eT (show s<4611686018427387904 by omega),eT (show s+1<4611686018427387904 by omega),eT (show s+1+1<4611686018427387904 by omega),eT (show s+1+1+1<4611686018427387904 by omega),nA n (s) (by omega) (by omega) (by omega),nA n (s+1+1+1) (by omega) (by omega) (by omega),d]) (fun L s b=>by rw[←b]; simp only[gH,aQ,z12]) (fun a k=>Iy a k) l [] k n rfl p f (z59 _) (by omega)
 refine(congrArg (fun q=>Option.bind q _) r).trans ?_
 simp only[z8,z70]; rfl
theorem BO{a:aC}(h:Bu a=true):xok 10 true a=true∧nO a≤300:=by
 simp only[Bu,z7]at h; have:=of_decide_eq_true h.1.2; exact⟨h.1.1,by omega⟩
theorem PH{s:List UInt8}(h:pV s=true):s.length≤20:=by
 simp only[pV,z7]at h; have h:=h.1; simp only[uD,z7]at h; have:=of_decide_eq_true h.2.2; omega
theorem PV{k m j i:Int}{s:List UInt8}(h:shp true k m s j i=true):s.length≤20∧i≤0:=by
 unfold shp at h; by_cases f:k=9
 ·rw[z13 f]at h; cases h
 rw[z10 f,z12]at h; simp only[z7,z35,z15]at h; obtain⟨hn,h,g⟩:=h; have hn:=of_decide_eq_false hn; have g:=of_decide_eq_false g; refine⟨?_,by omega⟩
 unfold LX at h; by_cases h1:k=1
 ·rw[z13 h1,z15]at h
  simp only[z7]at h; have:=of_decide_eq_true h.2.1; rw[this]; simp
 rw[z10 h1,z12]at h; by_cases a:k=2
 ·rw[z13 a,z15]at h
  simp only[z7]at h; exact PH h.2.1
 rw[z10 a,z12]at h; by_cases b:k=3
 ·rw[z13 b,z15]at h
  simp only[z7,FC]at h; have:=of_decide_eq_true h.2.1.2.2; omega
 rw[z10 b,z12]at h; by_cases c:k=4
 ·rw[z13 c,z15]at h
  simp only[z7]at h; have:=of_decide_eq_true h.2.1; rw[this]; simp
 rw[z10 c,z12]at h; by_cases d:k=5
 ·rw[z13 d,z15]at h
  simp only[z7]at h; have:=of_decide_eq_true h.2.1; rw[this]; simp
 rw[z10 d,z12]at h; by_cases e:k=6
 ·rw[z13 e,z15]at h
  simp only[z7]at h; have:=of_decide_eq_true h.2.1; rw[this]; simp
 rw[z10 e,z12,z10 (by omega),z12,z10 (by omega),z12,z10 (by omega),z12]at h
 cases h
theorem ST: ∀ {l:List aC},(∀x∈l,bH x+1≤30*nO x)→dl bH l≤1+30*lH l
 | [],_=>by simp [dl,lH]
 | a::r,h=>by
  have h1:=h a z27; have d:=ST (l:=r) (fun b c=>h b (z23 _ c))
  simp only[dl,lH,Nat.mul_add]; omega
theorem VY: ∀(d:Nat) (p:aC),xok d true p=true→bH p+1≤30*nO p
 | 0,p,h=>by cases h
 | d+1,p,h=>by
  obtain⟨e,f⟩:=HO h; obtain⟨g,i⟩:=PV f; have c:p.f4=[]:=z86 (by omega)
  have a:=sA p; rw[eS,dI,c]at a; have k:=ST (l:=p.f3) (fun x j=>VY d x (z18.1 e x j))
  have m:=Ka p; have b:dl dX ([]:List aB)=1:=rfl; rw[b]at a; omega
def FS(p:aC)(l:List aG):Option aA:=bif Bu p then(match fl (fnd l) 10 p with
 | some t=>bif BE t then some t else none
 | none=>none)else none
theorem Iu(t:aA):FV (some t)=(t.f0,t.f1,t.f2,t.f3,true):=rfl
theorem BV{p:aC}{l:List aG}(f:dl fV l≤16000000)(a:Bu p=true){t:aA}(h:fl (fnd l) 10 p=some t):bS t≤200000000000:=by
 obtain⟨h1,b⟩:=BO a; have c:=VY 10 p h1; have d:=fl_w (W:=dl fV l) (fun s t=>fnd_w s t) 10 p t h
 have e:bH p*(dl fV l+1)≤9000*16000001:=Nat.mul_le_mul (by omega) (by omega)
 omega
theorem Jt(n:Nat)(hn:n≤1099511627776)(e:300000000000≤n)(p:aC)(l:List aG)(a:dl fV l≤16000000)(c:bH p≤16000000):pK n p.f0 p.f1 p.f2 p.f3 p.f4 l=some (FV (FS p l)):=by
 unfold pK FS; rw[Hs n hn p (by omega)]
 cases hp:Bu p with
 | false=>rfl
 | true=>
  have d:=(BO hp).1; simp only[z8,z31,z12,z15]; rw[MM l a n hn 10 p d (by omega) c]
  cases hf:fl (fnd l) 10 p with
  | none=>rfl
  | some t=>
   have f:=BV a hp hf; have b:=Fb n t.f0 t.f1 t.f2 t.f3 (by rw[aW]; omega) (by omega)
   rw[aW]at b; simp only[Iu,z8,z31,z12,b]; cases BE t<;>rfl
theorem Jk(n:Nat)(hn:n≤1099511627776)(g:300000000000≤n)(p:aC)(l:List aG)(b:dl fV l≤16000000)(e:bH p≤16000000):rG n p.f0 p.f1 p.f2 p.f3 p.f4 l=some (FV (FS p l)):=by
 unfold rG FS; rw[Hn n hn p (by omega)]
 cases hp:Bu p with
 | false=>rfl
 | true=>
  have f:=(BO hp).1; simp only[z8,z31,z12,z15]; obtain⟨r,d,a⟩:=AM l b n hn 10 p f (by omega) e
  rw[d]; cases hf:fl (fnd l) 10 p with
  | none=>
   rw[hf]at a; have a:r.2.2.2.2=false:=a; simp only[z8,a,z97,z15]; rfl
  | some t=>
   rw[hf]at a; have a:r=FV (some t):=a; subst a; have h:=BV b hp hf; have c:=FX n t.f0 t.f1 t.f2 t.f3 (by rw[aW]; omega) (by omega)
   rw[aW]at c; simp only[Iu,z8,z31,z12,c]; cases BE t<;>rfl
theorem ND{p:aC}{l:List aG}(a:dl fV l≤16000000): ∃(R:aA) (c:Bool),FV (FS p l)=(R.f0,R.f1,R.f2,R.f3,c)∧bS R≤200000000000:=by
 unfold FS; cases hp:Bu p with
 | false=>exact⟨.mk 0 0 [] [],false,rfl,by simp [bS,rB]⟩
 | true=>
  rw[z15]; cases hf:fl (fnd l) 10 p with
  | none=>exact⟨.mk 0 0 [] [],false,rfl,by simp [bS,rB]⟩
  | some t=>
   have b:=BV a hp hf; cases ht:BE t with
   | false=>simp only[ht,z12]; exact⟨.mk 0 0 [] [],false,rfl,by simp [bS,rB]⟩
   | true=>simp only[ht,z15]; exact⟨t,true,rfl,b⟩
theorem law(a:aH)(b:List S_laws_Bind)(ho:okExpr a)(c:b.length≤maxLen∧ ∀x∈b,okBind x): ∃n,eV n a.f0 a.f1 a.f2 a.f3 a.f4 b=some true:=by
 by_cases hz:(jC a:Int)≤1048576
 ·by_cases i:(zl rK b:Int)≤1048576 - jC a
  ·refine⟨1099511627776, ?_⟩
   have z:=HL a; have r:dl sQ b≤15*zl rK b+1:=Vf (fun x=>UO x) (by omega) (by omega) b
   generalize g:1099511627776=n; have hn:n≤1099511627776:=by omega
   unfold eV; rw[Db n (h:=by rw[bT]; omega) (ho:=by rw[bT]; exact ho) (h0:=by omega) (h1:=by omega),bT,z17 hz]
   simp only[z8]; rw[z10 (by omega),z12]
   rw[GJ n b _ (by omega) c.1 c.2 (by omega) (by omega),z17 i]
   simp only[z8]; rw[z10 (by omega),z12]
   rw[PN n (h:=by rw[bT]; omega) (hz:=by rw[bT]; omega),Mi n b (by omega) (by omega)]
   simp only[bT,z8]; have C:bH (tR a)=nB a:=Gn a; have A:dl fV (IZ b)=dl sQ b:=Rv b; generalize tR a=x at*; generalize IZ b=l at*; obtain⟨R,D,q,B⟩:=ND (p:=x) (l:=l) (by omega)
   have f1:=Jk n hn (by omega) x l (by omega) (by omega)
   have f2:=Jt n hn (by omega) x l (by omega) (by omega)
   rw[q]at f1 f2; have e:=sA x; rw[eS,dI]at e; have d:=Gm R; rw[fQ]at d; have m:((1:Nat):Int)=1:=rfl; have k0:=NH n l (by omega) (by omega)
   have s:=Pu n (a0:=x.f0) (a1:=x.f1) (a2:=x.f2) (a3:=x.f3) (a4:=x.f4) (by rw[Ew]; omega) (by omega)
   have t:=JP n (a0:=R.f0) (a1:=R.f1) (a2:=R.f2) (a3:=R.f3) (by rw[aW]; omega) (by omega)
   have j:=Jl n hn x.f3 1 (by omega) (by omega) (by omega)
   have l1:=HF x.f3 1; have b1:=HJ x.f3 1; have u:=Fa n hn x.f4 (bL x.f3 1).1 (by omega) (by omega) (by omega)
   have l2:=JG x.f4 (bL x.f3 1).1; have b2:=JL x.f4 (bL x.f3 1).1; have v:=Jm n hn l (bC x.f4 (bL x.f3 1).1).1 (by omega) (by omega) (by omega)
   have w:=UH l (bC x.f4 (bL x.f3 1).1).1; have k:=vH n hn R.f3 1 (by omega) (by omega) (by omega)
   have f:=CF n hn R.f3 1 (by omega) (by omega) (by omega)
   have y:=KU R.f3 1; rw[m]at j k f; have o:iY n R.f0 R.f1 R.f2 (cM R.f3 1).2 1=some ((cM R.f3 1).1:Int):=by
    unfold iY; rw[f,z8,z10 (by omega),z12]
   simp only[f1,f2,k0,s,t,j,u,v,k,o,z8,z31,z12,z155,decide_true,
    z10 (show ¬ ((Gz l (bC x.f4 (bL x.f3 1).1).1).1:Int)<0 by omega),z10 (show ¬ ((cM R.f3 1).1:Int)<0 by omega)]
  ·refine⟨nB a+dl sQ b+500, ?_⟩
   generalize g:nB a+dl sQ b+500=n; unfold eV; rw[Db n (h:=by rw[bT]; omega) (ho:=by rw[bT]; exact ho) (h0:=by omega) (h1:=by omega),bT,z17 hz]
   simp only[z8]; rw[z10 (by omega),z12]
   rw[GJ n b _ (by omega) c.1 c.2 (by omega) (by omega),z11 i]
   rfl
 ·refine⟨nB a+500, ?_⟩
  generalize g:nB a+500=n; unfold eV; rw[Db n (h:=by rw[bT]; omega) (ho:=by rw[bT]; exact ho) (h0:=by omega) (h1:=by omega),bT,z11 hz]
  rfl
end Go.Own.Q
