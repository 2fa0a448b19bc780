/- Loops over lists and small things, in plain Lean. No conditions. -/
import Derived.Test.YtloebajamceclaaW41W
set_option linter.unusedVariables false
set_option linter.unusedSimpArgs false
set_option linter.unnecessarySimpa false
namespace Go.Own.Q
open Go Go.Proofs
theorem fP{σ ρ:Type}{body:σ→Option (σ⊕ρ)}(st:Nat→σ){len:Nat}{r:ρ}(d: ∀i,i<len→body (st i)=some (.inl (st (i+1))))(b:body (st len)=some (.inr r)){n:Nat}(hn:len<n):loopN body n (st 0)=some r:=by
 have a: ∀k i,i+k=len→ ∀n,k<n→loopN body n (st i)=some r:=by
  intro k; induction k with
  | zero=>
   intro i c n hn; obtain⟨m,rfl⟩: ∃m,n=m+1:=⟨n - 1,by omega⟩
   have:i=len:=by omega
   subst this; simp only[loopN,b]
  | succ k e=>
   intro i c n hn; obtain⟨m,rfl⟩: ∃m,n=m+1:=⟨n - 1,by omega⟩
   simp only[loopN,d i (by omega)]
   exact e (i+1) (by omega) m (by omega)
 exact a len 0 (by omega) n hn

def yR{α σ ρ:Type}(f:σ→α→σ⊕ρ):List α→σ→σ⊕ρ
 | [],s=> .inl s
 | a::r,s=>match f s a with
  | .inl s'=>yR f r s'
  | .inr q=> .inr q
theorem Kr{α σ τ ρ κ:Type}{body:σ→Option (σ⊕ρ)}(l:List α)(f:τ→α→τ⊕κ)(enc:τ→Nat→σ)(b:τ→ρ)(out:κ→ρ)(I:τ→Prop)(v: ∀(i:Nat) a t,l[i]? =some a→I t→(∃d,f t a= .inl d∧I d∧body (enc t i)=some (.inl (enc d (i+1))))∨(∃q,f t a= .inr q∧body (enc t i)=some (.inr (out q))))
  (p: ∀t,I t→body (enc t l.length)=some (.inr (b t))){n:Nat}(hn:l.length<n){t0:τ}(h0:I t0):loopN body n (enc t0 0)=some (match yR f l t0 with | .inl t=>b t | .inr q=>out q):=by
 have j: ∀(r:List α) (i:Nat) (t:τ) (n:Nat),l.drop i=r→I t→r.length<n→i≤l.length→loopN body n (enc t i)=some (match yR f r t with | .inl t=>b t | .inr q=>out q):=by
  intro r; induction r with
  | nil=>
   intro i t n c h hn s; obtain⟨m,rfl⟩: ∃m,n=m+1:=⟨n - 1,by simp at hn; omega⟩
   have:i=l.length:=by
    have:=congrArg List.length c; simp at this; omega
   subst this; simp only[loopN,p t h,yR]
  | cons a r ih=>
   intro i t n c h hn s; obtain⟨m,rfl⟩: ∃m,n=m+1:=⟨n - 1,by simp at hn; omega⟩
   have u:i<l.length:=by
    have:=congrArg List.length c; simp at this; omega
   have o:l[i]? =some a:=by
    have:=congrArg (·[0]?) c
    simpa using this
   have g:l.drop (i+1)=r:=by
    have:=congrArg List.tail c; simpa using this
   rcases v i a t o h with⟨d,h1,k,e⟩ | ⟨q,h1,e⟩
   ·simp only[loopN,e,yR,h1]
    exact ih (i+1) d m g k (by simp at hn; omega) (by omega)
   ·simp only[loopN,e,yR,h1]
 exact j l 0 t0 n rfl h0 hn (by omega)

theorem bB{α:Type}(l:List α)(i:Nat):ix l (i:Int)=l[i]? :=by
 unfold ix; rw[z16 (by omega)]
 simp
theorem Iy(s:List UInt8)(i:Nat):ixs s (i:Int)=(s[i]?).map fun b=>(b.toNat:Int):=by
 unfold ixs; rw[z16 (by omega)]
 simp
theorem aN{i:Nat}(h:i<4611686018427387904):IntKind.wrap .i64 ((i:Int)+1)=((i+1:Nat):Int):=by
 rw[wrap_i64 (by omega) (by omega)]; omega
theorem gG{α:Type}{l:List α}{i:Nat}{a:α}(h:l[i]? =some a):l.take i++[a]=l.take (i+1):=by
 rw[List.take_add_one,h]; rfl
theorem sJ{α:Type}{b:Nat}{l1 l2:List α}(h:(l1.length+l2.length)*b≤140737488355328)(a:l1.length+l2.length≤maxLen):sX b l1 l2=some (l1++l2):=by
 unfold sX; rw[z16 ⟨a,h⟩]
theorem bO{α:Type}{l:List α}{i:Nat}{a:α}(h:l[i]? =some a):i<l.length:=(z63.1 h).1
theorem bG{α:Type}{l:List α}{i:Nat}{a:α}(h:l[i]? =some a):decide ((i:Int)<(l.length:Int))=true:=by
 have:=bO h; exact z20 (by omega)
theorem aM{k:Nat}:decide ((k:Int)<(k:Int))=false:=z13 (by omega)
def iC{α:Type}(z:α→Nat):List α→Nat
 | []=>0
 | a::r=>z a+iC z r
theorem ED{α:Type}(z:α→Nat){a:α}: ∀ {l:List α},a∈l→z a≤iC z l
 | b::r,h=>by
  cases h with
  | head=>simp only[iC]; omega
  | tail _ h=>have:=ED z h; simp only[iC]; omega
def zl{α:Type}(z:α→Nat)(l:List α):Nat:=l.length+iC z l
def dl{α:Type}(d:α→Nat):List α→Nat
 | []=>1
 | a::r=>1+d a+dl d r
theorem dK{α:Type}(d:α→Nat){a:α}: ∀ {l:List α},a∈l→d a<dl d l
 | b::r,h=>by
  cases h with
  | head=>simp only[dl]; omega
  | tail _ h=>have:=dK d h; simp only[dl]; omega
theorem bI{α:Type}(d:α→Nat): ∀l:List α,l.length<dl d l
 | []=>by simp [dl]
 | b::r=>by have:=bI d r; simp only[dl,z36]; omega
theorem Tv{α β:Type}(d:β→Nat)(f:α→β): ∀l:List α,dl d (l.map f)=dl (fun a=>d (f a)) l
 | []=>rfl
 | a::r=>by simp only[z45,dl,Tv d f r]
theorem OL{α:Type}{d e:α→Nat}: ∀ {l:List α},(∀a∈l,d a=e a)→dl d l=dl e l
 | [],_=>rfl
 | a::r,h=>by
  simp only[dl]; rw[h a z26,OL (l:=r) fun b c=>h b (z23 _ c)]
theorem Ue{α:Type}{d z:α→Nat}{A B C:Nat}(h: ∀a,d a≤A*z a+B)(b:A≤C)(c:1+B≤C): ∀l:List α,dl d l≤C*zl z l+1
 | []=>by simp [dl]
 | a::r=>by
  have h1:=Ue h b c r; have f:=h a; have g:A*z a≤C*z a:=z68 _ b; have e:zl z (a::r)=1+z a+zl z r:=by simp only[zl,iC,z36]; omega
  rw[e,SI,SI]; simp only[dl]; omega
theorem Ds{k:Nat}{left:Int}(a:k≤maxLen)(h0:0≤left)(h1:left≤1048576):IntKind.wrap .i64 (left - (k:Int))=left - k:=by
 simp only[maxLen]at a; exact wrap_i64 (by omega) (by omega)

theorem It{α:Type}{body:Int×Int→Option ((Int×Int)⊕(Int⊕(Int×Int×Bool)))}(l:List α)(z:α→Nat)(j: ∀(i:Nat) a (left:Int),l[i]? =some a→0≤left→left≤1048576→body (left,(i:Int))=some (if(z a:Int)≤left then .inl (left - z a,((i+1:Nat):Int))else .inr (.inl (-1))))
  (k: ∀left:Int,body (left,(l.length:Int))=some (.inr (.inr (left,(l.length:Int),false)))){n:Nat}(hn:l.length<n){left:Int}(h0:0≤left)(h1:left≤1048576):loopN body n (left,(0:Int))=some (if(iC z l:Int)≤left then .inr (left - iC z l,(l.length:Int),false)else .inl (-1)):=by
 have h:=Kr (body:=body) l (fun(t:Int) a=>if(z a:Int)≤t then .inl (t - z a)else .inr ()) (fun t i=>(t,(i:Int))) (fun t=> .inr (t,(l.length:Int),false)) (fun _=> .inl (-1)) (fun t=>0≤t∧t≤1048576) (fun i a t g b=>by
  by_cases c:(z a:Int)≤t
  ·left
   refine⟨t - z a,z16 c,⟨by omega,by omega⟩, ?_⟩
   rw[j i a t g b.1 b.2,z16 c]
  ·right
   refine⟨(),z10 c, ?_⟩
   rw[j i a t g b.1 b.2,z10 c]) (fun t _=>k t) hn (t0:=left) ⟨h0,h1⟩
 have d: ∀(l:List α) (t:Int),0≤t→yR (fun(t:Int) a=>if(z a:Int)≤t then Sum.inl (t - z a)else Sum.inr ()) l t=if(iC z l:Int)≤t then .inl (t - iC z l)else .inr ():=by
  intro l; induction l with
  | nil=>intro t b; simp [yR,iC,b]
  | cons a r ih=>
   intro t b; have e:iC z (a::r)=z a+iC z r:=rfl; generalize iC z (a::r)=q at e; simp only[yR]; by_cases c:(z a:Int)≤t
   ·rw[z16 c]
    simp only; rw[ih _ (by omega)]
    by_cases f:(q:Int)≤t
    ·rw[z16 f,z16 (by omega)]; congr 1; omega
    ·rw[z10 f,z10 (by omega)]
   ·rw[z10 c,z10 (by omega)]
 refine h.trans ?_
 rw[d l left h0]; by_cases c:(iC z l:Int)≤left
 ·rw[z16 c,z16 c]
 ·rw[z10 c,z10 c]

theorem Is{α β:Type}{body:List β×Int→Option ((List β×Int)⊕(List β×Int×Bool))}(l:List α)(c:α→β)(z:β)(m: ∀(i:Nat) a (o:List β) (b:β),l[i]? =some a→o[i]? =some b→body (o,(i:Int))=some (.inl (o.set i (c a),((i+1:Nat):Int))))
  (f: ∀o:List β,body (o,(l.length:Int))=some (.inr (o,(l.length:Int),false))){n:Nat}(hn:l.length<n):loopN body n (List.replicate l.length z,(0:Int))=some (l.map c,(l.length:Int),false):=by
 have h:=fP (body:=body) (fun i=>((l.take i).map c++List.replicate (l.length - i) z,(i:Int))) (len:=l.length) (r:=(l.map c,(l.length:Int),false)) (fun i g=>by
  have e:l[i]? =some l[i]:=z11 g
  have d:((l.take i).map c).length=i:=by simp; omega
  have ho:((l.take i).map c++List.replicate (l.length - i) z)[i]? =some z:=by
   rw[z56 (by omega),d,z98,z125,z16 (by omega)]
  rw[m i _ _ z e ho]; congr 2
  rw[z135 _ _ (by omega),d,z98]
  obtain⟨k,j⟩: ∃k,l.length - i=k+1:=⟨l.length - i - 1,by omega⟩
  rw[j,List.replicate_succ,z90,show l.length - (i+1)=k by omega,z162,z162, ←gG (l:=l.map c) (i:=i) (a:=c l[i]) (by rw[z29,e]; rfl),z74]
  rfl) (by simp [f]) hn
 simpa using h

theorem Iu{α:Type}{body:Int→Option (Int⊕(Bool⊕(Int×Bool)))}(l:List α)(d: ∀(i:Nat) a,l[i]? =some a→body (i:Int)=some (.inl ((i+1:Nat):Int)))(b:body (l.length:Int)=some (.inr (.inr ((l.length:Int),false)))){n:Nat}(hn:l.length<n):loopN body n (0:Int)=some (.inr ((l.length:Int),false)):=
 fP (body:=body) (fun i=>(i:Int)) (len:=l.length) (fun i c=>d i _ (z11 c)) b hn
theorem uZ{α:Type}{body:Int→Option (Int⊕(Bool⊕(Int×Bool)))}(l:List α)(b:α→Bool)(f: ∀(i:Nat) a,l[i]? =some a→body (i:Int)=some (if b a then .inl ((i+1:Nat):Int)else .inr (.inl false)))(g:body (l.length:Int)=some (.inr (.inr ((l.length:Int),false)))){n:Nat}(hn:l.length<n):loopN body n (0:Int)=some (if l.all b then .inr ((l.length:Int),false)else .inl false):=by
 have h:=Kr (body:=body) l (fun(_:Unit) a=>if b a then .inl ()else .inr ()) (fun _ i=>(i:Int)) (fun _=> .inr ((l.length:Int),false)) (fun _=> .inl false) (fun _=>True) (fun i a t e _=>by
  by_cases c:b a=true
  ·left; exact⟨(),z16 c,trivial,by rw[f i a e,z16 c]⟩
  ·right; exact⟨(),z10 c,by rw[f i a e,z10 c]⟩) (fun _ _=>g) hn (t0:=()) trivial
 have d: ∀l:List α,yR (fun(_:Unit) a=>if b a then Sum.inl ()else Sum.inr ()) l ()=if l.all b then .inl ()else .inr ():=by
  intro l; induction l with
  | nil=>rfl
  | cons a r ih=>
   simp only[yR,z87]; by_cases c:b a=true
   ·rw[z16 c]; simp only[ih,c,z41]
   ·rw[z10 c]; simp [c]
 refine h.trans ?_
 rw[d l]; by_cases c:l.all b=true
 ·rw[z16 c,z16 c]
 ·rw[z10 c,z10 c]
theorem IP{α σ τ ρ κ:Type}{body:σ→Option (σ⊕ρ)}(l:List α)(f:τ→α→τ⊕κ)(enc:τ→Nat→σ)(c:τ→ρ)(b:κ→ρ→Prop)(I:τ→Prop)(y: ∀(i:Nat) a t,l[i]? =some a→I t→(∃e,f t a= .inl e∧I e∧body (enc t i)=some (.inl (enc e (i+1))))∨(∃q r,f t a= .inr q∧body (enc t i)=some (.inr r)∧b q r))
  (u: ∀t,I t→body (enc t l.length)=some (.inr (c t))){n:Nat}(hn:l.length<n){t0:τ}(h0:I t0): ∃r,loopN body n (enc t0 0)=some r∧(match yR f l t0 with | .inl t=>r=c t | .inr q=>b q r):=by
 have k: ∀(r:List α) (i:Nat) (t:τ) (n:Nat),l.drop i=r→I t→r.length<n→i≤l.length→ ∃x,loopN body n (enc t i)=some x∧(match yR f r t with | .inl t=>x=c t | .inr q=>b q x):=by
  intro r; induction r with
  | nil=>
   intro i t n d j hn v; obtain⟨m,rfl⟩: ∃m,n=m+1:=⟨n - 1,by simp at hn; omega⟩
   have:i=l.length:=by
    have:=congrArg List.length d; simp at this; omega
   subst this; simp only[loopN,u t j,yR]; exact⟨_,rfl,rfl⟩
  | cons a r ih=>
   intro i t n d j hn v; obtain⟨m,rfl⟩: ∃m,n=m+1:=⟨n - 1,by simp at hn; omega⟩
   have w:i<l.length:=by
    have:=congrArg List.length d; simp at this; omega
   have s:l[i]? =some a:=by
    have:=congrArg (·[0]?) d
    simpa using this
   have h:l.drop (i+1)=r:=by
    have:=congrArg List.tail d; simpa using this
   rcases y i a t s j with⟨e,h1,o,g⟩ | ⟨q,x,h1,g,p⟩
   ·simp only[loopN,g,yR,h1]
    exact ih (i+1) e m h o (by simp at hn; omega) (by omega)
   ·simp only[loopN,g,yR,h1]
    exact⟨x,rfl,p⟩
 exact k l 0 t0 n rfl h0 hn (by omega)
def zF{α:Type}(b:Nat→α→Bool):Nat→List α→Bool
 | _,[]=>true
 | i,a::r=>b i a&&zF b (i+1) r
theorem vN{α:Type}{body:Int→Option (Int⊕(Bool⊕(Int×Bool)))}(l:List α)(d:Nat→α→Bool)(h: ∀(i:Nat) a,l[i]? =some a→body (i:Int)=some (if d i a then .inl ((i+1:Nat):Int)else .inr (.inl false)))(j:body (l.length:Int)=some (.inr (.inr ((l.length:Int),false)))){n:Nat}(hn:l.length<n):loopN body n (0:Int)=some (if zF d 0 l then .inr ((l.length:Int),false)else .inl false):=by
 have f: ∀(r:List α) (i n:Nat),l.drop i=r→r.length<n→i≤l.length→loopN body n (i:Int)=some (if zF d i r then .inr ((l.length:Int),false)else .inl false):=by
  intro r; induction r with
  | nil=>
   intro i n b hn k; obtain⟨m,rfl⟩: ∃m,n=m+1:=⟨n - 1,by simp at hn; omega⟩
   have:i=l.length:=by
    have:=congrArg List.length b; simp at this; omega
   subst this; simp only[loopN,j,zF,if_true]
  | cons a r ih=>
   intro i n b hn k; obtain⟨m,rfl⟩: ∃m,n=m+1:=⟨n - 1,by simp at hn; omega⟩
   have o:i<l.length:=by
    have:=congrArg List.length b; simp at this; omega
   have g:l[i]? =some a:=by
    have:=congrArg (·[0]?) b
    simpa using this
   have e:l.drop (i+1)=r:=by
    have:=congrArg List.tail b; simpa using this
   by_cases c:d i a=true
   ·simp only[loopN,h i a g,z16 c,zF,c,z41]
    exact ih (i+1) m e (by simp at hn; omega) (by omega)
   ·simp only[loopN,h i a g,z10 c,zF]
    simp [c]
 exact f l 0 n rfl hn (by omega)
def Hy{α:Type}(p:α→Bool):Nat→List α→Int
 | _,[]=> -1
 | i,a::r=>bif p a then(i:Int)else Hy p (i+1) r
theorem sC{α:Type}(p:α→Bool): ∀(l:List α) (i:Nat),(Hy p i l= -1∧ ∀a∈l,p a=false)∨ ∃k a,Hy p i l=((i+k:Nat):Int)∧l[k]? =some a∧p a=true∧ ∀(j:Nat) b,j<k→l[j]? =some b→p b=false
 | [],i=> .inl ⟨rfl,by simp⟩
 | a::r,i=>by
  unfold Hy; cases h:p a with
  | true=>exact .inr ⟨0,a,rfl,rfl,h,fun j b o=>by omega⟩
  | false=>
   rw[z12]; rcases sC p r (i+1)with⟨h1,d⟩ | ⟨k,b,h1,d,g,m⟩
   ·exact .inl ⟨h1,fun b e=>by
     rcases z94.1 e with rfl | e
     ·exact h
     ·exact d b e⟩
   ·refine .inr ⟨k+1,b,by rw[h1]; omega,d,g,fun j c o f=> ?_⟩
    cases j with
    | zero=>simp only[z19,z9]at f; subst f; exact h
    | succ j=>exact m j c (by omega) f
theorem BS{α σ ρ:Type}{body:σ→Option (σ⊕ρ)}(l:List α)(p:α→Bool)(enc:Nat→σ)(out:Nat→ρ)(b:ρ)(g: ∀(i:Nat) a,l[i]? =some a→body (enc i)=some (bif p a then .inr (out i)else .inl (enc (i+1))))(j:body (enc l.length)=some (.inr b)){n:Nat}(hn:l.length<n):
  loopN body n (enc 0)=some (bif decide (Hy p 0 l<0)then b else out (Hy p 0 l).toNat):=by
 have e: ∀(r:List α) (i n:Nat),l.drop i=r→r.length<n→i≤l.length→loopN body n (enc i)=some (bif decide (Hy p i r<0)then b else out (Hy p i r).toNat):=by
  intro r; induction r with
  | nil=>
   intro i n c hn o; obtain⟨m,rfl⟩: ∃m,n=m+1:=⟨n - 1,by simp at hn; omega⟩
   have:i=l.length:=by
    have:=congrArg List.length c; simp at this; omega
   subst this; simp only[loopN,j]; rfl
  | cons a r ih=>
   intro i n c hn o; obtain⟨m,rfl⟩: ∃m,n=m+1:=⟨n - 1,by simp at hn; omega⟩
   have q:i<l.length:=by
    have:=congrArg List.length c; simp at this; omega
   have f:l[i]? =some a:=by
    have:=congrArg (·[0]?) c
    simpa using this
   have d:l.drop (i+1)=r:=by
    have:=congrArg List.tail c; simpa using this
   have k:Hy p i (a::r)=bif p a then(i:Int)else Hy p (i+1) r:=rfl
   rw[k]; cases h:p a with
   | true=>
    simp only[loopN,g i a f,h,z15]; rw[z13 (by omega),z12,z39]
   | false=>
    simp only[loopN,g i a f,h,z12]; exact ih (i+1) m d (by simp at hn; omega) (by omega)
 exact e l 0 n rfl hn (by omega)
theorem EO{α:Type}(d:Nat→α→Bool): ∀(l:List α) (i:Nat),zF d i l=true↔ ∀(j:Nat) a,l[j]? =some a→d (i+j) a=true
 | [],i=>by simp [zF]
 | a::r,i=>by
  simp only[zF,z7,EO d r (i+1)]; constructor
  ·rintro ⟨h1,e⟩ j b c
   cases j with
   | zero=>simp only[z19,z9]at c; subst c; exact h1
   | succ j=>have:=e j b c; rwa[show i+1+j=i+(j+1)by omega]at this
  ·intro h
   refine⟨h 0 a rfl,fun j b c=> ?_⟩
   have:=h (j+1) b c; rwa[show i+(j+1)=i+1+j by omega]at this
theorem Lj(n:Nat)(l:List (List UInt8))(left:Int)(h:dl List.length l<n)(e:l.length≤maxLen)(ho: ∀a∈l,a.length≤maxLen)(h0:0≤left)(h1:left≤1048576):lP n l left=some (if(zl List.length l:Int)≤left then left - zl List.length l else -1):=by
 unfold lP; have k:=bI List.length l; have f:zl List.length l=l.length+iC List.length l:=rfl; rw[f,Ds e h0 h1]; by_cases c:left - (l.length:Int)<0
 ·rw[z20 c,z15,z10 (by omega)]
 rw[z13 c,z12]; rw[It l List.length (fun i a t d t0 j=>by
  have g:=z18 d; have m:=bO d; simp only[kT,bG d,z15,bB,d,z8,aN (show i<4611686018427387904 by simp only[maxLen]at e; omega)]
  rw[Ds (ho a g) t0 j]; by_cases b:(a.length:Int)≤t
  ·rw[z16 b,z13 (by omega),z12]
  ·rw[z10 b,z20 (by omega),z15]) (fun t=>by simp only[kT,aM,z12]) (by omega) (by omega) (by omega)]
 by_cases b:(iC List.length l:Int)≤left - l.length
 ·rw[z16 b,z16 (by omega)]
  simp only[z8,z9]; omega
 ·rw[z10 b,z10 (by omega)]; rfl
theorem Lh(n:Nat)(l:List (List UInt8))(h:dl List.length l<n)(hz:zl List.length l≤1048576):lO n l=some l:=by
 unfold lO; have g:=bI List.length l; have f:zl List.length l=l.length+iC List.length l:=rfl; have e:decide (0≤(l.length:Int)∧(l.length:Int)≤maxLen∧16*(l.length:Int)≤281474976710656)=true:=z20 ⟨by omega,by simp only[maxLen]; omega,by omega⟩
 rw[e]; simp only[ck,z15,z8,z39]; rw[Is l id _ (fun i a o b c d=>by
  have j:=bO c; simp only[kQ,bG c,z15,bB,c,d,z8,aN (show i<4611686018427387904 by omega),z39,id]) (fun o=>by simp only[kQ,aM,z12]) (by omega)]
 simp
theorem Lt(n:Nat)(l:List (List UInt8))(h:dl List.length l<n)(hn:n≤4611686018427387904):lQ n l l=some true:=by
 unfold lQ; have c:=bI List.length l; simp only[decide_true,z33,z12]; rw[Iu l (fun i a b=>by
  have d:=bO b; simp only[kV,bG b,z15,bB,b,z8,decide_true,z33,z12,aN (show i<4611686018427387904 by omega)]) (by simp only[kV,aM,z12]) (by omega)]
 rfl
theorem S_laws_Expr_eta(a:aI):aI.mk a.f0 a.f1 a.f2 a.f3 a.f4=a:=by cases a; rfl
theorem nB(a:aB):aB.mk a.f0 a.f1 a.f2 a.f3 a.f4=a:=by cases a; rfl
theorem vR(a:aA):aA.mk a.f0 a.f1 a.f2 a.f3 a.f4 a.f5 a.f6 a.f7 a.f8 a.f9=a:=by
 obtain⟨p,x⟩:=a; cases p; cases x; rfl
mutual
def hH:aI→Nat
 | .mk _ _ s l c=>s.length+AD l+pE c
def AD:List aI→Nat
 | []=>0
 | x::r=>1+hH x+AD r
def pE:List aF→Nat
 | []=>0
 | x::r=>1+dT x+pE r
def dT:aF→Nat
 | .two p x=>hH p+hH x
end
mutual
def qR:aI→Nat
 | .mk _ _ s l c=>3+s.length+xR l+oA c
def xR:List aI→Nat
 | []=>1
 | x::r=>1+qR x+xR r
def oA:List aF→Nat
 | []=>1
 | x::r=>1+mB x+oA r
def mB:aF→Nat
 | .two p x=>3+qR p+qR x
end
mutual
def aR:aB→Nat
 | .mk _ _ s l c=>3+s.length+nV l+gH c
def nV:List aB→Nat
 | []=>1
 | x::r=>1+aR x+nV r
def gH:List aA→Nat
 | []=>1
 | x::r=>1+aS x+gH r
def aS:aA→Nat
 | .two p x=>3+aR p+aR x
end
mutual
def rB:aI→aB
 | .mk a b s l c=> .mk a b s (pH l) (fC c)
def pH:List aI→List aB
 | []=> []
 | x::r=>rB x::pH r
def fC:List aF→List aA
 | []=> []
 | x::r=>vD x::fC r
def vD:aF→aA
 | .two p x=> .two (rB p) (rB x)
end
mutual
def okExpr:aI→Prop
 | .mk a b s l c=>(IntKind.i64.min≤a∧a≤IntKind.i64.max)∧(IntKind.i64.min≤b∧b≤IntKind.i64.max)∧s.length≤maxLen∧(l.length≤maxLen∧Bq l)∧(c.length≤maxLen∧qY c)
def Bq:List aI→Prop
 | []=>True
 | x::r=>okExpr x∧Bq r
def qY:List aF→Prop
 | []=>True
 | x::r=>okClause x∧qY r
def okClause:aF→Prop
 | .two p x=>okExpr p∧okExpr x
end
theorem QE(a:aI):hH a=a.f2.length+AD a.f3+pE a.f4:=by cases a; simp only[hH]; rfl
theorem Qc(a:aI):qR a=3+a.f2.length+xR a.f3+oA a.f4:=by cases a; simp only[qR]; rfl
theorem nX(a:aB):aR a=3+a.f2.length+nV a.f3+gH a.f4:=by cases a; simp only[aR]; rfl
theorem Ka(a:aF):dT a=hH a.p+hH a.x:=by obtain⟨p,x⟩:=a; simp only[dT]; rfl
theorem LI(a:aF):mB a=3+qR a.p+qR a.x:=by obtain⟨p,x⟩:=a; simp only[mB]; rfl
theorem jM(a:aA):aS a=3+aR a.p+aR a.x:=by obtain⟨p,x⟩:=a; simp only[aS]; rfl
theorem Sq(a:aI):okExpr a↔(IntKind.i64.min≤a.f0∧a.f0≤IntKind.i64.max)∧(IntKind.i64.min≤a.f1∧a.f1≤IntKind.i64.max)∧a.f2.length≤maxLen∧(a.f3.length≤maxLen∧Bq a.f3)∧(a.f4.length≤maxLen∧qY a.f4):=by cases a; simp only[okExpr]; rfl
theorem Oj(a:aF):okClause a↔okExpr a.p∧okExpr a.x:=by obtain⟨p,x⟩:=a; simp only[okClause]; rfl
theorem EN{a0 a1:Int}{a2:List UInt8}{a3:List aI}{a4:List aF}:rB (.mk a0 a1 a2 a3 a4)= .mk a0 a1 a2 (pH a3) (fC a4):=by simp only[rB]
theorem FP: ∀l,AD l=zl hH l
 | []=>rfl
 | x::r=>by simp only[AD,zl,iC,FP r,z36]; omega
theorem AQ: ∀l:List aF,pE l=zl dT l
 | []=>rfl
 | x::r=>by
  have e:=AQ r; have a:pE (x::r)=1+dT x+pE r:=by simp only[pE]
  have b:zl dT (x::r)=(x::r).length+(dT x+iC dT r):=rfl; have c:zl dT r=r.length+iC dT r:=rfl; rw[a,b,e,c,z36]; omega
theorem Fm: ∀l,xR l=dl qR l
 | []=>rfl
 | x::r=>by simp only[xR,dl,Fm r]
theorem Aa: ∀l:List aF,oA l=dl mB l
 | []=>rfl
 | x::r=>by
  have e:=Aa r; have a:oA (x::r)=1+mB x+oA r:=by simp only[oA]
  rw[a,e]; rfl
theorem bW: ∀l,nV l=dl aR l
 | []=>rfl
 | x::r=>by simp only[nV,dl,bW r]
theorem bD: ∀l:List aA,gH l=dl aS l
 | []=>rfl
 | x::r=>by
  have e:=bD r; have a:gH (x::r)=1+aS x+gH r:=by simp only[gH]
  rw[a,e]; rfl
theorem Ie: ∀l,pH l=l.map rB
 | []=>rfl
 | x::r=>by simp only[pH,Ie r,z45]
def cCl(a:aF):aA:=vD a
theorem Dn: ∀l:List aF,fC l=l.map cCl
 | []=>rfl
 | x::r=>by
  have e:=Dn r; have a:fC (x::r)=vD x::fC r:=by simp only[fC]
  rw[a,e]; rfl
theorem okExprs_iff: ∀l,Bq l↔ ∀a∈l,okExpr a
 | []=>by simp [Bq]
 | x::r=>by simp [Bq,okExprs_iff r]
theorem okClauses_iff: ∀l:List aF,qY l↔ ∀a∈l,okClause a
 | []=>by simp [qY]
 | x::r=>by
  have e:=okClauses_iff r; have b:qY (x::r)↔okClause x∧qY r:=by simp only[qY]
  rw[b,e]; simp
mutual
theorem Ij: ∀x,aR (rB x)=qR x
 | .mk a b s l c=>by simp only[rB,aR,qR,Nc l,IB c]
theorem Nc: ∀l,nV (pH l)=xR l
 | []=>rfl
 | x::r=>by simp only[pH,nV,xR,Ij x,Nc r]
theorem IB: ∀l,gH (fC l)=oA l
 | []=>rfl
 | x::r=>by simp only[fC,gH,oA,Qq x,IB r]
theorem Qq: ∀x,aS (vD x)=mB x
 | .two p x=>by simp only[vD,aS,mB,Ij p,Ij x]
end
mutual
theorem JA: ∀x,qR x≤15*hH x+5
 | .mk a b s l c=>by have:=OM l; have:=Ic c; simp only[qR,hH]; omega
theorem OM: ∀l,xR l≤15*AD l+1
 | []=>by simp [xR]
 | x::r=>by have:=JA x; have:=OM r; simp only[xR,AD]; omega
theorem Ic: ∀l,oA l≤15*pE l+1
 | []=>by simp [oA]
 | x::r=>by have:=Rb x; have:=Ic r; simp only[oA,pE]; omega
theorem Rb: ∀x,mB x≤15*dT x+13
 | .two p x=>by have:=JA p; have:=JA x; simp only[mB,dT]; omega
end
theorem IG: ∀(n:Nat),(∀(a:aI) (left:Int),qR a<n→okExpr a→0≤left→left≤1048576→dL n a.f0 a.f1 a.f2 a.f3 a.f4 left=some (if(hH a:Int)≤left then left - hH a else -1))∧(∀(l:List aI) (left:Int),dl qR l<n→l.length≤maxLen→(∀a∈l,okExpr a)→0≤left→left≤1048576→gJ n l left=some (if(zl hH l:Int)≤left then left - zl hH l else -1))∧
  (∀(a:aF) (left:Int),mB a<n→okClause a→0≤left→left≤1048576→fE n a.f0 a.f1 a.f2 a.f3 a.f4 a.f5 a.f6 a.f7 a.f8 a.f9 left=some (if(dT a:Int)≤left then left - dT a else -1))∧(∀(l:List aF) (left:Int),dl mB l<n→l.length≤maxLen→(∀a∈l,okClause a)→0≤left→left≤1048576→eM n l left=some (if(zl dT l:Int)≤left then left - zl dT l else -1))
 | 0=>⟨fun a left h=>by omega,fun l left h=>by omega,fun a left h=>by omega,fun l left h=>by omega⟩
 | n+1=>by
  obtain⟨f,k,m,o⟩:=IG n; refine⟨fun a left h ho h0 h1=> ?_,fun l left h hl ho h0 h1=> ?_,fun a left h ho h0 h1=> ?_,fun l left h hl ho h0 h1=> ?_⟩
  ·rw[CH]
   unfold pP; rw[Qc,Fm,Aa]at h; rw[Sq]at ho; have hz:=QE a; rw[FP,AQ]at hz; obtain⟨_,_,B,s,u⟩:=ho; rw[Ds B h0 h1,hz]; by_cases c:left - (a.f2.length:Int)<0
   ·rw[z20 c,z15,z10 (by omega)]
   rw[z13 c,z12]; rw[k a.f3 _ (by omega) s.1 ((okExprs_iff _).1 s.2) (by omega) (by omega)]
   by_cases b:(zl hH a.f3:Int)≤left - a.f2.length
   ·rw[z16 b,z8,z13 (by omega),z12]
    rw[o a.f4 _ (by omega) u.1 ((okClauses_iff _).1 u.2) (by omega) (by omega)]
    by_cases r:(zl dT a.f4:Int)≤left - a.f2.length - zl hH a.f3
    ·rw[z16 r,z16 (by omega),z8,z13 (by omega)]
     simp only[z12,z9]; omega
    ·rw[z10 r,z10 (by omega)]; rfl
   ·rw[z10 b,z10 (by omega)]; rfl
  ·rw[Aq]
   unfold oF; have y:=bI qR l; have j:zl hH l=l.length+iC hH l:=rfl; rw[j,Ds hl h0 h1]; by_cases c:left - (l.length:Int)<0
   ·rw[z20 c,z15,z10 (by omega)]
   rw[z13 c,z12]; rw[It l hH (fun i a t d t0 q=>by
    have g:=z18 d; have z:=dK qR g; have A:=bO d; have e:=f a t (by omega) (ho a g) t0 q
    simp only[nP,bG d,z15,bB,d,z8,e,aN (show i<4611686018427387904 by simp only[maxLen]at hl; omega)]
    by_cases b:(hH a:Int)≤t
    ·rw[z16 b,z16 b,z13 (by omega)]; rfl
    ·rw[z10 b,z10 b]; rfl) (fun t=>by simp only[nP,aM,z12]) (by omega) (by omega) (by omega)]
   by_cases b:(iC hH l:Int)≤left - l.length
   ·rw[z16 b,z16 (by omega)]
    simp only[z8,z9]; omega
   ·rw[z10 b,z10 (by omega)]; rfl
  ·rw[zK]
   unfold mO; rw[LI]at h; rw[Oj]at ho; have hz:=Ka a; have v:dL n a.f0 a.f1 a.f2 a.f3 a.f4 left=_:=f a.p left (by omega) ho.1 h0 h1
   rw[v,hz]; by_cases c:(hH a.p:Int)≤left
   ·rw[z16 c,z8,z13 (by omega),z12]
    have w:dL n a.f5 a.f6 a.f7 a.f8 a.f9 (left - hH a.p)=_:=f a.x _ (by omega) ho.2 (by omega) (by omega)
    rw[w]; by_cases b:(hH a.x:Int)≤left - hH a.p
    ·rw[z16 b,z16 (by omega),z8,z13 (by omega)]
     simp only[z12,z9]; omega
    ·rw[z10 b,z10 (by omega)]; rfl
   ·rw[z10 c,z10 (by omega)]; rfl
  ·rw[yK]
   unfold lF; have y:=bI mB l; have j:zl dT l=l.length+iC dT l:=rfl; rw[j,Ds hl h0 h1]; by_cases c:left - (l.length:Int)<0
   ·rw[z20 c,z15,z10 (by omega)]
   rw[z13 c,z12]; rw[It l dT (fun i a t d t0 q=>by
    have g:=z18 d; have z:=dK mB g; have A:=bO d; have e:=m a t (by omega) (ho a g) t0 q
    simp only[kU,bG d,z15,bB,d,z8,e,aN (show i<4611686018427387904 by simp only[maxLen]at hl; omega)]
    by_cases b:(dT a:Int)≤t
    ·rw[z16 b,z16 b,z13 (by omega)]; rfl
    ·rw[z10 b,z10 b]; rfl) (fun t=>by simp only[kU,aM,z12]) (by omega) (by omega) (by omega)]
   by_cases b:(iC dT l:Int)≤left - l.length
   ·rw[z16 b,z16 (by omega)]
    simp only[z8,z9]; omega
   ·rw[z10 b,z10 (by omega)]; rfl
theorem Qy(n:Nat){a0 a1:Int}{a2:List UInt8}{a3:List aI}{a4:List aF}{left:Int}(h:qR (.mk a0 a1 a2 a3 a4)<n)(ho:okExpr (.mk a0 a1 a2 a3 a4))(h0:0≤left)(h1:left≤1048576):dL n a0 a1 a2 a3 a4 left=some (if(hH (.mk a0 a1 a2 a3 a4):Int)≤left then left - hH (.mk a0 a1 a2 a3 a4)else -1):=(IG n).1 _ _ h ho h0 h1
theorem IE: ∀(n:Nat),(∀(a:aI),qR a<n→hH a≤1048576→dG n a.f0 a.f1 a.f2 a.f3 a.f4=some (a.f0,a.f1,a.f2,pH a.f3,fC a.f4))∧(∀(l:List aI),dl qR l<n→zl hH l≤1048576→gI n l=some (pH l))∧
  (∀(a:aF),mB a<n→dT a≤1048576→fD n a.f0 a.f1 a.f2 a.f3 a.f4 a.f5 a.f6 a.f7 a.f8 a.f9=some (a.f0,a.f1,a.f2,pH a.f3,fC a.f4,a.f5,a.f6,a.f7,pH a.f8,fC a.f9))∧(∀(l:List aF),dl mB l<n→zl dT l≤1048576→eK n l=some (fC l))
 | 0=>⟨fun a h=>by omega,fun l h=>by omega,fun a h=>by omega,fun l h=>by omega⟩
 | n+1=>by
  obtain⟨d,k,m,q⟩:=IE n; refine⟨fun a h hz=> ?_,fun l h hz=> ?_,fun a h hz=> ?_,fun l h hz=> ?_⟩
  ·rw[CG]
   unfold pO; rw[Qc,Fm,Aa]at h; rw[QE,FP,AQ]at hz; simp only[k a.f3 (by omega) (by omega),q a.f4 (by omega) (by omega),z8]
  ·rw[Ap]
   unfold oE; have u:=bI qR l; have t:zl hH l=l.length+iC hH l:=rfl; have g:decide (0≤(l.length:Int)∧(l.length:Int)≤maxLen∧80*(l.length:Int)≤281474976710656)=true:=z20 ⟨by omega,by simp only[maxLen]; omega,by omega⟩
   rw[g]; simp only[ck,z15,z8,z39]; rw[Is l rB _ (fun i a o b c f=>by
    have e:=z18 c; have v:=dK qR e; have w:=bO c; have y:=ED hH e; simp only[nO,bG c,z15,bB,c,f,z8,d a (by omega) (by omega),aN (show i<4611686018427387904 by omega),z39, ←EN,S_laws_Expr_eta]) (fun o=>by simp only[nO,aM,z12]) (by omega)]
   simp only[z8,Ie]
  ·rw[zJ]
   unfold mN; rw[LI]at h; rw[Ka]at hz; have r:dG n a.f0 a.f1 a.f2 a.f3 a.f4=some (a.f0,a.f1,a.f2,pH a.f3,fC a.f4):=d a.p (by omega) (by omega)
   have s:dG n a.f5 a.f6 a.f7 a.f8 a.f9=some (a.f5,a.f6,a.f7,pH a.f8,fC a.f9):=d a.x (by omega) (by omega)
   simp only[r,s,z8]
  ·rw[yJ]
   unfold lE; have u:=bI mB l; have t:zl dT l=l.length+iC dT l:=rfl; have g:decide (0≤(l.length:Int)∧(l.length:Int)≤maxLen∧160*(l.length:Int)≤281474976710656)=true:=z20 ⟨by omega,by simp only[maxLen]; omega,by omega⟩
   rw[g]; simp only[ck,z15,z8,z39]; rw[Is l cCl _ (fun i a o b c f=>by
    have e:=z18 c; have v:=dK mB e; have w:=bO c; have y:=ED dT e; have j:aA.mk a.f0 a.f1 a.f2 (pH a.f3) (fC a.f4) a.f5 a.f6 a.f7 (pH a.f8) (fC a.f9)=cCl a:=by
     obtain⟨p,x⟩:=a; show _=vD (.two p x); simp only[vD]; cases p; cases x; simp only[rB]; rfl
    simp only[kR,bG c,z15,bB,c,f,z8,m a (by omega) (by omega),aN (show i<4611686018427387904 by omega),z39,j]) (fun o=>by simp only[kR,aM,z12]) (by omega)]
   simp only[z8,Dn]
theorem Qv(n:Nat){a0 a1:Int}{a2:List UInt8}{a3:List aI}{a4:List aF}(h:qR (.mk a0 a1 a2 a3 a4)<n)(hz:hH (.mk a0 a1 a2 a3 a4)≤1048576):dG n a0 a1 a2 a3 a4=some ((rB (.mk a0 a1 a2 a3 a4)).f0,(rB (.mk a0 a1 a2 a3 a4)).f1,(rB (.mk a0 a1 a2 a3 a4)).f2,(rB (.mk a0 a1 a2 a3 a4)).f3,(rB (.mk a0 a1 a2 a3 a4)).f4):=by
 have e:dG n a0 a1 a2 a3 a4=_:=(IE n).1 (.mk a0 a1 a2 a3 a4) h hz; rw[e,EN]; rfl
theorem Ib: ∀(n:Nat),n≤4611686018427387904→(∀(a:aB),aR a<n→dM n a.f0 a.f1 a.f2 a.f3 a.f4 a.f0 a.f1 a.f2 a.f3 a.f4=some true)∧(∀(l:List aB),dl aR l<n→gK n l l=some true)∧
  (∀(a:aA),aS a<n→fG n a.f0 a.f1 a.f2 a.f3 a.f4 a.f5 a.f6 a.f7 a.f8 a.f9 a.f0 a.f1 a.f2 a.f3 a.f4 a.f5 a.f6 a.f7 a.f8 a.f9=some true)∧(∀(l:List aA),dl aS l<n→eO n l l=some true)
 | 0,_=>⟨fun a h=>by omega,fun l h=>by omega,fun a h=>by omega,fun l h=>by omega⟩
 | n+1,hn=>by
  obtain⟨c,e,f,g⟩:=Ib n (by omega)
  refine⟨fun a h=> ?_,fun l h=> ?_,fun a h=> ?_,fun l h=> ?_⟩
  ·rw[CI]
   unfold pQ; rw[nX,bW,bD]at h; simp only[e a.f3 (by omega),g a.f4 (by omega),z8,decide_true,z33,z12]
  ·rw[Ar]
   unfold oG; have m:=bI aR l; simp only[decide_true,z33,z12]; rw[Iu l (fun i a b=>by
    have d:=z18 b; have o:=dK aR d; have q:=bO b; simp only[nQ,bG b,z15,bB,b,z8,c a (by omega),z33,z12,aN (show i<4611686018427387904 by omega)]) (by simp only[nQ,aM,z12]) (by omega)]
   simp only[z8]
  ·rw[zL]
   unfold mP; rw[jM]at h; have j:dM n a.f0 a.f1 a.f2 a.f3 a.f4 a.f0 a.f1 a.f2 a.f3 a.f4=some true:=c a.p (by omega)
   have k:dM n a.f5 a.f6 a.f7 a.f8 a.f9 a.f5 a.f6 a.f7 a.f8 a.f9=some true:=c a.x (by omega)
   simp only[j,k,z8,z33,z12]
  ·rw[yN]
   unfold lI; have m:=bI aS l; simp only[decide_true,z33,z12]; rw[Iu l (fun i a b=>by
    have d:=z18 b; have o:=dK aS d; have q:=bO b; simp only[kW,bG b,z15,bB,b,z8,f a (by omega),z33,z12,aN (show i<4611686018427387904 by omega)]) (by simp only[kW,aM,z12]) (by omega)]
   simp only[z8]
theorem RZ(n:Nat){a0 a1:Int}{a2:List UInt8}{a3:List aB}{a4:List aA}(h:aR (.mk a0 a1 a2 a3 a4)<n)(hn:n≤4611686018427387904):dM n a0 a1 a2 a3 a4 a0 a1 a2 a3 a4=some true:=(Ib n hn).1 (.mk a0 a1 a2 a3 a4) h

theorem mA(a:aW):aW.mk a.f0 a.f1 a.f2 a.f3 a.f4 a.f5 a.f6=a:=rfl
theorem AC(a:aD):aD.mk a.f0 a.f1 a.f2 a.f3 a.f4 a.f5 a.f6=a:=rfl
def vU:aW→Nat
 | .mk a0 a1 a2 a3 a4 a5 a6=>a0.length+zl List.length a1+hH (.mk a2 a3 a4 a5 a6)
def HQ:aW→Nat
 | .mk a0 a1 a2 a3 a4 a5 a6=>3+a0.length+dl List.length a1+qR (.mk a2 a3 a4 a5 a6)
def jL:aD→Nat
 | .mk a0 a1 a2 a3 a4 a5 a6=>3+a0.length+dl List.length a1+aR (.mk a2 a3 a4 a5 a6)
def okFun:aW→Prop
 | .mk a0 a1 a2 a3 a4 a5 a6=>(a0.length≤maxLen)∧(a1.length≤maxLen∧ ∀x∈a1,x.length≤maxLen)∧(okExpr (.mk a2 a3 a4 a5 a6))
def Hz:aW→aD
 | .mk a0 a1 a2 a3 a4 a5 a6=> .mk a0 a1 (rB (.mk a2 a3 a4 a5 a6)).f0 (rB (.mk a2 a3 a4 a5 a6)).f1 (rB (.mk a2 a3 a4 a5 a6)).f2 (rB (.mk a2 a3 a4 a5 a6)).f3 (rB (.mk a2 a3 a4 a5 a6)).f4
theorem Sb(n:Nat){a0:List UInt8}{a1:List (List UInt8)}{a2:Int}{a3:Int}{a4:List UInt8}{a5:List aI}{a6:List aF}{left:Int}(h:HQ (.mk a0 a1 a2 a3 a4 a5 a6)<n)(ho:okFun (.mk a0 a1 a2 a3 a4 a5 a6))(h0:0≤left)(h1:left≤1048576):rN n a0 a1 a2 a3 a4 a5 a6 left=some (if(vU (.mk a0 a1 a2 a3 a4 a5 a6):Int)≤left then left - vU (.mk a0 a1 a2 a3 a4 a5 a6)else -1):=by
 unfold rN; simp only[HQ,okFun]at h ho; have e:vU (.mk a0 a1 a2 a3 a4 a5 a6)=a0.length+zl List.length a1+hH (.mk a2 a3 a4 a5 a6):=rfl; generalize vU (.mk a0 a1 a2 a3 a4 a5 a6)=zz at e ⊢; obtain⟨f,a,g⟩:=ho; rw[Ds f (by omega) (by omega)]
 by_cases b:left - ((a0.length:Nat):Int)<0
 ·rw[z20 b,z15,z10 (by omega)]
 rw[z13 b,z12]; rw[Lj n _ _ (by omega) a.1 a.2 (by omega) (by omega)]
 by_cases c:((zl List.length a1:Nat):Int)≤left - (a0.length:Nat)
 rotate_left
 ·rw[z10 c,z10 (by omega)]; rfl
 rw[z16 c,z8,z13 (by omega),z12]
 rw[Qy n (h:=by omega) (ho:=g) (h0:=by omega) (h1:=by omega)]
 by_cases d:((hH (.mk a2 a3 a4 a5 a6):Nat):Int)≤left - (a0.length:Nat) - (zl List.length a1:Nat)
 rotate_left
 ·rw[z10 d,z10 (by omega)]; rfl
 rw[z16 d,z8,z13 (by omega),z12]
 rw[z16 (by omega)]
 congr 1; omega
theorem Sa(n:Nat){a0:List UInt8}{a1:List (List UInt8)}{a2:Int}{a3:Int}{a4:List UInt8}{a5:List aI}{a6:List aF}(h:HQ (.mk a0 a1 a2 a3 a4 a5 a6)<n)(hz:vU (.mk a0 a1 a2 a3 a4 a5 a6)≤1048576):rM n a0 a1 a2 a3 a4 a5 a6=some ((Hz (.mk a0 a1 a2 a3 a4 a5 a6)).f0,(Hz (.mk a0 a1 a2 a3 a4 a5 a6)).f1,(Hz (.mk a0 a1 a2 a3 a4 a5 a6)).f2,(Hz (.mk a0 a1 a2 a3 a4 a5 a6)).f3,(Hz (.mk a0 a1 a2 a3 a4 a5 a6)).f4,(Hz (.mk a0 a1 a2 a3 a4 a5 a6)).f5,(Hz (.mk a0 a1 a2 a3 a4 a5 a6)).f6):=by
 unfold rM; simp only[HQ,vU]at h hz; rw[Lh n _ (by omega) (by omega)]
 try simp only[z8]
 rw[Qv n (h:=by omega) (hz:=by omega)]
 try simp only[z8]
 rfl
theorem TP(n:Nat){a0:List UInt8}{a1:List (List UInt8)}{a2:Int}{a3:Int}{a4:List UInt8}{a5:List aB}{a6:List aA}(h:jL (.mk a0 a1 a2 a3 a4 a5 a6)<n)(hn:n≤4611686018427387904):rP n a0 a1 a2 a3 a4 a5 a6 a0 a1 a2 a3 a4 a5 a6=some true:=by
 unfold rP; simp only[jL]at h; try simp only[decide_true,z91,z33,z12]
 rw[Lt n _ (by omega) hn]
 simp only[z8,decide_true,z91,z33,z12]; rw[RZ n (h:=by omega) (hn:=hn)]
 simp only[z8,decide_true,z91,z33,z12]
theorem Xz(a:aW):jL (Hz a)=HQ a:=by
 cases a; simp only[Hz,jL,HQ,nB,Ij]
theorem Yc(a:aW):HQ a≤15*vU a+9:=by
 obtain⟨a0,a1,a2,a3,a4,a5,a6⟩:=a; have:=Ue (A:=1) (B:=0) (C:=1) (d:=List.length) (z:=List.length) (fun a=>by omega) (by omega) (by omega) a1
 have:=JA (.mk a2 a3 a4 a5 a6); show 3+a0.length+dl List.length a1+qR (.mk a2 a3 a4 a5 a6)≤15*(a0.length+zl List.length a1+hH (.mk a2 a3 a4 a5 a6))+9; omega
def Jf(l:List aW):List aD:=l.map Hz
theorem Qx(n:Nat)(l:List aW)(left:Int)(h:dl HQ l<n)(e:l.length≤maxLen)(ho: ∀a∈l,okFun a)(h0:0≤left)(h1:left≤1048576):pX n l left=some (if(zl vU l:Int)≤left then left - zl vU l else -1):=by
 unfold pX; have k:=bI HQ l; have g:zl vU l=l.length+iC vU l:=rfl; rw[g,Ds e h0 h1]; by_cases c:left - (l.length:Int)<0
 ·rw[z20 c,z15,z10 (by omega)]
 rw[z13 c,z12]; rw[It l vU (fun i a t d t0 j=>by
  have f:=z18 d; have m:=dK HQ f; have o:=bO d; simp only[oS,bG d,z15,bB,d,z8,aN (show i<4611686018427387904 by simp only[maxLen]at e; omega)]
  rw[Sb n (h:=by rw[mA]; omega) (ho:=by rw[mA]; exact ho a f) (h0:=t0) (h1:=j),mA]
  by_cases b:(vU a:Int)≤t
  ·rw[z16 b,z16 b,z8,z13 (by omega),z12]
  ·rw[z10 b,z10 b]; rfl) (fun t=>by simp only[oS,aM,z12]) (by omega) (by omega) (by omega)]
 by_cases b:(iC vU l:Int)≤left - l.length
 ·rw[z16 b,z16 (by omega)]
  simp only[z8,z9]; omega
 ·rw[z10 b,z10 (by omega)]; rfl
theorem Qu(n:Nat)(l:List aW)(h:dl HQ l<n)(hz:zl vU l≤1048576):pW n l=some (Jf l):=by
 unfold pW; have j:=bI HQ l; have g:zl vU l=l.length+iC vU l:=rfl; have f:decide (0≤(l.length:Int)∧(l.length:Int)≤maxLen∧120*(l.length:Int)≤281474976710656)=true:=z20 ⟨by omega,by simp only[maxLen]; omega,by omega⟩
 rw[f]; simp only[ck,z15,z8,z39]; rw[Is l Hz _ (fun i a o b c e=>by
  have d:=z18 c; have k:=dK HQ d; have m:=bO c; have p:=ED vU d; simp only[oR,bG c,z15,bB,c,e,z8,aN (show i<4611686018427387904 by omega),z39]
  rw[Sa n (h:=by rw[mA]; omega) (hz:=by rw[mA]; omega)]
  simp only[z8,mA,AC]) (fun o=>by simp only[oR,aM,z12]) (by omega)]
 rfl
theorem RY(n:Nat)(l:List aD)(h:dl jL l<n)(hn:n≤4611686018427387904):pY n l l=some true:=by
 unfold pY; have d:=bI jL l; simp only[decide_true,z33,z12]; rw[Iu l (fun i a b=>by
  have c:=z18 b; have e:=dK jL c; have f:=bO b; simp only[oT,bG b,z15,bB,b,z8,aN (show i<4611686018427387904 by omega)]
  rw[TP n (h:=by rw[AC]; omega) (hn:=hn)]
  rfl) (by simp only[oT,aM,z12]) (by omega)]
 rfl
theorem Vi(l:List aW):dl jL (Jf l)=dl HQ l:=by
 unfold Jf; rw[Tv]; exact OL fun a _=>Xz a
structure _root_.Go.Own.S_laws_Module where
 f0:List aW
theorem eU(a:S_laws_Module):S_laws_Module.mk a.f0=a:=rfl
structure _root_.Go.Own.S_impl_Module where
 f0:List aD
def tU:S_laws_Module→Nat
 | .mk a0=>zl vU a0
def tZ:S_laws_Module→Nat
 | .mk a0=>3+dl HQ a0
def Bl:S_impl_Module→Nat
 | .mk a0=>3+dl jL a0
def okModule:S_laws_Module→Prop
 | .mk a0=>(a0.length≤maxLen∧ ∀x∈a0,okFun x)
def Bu:S_laws_Module→S_impl_Module
 | .mk a0=> .mk (Jf a0)
theorem Ft(n:Nat){a0:List aW}{left:Int}(h:tZ (.mk a0)<n)(ho:okModule (.mk a0))(h0:0≤left)(h1:left≤1048576):mX n a0 left=some (if(tU (.mk a0):Int)≤left then left - tU (.mk a0)else -1):=by
 unfold mX; simp only[tZ,okModule]at h ho; have c:tU (.mk a0)=zl vU a0:=rfl; generalize tU (.mk a0)=zz at c ⊢; have a:=ho; rw[Qx n _ _ (by omega) a.1 a.2 (by omega) (by omega)]
 by_cases b:((zl vU a0:Nat):Int)≤left
 rotate_left
 ·rw[z10 b,z10 (by omega)]; rfl
 rw[z16 b,z8,z13 (by omega),z12]
 rw[z16 (by omega)]
 congr 1; omega
theorem Ms(n:Nat){a0:List aW}(h:tZ (.mk a0)<n)(hz:tU (.mk a0)≤1048576):eD n a0=some ((Bu (.mk a0)).f0):=by
 unfold eD; simp only[tZ,tU]at h hz; rw[Qu n _ (by omega) (by omega)]
 try simp only[z8]
 rfl
theorem GJ(n:Nat){a0:List aD}(h:Bl (.mk a0)<n)(hn:n≤4611686018427387904):fF n a0 a0=some true:=by
 unfold fF; simp only[Bl]at h; try simp only[decide_true,z91,z33,z12]
 rw[RY n _ (by omega) hn]
 simp only[z8,decide_true,z91,z33,z12]
theorem Qp(a:S_laws_Module):Bl (Bu a)=tZ a:=by
 cases a; simp only[Bu,Bl,tZ,Vi]
theorem Ra(a:S_laws_Module):tZ a≤15*tU a+4:=by
 obtain⟨a0⟩:=a; have:=Ue (A:=15) (B:=9) (C:=15) Yc (by omega) (by omega) a0
 show 3+dl HQ a0≤15*(zl vU a0)+4; omega
theorem yY(n:Nat)(x a b:Int):dZ n x a b=some (decide (a≤x)&&decide (x≤b)):=by
 unfold dZ; cases decide (a≤x)<;>rfl
theorem Cs(n:Nat)(x a b:Int):gM n x a b=some (decide (a≤x)&&decide (x≤b)):=by
 unfold gM; cases decide (a≤x)<;>rfl
theorem IV(n:Nat)(x:Int):jH n x=some (decide (97≤x)&&decide (x≤122)):=by
 unfold jH; cases decide (97≤x)<;>rfl
theorem GF(n:Nat)(x:Int):gV n x=some (decide (48≤x)&&decide (x≤57)):=by
 unfold gV; cases decide (48≤x)<;>rfl
def tB(c:Int):Bool:=decide (97≤c)&&decide (c≤122)
def KX(c:Int):Bool:=decide (48≤c)&&decide (c≤57)
def Le(i:Nat)(c:UInt8):Bool:=tB c.toNat||(!decide (i=0)&&(KX c.toNat||decide ((c.toNat:Int)=95)))
def Cj(s:List UInt8):Bool:=zF Le 0 s&&(decide (1≤(s.length:Int))&&decide ((s.length:Int)≤20))
theorem Ii(c:UInt8):IntKind.wrap .i64 ((c.toNat:Nat):Int)=c.toNat:=by
 have:=c.toNat_lt; exact wrap_i64 (by omega) (by omega)
theorem Pq(i:Nat):decide ((i:Int)=0)=decide (i=0):=by
 by_cases h:i=0<;>simp [h]
theorem HT(n:Nat)(s:List UInt8)(h:s.length<n)(hn:s.length<4611686018427387904):pV n s=some (Cj s):=by
 unfold pV; rw[vN s Le (fun i c a=>by
  have b:=bO a; simp only[oQ,bG a,z15,Iy,a,z38,z8,yY,Ii,aN (show i<4611686018427387904 by omega),Pq]
  unfold Le tB KX; cases decide (97≤(c.toNat:Int))<;>cases decide ((c.toNat:Int)≤122)<;>cases decide (i=0)<;>cases decide (48≤(c.toNat:Int))<;>cases decide ((c.toNat:Int)≤57)<;>cases decide ((c.toNat:Int)=95)<;>rfl) (by simp only[oQ,aM,z12]) h]
 unfold Cj; by_cases c:zF Le 0 s=true
 ·rw[z16 c,c]; simp only[z8,yY,z41]
 ·rw[z10 c]; simp only[z84]at c; rw[c]; rfl
theorem HY(n:Nat)(s:List UInt8)(h:s.length<n)(hn:s.length<4611686018427387904):pZ n s=some (Cj s):=by
 unfold pZ; rw[vN s Le (fun i c a=>by
  have b:=bO a; simp only[oU,bG a,z15,Iy,a,z38,z8,IV,GF,aN (show i<4611686018427387904 by omega),Pq]
  unfold Le tB KX; cases decide (97≤(c.toNat:Int))<;>cases decide ((c.toNat:Int)≤122)<;>cases decide (i=0)<;>cases decide (48≤(c.toNat:Int))<;>cases decide ((c.toNat:Int)≤57)<;>cases decide ((c.toNat:Int)=95)<;>rfl) (by simp only[oU,aM,z12]) h]
 unfold Cj; by_cases c:zF Le 0 s=true
 ·rw[z16 c,c]; simp only[z8,Cs,z41]
 ·rw[z10 c]; simp only[z84]at c; rw[c]; rfl
def qW(c:Int):Bool:=(decide (65≤c)&&decide (c≤90))||decide (c=95)
theorem IW(n:Nat)(x:Int):lX n x=some (qW x):=by
 unfold lX qW; cases decide (65≤x)<;>cases decide (x≤90)<;>rfl
theorem Oo(n:Nat)(c:UInt8):oL n (c.toNat:Int)=some (qW c.toNat):=by
 unfold oL qW; rw[Ii,yY]; cases decide (65≤(c.toNat:Int))<;>cases decide ((c.toNat:Int)≤90)<;>rfl
theorem On(n:Nat)(c:UInt8):oK n (c.toNat:Int)=some (tB c.toNat):=by
 unfold oK tB; rw[Ii,yY]; rfl
theorem Oq(n:Nat)(c:UInt8):oM n (c.toNat:Int)=some (KX c.toNat):=by
 unfold oM KX; rw[Ii,yY]; rfl
theorem NG(n:Nat)(x:Int):jH n x=some (tB x):=IV n x
theorem RO(n:Nat)(x:Int):gV n x=some (KX x):=GF n x
def AR(c:UInt8):Bool:=tB c.toNat||(qW c.toNat||KX c.toNat)
theorem Jl(n:Nat)(x:Int):kA n x=some (tB x||(qW x||KX x)):=by
 unfold kA; rw[NG,IW,RO]; cases tB x<;>cases qW x<;>cases KX x<;>rfl
def PZ(i:Nat)(c:UInt8):Bool:=qW c.toNat||(!decide (i=0)&&(tB c.toNat||KX c.toNat))
def Dc(s:List UInt8):Bool:=zF PZ 0 s&&(decide (1≤(s.length:Int))&&decide ((s.length:Int)≤20))
theorem BX(n:Nat)(s:List UInt8)(h:s.length<n)(hn:s.length<4611686018427387904):lV n s=some (Dc s):=by
 unfold lV; rw[vN s PZ (fun i c a=>by
  have b:=bO a; simp only[nN,bG a,z15,Iy,a,z38,z8,Oo,On,Oq,aN (show i<4611686018427387904 by omega),Pq]
  unfold PZ; cases qW (c.toNat:Int)<;>cases decide (i=0)<;>cases tB (c.toNat:Int)<;>cases KX (c.toNat:Int)<;>rfl) (by simp only[nN,aM,z12]) h]
 unfold Dc; by_cases c:zF PZ 0 s=true
 ·rw[z16 c,c]; simp only[z8,yY,z41]
 ·rw[z10 c]; simp only[z84]at c; rw[c]; rfl
theorem LL: ∀(r:List UInt8) (i:Nat),0<i→zF PZ i r=r.all AR
 | [],i,h=>rfl
 | c::r,i,h=>by
  have e:PZ i c=AR c:=by
   unfold PZ AR; rw[z13 (by omega)]
   cases qW (c.toNat:Int)<;>cases tB (c.toNat:Int)<;>cases KX (c.toNat:Int)<;>rfl
  simp only[zF,z87,LL r (i+1) (by omega),e]
theorem Bh(n:Nat)(s:List UInt8)(h:s.length<n)(hn:s.length<4611686018427387904):pC n s=some (Dc s):=by
 unfold pC; rw[uZ s AR (fun i c b=>by
  have k:=bO b; simp only[qD,bG b,z15,Iy,b,z38,z8,Jl,aN (show i<4611686018427387904 by omega)]
  unfold AR; cases tB (c.toNat:Int)<;>cases qW (c.toNat:Int)<;>cases KX (c.toNat:Int)<;>rfl) (by simp only[qD,aM,z12]) h]
 unfold Dc; cases s with
 | nil=>rfl
 | cons c r=>
  have e:zF PZ 0 (c::r)=(qW c.toNat&&r.all AR):=by
   simp only[zF,z32,LL r 1 (by omega)]
   unfold PZ; rw[z20 rfl]; cases qW (c.toNat:Int)<;>rfl
  have f:(c::r).all AR=(AR c&&r.all AR):=z87; have j:ixs (c::r) (0:Int)=some (c.toNat:Int):=rfl; have g:qW c.toNat=true→AR c=true:=fun h=>by unfold AR; rw[h]; cases tB (c.toNat:Int)<;>rfl
  rw[e,f]; generalize r.all AR=q; by_cases a:(AR c&&q)=true
  ·rw[z16 a]
   simp only[z8,Cs,j,IW]; have d:q=true:=by cases q with | true=>rfl | false=>simp at a
   subst d; cases decide (1≤((c::r).length:Int))<;>cases decide (((c::r).length:Int)≤20)<;>cases qW (c.toNat:Int)<;>rfl
  ·rw[z10 a]
   cases hl:qW (c.toNat:Int)with
   | false=>rfl
   | true=>
    rw[g hl]at a; cases q with
    | true=>simp at a
    | false=>rfl
def jP(s:List UInt8):Bool:=Cj s&&(!decide (s=[99,97,115,101])&&(!decide (s=[111,102])&& !decide (s=[101,110,100])))
theorem Ck(n:Nat)(s:List UInt8)(h:s.length<n)(hn:s.length<4611686018427387904):gL n s=some (jP s):=by
 unfold gL jP; rw[HY n s h hn,z8]; generalize decide (s=[99,97,115,101])=a; generalize decide (s=[111,102])=b; generalize decide (s=[101,110,100])=c; cases Cj s<;>cases a<;>cases b<;>cases c<;>rfl
theorem Fh(n:Nat)(s:List UInt8)(h:s.length<n)(hn:s.length<4611686018427387904):iN n s=some (jP s):=by
 unfold iN jP nM; rw[HT n s h hn,z8]; generalize decide (s=[99,97,115,101])=a; generalize decide (s=[111,102])=b; generalize decide (s=[101,110,100])=c; cases Cj s<;>cases a<;>cases b<;>cases c<;>rfl
def SQ(s:List UInt8):Bool:=decide (s=[43])||(decide (s=[45])||(decide (s=[42])||(decide (s=[61,61])||decide (s=[60]))))
theorem VY(n:Nat)(s:List UInt8):tE n s=some (SQ s):=by
 unfold tE SQ; generalize decide (s=[43])=a; generalize decide (s=[45])=b; generalize decide (s=[42])=c; generalize decide (s=[61,61])=d; generalize decide (s=[60])=e; cases a<;>cases b<;>cases c<;>cases d<;>cases e<;>rfl
theorem VW(n:Nat)(s:List UInt8):tD n s=some (SQ s):=by
 unfold tD SQ; generalize decide (s=[43])=a; generalize decide (s=[45])=b; generalize decide (s=[42])=c; generalize decide (s=[61,61])=d; generalize decide (s=[60])=e; cases a<;>cases b<;>cases c<;>cases d<;>cases e<;>rfl

theorem OD(n:Nat)(l:List (List UInt8))(s:List UInt8)(hn:l.length<n)(c:n<4611686018427387904):eV n l s=some (Hy (fun a=>decide (s=a)) 0 l):=by
 unfold eV; have e:=BS (body:=eQ n l s) l (fun a=>decide (s=a)) (fun i=>(i:Int)) (fun i=>Sum.inl (i:Int)) (Sum.inr ((l.length:Int),false)) (fun i a b=>by
  have d:=bO b; simp only[eQ,bG b,z15,bB,b,z8,aN (show i<4611686018427387904 by omega)]
  cases decide (s=a)<;>rfl) (by simp only[eQ,aM,z12]) hn
 refine(congrArg (fun q=>Option.bind q _) e).trans ?_
 rcases sC (fun a=>decide (s=a)) l 0 with⟨h,_⟩ | ⟨k,a,h,_⟩
 ·rw[h]; rfl
 ·rw[h,z13 (by omega)]
  simp only[z8,z12,z39]
theorem vW(n:Nat)(l:List (List UInt8))(s:List UInt8)(hn:l.length<n)(c:n<4611686018427387904):cB n l s=some (decide (s∈l)):=by
 unfold cB; rw[OD n l s hn c]; simp only[z8,z9]; rcases sC (fun a=>decide (s=a)) l 0 with⟨h,h1⟩ | ⟨k,a,h,h1,b,_⟩
 ·rw[h,z13 (by omega),z13 (fun d=>by have:=h1 s d; simp at this)]
 ·simp only[z31]at b
  subst b; rw[h,z20 (by omega),z20 (z18 h1)]
def GR(l:List (List UInt8)):Bool:=zF (fun i a=> !(decide (a∈l.take i))) 0 l
theorem So(l:List (List UInt8)):GR l=true↔l.Nodup:=by
 unfold GR; rw[EO,List.Nodup,List.pairwise_iff_getElem]; constructor
 ·intro h i j d b f e
  have:=h j l[j] (z11 b)
  simp only[z32,z34,z35]at this; exact this (by rw[←e]; exact z95.2 ⟨i,by omega,rfl⟩)
 ·intro h j a c
  simp only[z32,z34,z35]; intro g; obtain⟨i,d,e⟩:=z95.1 g; obtain⟨b,rfl⟩:=z63.1 c
  exact h i j (by omega) b (by omega) e
theorem YD{α:Type}{l:List α}{i:Nat}(h:i≤l.length):sub l none (some (i:Int))=some (l.take i):=by
 unfold sub bnd; rw[z16 ⟨by simp,by simp only[Option.getD_none,z69]; omega,by simp only[z69]; omega⟩]
 simp
theorem EG(n:Nat)(l:List (List UInt8))(s:List UInt8)(hn:l.length<n)(f:n<4611686018427387904):kF n l s=some (decide (s∈l)):=by
 unfold kF; have e:=BS (body:=mU n l s) l (fun a=>decide (a=s)) (fun i=>(i:Int)) (fun i=>Sum.inl true) (Sum.inr ((l.length:Int),false)) (fun i a b=>by
  have g:=bO b; simp only[mU,bG b,z15,bB,b,z8,aN (show i<4611686018427387904 by omega)]
  cases decide (a=s)<;>rfl) (by simp only[mU,aM,z12]) hn
 refine(congrArg (fun q=>Option.bind q _) e).trans ?_
 rcases sC (fun a=>decide (a=s)) l 0 with⟨h,h1⟩ | ⟨k,a,h,h1,c,_⟩
 ·rw[h,z20 (show(-1:Int)<0 by omega),z13 (show ¬ s∈l from fun d=>by have:=h1 s d; simp at this)]; rfl
 ·simp only[z31]at c
  subst c; rw[h,z13 (by omega),z20 (z18 h1)]
  rfl
theorem Kx(n:Nat)(l:List (List UInt8))(hn:l.length<n)(c:n<4611686018427387904):nD n l=some (GR l):=by
 unfold nD; rw[vN l (fun i a=> !(decide (a∈l.take i))) (fun i a b=>by
  have d:=bO b; simp only[oP,bG b,z15,bB,b,z8,aN (show i<4611686018427387904 by omega),YD (show i≤l.length by omega),EG n (l.take i) a (by rw[z49]; omega) c]
  cases decide (a∈l.take i)<;>rfl) (by simp only[oP,aM,z12]) hn]
 unfold GR; cases zF (fun i a=> !(decide (a∈l.take i))) 0 l<;>rfl
def HP(k m:Int)(s:List UInt8)(a:Int):Bool:=
 bif decide (k=1)then(decide (0≤m)&&decide (m≤1000000000000))&&(decide (s=[])&&decide (a=0))
 else bif decide (k=2)then decide (m=0)&&(jP s&&decide (a=0))
 else bif decide (k=3)then decide (m=0)&&(Dc s&&decide (a=0))
 else bif decide (k=4)then decide (m=0)&&(decide (s=[])&&decide (a≤20))
 else bif decide (k=5)then decide (m=0)&&(decide (s=[])&&decide (a≤20))
 else bif decide (k=6)then decide (m=0)&&(decide (s=[])&&(decide (2≤a)&&decide (a≤6)))
 else bif decide (k=7)then decide (m=0)&&(SQ s&&decide (a=2))
 else bif decide (k=8)then decide (m=0)&&(jP s&&decide (a≤4))
 else bif decide (k=9)then decide (m=0)&&(decide (s=[])&&decide (a=1))
 else false
theorem IH(n:Nat)(k m:Int)(s:List UInt8)(a:Int)(h:s.length<n)(hn:s.length<4611686018427387904):lW n k m s a=some (HP k m s a):=by
 unfold lW HP; rw[Ck n s h hn,Bh n s h hn,VY n s]; simp only[Cs,z8]; cases decide (k=1)with
 | true=>cases decide (0≤m)<;>cases decide (m≤1000000000000)<;>cases decide (s=[])<;>rfl
 | false=>
 cases decide (k=2)with
 | true=>cases decide (m=0)<;>cases jP s<;>rfl
 | false=>
 cases decide (k=3)with
 | true=>cases decide (m=0)<;>cases Dc s<;>rfl
 | false=>
 cases decide (k=4)with
 | true=>cases decide (m=0)<;>cases decide (s=[])<;>rfl
 | false=>
 cases decide (k=5)with
 | true=>cases decide (m=0)<;>cases decide (s=[])<;>rfl
 | false=>
 cases decide (k=6)with
 | true=>cases decide (m=0)<;>cases decide (s=[])<;>rfl
 | false=>
 cases decide (k=7)with
 | true=>cases decide (m=0)<;>cases SQ s<;>rfl
 | false=>
 cases decide (k=8)with
 | true=>cases decide (m=0)<;>cases jP s<;>rfl
 | false=>
 cases decide (k=9)with
 | true=>cases decide (m=0)<;>cases decide (s=[])<;>rfl
 | false=>rfl
def shp(a:Bool)(k m:Int)(s:List UInt8)(c b:Int):Bool:=
 bif decide (k=9)then(!a&&HP k m s c)&&(decide (1≤b)&&decide (b≤6))
 else !decide (0<b)&&(HP k m s c&&(bif a then !decide (6<k)else !(decide (k=3)&&decide (s=[95]))))
theorem Om(n:Nat)(k m:Int)(s:List UInt8)(l:List aB)(c:List aA)(a:Bool)(h:s.length<n)(hn:s.length<4611686018427387904):oJ n k m s l c a=some (shp a k m s l.length c.length):=by
 unfold oJ shp HP; rw[Fh n s h hn,BX n s h hn,VW n s]; simp only[yY,z8]; generalize (l.length:Int)=ne; generalize (c.length:Int)=nc; by_cases h1:k=1
 ·subst h1
  cases decide (0<nc)<;>cases decide (0≤m)<;>cases decide (m≤1000000000000)<;>cases decide (s=[])<;>cases decide (ne=0)<;>cases a<;>rfl
 by_cases b:k=2
 ·subst b
  cases decide (0<nc)<;>cases decide (m=0)<;>cases jP s<;>cases decide (ne=0)<;>cases a<;>rfl
 by_cases d:k=3
 ·subst d
  cases decide (0<nc)<;>cases decide (m=0)<;>cases Dc s<;>cases decide (ne=0)<;>cases a<;>cases decide (s=[95])<;>rfl
 by_cases e:k=4
 ·subst e
  cases decide (0<nc)<;>cases decide (m=0)<;>cases decide (s=[])<;>cases decide (ne≤20)<;>cases a<;>rfl
 by_cases f:k=5
 ·subst f
  cases decide (0<nc)<;>cases decide (m=0)<;>cases decide (s=[])<;>cases decide (ne≤20)<;>cases a<;>rfl
 by_cases g:k=6
 ·subst g
  cases decide (0<nc)<;>cases decide (m=0)<;>cases decide (s=[])<;>cases decide (2≤ne)<;>cases decide (ne≤6)<;>cases a<;>rfl
 by_cases i:k=7
 ·subst i
  cases decide (0<nc)<;>cases decide (m=0)<;>cases SQ s<;>cases decide (ne=2)<;>cases a<;>rfl
 by_cases j:k=8
 ·subst j
  cases decide (0<nc)<;>cases decide (m=0)<;>cases jP s<;>cases decide (ne≤4)<;>cases a<;>rfl
 by_cases o:k=9
 ·subst o
  cases decide (m=0)<;>cases decide (s=[])<;>cases decide (ne=1)<;>cases decide (1≤nc)<;>cases decide (nc≤6)<;>cases a<;>rfl
 rw[z13 h1,z13 b,z13 d,z13 e,z13 f,z13 g,z13 i,z13 j,z13 o]; cases decide (0<nc)<;>cases decide (m=0)<;>rfl
theorem Sh(k m:Int)(s:List UInt8)(d c:Int):(HP k m s d&&(!(decide (k=3)&&decide (s=[95]))&&(!(!(decide (k=9) == decide (0<c)))&& !decide (6<c))))=shp false k m s d c:=by
 unfold shp; by_cases e:k=9
 ·subst e
  by_cases a:0<c
  ·rw[z20 a,z20 (show(1:Int)≤c by omega)]
   by_cases b:6<c
   ·rw[z20 b,z13 (show ¬ c≤6 by omega)]; cases HP 9 m s d<;>rfl
   ·rw[z13 b,z20 (show c≤6 by omega)]; cases HP 9 m s d<;>rfl
  ·rw[z13 a,z13 (show ¬ (1:Int)≤c by omega)]
   cases HP 9 m s d<;>rfl
 ·rw[z13 e]
  by_cases a:0<c
  ·rw[z20 a]; cases HP k m s d<;>cases (decide (k=3)&&decide (s=[95]))<;>rfl
  ·rw[z13 a,z13 (show ¬ 6<c by omega)]
   cases HP k m s d<;>cases (decide (k=3)&&decide (s=[95]))<;>rfl
theorem Uv(k m:Int)(s:List UInt8)(b a:Int):(!decide (6<k)&&(!decide (0<a)&&HP k m s b))=shp true k m s b a:=by
 unfold shp; by_cases c:k=9
 ·subst c; rfl
 ·rw[z13 c]
  cases decide (6<k)<;>cases decide (0<a)<;>cases HP k m s b<;>rfl

mutual
def nW:aB→List (List UInt8)
 | .mk k _ s l _=>bif decide (k=3)then(bif decide (s=[95])then []else [s])else jG l
def jG:List aB→List (List UInt8)
 | []=> []
 | x::r=>nW x++jG r
end
theorem Ph(a:aB):nW a=bif decide (a.f0=3)then(bif decide (a.f2=[95])then []else [a.f2])else jG a.f3:=by cases a; simp only[nW]; rfl
theorem FS: ∀(a b:List aB),jG (a++b)=jG a++jG b
 | [],b=>rfl
 | x::r,b=>by simp only[z83,jG,FS r b,z74]
theorem Kc(a:aB):jG [a]=nW a:=by simp only[jG,z89]
mutual
theorem EC: ∀e,(nW e).length≤aR e
 | .mk k m s l c=>by
  have:=BK l; simp only[nW,aR]; cases decide (k=3)<;>cases decide (s=[95])<;>simp<;>omega
theorem BK: ∀l,(jG l).length≤nV l
 | []=>by simp [jG]
 | x::r=>by have:=EC x; have:=BK r; simp only[jG,nV,z28]; omega
end
mutual
def jR:aB→Nat
 | .mk _ _ _ l c=>1+oO l+Ld c
def oO:List aB→Nat
 | []=>0
 | x::r=>jR x+oO r
def Ld:List aA→Nat
 | []=>0
 | x::r=>Jh x+Ld r
def Jh:aA→Nat
 | .two p x=>jR p+jR x
end
theorem Mf(a:aB):jR a=1+oO a.f3+Ld a.f4:=by cases a; simp only[jR]; rfl
theorem Tx(a:aA):Jh a=jR a.p+jR a.x:=by cases a; simp only[Jh]; rfl
theorem FR: ∀l,oO l=iC jR l
 | []=>rfl
 | x::r=>by simp only[oO,iC,FR r]
theorem Fo: ∀l,Ld l=iC Jh l
 | []=>rfl
 | x::r=>by simp only[Ld,iC,Fo r]
def xok:Nat→Bool→aB→Bool
 | 0,_,_=>false
 | d+1,a,e=>shp a e.f0 e.f1 e.f2 e.f3.length e.f4.length&&(e.f3.all (xok d a)&&e.f4.all (fun c=>GR (nW c.p)&&(xok d true c.p&&xok d false c.x)))
def cok(d:Nat)(c:aA):Bool:=GR (nW c.p)&&(xok d true c.p&&xok d false c.x)
theorem JB(d:Nat)(a:Bool)(e:aB):xok (d+1) a e=(shp a e.f0 e.f1 e.f2 e.f3.length e.f4.length&&(e.f3.all (xok d a)&&e.f4.all (cok d))):=rfl
def Dx(e:aB):Bool:=xok 10 false e&&decide ((jR e:Int)≤300)
def tk(b:Bool)(c:Nat)(t:Int):Int:=bif b&&decide ((c:Int)≤t)then t - c else -1
theorem YB(b:Bool)(c:Nat){t:Int}(h:t<c):tk b c t= -1:=by
 unfold tk; rw[z13 (by omega),z80]; rfl
theorem UQ(b:Bool)(c:Nat)(t:Int)(h: -1≤t): -1≤tk b c t∧tk b c t≤t:=by
 unfold tk; by_cases q:(b&&decide ((c:Int)≤t))=true
 ·rw[q]
  simp only[z7,z31]at q; simp only[z15]; omega
 ·rw[z84]at q; rw[q]; simp only[z12]; omega
def Pa{α:Type}(b:α→Bool)(c:α→Nat):List α→Int→Int
 | [],t=>t
 | a::r,t=>bif decide (0≤t)then Pa b c r (tk (b a) (c a) t)else t
theorem JH{α:Type}(b:α→Bool)(c:α→Nat): ∀(l:List α) {t:Int},t<0→Pa b c l t=t
 | [],t,h=>rfl
 | a::r,t,h=>by unfold Pa; rw[z13 (by omega)]; rfl
theorem MN{α:Type}(b:α→Bool)(c:α→Nat): ∀(l:List α) {t:Int},0≤t→Pa b c l t=tk (l.all b) (iC c l) t
 | [],t,h=>by
  unfold Pa tk; rw[z20 (show((iC c []:Nat):Int)≤t by simp only[iC]; omega)]
  simp [iC]
 | a::r,t,h=>by
  unfold Pa; rw[z20 h,z15,z87]; have e:iC c (a::r)=c a+iC c r:=rfl; rw[e]; by_cases q:(b a&&decide ((c a:Int)≤t))=true
  ·have d:tk (b a) (c a) t=t - c a:=by unfold tk; rw[q]; rfl
   simp only[z7,z31]at q; rw[d,MN b c r (by omega),q.1,z41]
   unfold tk; by_cases z:((iC c r:Nat):Int)≤t - c a
   ·rw[z20 z,z20 (by omega)]
    cases r.all b
    ·rfl
    ·simp only[SJ,z15]; omega
   ·rw[z13 z,z13 (by omega)]
    cases r.all b<;>rfl
  ·have d:tk (b a) (c a) t= -1:=by unfold tk; rw[z84]at q; rw[q]; rfl
   rw[d,JH b c r (by omega)]
   unfold tk; cases ha:b a with
   | false=>rfl
   | true=>
    rw[ha,z41,z31]at q; rw[z13 (by omega),z80]; rfl
theorem Fb{α ρ:Type}{body:Int×Int→Option ((Int×Int)⊕ρ)}(l:List α)(d:α→Bool)(c:α→Nat)(b:Int→ρ→Prop)(s: ∀(i:Nat) a (t:Int),l[i]? =some a→0≤t→t≤300→body (t,(i:Int))=some (.inl (tk (d a) (c a) t,((i+1:Nat):Int)))∨(∃r,body (t,(i:Int))=some (.inr r)∧b (-1) r∧tk (d a) (c a) t= -1))
  (hn: ∀(i:Nat) (t:Int),t<0→i<l.length→ ∃r,body (t,(i:Int))=some (.inr r)∧b t r)(p: ∀t:Int, ∃r,body (t,(l.length:Int))=some (.inr r)∧b t r): ∀(r:List α) (i:Nat) (t:Int) (n:Nat),l.drop i=r→ -1≤t→t≤300→r.length<n→i≤l.length→ ∃x,loopN body n (t,(i:Int))=some x∧b (Pa d c r t) x
 | [],i,t,n,h,h0,h1,j,y=>by
  obtain⟨m,rfl⟩: ∃m,n=m+1:=⟨n - 1,by simp at j; omega⟩
  have:i=l.length:=by
   have:=congrArg List.length h; simp at this; omega
  subst this; obtain⟨x,f,g⟩:=p t; simp only[loopN,f]; exact⟨x,rfl,g⟩
 | a::r,i,t,n,h,h0,h1,j,y=>by
  obtain⟨m,rfl⟩: ∃m,n=m+1:=⟨n - 1,by simp at j; omega⟩
  have k:i<l.length:=by
   have:=congrArg List.length h; simp at this; omega
  have v:l[i]? =some a:=by
   have:=congrArg (·[0]?) h
   simpa using this
  have o:l.drop (i+1)=r:=by
   have:=congrArg List.tail h; simpa using this
  have e:Pa d c (a::r) t=bif decide (0≤t)then Pa d c r (tk (d a) (c a) t)else t:=rfl
  rw[e]; by_cases q:0≤t
  ·rw[z20 q,z15]
   have w:=UQ (d a) (c a) t h0; rcases s i a t v q h1 with f | ⟨x,f,g,u⟩
   ·simp only[loopN,f]
    exact Fb l d c b s hn p r (i+1) _ m o w.1 (by omega) (by simp at j; omega) (by omega)
   ·simp only[loopN,f]
    rw[u,JH d c r (by omega)]
    exact⟨x,rfl,g⟩
  ·rw[z13 q,z12]
   obtain⟨x,f,g⟩:=hn i t (by omega) k
   simp only[loopN,f]; exact⟨x,rfl,g⟩
theorem zC{α:Type}(w:α→Nat): ∀(l:List α) (i:Nat),dl w (l.take i)≤dl w l
 | [],i=>by simp
 | a::r,0=>by simp only[WA,dl]; omega
 | a::r,i+1=>by have:=zC w r i; simp only[List.take_succ_cons,dl]; omega
theorem EM{α:Type}(w:α→Nat){l:List α}{i:Nat}{a:α}(h:l[i]? =some a):dl w (l.take (i+1))=dl w (l.take i)+1+w a:=by
 rw[←gG h]; generalize l.take i=p; induction p with
 | nil=>simp only[z77,dl]; omega
 | cons b r ih=>simp only[z83,dl,ih]; omega
theorem uJ: ∀(n:Nat),n≤1099511627776→ ∀(a:aB),aR a<n→eW n a.f0 a.f1 a.f2 a.f3 a.f4=some (nW a)
 | 0,_,a,h=>by omega
 | n+1,hn,a,h=>by
  have o:=uJ n (by omega)
  rw[CF,Ph]; unfold pN; rw[nX,bW,bD]at h; have f:=bI aR a.f3; cases decide (a.f0=3)with
  | true=>
   simp only[z15]; have c:sX 16 ([]:List (List UInt8)) [a.f2]=some [a.f2]:=sJ (by simp) (by simp [maxLen])
   rw[c]; cases decide (a.f2=[95])<;>rfl
  | false=>
   simp only[z12]; generalize a.f3=l at h f; have m:=fP (body:=lM n (eW n) l) (fun i=>(jG (l.take i),(i:Int))) (len:=l.length) (r:=(jG l,(l.length:Int),false)) (fun i k=>by
    have d:l[i]? =some l[i]:=z11 k
    generalize l[i]=b at d; have p:=dK aR (z18 d); have e:jG (l.take (i+1))=jG (l.take i)++nW b:=by rw[←gG d,FS,Kc]
    have g:=BK (l.take (i+1)); have j:nV (l.take (i+1))≤dl aR l:=by
     rw[bW]; exact zC aR l (i+1)
    rw[e,z28]at g; have c:sX 16 (jG (l.take i)) (nW b)=some (jG (l.take (i+1))):=by
     rw[e]; exact sJ (by omega) (by simp only[maxLen]; omega)
    simp only[lM,bG d,z15,bB,d,z8,o b (by omega),c,aN (show i<4611686018427387904 by omega)]) (by simp only[lM,aM,z12,z51]) (n:=n) (by omega)
   refine(congrArg (fun q=>Option.bind q _) m).trans ?_
   rfl
def val2:Int⊕(Int×Int×Bool)→Int
 | .inl v=>v
 | .inr (v,_,_)=>v
theorem NZ: ∀(n:Nat),n≤1099511627776→ ∀(a:aB) (f:Bool) (d:Nat) (t:Int),d≤10→ -1≤t→t≤300→aR a<n→dF n a.f0 a.f1 a.f2 a.f3 a.f4 f (d:Int) t=some (tk (xok d f a) (jR a) t)
 | 0,_,a,f,d,t,L,t0,Q,h=>by omega
 | n+1,hn,a,f,d,t,L,t0,Q,h=>by
  have D:=NZ n (by omega)
  rw[CC]; unfold pK; rw[nX,bW,bD]at h; have M:=bI aR a.f3; have B:=bI aS a.f4; rw[Om n a.f0 a.f1 a.f2 a.f3 a.f4 f (by omega) (by omega)]
  have C:=Mf a; cases d with
  | zero=>
   rw[z20 (show((0:Nat):Int)<1 by omega)]
   have e:tk (xok 0 f a) (jR a) t= -1:=rfl; rw[e]; rfl
  | succ d=>
   rw[z13 (show ¬ ((d+1:Nat):Int)<1 by omega)]
   by_cases o:t<1
   ·rw[z20 o,YB _ _ (by omega)]; rfl
   rw[z13 o,JB]; generalize jR a=q at C ⊢; simp only[z12,z8]; cases hs:shp f a.f0 a.f1 a.f2 a.f3.length a.f4.length with
   | false=>rfl
   | true=>
    simp only[z33,z12,z41]; generalize a.f3=l at h M C ⊢; generalize a.f4=c at h B C ⊢; have G:IntKind.wrap .i64 (((d+1:Nat):Int) - 1)=(d:Int):=by rw[wrap_i64 (by omega) (by omega)]; omega
    rw[wrap_i64 (n:=t - 1) (by omega) (by omega)]
    obtain⟨x,h1,H⟩:=Fb (body:=fV n (dF n) f ((d+1:Nat):Int) l) l (xok d f) jR (fun t r=>r.1=t) (fun i b t j E F=>by
     have N:=dK aR (z18 j); have A:=bO j; left
     simp only[fV,bG j,z15,bB,j,z8,z20 E,G,D b f d t (by omega) (by omega) F (by omega),aN (show i<4611686018427387904 by omega)]) (fun i t o A=>⟨(t,(i:Int),false),by
      simp only[fV,z20 (show(i:Int)<(l.length:Int)by omega),z15,z8,z13 (show ¬ 0≤t by omega),z12],rfl⟩) (fun t=>⟨(t,(l.length:Int),false),by simp only[fV,aM,z12,z8],rfl⟩) l 0 (t - 1) n rfl (by omega) (by omega) (by omega) (by omega)
    have h1:loopN (fV n (dF n) f ((d+1:Nat):Int) l) n (t - 1,(0:Int))=some x:=h1; rw[h1]; obtain⟨x1,V,W⟩:=x; simp only at H; subst H; simp only[z8]; rw[MN (xok d f) jR l (by omega), ←FR]
    have j:=UQ (l.all (xok d f)) (oO l) (t - 1) (by omega)
    obtain⟨y,u,I⟩:=Fb (body:=fU n (dF n) ((d+1:Nat):Int) c) c (cok d) Jh (fun t r=>val2 r=t) (fun i b t m E F=>by
     have N:=dK aS (z18 m); have A:=bO m; have U:=jM b; have R:eW n b.f0 b.f1 b.f2 b.f3 b.f4=some (nW b.p):=uJ n (by omega) b.p (by omega)
     have P:=EC b.p; have S:dF n b.f0 b.f1 b.f2 b.f3 b.f4 true (d:Int) t=some (tk (xok d true b.p) (jR b.p) t):=D b.p true d t (by omega) (by omega) F (by omega)
     have w:=UQ (xok d true b.p) (jR b.p) t (by omega)
     have T:dF n b.f5 b.f6 b.f7 b.f8 b.f9 false (d:Int) (tk (xok d true b.p) (jR b.p) t)=some (tk (xok d false b.x) (jR b.x) (tk (xok d true b.p) (jR b.p) t)):=D b.x false d _ (by omega) w.1 (by omega) (by omega)
     have K:=Tx b; have O:=Mf b.p; unfold cok; simp only[fU,bG m,z15,bB,m,z8,z20 E,R,Kx n (nW b.p) (by omega) (by omega),G,S,T,aN (show i<4611686018427387904 by omega)]
     cases ho:GR (nW b.p)with
     | false=>
      right
      exact⟨.inl (-1),rfl,rfl,by unfold tk; rfl⟩
     | true=>
      left
      simp only[z33,z12,z41]; by_cases g:0≤tk (xok d true b.p) (jR b.p) t
      ·rw[z20 g]
       simp only[z15,z8,z9,Sum.inl.injEq,z40,and_true]; unfold tk at g ⊢; cases hx:xok d true b.p with
       | false=>rw[hx]at g; simp at g
       | true=>
        rw[hx,z41]at g; simp only[z41]; by_cases z:(jR b.p:Int)≤t
        ·rw[z20 z,z15]
         by_cases k:(jR b.x:Int)≤t - jR b.p
         ·rw[z20 k,z20 (show(Jh b:Int)≤t by omega)]
          cases xok d false b.x
          ·rfl
          ·simp only[SJ,z15]; omega
         ·rw[z13 k,z13 (show ¬ (Jh b:Int)≤t by omega)]
          cases xok d false b.x<;>rfl
        ·rw[z13 z]at g; simp at g
      ·rw[z13 g]
       have s:tk (xok d true b.p) (jR b.p) t= -1:=by omega
       simp only[z12,z8,z9,Sum.inl.injEq,z40,and_true]; rw[s]; unfold tk at g ⊢; cases hx:xok d true b.p with
       | false=>rfl
       | true=>
        rw[hx,z41]at g; by_cases z:(jR b.p:Int)≤t
        ·rw[z20 z,z15]at g; omega
        ·rw[z13 (show ¬ (Jh b:Int)≤t by omega),z80]; rfl) (fun i t o A=>⟨.inr (t,(i:Int),false),by
      simp only[fU,z20 (show(i:Int)<(c.length:Int)by omega),z15,z8,z13 (show ¬ 0≤t by omega),z12],rfl⟩) (fun t=>⟨.inr (t,(c.length:Int),false),by simp only[fU,aM,z12,z8],rfl⟩) c 0 (tk (l.all (xok d f)) (oO l) (t - 1)) n rfl j.1 (by omega) (by omega) (by omega)
    have u:loopN (fU n (dF n) ((d+1:Nat):Int) c) n (tk (l.all (xok d f)) (oO l) (t - 1),(0:Int))=some y:=u; rw[u]; simp only[z8]; have J:some (val2 y)=some (tk (l.all (xok d f)&&c.all (cok d)) q t):=by
     rw[I]; congr 1
     by_cases g:0≤tk (l.all (xok d f)) (oO l) (t - 1)
     ·rw[MN (cok d) Jh c g, ←Fo]
      unfold tk at g ⊢; cases hx:l.all (xok d f)with
      | false=>rw[hx]at g; simp at g
      | true=>
       rw[hx,z41]at g; simp only[z41]; by_cases z:(oO l:Int)≤t - 1
       ·rw[z20 z,z15]
        by_cases k:(Ld c:Int)≤t - 1 - oO l
        ·rw[z20 k,z20 (show(q:Int)≤t by omega)]
         cases c.all (cok d)
         ·rfl
         ·simp only[SJ,z15]; omega
        ·rw[z13 k,z13 (show ¬ (q:Int)≤t by omega)]
         cases c.all (cok d)<;>rfl
       ·rw[z13 z]at g; simp at g
     ·have s:tk (l.all (xok d f)) (oO l) (t - 1)= -1:=by omega
      rw[s,JH _ _ _ (by omega)]
      unfold tk at g ⊢; cases hx:l.all (xok d f)with
      | false=>rfl
      | true=>
       rw[hx,z41]at g; by_cases z:(oO l:Int)≤t - 1
       ·rw[z20 z,z15]at g; omega
       ·rw[z13 (show ¬ (q:Int)≤t by omega),z80]; rfl
    rw[←J]; rcases y with v | ⟨v,i,b⟩<;>rfl
def fr:List (List UInt8)→List (List UInt8)→Bool
 | _,[]=>true
 | P,v::r=> !decide (v∈P)&&fr (P++[v]) r
theorem Ts: ∀(V W P:List (List UInt8)),fr P (V++W)=(fr P V&&fr (P++V) W)
 | [],W,P=>by simp [fr]
 | v::V,W,P=>by
  simp only[z83,fr,Ts V W (P++[v]),z74,z160,z77]
theorem Ps: ∀(V P:List (List UInt8)),P.Nodup→(fr P V=true↔(P++V).Nodup)
 | [],P,h=>by simp [fr,h]
 | v::V,P,h=>by
  simp only[fr,z7,z34,z35]; have e:P++v::V=(P++[v])++V:=by simp
  constructor
  ·rintro ⟨h1,c⟩
   have hn:(P++[v]).Nodup:=by
    rw[z150]; exact⟨h,by simp,fun a f b d=>by simp only[z58]at d; subst d; exact fun e=>h1 (e ▸ f)⟩
   rw[e]; exact(Ps V _ hn).1 c
  ·intro c
   rw[e]at c; have hn:=(z150.1 c).1; refine⟨fun g=> ?_,(Ps V _ hn).2 c⟩
   exact(z150.1 hn).2.2 v g v (by simp) rfl
theorem YZ(V:List (List UInt8)):fr [] V=GR V:=by
 rw[UF,Ps V [] Xd,So]; simp

mutual
theorem Nd: ∀e,(nW e).length≤jR e
 | .mk k m s l c=>by
  have:=Kd l; simp only[nW,jR]; cases decide (k=3)<;>cases decide (s=[95])<;>simp<;>omega
theorem Kd: ∀l,(jG l).length≤oO l
 | []=>by simp [jG]
 | x::r=>by have:=Nd x; have:=Kd r; simp only[jG,oO,z28]; omega
end
abbrev JS:=Int×List (List UInt8)
def OZ(d:Nat)(t:JS)(a:aB):JS⊕Unit:=bif xok d true a&&(decide (t.1+jR a≤300)&&fr t.2 (nW a))then .inl (t.1+jR a,t.2++nW a)else .inr ()
theorem LA(d:Nat): ∀(l:List aB) (t:JS),t.1≤300→yR (OZ d) l t=bif l.all (xok d true)&&(decide (t.1+oO l≤300)&&fr t.2 (jG l))then .inl (t.1+oO l,t.2++jG l)else .inr ()
 | [],t,h=>by
  have e:decide (t.1+((oO []:Nat):Int)≤300)=true:=z20 (by simp only[oO]; omega)
  rw[e]; simp [yR,jG,fr,oO]
 | a::r,t,h=>by
  simp only[yR]; have c:oO (a::r)=jR a+oO r:=by simp only[oO]
  have f:jG (a::r)=nW a++jG r:=by simp only[jG]
  rw[c,f,Ts,z87]; by_cases q:(xok d true a&&(decide (t.1+jR a≤300)&&fr t.2 (nW a)))=true
  ·have b:OZ d t a= .inl (t.1+jR a,t.2++nW a):=by unfold OZ; rw[q]; rfl
   simp only[z7,z31]at q; obtain⟨g,i,j⟩:=q; rw[b,g,j,z41,z41]; simp only; rw[LA d r _ i]; simp only; rw[show t.1+((jR a+oO r:Nat):Int)=t.1+jR a+oO r by omega,z74]
  ·have b:OZ d t a= .inr ():=by unfold OZ; rw[z84]at q; rw[q]; rfl
   rw[b]; simp only; cases h1:xok d true a with
   | false=>rfl
   | true=>
    rw[h1,z41]at q; cases h3:fr t.2 (nW a)with
    | false=>cases r.all (xok d true)<;>simp
    | true=>
     rw[h3,SJ,z31]at q; rw[z13 (show ¬ t.1+((jR a+oO r:Nat):Int)≤300 by omega)]
     cases r.all (xok d true)<;>rfl
def jv:(Bool×Int×List (List UInt8))⊕(Int×Bool×Int×List (List UInt8))→Option (Bool×Int×List (List UInt8))
 | .inl (v,w,z)=>some (v,w,z)
 | .inr (_,_,w,z)=>some (true,w,z)
def pJ(b:Bool)(c:Int)(a:List (List UInt8))(r:Bool×Int×List (List UInt8)):Prop:=r.1=b∧(b=true→r.2=(c,a))
theorem Dk: ∀(n:Nat),n≤1099511627776→ ∀(a:aB) (d:Nat) (c:Int) (g:List (List UInt8)),d≤10→0≤c→c≤300→(g.length:Int)≤c→aR a+400<n→ ∃r,cQ n a.f0 a.f1 a.f2 a.f3 a.f4 (11 - (d:Int)) c g=some r∧pJ (xok d true a&&(decide (c+jR a≤300)&&fr g (nW a))) (c+jR a) (g++nW a) r
 | 0,_,a,d,c,g,Z,Q,R,M,h=>by omega
 | n+1,hn,a,d,c,g,Z,Q,R,M,h=>by
  have ih:=Dk n (by omega)
  rw[yO]; unfold lJ; rw[nX,bW,bD]at h; have hl:=bI aR a.f3; have hp:=Mf a; have A:=Ph a; rw[IH n _ _ _ _ (by omega) (by omega),wrap_i64 (n:=c+1) (by omega) (by omega)]
  cases d with
  | zero=>
   rw[z20 (show(10:Int)<11 - ((0:Nat):Int)by omega)]
   exact⟨_,rfl,rfl,fun h=>by cases h⟩
  | succ d=>
   rw[z13 (show ¬ (10:Int)<11 - ((d+1:Nat):Int)by omega),JB]
   by_cases y:300<c+1
   ·rw[z20 y,z13 (show ¬ c+(jR a:Int)≤300 by omega)]
    refine⟨_,rfl, ?_, ?_⟩<;>cases shp true a.f0 a.f1 a.f2 a.f3.length a.f4.length<;>cases (a.f3.all (xok d true)&&a.f4.all (cok d))<;>simp
   rw[z13 y]; have j:=Uv a.f0 a.f1 a.f2 a.f3.length a.f4.length; cases F:shp true a.f0 a.f1 a.f2 a.f3.length a.f4.length with
   | false=>
    rw[F]at j; refine⟨(false,c+1,g), ?_,rfl,fun h=>by cases h⟩
    revert j
    cases decide (6<a.f0)<;>cases decide ((0:Int)<a.f4.length)<;>cases HP a.f0 a.f1 a.f2 a.f3.length<;>intro j<;>first | rfl | cases j
   | true=>
    rw[F]at j; simp only[z7,z34]at j; obtain⟨p1,G,D⟩:=j; have B:a.f4=[]:=by
     rw[z35]at G; cases m:a.f4 with
     | nil=>rfl
     | cons x r=>rw[m]at G; simp only[z36]at G; omega
    rw[p1,G,D]; have J:a.f4.all (cok d)=true:=by rw[B]; rfl
    have Y:Ld a.f4=0:=by rw[B]; rfl
    rw[J,SJ]; simp only[z12,z8,z33,z41]; generalize jR a=q at hp ⊢; have H:IntKind.wrap .i64 (11 - ((d+1:Nat):Int)+1)=11 - (d:Int):=by rw[wrap_i64 (by omega) (by omega)]; omega
    have o: ∀(l:List aB),dl aR l+401≤n→ ∀(body:Int×Int×List (List UInt8)→Option ((Int×Int×List (List UInt8))⊕((Bool×Int×List (List UInt8))⊕(Int×Bool×Int×List (List UInt8))))),(∀(i:Nat) b (t:JS),l[i]? =some b→body ((i:Int),t.1,t.2)=(cQ n b.f0 b.f1 b.f2 b.f3 b.f4 (11 - (d:Int)) t.1 t.2).bind fun r=>bif !r.1 then some (.inr (.inl (false,r.2.1,r.2.2)))else some (.inl (((i+1:Nat):Int),r.2.1,r.2.2)))→(∀t:JS,body ((l.length:Int),t.1,t.2)=some (.inr (.inr ((l.length:Int),false,t.1,t.2))))→
      ∀t0:JS,0≤t0.1→t0.1≤300→(t0.2.length:Int)≤t0.1→ ∃x,loopN body n ((0:Int),t0.1,t0.2)=some x∧(match yR (OZ d) l t0 with | .inl t=>x= .inr ((l.length:Int),false,t.1,t.2) | .inr _=> ∃u v,x= .inl (false,u,v)):=by
     intro l hw body F he t0 g0 W X; have hll:=bI aR l; obtain⟨x,x1,s⟩:=IP (body:=body) l (OZ d) (fun t i=>((i:Int),t.1,t.2)) (fun t=> .inr ((l.length:Int),false,t.1,t.2)) (fun _ x=> ∃u v,x= .inl (false,u,v)) (fun t=>0≤t.1∧t.1≤300∧(t.2.length:Int)≤t.1) (fun i b t k y=>by
      have K:=dK aR (z18 k); obtain⟨r,r1,r2,O⟩:=ih b d t.1 t.2 (by omega) y.1 y.2.1 y.2.2 (by omega)
      rw[F i b t k,r1]; unfold OZ; obtain⟨rb,rc,rn⟩:=r; simp only at r2 O; simp only[z8]; rw[r2]; by_cases hz:(xok d true b&&(decide (t.1+jR b≤300)&&fr t.2 (nW b)))=true
      ·left
       have P:=O hz; simp only[z40]at P; obtain⟨rfl,rfl⟩:=P; rw[hz]; simp only[z7,z31]at hz; have hvc:=Nd b; refine⟨_,rfl,⟨?_,hz.2.1, ?_⟩,rfl⟩
       ·show 0≤t.1+(jR b:Int); omega
       ·show((t.2++nW b).length:Int)≤t.1+(jR b:Int)
        rw[z28]; omega
      ·right
       rw[z84]at hz; rw[hz]; exact⟨(),_,rfl,rfl,_,_,rfl⟩) (fun t _=>he t) (n:=n) (by omega) (t0:=t0) ⟨g0,W,X⟩
     refine⟨x,x1, ?_⟩
     revert s
     cases yR (OZ d) l t0<;>exact id
    have p: ∀(t0:JS) (x:(Bool×Int×List (List UInt8))⊕(Int×Bool×Int×List (List UInt8))),t0.1=c+1→(match yR (OZ d) a.f3 t0 with | .inl t=>x= .inr ((a.f3.length:Int),false,t.1,t.2) | .inr _=> ∃u v,x= .inl (false,u,v))→
      ∃r,jv x=some r∧pJ (a.f3.all (xok d true)&&(decide (c+(q:Int)≤300)&&fr t0.2 (jG a.f3))) (c+q) (t0.2++jG a.f3) r:=by
     intro t0 x S m; rw[LA d a.f3 t0 (by omega),S,show c+1+(oO a.f3:Int)=c+q by omega]at m
     cases hz:(a.f3.all (xok d true)&&(decide (c+(q:Int)≤300)&&fr t0.2 (jG a.f3)))with
     | true=>
      rw[hz]at m; simp only[z15]at m; subst m; exact⟨_,rfl,rfl,fun _=>rfl⟩
     | false=>
      rw[hz]at m; simp only[z12]at m; obtain⟨u,v,rfl⟩:=m; exact⟨_,rfl,rfl,fun h=>by cases h⟩
    by_cases E:a.f0=3
    ·have L:a.f3=[]:=by
      rw[E]at D; have e:HP 3 a.f1 a.f2 a.f3.length=(decide (a.f1=0)&&(Dc a.f2&&decide ((a.f3.length:Int)=0))):=rfl; rw[e]at D; simp only[z7,z31]at D; have:=D.2.2; cases m:a.f3 with
      | nil=>rfl
      | cons x r=>rw[m]at this; simp only[z36]at this; omega
     rw[z20 E]; rw[z20 E]at A; simp only[z15]at A; rw[A]; have C:jG a.f3=[]:=by rw[L]; rfl
     cases hu:decide (a.f2=[95])with
     | true=>
      simp only[z33,z15,z8,z12]; obtain⟨x,x1,s⟩:=o a.f3 (by omega) (dC n (cQ n) (11 - ((d+1:Nat):Int)) a.f3) (fun i b t k=>by
       have N:=bO k; simp only[dC,bG k,z15,bB,k,z8,H,aN (show i<4611686018427387904 by omega)]) (fun t=>by simp only[dC,aM,z12]) (c+1,g) (by show 0≤c+1; omega) (by show c+1≤300; omega) (by show(g.length:Int)≤c+1; omega)
      have f:=p (c+1,g) x rfl s; rw[C]at f; rw[x1]; obtain⟨r,f1,f2⟩:=f; exact⟨r,by rcases x with⟨u,v,w⟩ | ⟨u,v,w,z⟩<;>exact f1,f2⟩
     | false=>
      simp only[UD,z15,z8]; rw[vW n g a.f2 (by omega) (by omega)]
      simp only[z8]; cases K:decide (a.f2∈g)with
      | true=>
       have U:fr g [a.f2]=false:=by simp only[fr,K]; rfl
       have V:(a.f3.all (xok d true)&&(decide (c+(q:Int)≤300)&&fr g [a.f2]))=false:=by rw[U]; cases a.f3.all (xok d true)<;>simp
       rw[z12,V]; exact⟨_,rfl,rfl,fun h=>by cases h⟩
      | false=>
       have I:sX 16 g [a.f2]=some (g++[a.f2]):=sJ (by simp only[z37]; omega) (by simp only[z37,maxLen]; omega)
       rw[I]; simp only[z12,z8]; obtain⟨x,x1,s⟩:=o a.f3 (by omega) (iA n (cQ n) (11 - ((d+1:Nat):Int)) a.f3) (fun i b t k=>by
        have N:=bO k; simp only[iA,bG k,z15,bB,k,z8,H,aN (show i<4611686018427387904 by omega)]) (fun t=>by simp only[iA,aM,z12]) (c+1,g++[a.f2]) (by show 0≤c+1; omega) (by show c+1≤300; omega) (by show((g++[a.f2]).length:Int)≤c+1; rw[z28,z37]; omega)
       have f:=p (c+1,g++[a.f2]) x rfl s; rw[C,z89]at f; have T:fr g [a.f2]=fr (g++[a.f2]) []:=by simp only[fr,K]; rfl
       rw[T,x1]; obtain⟨r,f1,f2⟩:=f; exact⟨r,by rcases x with⟨u,v,w⟩ | ⟨u,v,w,z⟩<;>exact f1,f2⟩
    ·rw[z13 E]at A ⊢
     simp only[z12]at A; rw[A]; simp only[z12,z8]; obtain⟨x,x1,s⟩:=o a.f3 (by omega) (dC n (cQ n) (11 - ((d+1:Nat):Int)) a.f3) (fun i b t k=>by
      have N:=bO k; simp only[dC,bG k,z15,bB,k,z8,H,aN (show i<4611686018427387904 by omega)]) (fun t=>by simp only[dC,aM,z12]) (c+1,g) (by show 0≤c+1; omega) (by show c+1≤300; omega) (by show(g.length:Int)≤c+1; omega)
     have f:=p (c+1,g) x rfl s; rw[x1]; obtain⟨r,f1,f2⟩:=f; exact⟨r,by rcases x with⟨u,v,w⟩ | ⟨u,v,w,z⟩<;>exact f1,f2⟩
mutual
def nmx:aB→List (List UInt8)→List (List UInt8)
 | .mk _ _ _ l c,a=>nmc c (WH l a)
def WH:List aB→List (List UInt8)→List (List UInt8)
 | [],a=>a
 | x::r,a=>WH r (nmx x a)
def nmc:List aA→List (List UInt8)→List (List UInt8)
 | [],a=>a
 | x::r,a=>nmc r (nmk x a)
def nmk:aA→List (List UInt8)→List (List UInt8)
 | .two p x,_=>nmx x (nW p)
end
theorem nmx_e(a:aB)(b:List (List UInt8)):nmx a b=nmc a.f4 (WH a.f3 b):=by cases a; simp only[nmx]; rfl
theorem nmk_e(a:aA)(b:List (List UInt8)):nmk a b=nmx a.x (nW a.p):=by cases a; simp only[nmk]; rfl
def jst{α:Type}(d:α→Bool)(c:α→Nat)(b:α→List (List UInt8)→List (List UInt8))(t:JS)(a:α):JS⊕Unit:=bif d a&&decide (t.1+c a≤300)then .inl (t.1+c a,b a t.2)else .inr ()
def FL{α:Type}(c:α→List (List UInt8)→List (List UInt8)):List α→List (List UInt8)→List (List UInt8)
 | [],b=>b
 | a::r,b=>FL c r (c a b)
theorem Km: ∀(l:List aB) (a:List (List UInt8)),WH l a=FL nmx l a
 | [],a=>rfl
 | x::r,a=>by simp only[WH,FL,Km r]
theorem Nr: ∀(l:List aA) (a:List (List UInt8)),nmc l a=FL nmk l a
 | [],a=>rfl
 | x::r,a=>by simp only[nmc,FL,Nr r]
theorem OA{α:Type}(b:α→Bool)(c:α→Nat)(d:α→List (List UInt8)→List (List UInt8)): ∀(l:List α) (t:JS),t.1≤300→yR (jst b c d) l t=bif l.all b&&decide (t.1+iC c l≤300)then .inl (t.1+iC c l,FL d l t.2)else .inr ()
 | [],t,h=>by
  have e:decide (t.1+((iC c []:Nat):Int)≤300)=true:=z20 (by simp only[iC]; omega)
  rw[e]; simp [yR,iC,FL]
 | a::r,t,h=>by
  simp only[yR]; have g:iC c (a::r)=c a+iC c r:=rfl; rw[g,z87]; by_cases q:(b a&&decide (t.1+c a≤300))=true
  ·have f:jst b c d t a= .inl (t.1+c a,d a t.2):=by unfold jst; rw[q]; rfl
   simp only[z7,z31]at q; rw[f,q.1,z41]; simp only; rw[OA b c d r _ q.2]; simp only; rw[show t.1+((c a+iC c r:Nat):Int)=t.1+c a+iC c r by omega]
   rfl
  ·have f:jst b c d t a= .inr ():=by unfold jst; rw[z84]at q; rw[q]; rfl
   rw[f]; simp only; cases h1:b a with
   | false=>rfl
   | true=>
    rw[h1,z41,z31]at q; rw[z13 (show ¬ t.1+((c a+iC c r:Nat):Int)≤300 by omega)]
    cases r.all b<;>rfl
theorem IQ{α:Type}{body:Int×Int×List (List UInt8)→Option ((Int×Int×List (List UInt8))⊕((Bool×Int×List (List UInt8))⊕(Int×Bool×Int×List (List UInt8))))}(l:List α)(b:α→Bool)(c:α→Nat)(d:α→List (List UInt8)→List (List UInt8))
  (m: ∀(i:Nat) a (t:JS),l[i]? =some a→0≤t.1→t.1≤300→ ∃u v,body ((i:Int),t.1,t.2)=some (bif b a&&decide (t.1+c a≤300)then .inl (((i+1:Nat):Int),t.1+c a,d a t.2)else .inr (.inl (false,u,v))))(k: ∀t:JS,body ((l.length:Int),t.1,t.2)=some (.inr (.inr ((l.length:Int),false,t.1,t.2)))){n:Nat}(hn:l.length<n)
  (t0:JS)(g0:0≤t0.1)(e:t0.1≤300): ∃x,loopN body n ((0:Int),t0.1,t0.2)=some x∧(bif l.all b&&decide (t0.1+iC c l≤300)then x= .inr ((l.length:Int),false,t0.1+iC c l,FL d l t0.2)else ∃u v,x= .inl (false,u,v)):=by
 obtain⟨x,x1,g⟩:=IP (body:=body) l (jst b c d) (fun t i=>((i:Int),t.1,t.2)) (fun t=> .inr ((l.length:Int),false,t.1,t.2)) (fun _ x=> ∃u v,x= .inl (false,u,v)) (fun t=>0≤t.1∧t.1≤300) (fun i a t j f=>by
  obtain⟨u,v,h⟩:=m i a t j f.1 f.2; unfold jst; by_cases z:(b a&&decide (t.1+c a≤300))=true
  ·rw[z]at h ⊢
   simp only[z7,z31]at z; left; exact⟨_,rfl,⟨by show 0≤t.1+(c a:Int); omega,z.2⟩,h⟩
  ·rw[z84]at z
   rw[z]at h ⊢; right; exact⟨(),_,rfl,h,_,_,rfl⟩) (fun t _=>k t) hn (t0:=t0) ⟨g0,e⟩
 refine⟨x,x1, ?_⟩
 rw[OA b c d l t0 e]at g; revert g
 cases (l.all b&&decide (t0.1+iC c l≤300))<;>exact id
theorem Bg: ∀(n:Nat),n≤1099511627776→ ∀(a:aB) (d:Nat) (c:Int) (g:List (List UInt8)),d≤10→0≤c→c≤300→aR a+400<n→ ∃r,bR n a.f0 a.f1 a.f2 a.f3 a.f4 (11 - (d:Int)) c g=some r∧pJ (xok d false a&&decide (c+jR a≤300)) (c+jR a) (nmx a g) r
 | 0,_,a,d,c,g,X,S,T,h=>by omega
 | n+1,hn,a,d,c,g,X,S,T,h=>by
  have J:=Bg n (by omega)
  rw[wP]; unfold jT; rw[nX,bW,bD]at h; have Z:=bI aR a.f3; have C:=bI aS a.f4; have w:=Mf a; rw[IH n _ _ _ _ (by omega) (by omega),wrap_i64 (n:=c+1) (by omega) (by omega)]
  cases d with
  | zero=>
   rw[z20 (show(10:Int)<11 - ((0:Nat):Int)by omega)]
   exact⟨_,rfl,rfl,fun h=>by cases h⟩
  | succ d=>
   rw[z13 (show ¬ (10:Int)<11 - ((d+1:Nat):Int)by omega),JB]
   by_cases I:300<c+1
   ·rw[z20 I,z13 (show ¬ c+(jR a:Int)≤300 by omega),z80]
    exact⟨_,rfl,rfl,fun h=>by cases h⟩
   rw[z13 I]; have e:=Sh a.f0 a.f1 a.f2 a.f3.length a.f4.length; cases hs:shp false a.f0 a.f1 a.f2 a.f3.length a.f4.length with
   | false=>
    rw[hs]at e; refine⟨(false,c+1,g), ?_,rfl,fun h=>by cases h⟩
    generalize decide (a.f2=[95])=z1 at e ⊢; generalize decide ((6:Int)<a.f4.length)=z2 at e ⊢; revert e
    cases HP a.f0 a.f1 a.f2 a.f3.length<;>cases decide (a.f0=3)<;>cases decide (a.f0=9)<;>cases decide ((0:Int)<a.f4.length)<;>cases z1<;>cases z2<;>intro e<;>first | rfl | cases e
   | true=>
    rw[hs]at e; simp only[z7]at e; obtain⟨p1,K,L,M⟩:=e; simp only[Bool.not_not]at L; have D:(bif decide (a.f0=3)then some (decide (a.f2=[95]))else some false)=some false:=by
     generalize decide (a.f2=[95])=z1 at K ⊢; revert K
     cases decide (a.f0=3)<;>cases z1<;>simp
    rw[z34]at M; rw[p1,L,M]; simp only[z12,z8,z33,z41,D]; rw[nmx_e,Nr,Km]; rw[FR,Fo]at w; generalize jR a=q at w ⊢; generalize a.f3=l at h Z w ⊢; generalize a.f4=o at h C w ⊢; have H:IntKind.wrap .i64 (11 - ((d+1:Nat):Int)+1)=11 - (d:Int):=by rw[wrap_i64 (by omega) (by omega)]; omega
    obtain⟨x,x1,m⟩:=IQ (body:=eI n (bR n) (11 - ((d+1:Nat):Int)) l) l (xok d false) jR nmx (fun i b t f t0 F=>by
     have Y:=bO f; have hm:=dK aR (z18 f); obtain⟨⟨N,z,A⟩,r1,r2,j⟩:=J b d t.1 t.2 (by omega) t0 F (by omega)
     simp only at r2 j; refine⟨z,A, ?_⟩
     simp only[eI,bG f,z15,bB,f,z8,H,r1,aN (show i<4611686018427387904 by omega)]
     rw[r2]; revert j
     cases (xok d false b&&decide (t.1+jR b≤300))with
     | true=>
      intro j; have s:=j rfl; simp only[z40]at s; obtain⟨rfl,rfl⟩:=s; rfl
     | false=>intro _; rfl) (fun t=>by simp only[eI,aM,z12]) (n:=n) (by omega) (c+1,g) (by show 0≤c+1; omega) (by show c+1≤300; omega)
    have x1:loopN (eI n (bR n) (11 - ((d+1:Nat):Int)) l) n ((0:Int),c+1,g)=some x:=x1; simp only[x1,z8]; simp only at m; cases hz:(l.all (xok d false)&&decide (c+1+(iC jR l:Int)≤300))with
    | false=>
     rw[hz]at m; simp only[z12]at m; obtain⟨u,v,rfl⟩:=m; have U:(l.all (xok d false)&&o.all (cok d)&&decide (c+(q:Int)≤300))=false:=by
      cases h1:l.all (xok d false)with
      | false=>rfl
      | true=>
       rw[h1,z41,z35]at hz; rw[z13 (show ¬ c+(q:Int)≤300 by omega),z80]
     rw[U]; exact⟨_,rfl,rfl,fun h=>by cases h⟩
    | true=>
     rw[hz]at m; simp only[z15]at m; subst m; simp only[z7,z31]at hz; rw[hz.1,z41]; simp only; obtain⟨y,G,k⟩:=IQ (body:=eH n (bR n) (11 - ((d+1:Nat):Int)) o) o (cok d) Jh nmk (fun i b t f t0 F=>by
      have Y:=bO f; have hm:=dK aS (z18 f); have hw:=jM b; have W:=Tx b; obtain⟨⟨N,z,A⟩,r1,r2,j⟩:=Dk n (by omega) b.p d t.1 [] (by omega) t0 F (by simpa using t0) (by omega)
      have r1:cQ n b.f0 b.f1 b.f2 b.f3 b.f4 (11 - (d:Int)) t.1 []=some (N,z,A):=r1; simp only at r2 j; simp only[eH,bG f,z15,bB,f,z8,H,r1,aN (show i<4611686018427387904 by omega)]
      rw[YZ]at r2 j; rw[r2]; unfold cok; rw[nmk_e]; cases h1:(xok d true b.p&&(decide (t.1+jR b.p≤300)&&GR (nW b.p)))with
      | false=>
       refine⟨z,A, ?_⟩
       have V:(GR (nW b.p)&&(xok d true b.p&&xok d false b.x)&&decide (t.1+Jh b≤300))=false:=by
        cases h2:xok d true b.p with
        | false=>cases GR (nW b.p)<;>rfl
        | true=>
         cases h3:GR (nW b.p)with
         | false=>rfl
         | true=>
          rw[h2,h3,z41,SJ,z35]at h1; rw[z13 (show ¬ t.1+(Jh b:Int)≤300 by omega),z80]
       rw[V]; rfl
      | true=>
       rw[h1]at j; have s:=j rfl; simp only[z40,z77]at s; obtain⟨rfl,rfl⟩:=s; simp only[z7,z31]at h1; rw[h1.1,h1.2.2,z41,z41]; obtain⟨⟨sb,Q,R⟩,E,O,B⟩:=J b.x d (t.1+jR b.p) (nW b.p) (by omega) (by omega) h1.2.1 (by omega)
       have E:bR n b.f5 b.f6 b.f7 b.f8 b.f9 (11 - (d:Int)) (t.1+jR b.p) (nW b.p)=some (sb,Q,R):=E; simp only at O B; simp only[z33,z12,E,z8]; rw[O]; rw[show t.1+(Jh b:Int)=t.1+jR b.p+jR b.x by omega]
       refine⟨Q,R, ?_⟩
       revert B
       cases (xok d false b.x&&decide (t.1+(jR b.p:Int)+jR b.x≤300))with
       | true=>
        intro B; have P:=B rfl; simp only[z40]at P; obtain⟨rfl,rfl⟩:=P; rfl
       | false=>intro _; rfl) (fun t=>by simp only[eH,aM,z12]) (n:=n) (by omega) (c+1+(iC jR l:Int),FL nmx l g) (by show 0≤c+1+(iC jR l:Int); omega) hz.2
     have G:loopN (eH n (bR n) (11 - ((d+1:Nat):Int)) o) n ((0:Int),c+1+(iC jR l:Int),FL nmx l g)=some y:=G; rw[G]; simp only at k; rw[show c+1+(iC jR l:Int)+(iC Jh o:Int)=c+q by omega]at k
     cases hz2:(o.all (cok d)&&decide (c+(q:Int)≤300))with
     | true=>
      rw[hz2]at k; simp only[z15]at k; subst k; exact⟨_,rfl,rfl,fun _=>rfl⟩
     | false=>
      rw[hz2]at k; simp only[z12]at k; obtain⟨u,v,rfl⟩:=k; exact⟨_,rfl,rfl,fun h=>by cases h⟩
theorem HS(n:Nat)(hn:n≤1099511627776)(a:aB)(h:aR a<n):nG n a.f0 a.f1 a.f2 a.f3 a.f4=some (Dx a):=by
 unfold nG Dx; have h1:=NZ n hn a false 10 300 (by omega) (by omega) (by omega) h
 have h1:dF n a.f0 a.f1 a.f2 a.f3 a.f4 false (10:Int) 300=_:=h1; rw[h1]; unfold tk; simp only[z8,z9]; cases q:(xok 10 false a&&decide ((jR a:Int)≤300))with
 | true=>
  simp only[z7,z31]at q; rw[z15]; exact z20 (by omega)
 | false=>rfl
theorem HX(n:Nat)(hn:n≤1099511627776)(a:aB)(h:aR a+400<n):nH n a.f0 a.f1 a.f2 a.f3 a.f4=some (Dx a):=by
 unfold nH Dx; obtain⟨r,r1,r2,b⟩:=Bg n hn a 10 0 [] (by omega) (by omega) (by omega) h
 have r1:bR n a.f0 a.f1 a.f2 a.f3 a.f4 (1:Int) 0 []=some r:=r1; rw[r1]; simp only[z8,z9]; rw[r2,Int.zero_add]
theorem BC{σ τ ρ:Type}{body:σ→Option (σ⊕ρ)}{len:Nat}(I:Nat→τ→Prop)(enc:τ→Nat→σ)(a:τ→ρ)(g: ∀i t,i<len→I i t→ ∃b,body (enc t i)=some (.inl (enc b (i+1)))∧I (i+1) b)(e: ∀t,I len t→body (enc t len)=some (.inr (a t))){n:Nat}(hn:len<n){t0:τ}(h0:I 0 t0):
  ∃t,loopN body n (enc t0 0)=some (a t)∧I len t:=by
 have c: ∀k i t n,i+k=len→k<n→I i t→ ∃b,loopN body n (enc t i)=some (a b)∧I len b:=by
  intro k; induction k with
  | zero=>
   intro i t n f hn h; obtain⟨m,rfl⟩: ∃m,n=m+1:=⟨n - 1,by omega⟩
   obtain rfl:i=len:=by omega
   simp only[loopN,e t h]; exact⟨t,rfl,h⟩
  | succ k j=>
   intro i t n f hn h; obtain⟨m,rfl⟩: ∃m,n=m+1:=⟨n - 1,by omega⟩
   obtain⟨b,h1,d⟩:=g i t (by omega) h
   simp only[loopN,h1]; exact j (i+1) b m (by omega) (by omega) d
 exact c len 0 t0 n (by omega) hn h0

def zG:List (List UInt8)→List (List UInt8)→List (List UInt8)
 | l,[]=>l
 | l,s::r=>zG (bif decide (s∈l)then l else l++[s]) r
theorem JZ(s:List UInt8): ∀(r l:List (List UInt8)),s∈zG l r↔s∈l∨s∈r
 | [],l=>by simp [zG]
 | t::r,l=>by
  unfold zG; rw[JZ s r]; by_cases h:t∈l
  ·rw[z20 h,z15,z94]
   constructor
   ·rintro (h1 | h1)
    ·exact .inl h1
    ·exact .inr (.inr h1)
   ·rintro (h1 | rfl | h1)
    ·exact .inl h1
    ·exact .inl h
    ·exact .inr h1
  ·rw[z13 h,z12,z76,z58,z94,or_assoc]
theorem EQ: ∀(r l:List (List UInt8)),(zG l r).length≤l.length+r.length
 | [],l=>by simp [zG]
 | t::r,l=>by
  unfold zG; have:=EQ r (bif decide (t∈l)then l else l++[t])
  cases h:decide (t∈l)with
  | true=>rw[h]at this; simp only[z15]at this ⊢; simp only[z36]; omega
  | false=>rw[h]at this; simp only[z12,z28,z37]at this ⊢; simp only[z36]; omega
theorem OQ: ∀(a b l:List (List UInt8)),zG l (a++b)=zG (zG l a) b
 | [],b,l=>rfl
 | s::a,b,l=>by simp only[z83,zG]; exact OQ a b _
theorem Ih(n:Nat)(l m:List (List UInt8))(h:l.length+m.length<n)(hn:n≤1099511627776):lY n l m=some (zG l m):=by
 unfold lY; have g:=fP (body:=kC n m) (fun i=>(zG l (m.take i),(i:Int))) (len:=m.length) (r:=(zG l m,(m.length:Int),false)) (fun i f=>by
  have b:m[i]? =some m[i]:=z11 f
  generalize m[i]=a at b; have d:=EQ (m.take i) l; rw[z49]at d; have e:zG l (m.take (i+1))=bif decide (a∈zG l (m.take i))then zG l (m.take i)else zG l (m.take i)++[a]:=by
   rw[←gG b,OQ]; rfl
  simp only[kC,bG b,z15,bB,b,z8,vW n (zG l (m.take i)) a (by omega) (by omega),e,aN (show i<4611686018427387904 by omega)]
  cases decide (a∈zG l (m.take i))with
  | true=>rfl
  | false=>
   have c:sX 16 (zG l (m.take i)) [a]=some (zG l (m.take i)++[a]):=sJ (by simp only[z37]; omega) (by simp only[z37,maxLen]; omega)
   rw[c]; rfl) (by simp only[kC,aM,z12,z51]) (n:=n) (by omega)
 refine(congrArg (fun q=>Option.bind q _) g).trans ?_
 rfl

theorem zZ: ∀(n:Nat),n≤1099511627776→ ∀(a:aB),aR a<n→iO n a.f0 a.f1 a.f2 a.f3 a.f4=some (nW a)
 | 0,_,a,h=>by omega
 | n+1,hn,a,h=>by
  have o:=zZ n (by omega)
  rw[CJ,Ph]; unfold pR; rw[nX,bW,bD]at h; have f:=bI aR a.f3; cases decide (a.f0=3)with
  | true=>generalize decide (a.f2=[95])=z; cases z<;>rfl
  | false=>
   simp only[z12,z8]; generalize a.f3=l at h f; have m:=fP (body:=lR n (iO n) l) (fun i=>(jG (l.take i),(i:Int))) (len:=l.length) (r:=(jG l,(l.length:Int),false)) (fun i k=>by
    have c:l[i]? =some l[i]:=z11 k
    generalize l[i]=b at c; have p:=dK aR (z18 c); have e:jG (l.take (i+1))=jG (l.take i)++nW b:=by rw[←gG c,FS,Kc]
    have g:=BK (l.take (i+1)); have j:nV (l.take (i+1))≤dl aR l:=by
     rw[bW]; exact zC aR l (i+1)
    rw[e,z28]at g; have d:sX 16 (jG (l.take i)) (nW b)=some (jG (l.take (i+1))):=by
     rw[e]; exact sJ (by omega) (by simp only[maxLen]; omega)
    simp only[lR,bG c,z15,bB,c,z8,o b (by omega),d,aN (show i<4611686018427387904 by omega)]) (by simp only[lR,aM,z12,z51]) (n:=n) (by omega)
   refine(congrArg (fun q=>Option.bind q _) m).trans ?_
   rfl

mutual
def fl:aB→List (List UInt8)
 | .mk k _ s l c=>bif decide (k=3)then [s]else fls l++flc c
def fls:List aB→List (List UInt8)
 | []=> []
 | x::r=>fl x++fls r
def flc:List aA→List (List UInt8)
 | []=> []
 | x::r=>flk x++flc r
def flk:aA→List (List UInt8)
 | .two p x=>(fl x).filter fun s=> !decide (s∈nW p)
end
theorem fl_e(a:aB):fl a=bif decide (a.f0=3)then [a.f2]else fls a.f3++flc a.f4:=by cases a; simp only[fl]; rfl
theorem XW(a:aA):flk a=(fl a.x).filter fun s=> !decide (s∈nW a.p):=by cases a; simp only[flk]; rfl
theorem Ma: ∀(a b:List aB),fls (a++b)=fls a++fls b
 | [],b=>rfl
 | x::r,b=>by simp only[z83,fls,Ma r b,z74]
theorem Mb: ∀(a b:List aA),flc (a++b)=flc a++flc b
 | [],b=>rfl
 | x::r,b=>by simp only[z83,flc,Mb r b,z74]
theorem QX(a:aB):fls [a]=fl a:=by simp only[fls,z89]
theorem QY(a:aA):flc [a]=flk a:=by simp only[flc,z89]
def FO(a:aB)(L:List (List UInt8)):Prop:=(∀s,s∈L↔s∈fl a)∧L.length≤aR a
theorem AA: ∀(n:Nat),n≤1099511627776→ ∀(a:aB),aR a<n→ ∃L,dN n a.f0 a.f1 a.f2 a.f3 a.f4=some L∧FO a L
 | 0,_,a,h=>by omega
 | n+1,hn,a,h=>by
  have w:=AA n (by omega)
  rw[CK]; unfold pS FO; rw[fl_e]; have k:=nX a; rw[bW,bD]at k; generalize aR a=q at h k; cases decide (a.f0=3)with
  | true=>exact⟨_,rfl,fun s=>Iff.rfl,by simp; omega⟩
  | false=>
   simp only[z12]; generalize a.f3=l at k; generalize a.f4=c at k; have Q:=bI aR l; have E:=bI aS c; obtain⟨L,l1,l2,I⟩:=BC (body:=iM n (dN n) l) (len:=l.length) (fun i L=>(∀s,s∈L↔s∈fls (l.take i))∧L.length+1≤dl aR (l.take i)) (fun L i=>(L,(i:Int))) (fun L=>(L,(l.length:Int),false)) (fun i L o B=>by
    have d:l[i]? =some l[i]:=z11 o
    generalize l[i]=b at d; have C:=dK aR (z18 d); have F:=EM aR d; have r:=zC aR l (i+1); obtain⟨M,g,u,J⟩:=w b (by omega)
    refine⟨zG L M, ?_,fun s=> ?_, ?_⟩
    ·simp only[iM,bG d,z15,bB,d,z8,g,Ih n L M (by omega) (by omega),aN (show i<4611686018427387904 by omega)]
    ·rw[JZ,B.1,u, ←gG d,Ma,QX,z76]
    ·have:=EQ M L; omega) (fun L _=>by simp only[iM,aM,z12]) (n:=n) (by omega) (t0:=[]) ⟨fun s=>by simp [fls],by simp [dl]⟩
   have l1:loopN (iM n (dN n) l) n (([]:List (List UInt8)),(0:Int))=some (L,(l.length:Int),false):=l1; rw[l1]; rw[z51]at l2 I; simp only[z8]; obtain⟨K,t,y,H⟩:=BC (body:=iL n (dN n) c) (len:=c.length) (fun i K=>(∀s,s∈K↔s∈fls l++flc (c.take i))∧K.length+2≤dl aR l+dl aS (c.take i)) (fun L i=>(L,(i:Int))) (fun L=>(L,(c.length:Int),false)) (fun i K o A=>by
    have d:c[i]? =some c[i]:=z11 o
    generalize c[i]=b at d; have C:=dK aS (z18 d); have P:=jM b; have F:=EM aS d; have r:=zC aS c (i+1); obtain⟨M,g,u,J⟩:=w b.x (by omega)
    have g:dN n b.f5 b.f6 b.f7 b.f8 b.f9=some M:=g; have O:iO n b.f0 b.f1 b.f2 b.f3 b.f4=some (nW b.p):=zZ n (by omega) b.p (by omega)
    have G:=EC b.p; obtain⟨N,n1,z,R⟩:=BC (body:=iK n (nW b.p) M) (len:=M.length) (fun j N=>(∀s,s∈N↔s∈K∨(s∈M.take j∧s ∉ nW b.p))∧N.length≤K.length+j) (fun L i=>(L,(i:Int))) (fun L=>(L,(M.length:Int),false)) (fun j N D v=>by
     have f:M[j]? =some M[j]:=z11 D
     generalize M[j]=x at f; simp only[iK,bG f,z15,bB,f,z8,vW n (nW b.p) x (by omega) (by omega),aN (show j<4611686018427387904 by omega)]
     by_cases m:x∈nW b.p
     ·rw[z20 m]
      refine⟨N,rfl,fun s=> ?_,by omega⟩
      rw[v.1, ←gG f,z76,z58]; constructor
      ·rintro (h1 | ⟨h1,e⟩)
       ·exact .inl h1
       ·exact .inr ⟨.inl h1,e⟩
      ·rintro (h1 | ⟨h1 | rfl,e⟩)
       ·exact .inl h1
       ·exact .inr ⟨h1,e⟩
       ·exact absurd m e
     ·rw[z13 m]
      refine⟨zG N [x], ?_,fun s=> ?_, ?_⟩
      ·rw[UD,z15,Ih n N [x] (by simp only[z37]; omega) (by omega)]; rfl
      ·rw[JZ,v.1, ←gG f,z76,z58]
       constructor
       ·rintro ((h1 | ⟨h1,e⟩) | rfl)
        ·exact .inl h1
        ·exact .inr ⟨.inl h1,e⟩
        ·exact .inr ⟨.inr rfl,m⟩
       ·rintro (h1 | ⟨h1 | rfl,e⟩)
        ·exact .inl (.inl h1)
        ·exact .inl (.inr ⟨h1,e⟩)
        ·exact .inr rfl
      ·have:=EQ [x] N
       simp only[z37]at this; omega) (fun N _=>by simp only[iK,aM,z12]) (n:=n) (by omega) (t0:=K) ⟨fun s=>by simp,by omega⟩
    have n1:loopN (iK n (nW b.p) M) n (K,(0:Int))=some (N,(M.length:Int),false):=n1; rw[z51]at z; refine⟨N, ?_,fun s=> ?_, ?_⟩
    ·simp only[iL,bG d,z15,bB,d,z8,O,g,n1,aN (show i<4611686018427387904 by omega)]
    ·rw[z,A.1, ←gG d,Mb,QY,XW,u]
     simp only[z76,z72,z34,z35,or_assoc]
    ·omega) (fun L _=>by simp only[iL,aM,z12]) (n:=n) (by omega) (t0:=L) ⟨fun s=>by rw[l2]; simp [flc],by simp only[WA,dl]; omega⟩
   have t:loopN (iL n (dN n) c) n (L,(0:Int))=some (K,(c.length:Int),false):=t; rw[t]; rw[z51]at y H; exact⟨K,rfl,y,by omega⟩
theorem Ky: ∀(n:Nat),n≤1099511627776→ ∀(a:aB) (out d:List (List UInt8)),aR a+out.length+d.length<n→ ∃L,eA n out d a.f0 a.f1 a.f2 a.f3 a.f4=some L∧(∀s,s∈L↔s∈out∨(s∈fl a∧s ∉ d))∧L.length≤out.length+aR a
 | 0,_,a,out,d,h=>by omega
 | n+1,hn,a,out,d,h=>by
  have v:=Ky n (by omega)
  rw[CD]; unfold pL; rw[fl_e]; have k:=nX a; rw[bW,bD]at k; generalize aR a=q at h k; cases decide (a.f0=3)with
  | true=>
   simp only[z15,EG n d a.f2 (by omega) (by omega),EG n out a.f2 (by omega) (by omega),z8]
   have m:sX 16 out [a.f2]=some (out++[a.f2]):=sJ (by simp only[z37]; omega) (by simp only[z37,maxLen]; omega)
   rw[m]; by_cases h1:a.f2∈d
   ·rw[z20 h1]
    refine⟨out,rfl,fun s=>⟨.inl, ?_⟩,by omega⟩
    rintro (e | ⟨e,f⟩)
    ·exact e
    ·simp only[z58]at e; subst e; exact absurd h1 f
   ·rw[z13 h1]
    by_cases e:a.f2∈out
    ·rw[z20 e]
     refine⟨out,rfl,fun s=>⟨.inl, ?_⟩,by omega⟩
     rintro (f | ⟨f,_⟩)
     ·exact f
     ·simp only[z58]at f; subst f; exact e
    ·rw[z13 e]
     refine⟨out++[a.f2],rfl,fun s=> ?_,by rw[z28,z37]; omega⟩
     rw[z76,z58]; constructor
     ·rintro (f | rfl)
      ·exact .inl f
      ·exact .inr ⟨rfl,h1⟩
     ·rintro (f | ⟨f,_⟩)
      ·exact .inl f
      ·exact .inr f
  | false=>
   simp only[z12]; generalize a.f3=l at k; generalize a.f4=c at k; have J:=bI aR l; have B:=bI aS c; obtain⟨L,l1,l2,F⟩:=BC (body:=iJ n (eA n) d l) (len:=l.length) (fun i L=>(∀s,s∈L↔s∈out∨(s∈fls (l.take i)∧s ∉ d))∧L.length+1≤out.length+dl aR (l.take i)) (fun L i=>(L,(i:Int))) (fun L=>(L,(l.length:Int),false)) (fun i L o z=>by
    have g:l[i]? =some l[i]:=z11 o
    generalize l[i]=b at g; have A:=dK aR (z18 g); have C:=EM aR g; have r:=zC aR l (i+1); obtain⟨M,j,u,G⟩:=v b L d (by omega)
    refine⟨M, ?_,fun s=> ?_, ?_⟩
    ·simp only[iJ,bG g,z15,bB,g,z8,j,aN (show i<4611686018427387904 by omega)]
    ·rw[u,z.1, ←gG g,Ma,QX,z76,or_assoc, ←or_and_right]
    ·omega) (fun L _=>by simp only[iJ,aM,z12]) (n:=n) (by omega) (t0:=out) ⟨fun s=>by simp [fls],by simp [dl]⟩
   have l1:loopN (iJ n (eA n) d l) n (out,(0:Int))=some (L,(l.length:Int),false):=l1; rw[l1]; rw[z51]at l2 F; simp only[z8]; obtain⟨K,t,w,E⟩:=BC (body:=iI n (eA n) d c) (len:=c.length) (fun i K=>(∀s,s∈K↔s∈out∨(s∈fls l++flc (c.take i)∧s ∉ d))∧K.length+2≤out.length+dl aR l+dl aS (c.take i)) (fun L i=>(L,(i:Int))) (fun L=>(L,(c.length:Int),false)) (fun i K o y=>by
    have g:c[i]? =some c[i]:=z11 o
    generalize c[i]=b at g; have A:=dK aS (z18 g); have I:=jM b; have C:=EM aS g; have r:=zC aS c (i+1); have H:eW n b.f0 b.f1 b.f2 b.f3 b.f4=some (nW b.p):=uJ n (by omega) b.p (by omega)
    have D:=EC b.p; obtain⟨M,j,u,G⟩:=v b.x K (d++nW b.p) (by rw[z28]; omega)
    have j:eA n K (d++nW b.p) b.f5 b.f6 b.f7 b.f8 b.f9=some M:=j; have a1:sX 16 ([]:List (List UInt8)) d=some d:=sJ (by simp only[z79]; omega) (by simp only[z79,maxLen]; omega)
    have a2:sX 16 d (nW b.p)=some (d++nW b.p):=sJ (by omega) (by simp only[maxLen]; omega)
    refine⟨M, ?_,fun s=> ?_, ?_⟩
    ·simp only[iI,bG g,z15,bB,g,z8,a1,H,a2,j,aN (show i<4611686018427387904 by omega)]
    ·rw[u,y.1, ←gG g,Mb,QY,XW]
     simp only[z76,z72,z34,z35,not_or]; constructor
     ·rintro ((h1 | ⟨h1,e⟩) | ⟨h1,e,f⟩)
      ·exact .inl h1
      ·exact .inr ⟨h1.elim .inl (fun h=> .inr (.inl h)),e⟩
      ·exact .inr ⟨.inr (.inr ⟨h1,f⟩),e⟩
     ·rintro (h1 | ⟨h1 | h1 | ⟨h1,f⟩,e⟩)
      ·exact .inl (.inl h1)
      ·exact .inl (.inr ⟨.inl h1,e⟩)
      ·exact .inl (.inr ⟨.inr h1,e⟩)
      ·exact .inr ⟨h1,e,f⟩
    ·omega) (fun L _=>by simp only[iI,aM,z12]) (n:=n) (by omega) (t0:=L) ⟨fun s=>by rw[l2]; simp [flc],by simp only[WA,dl]; omega⟩
   have t:loopN (iI n (eA n) d c) n (L,(0:Int))=some (K,(c.length:Int),false):=t; rw[t]; rw[z51]at w E; exact⟨K,rfl,w,by omega⟩
theorem HR(n:Nat)(hn:n≤1099511627776)(a:aB)(h:aR a<n): ∃L,nF n a.f0 a.f1 a.f2 a.f3 a.f4=some L∧FO a L:=by
 unfold nF; obtain⟨L,l1,l2,b⟩:=Ky n hn a [] [] (by simpa using h)
 rw[l1]; exact⟨L,rfl,fun s=>by rw[l2]; simp,by simpa using b⟩

def fx(f:aD):aB:= .mk f.f2 f.f3 f.f4 f.f5 f.f6
def nC(m:List aD)(s:List UInt8):Int:=Hy (fun f=>decide (f.f0=s)) 0 m
theorem sL(n:Nat)(m:List aD)(s:List UInt8)(h:m.length<n)(hn:n<4611686018427387904):kG n m s=some (nC m s):=by
 unfold kG nC; have e:=BS (body:=mW n m s) m (fun f=>decide (f.f0=s)) (fun i=>(i:Int)) (fun i=>Sum.inl (i:Int)) (Sum.inr ((m.length:Int),false)) (fun i a b=>by
  have c:=bO b; simp only[mW,bG b,z15,bB,b,z8,aN (show i<4611686018427387904 by omega)]
  cases decide (a.f0=s)<;>rfl) (by simp only[mW,aM,z12]) h
 refine(congrArg (fun q=>Option.bind q _) e).trans ?_
 rcases sC (fun f:aD=>decide (f.f0=s)) m 0 with⟨h,_⟩ | ⟨k,a,h,_⟩
 ·rw[h]; rfl
 ·rw[h,z13 (by omega)]
  simp only[z8,z12,z39]
theorem sN(n:Nat)(m:List aD)(s:List UInt8)(h:m.length<n)(hn:n<4611686018427387904):kH n m s=some (nC m s):=by
 unfold kH gN nC; have e:=BS (body:=cJ n m) m (fun f=>decide (f.f0=s)) (fun i=>((i:Int),s)) (fun i=>Sum.inl ((i:Int),s)) (Sum.inr ((m.length:Int),false,s)) (fun i a b=>by
  have c:=bO b; simp only[cJ,rF,bG b,z15,bB,b,z8,aN (show i<4611686018427387904 by omega)]
  cases decide (a.f0=s)<;>rfl) (by simp only[cJ,aM,z12]) h
 have e:loopN (cJ n m) n ((0:Int),s)=_:=e; rw[e]; rcases sC (fun f:aD=>decide (f.f0=s)) m 0 with⟨h,_⟩ | ⟨k,a,h,_⟩
 ·rw[h]; rfl
 ·rw[h,z13 (by omega)]
  simp only[z8,z12,z39]
def Ci(m:List aD)(s:List UInt8)(a:Nat):Bool:=match m[(nC m s).toNat]? with
 | some f=> !decide (nC m s<0)&&decide ((f.f1.length:Int)=(a:Int))
 | none=>false
theorem LD(m:List aD)(s:List UInt8):nC m s= -1∨ ∃(k:Nat) (f:aD),nC m s=(k:Int)∧m[k]? =some f:=by
 unfold nC; rcases sC (fun f:aD=>decide (f.f0=s)) m 0 with⟨h,_⟩ | ⟨k,a,h,h1,_⟩
 ·exact .inl h
 ·exact .inr ⟨k,a,by rw[h]; simp,h1⟩
mutual
def rX(m:List aD):aB→Bool
 | .mk k _ s l c=>(!decide (k=8)||Ci m s l.length)&&(KQ m l&&KR m c)
def KQ(m:List aD):List aB→Bool
 | []=>true
 | x::r=>rX m x&&KQ m r
def KR(m:List aD):List aA→Bool
 | []=>true
 | x::r=>xS m x&&KR m r
def xS(m:List aD):aA→Bool
 | .two _ x=>rX m x
end
theorem Qj(m:List aD)(a:aB):rX m a=((!decide (a.f0=8)||Ci m a.f2 a.f3.length)&&(KQ m a.f3&&KR m a.f4)):=by cases a; simp only[rX]; rfl
theorem ON(m:List aD)(a:aA):xS m a=rX m a.x:=by cases a; simp only[xS]; rfl
theorem Cz(m:List aD): ∀l,KQ m l=l.all (rX m)
 | []=>rfl
 | x::r=>by simp only[KQ,z87,Cz m r]
theorem DB(m:List aD): ∀l,KR m l=l.all (xS m)
 | []=>rfl
 | x::r=>by simp only[KR,z87,DB m r]
theorem IS: ∀(n:Nat),n≤1099511627776→ ∀(m:List aD) (a:aB),aR a+m.length<n→cD n m a.f0 a.f1 a.f2 a.f3 a.f4=some (rX m a)
 | 0,_,m,a,h=>by omega
 | n+1,hn,m,a,h=>by
  have t:=IS n (by omega)
  rw[Ao,Qj,Cz,DB]; unfold oD; rw[nX,bW,bD]at h; have B:=bI aR a.f3; have z:=bI aS a.f4; rw[sL n m a.f2 (by omega) (by omega)]
  have o:(bif decide (nC m a.f2<0)then some true else(ix m (nC m a.f2)).bind fun e=>some (!decide ((e.f1.length:Int)=(a.f3.length:Int))))=some (!Ci m a.f2 a.f3.length):=by
   unfold Ci; rcases LD m a.f2 with e | ⟨k,f,e,s⟩
   ·rw[e]
    cases m[(-1:Int).toNat]? <;>rfl
   ·rw[e,z39,s,bB,s,z13 (by omega)]; rfl
  have g: ∀(l:List aB) (body:Int→Option (Int⊕(Bool⊕(Int×Bool)))),(∀(i:Nat) b,l[i]? =some b→body (i:Int)=(cD n m b.f0 b.f1 b.f2 b.f3 b.f4).bind fun c=>bif !c then some (.inr (.inl false))else some (.inl ((i+1:Nat):Int)))→(body (l.length:Int)=some (.inr (.inr ((l.length:Int),false))))→dl aR l+m.length<n→loopN body n (0:Int)=some (if l.all (rX m)then .inr ((l.length:Int),false)else .inl false):=fun l body r p A=>by
   have:=bI aR l; refine uZ l (rX m) (fun i b d=> ?_) p (by omega)
   have y:=dK aR (z18 d); rw[r i b d,t m b (by omega)]
   cases rX m b<;>rfl
  have j: ∀(l:List aA) (body:Int→Option (Int⊕(Bool⊕(Int×Bool)))),(∀(i:Nat) b,l[i]? =some b→body (i:Int)=(cD n m b.f5 b.f6 b.f7 b.f8 b.f9).bind fun c=>bif !c then some (.inr (.inl false))else some (.inl ((i+1:Nat):Int)))→(body (l.length:Int)=some (.inr (.inr ((l.length:Int),false))))→dl aS l+m.length<n→loopN body n (0:Int)=some (if l.all (xS m)then .inr ((l.length:Int),false)else .inl false):=fun l body r p A=>by
   have:=bI aS l; refine uZ l (xS m) (fun i b d=> ?_) p (by omega)
   have y:=dK aS (z18 d); have w:=jM b; have e:cD n m b.f5 b.f6 b.f7 b.f8 b.f9=some (rX m b.x):=t m b.x (by omega)
   rw[r i b d,e,ON]; cases rX m b.x<;>rfl
  have b1:=g a.f3 (jY n (cD n) m a.f3) (fun i b d=>by
   have q:=bO d; simp only[jY,bG d,z15,bB,d,z8,aN (show i<4611686018427387904 by omega)]) (by simp only[jY,aM,z12]) (by omega)
  have u:=g a.f3 (jW n (cD n) m a.f3) (fun i b d=>by
   have q:=bO d; simp only[jW,bG d,z15,bB,d,z8,aN (show i<4611686018427387904 by omega)]) (by simp only[jW,aM,z12]) (by omega)
  have b2:=j a.f4 (jX n (cD n) m a.f4) (fun i b d=>by
   have q:=bO d; simp only[jX,bG d,z15,bB,d,z8,aN (show i<4611686018427387904 by omega)]) (by simp only[jX,aM,z12]) (by omega)
  have v:=j a.f4 (jV n (cD n) m a.f4) (fun i b d=>by
   have q:=bO d; simp only[jV,bG d,z15,bB,d,z8,aN (show i<4611686018427387904 by omega)]) (by simp only[jV,aM,z12]) (by omega)
  rw[z8,o,b1,b2,u,v]; cases decide (a.f0=8)<;>cases Ci m a.f2 a.f3.length<;>cases a.f3.all (rX m)<;>cases a.f4.all (xS m)<;>rfl
theorem RT(n:Nat)(m:List aD)(k d:Int)(s:List UInt8)(l:List aB)(c:List aA)(a:Bool)(h:m.length<n)(hn:n<4611686018427387904):oN n k d s l c m a=some (m,a&&Ci m s l.length):=by
 unfold oN; rw[sN n m s h hn]; unfold Ci; rcases LD m s with e | ⟨k,f,e,b⟩
 ·rw[e]
  cases a<;>cases m[(-1:Int).toNat]? <;>rfl
 ·rw[e,z39,b,z8,bB,b,z13 (show ¬ (k:Int)<0 by omega),z20 (show(0:Int)≤(k:Int)by omega)]
  cases a<;>rfl
theorem GK: ∀(n:Nat),n≤1099511627776→ ∀(m:List aD) (a:aB) (f:Bool),aR a+m.length<n→bU n a.f0 a.f1 a.f2 a.f3 a.f4 m f=some (m,f&&rX m a)
 | 0,_,m,a,f,h=>by omega
 | n+1,hn,m,a,f,h=>by
  have s:=GK n (by omega)
  rw[zM,Qj,Cz,DB]; unfold mQ; rw[nX,bW,bD]at h; have B:=bI aR a.f3; have z:=bI aS a.f4; have all_snoc: ∀ {α:Type} (p:α→Bool) (l:List α) (i:Nat) (b:α),l[i]? =some b→(l.take (i+1)).all p=((l.take i).all p&&p b):=fun p l i b d=>by rw[←gG d,List.all_append]; simp
  have g: ∀(l:List aB) (body:Int×List aD×Bool→Option ((Int×List aD×Bool)⊕(Int×Bool×List aD×Bool))),(∀(i:Nat) b t,l[i]? =some b→body ((i:Int),m,t)=(bU n b.f0 b.f1 b.f2 b.f3 b.f4 m t).bind fun c=>some (.inl (((i+1:Nat):Int),c.1,c.2)))→(∀t,body ((l.length:Int),m,t)=some (.inr ((l.length:Int),false,m,t)))→dl aR l+m.length<n→ ∀f,loopN body n ((0:Int),m,f)=some ((l.length:Int),false,m,f&&l.all (rX m)):=fun l body q o A f=>by
   have:=bI aR l; have e:=fP (body:=body) (fun i=>((i:Int),m,f&&(l.take i).all (rX m))) (len:=l.length) (r:=((l.length:Int),false,m,f&&l.all (rX m))) (fun i k=>by
    have d:l[i]? =some l[i]:=z11 k
    generalize l[i]=b at d; have y:=dK aR (z18 d); rw[q i b _ d,s m b _ (by omega),all_snoc _ l i b d,z160]; rfl) (by rw[z51]; exact o _) (n:=n) (by omega)
   simpa using e
  have j: ∀(l:List aA) (body:Int×List aD×Bool→Option ((Int×List aD×Bool)⊕(Int×Bool×List aD×Bool))),(∀(i:Nat) b t,l[i]? =some b→body ((i:Int),m,t)=(bU n b.f5 b.f6 b.f7 b.f8 b.f9 m t).bind fun c=>some (.inl (((i+1:Nat):Int),c.1,c.2)))→(∀t,body ((l.length:Int),m,t)=some (.inr ((l.length:Int),false,m,t)))→dl aS l+m.length<n→ ∀f,loopN body n ((0:Int),m,f)=some ((l.length:Int),false,m,f&&l.all (xS m)):=fun l body q o A f=>by
   have:=bI aS l; have e:=fP (body:=body) (fun i=>((i:Int),m,f&&(l.take i).all (xS m))) (len:=l.length) (r:=((l.length:Int),false,m,f&&l.all (xS m))) (fun i k=>by
    have d:l[i]? =some l[i]:=z11 k
    generalize l[i]=b at d; have y:=dK aS (z18 d); have w:=jM b; have e: ∀t,bU n b.f5 b.f6 b.f7 b.f8 b.f9 m t=some (m,t&&rX m b.x):=fun t=>s m b.x t (by omega)
    rw[q i b _ d,e,all_snoc _ l i b d,ON,z160]; rfl) (by rw[z51]; exact o _) (n:=n) (by omega)
   simpa using e
  have b1:=g a.f3 (iZ n (bU n) a.f3) (fun i b t d=>by
   have k:=bO d; simp only[iZ,bG d,z15,bB,d,z8,aN (show i<4611686018427387904 by omega)]) (fun t=>by simp only[iZ,aM,z12]) (by omega)
  have u:=g a.f3 (iX n (bU n) a.f3) (fun i b t d=>by
   have k:=bO d; simp only[iX,bG d,z15,bB,d,z8,aN (show i<4611686018427387904 by omega)]) (fun t=>by simp only[iX,aM,z12]) (by omega)
  have b2:=j a.f4 (iY n (bU n) a.f4) (fun i b t d=>by
   have k:=bO d; simp only[iY,bG d,z15,bB,d,z8,aN (show i<4611686018427387904 by omega)]) (fun t=>by simp only[iY,aM,z12]) (by omega)
  have v:=j a.f4 (iW n (bU n) a.f4) (fun i b t d=>by
   have k:=bO d; simp only[iW,bG d,z15,bB,d,z8,aN (show i<4611686018427387904 by omega)]) (fun t=>by simp only[iW,aM,z12]) (by omega)
  rw[RT n m _ _ _ _ _ _ (by omega) (by omega)]
  simp only[z8,b1,b2,u,v]; cases decide (a.f0=8)<;>cases f<;>cases Ci m a.f2 a.f3.length<;>rfl
def Dv(s:List UInt8):Bool:=Dc s&& !decide (s=[95])
def MH(f:aD):Bool:=f.f1.all Dv&&(jP f.f0&&(decide ((f.f1.length:Int)≤4)&&Dx (fx f)))
theorem AE(f:aD):jL f=3+f.f0.length+dl List.length f.f1+aR (fx f):=rfl
theorem Tt{l:List (List UInt8)}{s:List UInt8}(h:s∈l):s.length<dl List.length l:=dK List.length h
theorem Jn(n:Nat)(hn:n≤1099511627776)(f:aD)(h:jL f+400<n):rQ n f.f0 f.f1 f.f2 f.f3 f.f4 f.f5 f.f6=some (MH f):=by
 rw[AE]at h; have hl:=bI List.length f.f1; unfold rQ MH; rw[uZ f.f1 Dv (fun i a ha=>by
  have hi:=bO ha; have hs:=Tt (z18 ha); simp only[qE,bG ha,z15,bB,ha,z8,Bh n a (by omega) (by omega),aN (show i<4611686018427387904 by omega)]
  unfold Dv; generalize decide (a=[95])=z; cases Dc a<;>cases z<;>rfl) (by simp only[qE,aM,z12]) (by omega)]
 have he:nH n f.f2 f.f3 f.f4 f.f5 f.f6=some (Dx (fx f)):=HX n hn (fx f) (by omega)
 rw[Ck n f.f0 (by omega) (by omega),he]
 cases f.f1.all Dv<;>cases jP f.f0<;>cases decide ((f.f1.length:Int)≤4)<;>rfl
theorem Ol(n:Nat)(hn:n≤1099511627776)(f:aD)(h:jL f+400<n):oI n f.f0 f.f1 f.f2 f.f3 f.f4 f.f5 f.f6=some (MH f):=by
 rw[AE]at h; have hl:=bI List.length f.f1; unfold oI MH; rw[uZ f.f1 Dv (fun i a ha=>by
  have hi:=bO ha; have hs:=Tt (z18 ha); simp only[nL,bG ha,z15,bB,ha,z8,BX n a (by omega) (by omega),aN (show i<4611686018427387904 by omega)]
  unfold Dv; generalize decide (a=[95])=z; cases Dc a<;>cases z<;>rfl) (by simp only[nL,aM,z12]) (by omega)]
 have he:nG n f.f2 f.f3 f.f4 f.f5 f.f6=some (Dx (fx f)):=HS n hn (fx f) (by omega)
 rw[Fh n f.f0 (by omega) (by omega),he]
 cases f.f1.all Dv<;>cases jP f.f0<;>cases decide ((f.f1.length:Int)≤4)<;>rfl
def CY(m:List aD):Bool:=m.all MH&&decide ((m.length:Int)≤12)
theorem NN(n:Nat)(hn:n≤1099511627776)(m:List aD)(h:dl jL m+400<n):mZ n m=some (CY m):=by
 have hl:=bI jL m; unfold mZ CY; rw[uZ m MH (fun i a ha=>by
  have hi:=bO ha; have hd:=dK jL (z18 ha); simp only[mG,bG ha,z15,bB,ha,z8,Jn n hn a (by omega),aN (show i<4611686018427387904 by omega)]
  cases MH a<;>rfl) (by simp only[mG,aM,z12]) (by omega)]
 cases m.all MH<;>rfl
theorem Jk(n:Nat)(hn:n≤1099511627776)(m:List aD)(h:dl jL m+400<n):jZ n m=some (CY m):=by
 have hl:=bI jL m; unfold jZ CY; rw[uZ m MH (fun i a ha=>by
  have hi:=bO ha; have hd:=dK jL (z18 ha); simp only[jQ,bG ha,z15,bB,ha,z8,Ol n hn a (by omega),aN (show i<4611686018427387904 by omega)]
  cases MH a<;>rfl) (by simp only[jQ,aM,z12]) (by omega)]
 cases m.all MH<;>rfl

theorem Sp(l:List (List UInt8)):zF (fun i a=>decide (Hy (fun b=>decide (a=b)) 0 l=(i:Int))) 0 l=GR l:=by
 unfold GR; rw[UF,EO,EO]; refine forall_congr' fun j=>forall_congr' fun a=>imp_congr_right fun ha=> ?_
 simp only[z32,z31,z34,z35]; have hj:=bO ha; rcases sC (fun b=>decide (a=b)) l 0 with⟨h,h1⟩ | ⟨k,b,h,h1,h2,h3⟩
 ·have:=h1 a (z18 ha)
  simp at this
 ·rw[h]
  simp only[z31]at h2; subst h2; constructor
  ·intro e hm
   have ek:k=j:=by omega
   subst ek; obtain⟨i,hi,e2⟩:=z95.1 hm; have:=h3 i a (by omega) (z63.2 ⟨by omega,e2⟩)
   simp at this
  ·intro hm
   by_cases hk:k<j
   ·exact absurd (z95.2 ⟨k,by omega,(z63.1 h1).2⟩) hm
   ·by_cases hk2:j<k
    ·have:=h3 j a hk2 ha
     simp at this
    ·omega
def freeB(f:aD):Bool:=(fl (fx f)).all fun s=>decide (s∈f.f1)
theorem OE{L:List (List UInt8)}{f:aD}(h: ∀s,s∈L↔s∈fl (fx f)):L.all (fun s=>decide (s∈f.f1))=freeB f:=by
 unfold freeB; rw[UF,z17,z17]; exact forall_congr' fun s=>by rw[h]
def inB(m:List aD)(f:aD):Bool:=GR f.f1&&(freeB f&&rX m (fx f))
theorem TH(n:Nat)(hn:n≤1099511627776)(m:List aD)(f:aD)(h:jL f+m.length+400<n):rR n m f.f0 f.f1 f.f2 f.f3 f.f4 f.f5 f.f6=some (inB m f):=by
 rw[AE]at h; have hl:=bI List.length f.f1; unfold rR inB; rw[vN f.f1 (fun i a=>decide (Hy (fun b=>decide (a=b)) 0 f.f1=(i:Int))) (fun i a ha=>by
  have hi:=bO ha; simp only[qG,bG ha,z15,bB,ha,z8,OD n f.f1 a (by omega) (by omega),aN (show i<4611686018427387904 by omega)]
  cases decide (Hy (fun b=>decide (a=b)) 0 f.f1=(i:Int))<;>rfl) (by simp only[qG,aM,z12]) (by omega),Sp]
 cases GR f.f1 with
 | false=>rfl
 | true=>
  simp only[if_true,z8,z41]; obtain⟨L,l1,l2,l3⟩:=AA n hn (fx f) (by omega)
  have l1:dN n f.f2 f.f3 f.f4 f.f5 f.f6=some L:=l1; rw[l1,z8]; rw[uZ L (fun s=>decide (s∈f.f1)) (fun i a ha=>by
   have hi:=bO ha; simp only[qF,bG ha,z15,bB,ha,z8,vW n f.f1 a (by omega) (by omega),aN (show i<4611686018427387904 by omega)]
   cases decide (a∈f.f1)<;>rfl) (by simp only[qF,aM,z12]) (by omega),OE l2]
  have e:bU n f.f2 f.f3 f.f4 f.f5 f.f6 m true=some (m,true&&rX m (fx f)):=GK n hn m (fx f) true (by omega)
  rw[e]; cases freeB f<;>rfl
def sF(m:List aD):Bool:=CY m&&zF (fun i f=>decide (nC m f.f0=(i:Int))&&inB m f) 0 m
theorem Eb(n:Nat)(hn:n≤1099511627776)(m:List aD)(h:dl jL m+m.length+400<n):nA n m=some (sF m):=by
 have hl:=bI jL m; unfold nA sF; rw[NN n hn m (by omega),z8]
 rw[vN m (fun i f=>decide (nC m f.f0=(i:Int))&&inB m f) (fun i a ha=>by
  have hi:=bO ha; have hd:=dK jL (z18 ha); simp only[mH,bG ha,z15,bB,ha,z8,sN n m a.f0 (by omega) (by omega),TH n hn m a (by omega),aN (show i<4611686018427387904 by omega)]
  cases decide (nC m a.f0=(i:Int))<;>cases inB m a<;>rfl) (by simp only[mH,aM,z12]) (by omega)]
 cases CY m<;>cases zF (fun i f=>decide (nC m f.f0=(i:Int))&&inB m f) 0 m<;>rfl
theorem Ea(n:Nat)(hn:n≤1099511627776)(m:List aD)(h:dl jL m+m.length+400<n):mV n m=some (sF m):=by
 have hl:=bI jL m; unfold mV sF; rw[Jk n hn m (by omega),z8]
 rw[vN m (fun i f=>decide (nC m f.f0=(i:Int))&&inB m f) (fun i a ha=>by
  have hi:=bO ha; have hd:=dK jL (z18 ha); have hw:=AE a; have hl1:=bI List.length a.f1; obtain⟨L,l1,l2,l3⟩:=HR n hn (fx a) (by omega)
  have l1:nF n a.f2 a.f3 a.f4 a.f5 a.f6=some L:=l1; have hc:cD n m a.f2 a.f3 a.f4 a.f5 a.f6=some (rX m (fx a)):=IS n hn m (fx a) (by omega)
  simp only[mE,bG ha,z15,bB,ha,z8,l1,aN (show i<4611686018427387904 by omega)]
  rw[uZ L (fun s=>decide (s∈a.f1)) (fun j s hs=>by
   have hj:=bO hs; simp only[mD,bG hs,z15,bB,hs,z8,EG n a.f1 s (by omega) (by omega),aN (show j<4611686018427387904 by omega)]
   cases decide (s∈a.f1)<;>rfl) (by simp only[mD,aM,z12]) (by omega),OE l2]
  unfold inB; rw[sL n m a.f0 (by omega) (by omega),Kx n a.f1 (by omega) (by omega),hc]
  simp only[z8]; cases decide (nC m a.f0=(i:Int))<;>cases GR a.f1<;>cases freeB a<;>cases rX m (fx a)<;>rfl) (by simp only[mE,aM,z12]) (by omega)]
 cases CY m<;>cases zF (fun i f=>decide (nC m f.f0=(i:Int))&&inB m f) 0 m<;>rfl
def gO{α:Type}(F:Nat→α→Nat×α):Nat→List α→Nat×List α
 | k,[]=>(k,[])
 | k,a::r=>((gO F (F k a).1 r).1,(F k a).2::(gO F (F k a).1 r).2)
theorem uU{α:Type}(F:Nat→α→Nat×α): ∀(l:List α) (k:Nat),(gO F k l).2.length=l.length
 | [],k=>rfl
 | a::r,k=>by simp only[gO,z36,uU F r]
theorem FZ{α:Type}{F:Nat→α→Nat×α}: ∀ {l:List α},(∀a∈l, ∀k,k≤(F k a).1)→ ∀k,k≤(gO F k l).1
 | [],h,k=>by simp [gO]
 | a::r,h,k=>by
  have h1:=h a z26 k; have d:=FZ (l:=r) (fun b c=>h b (z23 _ c)) (F k a).1
  simp only[gO]; omega
theorem IN{α:Type}{F:Nat→α→Nat×α}{w:α→Nat}: ∀ {l:List α},(∀a∈l, ∀k,(F k a).1≤k+1+w a)→ ∀k,(gO F k l).1≤k+dl w l
 | [],h,k=>by simp [gO]
 | a::r,h,k=>by
  have h1:=h a z26 k; have d:=IN (l:=r) (fun b c=>h b (z23 _ c)) (F k a).1
  simp only[gO,dl]; omega
theorem Cq{α:Type}{body:List α×Int×Int→Option ((List α×Int×Int)⊕(List α×Int×Int×Bool))}(F:Nat→α→Nat×α)(w:α→Nat){B C:Nat}(j: ∀a k,(F k a).1≤k+1+w a){len:Nat}
  (t: ∀(L:List α) (s i:Nat) a,L.length=len→L[i]? =some a→0<s→s+w a<B→w a<C→body (L,(s:Int),(i:Int))=some (.inl (L.set i (F s a).2,((F s a).1:Int),((i+1:Nat):Int))))(l: ∀(L:List α) (s:Nat),L.length=len→body (L,(s:Int),(len:Int))=some (.inr (L,(s:Int),(len:Int),false)))
  (b: ∀a k,k≤(F k a).1): ∀(r p:List α) (k m:Nat),(p++r).length=len→0<k→k+dl w r≤B→dl w r≤C→r.length<m→loopN body m (p++r,(k:Int),(p.length:Int))=some (p++(gO F k r).2,((gO F k r).1:Int),(len:Int),false)
 | [],p,k,m,d,o,g,h,f=>by
  obtain⟨m,rfl⟩: ∃q,m=q+1:=⟨m - 1,by simp at f; omega⟩
  have e:p.length=len:=by simpa using d
  simp only[z89,loopN,gO]; rw[e,l p k e]
 | a::r,p,k,m,d,o,g,h,f=>by
  obtain⟨m,rfl⟩: ∃q,m=q+1:=⟨m - 1,by simp at f; omega⟩
  have u:(p++a::r)[p.length]? =some a:=by simp
  have c:(p++a::r).set p.length (F k a).2=(p++[(F k a).2])++r:=by
   rw[z135 _ _ (z64 _),z98,z90,z74]; rfl
  simp only[dl]at g h; have h1:=j a k; have v:=b a k; simp only[loopN,t _ k p.length a d u o (by omega) (by omega),c,gO]
  have:=Cq F w j t l b r (p++[(F k a).2]) (F k a).1 m (by rw[←d]; simp) (by omega) (by omega) (by omega) (by simp at f; omega)
  rw[z28,z37]at this; rw[this,z74]; rfl
theorem Cr{α ρ:Type}{body:Int×Int→Option ((Int×Int)⊕ρ)}(F:Nat→α→Nat×α)(w:α→Nat){B C:Nat}(h: ∀a k,(F k a).1≤k+1+w a)(b: ∀a k,k≤(F k a).1){L:List α}{out:Nat→ρ}
  (o: ∀(s i:Nat) a,L[i]? =some (F s a).2→0<s→s+w a<B→w a<C→body ((s:Int),(i:Int))=some (.inl (((F s a).1:Int),((i+1:Nat):Int))))(j: ∀s:Nat,body ((s:Int),(L.length:Int))=some (.inr (out s))):
  ∀(r p:List α) (k m:Nat),L=p++(gO F k r).2→0<k→k+dl w r≤B→dl w r≤C→r.length<m→loopN body m ((k:Int),(p.length:Int))=some (out (gO F k r).1)
 | [],p,k,m,c,l,f,g,d=>by
  obtain⟨m,rfl⟩: ∃q,m=q+1:=⟨m - 1,by simp at d; omega⟩
  have e:p.length=L.length:=by rw[c]; simp [gO]
  simp only[loopN,gO]; rw[e,j k]
 | a::r,p,k,m,c,l,f,g,d=>by
  obtain⟨m,rfl⟩: ∃q,m=q+1:=⟨m - 1,by simp at d; omega⟩
  simp only[gO]at c ⊢; have t:L[p.length]? =some (F k a).2:=by rw[c]; simp
  simp only[dl]at f g; have h1:=h a k; have u:=b a k; simp only[loopN,o k p.length a t l (by omega) (by omega)]
  have:=Cr F w h b o j r (p++[(F k a).2]) (F k a).1 m (by rw[c,z74]; rfl) (by omega) (by omega) (by omega) (by simp at d; omega)
  rw[z28,z37]at this; exact this
theorem Fa{α:Type}{body:List α×Int×Int→Option ((List α×Int×Int)⊕(List α×Int×Int×Bool))}(F:Nat→α→Nat×α)(w:α→Nat){B C:Nat}(g: ∀a k,(F k a).1≤k+w a){len:Nat}
  (j: ∀(L:List α) (s i:Nat) a,L.length=len→L[i]? =some a→0<s→s+w a<B→w a<C→body (L,(s:Int),(i:Int))=some (.inl (L.set i (F s a).2,((F s a).1:Int),((i+1:Nat):Int))))(h: ∀(L:List α) (s:Nat),L.length=len→body (L,(s:Int),(len:Int))=some (.inr (L,(s:Int),(len:Int),false)))
  (b: ∀a k,k≤(F k a).1)(r p:List α)(k m:Nat)(h1:(p++r).length=len)(c:0<k)(d:k+dl w r≤B)(e:dl w r≤C)(f:r.length<m):loopN body m (p++r,(k:Int),(p.length:Int))=some (p++(gO F k r).2,((gO F k r).1:Int),(len:Int),false):=
 Cq F w (fun a k=>by have:=g a k; omega) j h b r p k m h1 c d e f
theorem Fc{α ρ:Type}{body:Int×Int→Option ((Int×Int)⊕ρ)}(F:Nat→α→Nat×α)(w:α→Nat){B C:Nat}(g: ∀a k,(F k a).1≤k+w a)(b: ∀a k,k≤(F k a).1){L:List α}{out:Nat→ρ}
  (j: ∀(s i:Nat) a,L[i]? =some (F s a).2→0<s→s+w a<B→w a<C→body ((s:Int),(i:Int))=some (.inl (((F s a).1:Int),((i+1:Nat):Int))))(h: ∀s:Nat,body ((s:Int),(L.length:Int))=some (.inr (out s)))
  (r p:List α)(k m:Nat)(h1:L=p++(gO F k r).2)(c:0<k)(d:k+dl w r≤B)(e:dl w r≤C)(f:r.length<m):loopN body m ((k:Int),(p.length:Int))=some (out (gO F k r).1):=
 Cr F w (fun a k=>by have:=g a k; omega) b j h r p k m h1 c d e f
def Ro:Nat→Nat→List UInt8→List UInt8
 | 0,_,a=>a
 | m+1,k,a=>bif decide (k=0)then a else Ro m (k / 10) (UInt8.ofNat (48+k % 10)::a)
theorem OJ: ∀(m k:Nat) (a:List UInt8),(Ro m k a).length≤m+a.length
 | 0,k,a=>by simp [Ro]
 | m+1,k,a=>by
  unfold Ro; cases decide (k=0)with
  | true=>simp only[z15]; omega
  | false=>
   simp only[z12]; have:=OJ m (k / 10) (UInt8.ofNat (48+k % 10)::a); simp only[z36]at this; omega
theorem Ya(k:Nat):LY [IntKind.wrap .u8 (IntKind.wrap .i64 (48+Int.tmod (k:Int) 10))]=some [UInt8.ofNat (48+k % 10)]:=by
 have e:Int.tmod (k:Int) 10=((k % 10:Nat):Int):=rfl; have h:k % 10<10:=Nat.mod_lt _ (by omega)
 rw[e,wrap_i64 (by omega) (by omega)]
 have a:IntKind.wrap .u8 (48+((k % 10:Nat):Int))=48+((k % 10:Nat):Int):=by
  generalize k % 10=j at h; have:j=0∨j=1∨j=2∨j=3∨j=4∨j=5∨j=6∨j=7∨j=8∨j=9:=by omega
  rcases this with h | h | h | h | h | h | h | h | h | h<;>(subst h; rfl)
 rw[a]; simp only[LY]; rw[z16 ⟨by omega,by omega⟩]
 have b:(48+((k % 10:Nat):Int)).toNat=48+k % 10:=by omega
 rw[b]; rfl
theorem Bf(n:Nat): ∀(d k:Nat) (a:List UInt8) (m:Nat),k<10 ^ d→a.length+d<100→k<4611686018427387904→d<m→loopN (mF n) m ((k:Int),a)=some ((0:Int),Ro d k a,false)
 | 0,k,a,m,b,i,h,j=>by
  obtain⟨m,rfl⟩: ∃q,m=q+1:=⟨m - 1,by omega⟩
  have:k=0:=by simpa using b
  subst this; rfl
 | d+1,k,a,m,b,i,h,j=>by
  obtain⟨m,rfl⟩: ∃q,m=q+1:=⟨m - 1,by omega⟩
  by_cases e:k=0
  ·subst e
   rfl
  ·have c:Int.tdiv (k:Int) 10=((k / 10:Nat):Int):=rfl
   have f:IntKind.wrap .i64 ((k / 10:Nat):Int)=((k / 10:Nat):Int):=wrap_i64 (by omega) (by omega)
   have g:decide (([UInt8.ofNat (48+k % 10)]:List UInt8).length+a.length≤9223372036854775807)=true:=z20 (by simp only[z37]; omega)
   simp only[loopN,mF,z20 (show(0:Int)<(k:Int)by omega),z15,Ya,z8,g,ck,c,f]
   have:=Bf n d (k / 10) (UInt8.ofNat (48+k % 10)::a) m (by rw[Nat.pow_succ]at b; omega) (by simp only[z36]; omega) (by omega) (by omega)
   rw[List.singleton_append,this]; unfold Ro; rw[z13 e,z12]; cases d<;>rfl
def KU(k:Nat):List UInt8:=109::Ro 20 k []
theorem fN(n k:Nat)(hn:20<n)(b:0<k)(h:k<1099511627776):bM n (k:Int)=some (KU k):=by
 unfold bM; rw[z13 (show ¬ (k:Int)≤0 by omega),z12,Bf n 20 k [] n (by omega) (by simp) (by omega) hn]
 have:=OJ 20 k []; have a:decide (([109]:List UInt8).length+(Ro 20 k []).length≤9223372036854775807)=true:=z20 (by simp only[z37]; simp only[z79]at this; omega)
 simp only[z8,a,ck,z15]; rfl
theorem cY{k:Nat}(h:k<4611686018427387904):IntKind.wrap .i64 ((k:Int)+1)=((k+1:Nat):Int):=aN h
def aZ(l:List (List UInt8))(k:Nat):Nat×List (List UInt8):=gO (fun k _=>(k+1,KU k)) k l
theorem Fd(l:List (List UInt8))(k:Nat):(aZ l k).1≤k+dl List.length l:=IN (fun a _ k=>by simp only; omega) k
theorem Fk(l:List (List UInt8))(k:Nat):k≤(aZ l k).1:=FZ (fun a _ k=>by simp only; omega) k
theorem HV(n:Nat)(hn:n≤1099511627776)(l:List (List UInt8))(k:Nat)(h:20+dl List.length l<n)(f:0<k)(d:k+dl List.length l≤1099511627776):iS n l (k:Int)=some (((aZ l k).1:Int),(aZ l k).2):=by
 unfold iS; have m:=bI List.length l; have g:=Cq (body:=fH n) (fun(k:Nat) (_:List UInt8)=>(k+1,KU k)) List.length (B:=1099511627776) (C:=dl List.length l) (fun a k=>by simp only; omega) (len:=l.length) (fun L s i a b c j o p=>by
  have e:=bO c; simp only[fH,z20 (show(i:Int)<(L.length:Int)by omega),z15,bB,c,z8,z39,UB,z50 e,cY (show s<4611686018427387904 by omega),aN (show i<4611686018427387904 by omega),fN n s (by omega) j (by omega)]) (fun L s b=>by rw[←b]; simp only[fH,aM,z12]) (fun a k=>by simp only; omega) l [] k n rfl f d (z64 _) (by omega)
 refine(congrArg (fun q=>Option.bind q _) g).trans ?_
 simp only[z8,z77]; rfl
theorem HZ(n:Nat)(hn:n≤1099511627776)(l:List (List UInt8))(k:Nat)(h:20+dl List.length l<n)(d:0<k)(c:k+dl List.length l≤1099511627776):iU n (aZ l k).2 (k:Int)=some ((aZ l k).1:Int):=by
 unfold iU; have j:=bI List.length l; have e:=Cr (body:=fK n (aZ l k).2) (fun(k:Nat) (_:List UInt8)=>(k+1,KU k)) List.length (B:=1099511627776) (C:=dl List.length l) (fun a k=>by simp only; omega) (fun a k=>by simp only; omega) (L:=(aZ l k).2) (out:=fun s=> .inr ((s:Int),((aZ l k).2.length:Int),false)) (fun s i a b g m o=>by
  have p:=bO b; have f:(aZ l k).2.length=l.length:=uU _ l k; simp only[fK,bG b,z15,bB,b,z8,decide_true,z91,z33,z12,cY (show s<4611686018427387904 by omega),aN (show i<4611686018427387904 by omega),fN n s (by omega) g (by omega)]) (fun s=>by simp only[fK,aM,z12]) l [] k n rfl d c (z64 _) (by omega)
 refine(congrArg (fun q=>Option.bind q _) e).trans ?_
 simp only[z8]; rfl
mutual
def mC:aB→Nat→Nat×aB
 | .mk _ _ _ l c,k=>((aO c (aX l (k+1+1+1)).1).1, .mk (k:Int) ((k+1:Nat):Int) (KU (k+1+1)) (aX l (k+1+1+1)).2 (aO c (aX l (k+1+1+1)).1).2)
def aX:List aB→Nat→Nat×List aB
 | [],k=>(k,[])
 | a::r,k=>((aX r (mC a k).1).1,(mC a k).2::(aX r (mC a k).1).2)
def aO:List aA→Nat→Nat×List aA
 | [],k=>(k,[])
 | a::r,k=>((aO r (lC a k).1).1,(lC a k).2::(aO r (lC a k).1).2)
def lC:aA→Nat→Nat×aA
 | .two p x,k=>((mC x (mC p k).1).1, .two (mC p k).2 (mC x (mC p k).1).2)
end
theorem tF: ∀(l:List aB) (k:Nat),aX l k=gO (fun k a=>mC a k) k l
 | [],k=>rfl
 | a::r,k=>by simp only[aX,gO,tF r]
theorem qA: ∀(l:List aA) (k:Nat),aO l k=gO (fun k a=>lC a k) k l
 | [],k=>rfl
 | a::r,k=>by simp only[aO,gO,qA r]
mutual
theorem wT: ∀(a:aB) (k:Nat),(mC a k).1≤k+aR a
 | .mk _ _ s l c,k=>by have:=Cn l (k+1+1+1); have:=xF c (aX l (k+1+1+1)).1; simp only[mC,aR]; omega
theorem Cn: ∀(l:List aB) (k:Nat),(aX l k).1≤k+nV l
 | [],k=>by simp [aX]
 | a::r,k=>by have:=wT a k; have:=Cn r (mC a k).1; simp only[aX,nV]; omega
theorem xF: ∀(l:List aA) (k:Nat),(aO l k).1≤k+gH l
 | [],k=>by simp [aO]
 | a::r,k=>by have:=AT a k; have:=xF r (lC a k).1; simp only[aO,gH]; omega
theorem AT: ∀(a:aA) (k:Nat),(lC a k).1≤k+aS a
 | .two p x,k=>by have:=wT p k; have:=wT x (mC p k).1; simp only[lC,aS]; omega
end
mutual
theorem wU: ∀(a:aB) (k:Nat),k≤(mC a k).1
 | .mk _ _ s l c,k=>by have:=Co l (k+1+1+1); have:=xH c (aX l (k+1+1+1)).1; simp only[mC]; omega
theorem Co: ∀(l:List aB) (k:Nat),k≤(aX l k).1
 | [],k=>by simp [aX]
 | a::r,k=>by have:=wU a k; have:=Co r (mC a k).1; simp only[aX]; omega
theorem xH: ∀(l:List aA) (k:Nat),k≤(aO l k).1
 | [],k=>by simp [aO]
 | a::r,k=>by have:=AU a k; have:=xH r (lC a k).1; simp only[aO]; omega
theorem AU: ∀(a:aA) (k:Nat),k≤(lC a k).1
 | .two p x,k=>by have:=wU p k; have:=wU x (mC p k).1; simp only[lC]; omega
end
theorem vA(l:List aB)(k:Nat):(aX l k).1≤k+dl aR l:=by have:=Cn l k; rw[bW]at this; exact this
theorem sY(l:List aA)(k:Nat):(aO l k).1≤k+dl aS l:=by have:=xF l k; rw[bD]at this; exact this
theorem vB(l:List aB)(k:Nat):k≤(aX l k).1:=Co l k
theorem sZ(l:List aA)(k:Nat):k≤(aO l k).1:=xH l k
theorem Fz(a0 a1:Int)(a2:List UInt8)(a3:List aB)(a4:List aA)(a5 a6:Int)(a7:List UInt8)(a8:List aB)(a:List aA)(k:Nat):lC (.mk a0 a1 a2 a3 a4 a5 a6 a7 a8 a) k=
  ((aO a (aX a8 ((aO a4 (aX a3 (k+1+1+1)).1).1+1+1+1)).1).1,
   .mk (k:Int) ((k+1:Nat):Int) (KU (k+1+1)) (aX a3 (k+1+1+1)).2 (aO a4 (aX a3 (k+1+1+1)).1).2
    (((aO a4 (aX a3 (k+1+1+1)).1).1:Nat):Int) (((aO a4 (aX a3 (k+1+1+1)).1).1+1:Nat):Int) (KU ((aO a4 (aX a3 (k+1+1+1)).1).1+1+1))
    (aX a8 ((aO a4 (aX a3 (k+1+1+1)).1).1+1+1+1)).2 (aO a (aX a8 ((aO a4 (aX a3 (k+1+1+1)).1).1+1+1+1)).1).2):=by
 unfold aA.mk; simp only[lC,mC]
theorem LW{a0 a1:Int}{a2:List UInt8}{a3:List aB}{a4:List aA}{a5 a6:Int}{a7:List UInt8}{a8:List aB}{a:List aA}:(aA.mk a0 a1 a2 a3 a4 a5 a6 a7 a8 a).f0=a0:=rfl
theorem LV{a0 a1:Int}{a2:List UInt8}{a3:List aB}{a4:List aA}{a5 a6:Int}{a7:List UInt8}{a8:List aB}{a:List aA}:(aA.mk a0 a1 a2 a3 a4 a5 a6 a7 a8 a).f1=a1:=rfl
theorem LU{a0 a1:Int}{a2:List UInt8}{a3:List aB}{a4:List aA}{a5 a6:Int}{a7:List UInt8}{a8:List aB}{a:List aA}:(aA.mk a0 a1 a2 a3 a4 a5 a6 a7 a8 a).f2=a2:=rfl
theorem LT{a0 a1:Int}{a2:List UInt8}{a3:List aB}{a4:List aA}{a5 a6:Int}{a7:List UInt8}{a8:List aB}{a:List aA}:(aA.mk a0 a1 a2 a3 a4 a5 a6 a7 a8 a).f3=a3:=rfl
theorem LS{a0 a1:Int}{a2:List UInt8}{a3:List aB}{a4:List aA}{a5 a6:Int}{a7:List UInt8}{a8:List aB}{a:List aA}:(aA.mk a0 a1 a2 a3 a4 a5 a6 a7 a8 a).f4=a4:=rfl
theorem LR{a0 a1:Int}{a2:List UInt8}{a3:List aB}{a4:List aA}{a5 a6:Int}{a7:List UInt8}{a8:List aB}{a:List aA}:(aA.mk a0 a1 a2 a3 a4 a5 a6 a7 a8 a).f5=a5:=rfl
theorem LP{a0 a1:Int}{a2:List UInt8}{a3:List aB}{a4:List aA}{a5 a6:Int}{a7:List UInt8}{a8:List aB}{a:List aA}:(aA.mk a0 a1 a2 a3 a4 a5 a6 a7 a8 a).f6=a6:=rfl
theorem LO{a0 a1:Int}{a2:List UInt8}{a3:List aB}{a4:List aA}{a5 a6:Int}{a7:List UInt8}{a8:List aB}{a:List aA}:(aA.mk a0 a1 a2 a3 a4 a5 a6 a7 a8 a).f7=a7:=rfl
theorem LN{a0 a1:Int}{a2:List UInt8}{a3:List aB}{a4:List aA}{a5 a6:Int}{a7:List UInt8}{a8:List aB}{a:List aA}:(aA.mk a0 a1 a2 a3 a4 a5 a6 a7 a8 a).f8=a8:=rfl
theorem LM{a0 a1:Int}{a2:List UInt8}{a3:List aB}{a4:List aA}{a5 a6:Int}{a7:List UInt8}{a8:List aB}{a:List aA}:(aA.mk a0 a1 a2 a3 a4 a5 a6 a7 a8 a).f9=a:=rfl
theorem xI: ∀(n:Nat),n≤1099511627776→(∀(l:List aB) (k:Nat),20+dl aR l<n→0<k→k+dl aR l≤1099511627776→dD n l (k:Int)=some (((aX l k).1:Int),(aX l k).2))∧(∀(l:List aA) (k:Nat),20+dl aS l<n→0<k→k+dl aS l≤1099511627776→cE n l (k:Int)=some (((aO l k).1:Int),(aO l k).2))
 | 0,_=>⟨fun l k h=>by omega,fun l k h=>by omega⟩
 | n+1,hn=>by
  obtain⟨c,d⟩:=xI n (by omega)
  refine⟨fun l k h v p=> ?_,fun l k h v p=> ?_⟩
  ·rw[yL]
   unfold lG; have A:=bI aR l; have w:=Fa (body:=hJ n (cE n) (dD n)) (fun k a=>mC a k) aR (B:=1099511627776) (C:=dl aR l) (fun a k=>wT a k) (len:=l.length) (fun L s i a g j D r t=>by
    have u:=bO j; obtain⟨a0,a1,a2,a3,a4⟩:=a; simp only[aR,bW,bD]at r t; have x:=vA a3 (s+1+1+1); have r1:=vB a3 (s+1+1+1); have m:=c a3 (s+1+1+1) (by omega) (by omega) (by omega)
    simp only[mC]; generalize aX a3 (s+1+1+1)=t1 at*; obtain⟨u1,b1⟩:=t1; simp only at x r1 m ⊢; have o:=d a4 u1 (by omega) (by omega) (by omega)
    generalize aO a4 u1=t2 at*
    simp only[hJ,z20 (show(i:Int)<(L.length:Int)by omega),z15,bB,j,z8,z39,UB,z50 u,aB.f0,aB.f1,aB.f2,aB.f3,aB.f4,
     cY (show s<4611686018427387904 by omega),cY (show s+1<4611686018427387904 by omega),cY (show s+1+1<4611686018427387904 by omega),aN (show i<4611686018427387904 by omega),fN n (s+1+1) (by omega) (by omega) (by omega),m,o]) (fun L s g=>by rw[←g]; simp only[hJ,aM,z12]) (fun a k=>wU a k) l [] k n rfl v p (z64 _) (by omega)
   refine(congrArg (fun q=>Option.bind q _) w).trans ?_
   simp only[z8,z77,tF]
  ·rw[vZ]
   unfold iP; have A:=bI aS l; have w:=Fa (body:=fJ n (cE n) (dD n)) (fun k a=>lC a k) aS (B:=1099511627776) (C:=dl aS l) (fun a k=>AT a k) (len:=l.length) (fun L s i a g j D r t=>by
    have u:=bO j; obtain⟨a0,a1,a2,a3,a4,a5,a6,a7,a8,f,rfl⟩: ∃a0 a1 a2 a3 a4 a5 a6 a7 a8 f,a=aA.mk a0 a1 a2 a3 a4 a5 a6 a7 a8 f:=⟨_,_,_,_,_,_,_,_,_,_,(vR a).symm⟩; have e:aS (.mk a0 a1 a2 a3 a4 a5 a6 a7 a8 f)=3+(3+a2.length+nV a3+gH a4)+(3+a7.length+nV a8+gH f):=by
     unfold aA.mk; simp only[aS,aR]
    rw[bW,bD,bW,bD]at e; rw[e]at r t; simp only[Fz]; have x:=vA a3 (s+1+1+1); have r1:=vB a3 (s+1+1+1); have m:=c a3 (s+1+1+1) (by omega) (by omega) (by omega)
    generalize aX a3 (s+1+1+1)=t1 at*; obtain⟨u1,b1⟩:=t1; simp only at x r1 m ⊢; have F:=sY a4 u1; have r2:=sZ a4 u1; have o:=d a4 u1 (by omega) (by omega) (by omega)
    generalize aO a4 u1=t2 at*; obtain⟨b,b2⟩:=t2; simp only at F r2 o ⊢; have G:=vA a8 (b+1+1+1); have H:=vB a8 (b+1+1+1); have y:=c a8 (b+1+1+1) (by omega) (by omega) (by omega)
    generalize aX a8 (b+1+1+1)=t3 at*; obtain⟨z,I⟩:=t3; simp only at G H y ⊢; have E:=d f z (by omega) (by omega) (by omega)
    generalize aO f z=t4 at*
    simp only[fJ,z20 (show(i:Int)<(L.length:Int)by omega),z15,bB,j,z8,z39,UB,z50 u,LW,LV,LU,LT,LS,LR,LP,LO,LN,LM,
     cY (show s<4611686018427387904 by omega),cY (show s+1<4611686018427387904 by omega),cY (show s+1+1<4611686018427387904 by omega),aN (show i<4611686018427387904 by omega),fN n (s+1+1) (by omega) (by omega) (by omega),m,o,y,E,
     cY (show b<4611686018427387904 by omega),cY (show b+1<4611686018427387904 by omega),cY (show b+1+1<4611686018427387904 by omega),fN n (b+1+1) (by omega) (by omega) (by omega)]) (fun L s g=>by rw[←g]; simp only[fJ,aM,z12]) (fun a k=>AU a k) l [] k n rfl v p (z64 _) (by omega)
   refine(congrArg (fun q=>Option.bind q _) w).trans ?_
   simp only[z8,z77,qA]
theorem Lk(n:Nat)(hn:n≤1099511627776)(l:List aB)(k:Nat)(h:20+dl aR l<n)(b:0<k)(a:k+dl aR l≤1099511627776):dD n l (k:Int)=some (((aX l k).1:Int),(aX l k).2):=(xI n hn).1 l k h b a
theorem HW(n:Nat)(hn:n≤1099511627776)(l:List aA)(k:Nat)(h:20+dl aS l<n)(b:0<k)(a:k+dl aS l≤1099511627776):cE n l (k:Int)=some (((aO l k).1:Int),(aO l k).2):=(xI n hn).2 l k h b a
theorem xJ: ∀(n:Nat),n≤1099511627776→(∀(l:List aB) (k:Nat),20+dl aR l<n→0<k→k+dl aR l≤1099511627776→dE n (aX l k).2 (k:Int)=some ((aX l k).1:Int))∧(∀(l:List aA) (k:Nat),20+dl aS l<n→0<k→k+dl aS l≤1099511627776→cG n (aO l k).2 (k:Int)=some ((aO l k).1:Int))
 | 0,_=>⟨fun l k h=>by omega,fun l k h=>by omega⟩
 | n+1,hn=>by
  obtain⟨g,j⟩:=xJ n (by omega)
  refine⟨fun l k h w t=> ?_,fun l k h w t=> ?_⟩
  ·rw[yM]
   unfold lH; have E:=bI aR l; have m:(aX l k).2.length=l.length:=by rw[tF,uU]
   have x:=Fc (body:=hY n (cG n) (dE n) (aX l k).2) (fun k a=>mC a k) aR (B:=1099511627776) (C:=dl aR l) (fun a k=>wT a k) (fun a k=>wU a k) (L:=(aX l k).2) (out:=fun s=> .inr ((s:Int),((aX l k).2.length:Int),false)) (fun s i a b G u v=>by
    have F:=bO b; have f:=bG b; obtain⟨a0,a1,a2,a3,a4⟩:=a; simp only[aR,bW,bD]at u v; have y:=vA a3 (s+1+1+1); have r1:=vB a3 (s+1+1+1); have o:=g a3 (s+1+1+1) (by omega) (by omega) (by omega)
    simp only[mC]at b ⊢; generalize aX a3 (s+1+1+1)=t1 at*; obtain⟨u1,b1⟩:=t1; simp only at y r1 o b ⊢; have r2:=sZ a4 u1; have z:=sY a4 u1; have p:=j a4 u1 (by omega) (by omega) (by omega)
    generalize aO a4 u1=t2 at*; obtain⟨c,b2⟩:=t2; simp only at z r2 p b ⊢
    simp only[hY,f,z15,bB,b,z8,aB.f0,aB.f1,aB.f2,aB.f3,aB.f4,decide_true,z33,z12,
     cY (show s<4611686018427387904 by omega),cY (show s+1<4611686018427387904 by omega),cY (show s+1+1<4611686018427387904 by omega),aN (show i<4611686018427387904 by omega),fN n (s+1+1) (by omega) (by omega) (by omega),o,p,
     z13 (show ¬ (u1:Int)<0 by omega),z13 (show ¬ (c:Int)<0 by omega)]) (fun s=>by simp only[hY,aM,z12]) l [] k n (by rw[z77,tF]) w t (z64 _) (by omega)
   refine(congrArg (fun q=>Option.bind q _) x).trans ?_
   simp only[z8,tF]
  ·rw[wA]
   unfold iQ; have E:=bI aS l; have m:(aO l k).2.length=l.length:=by rw[qA,uU]
   have x:=Fc (body:=fM n (cG n) (dE n) (aO l k).2) (fun k a=>lC a k) aS (B:=1099511627776) (C:=dl aS l) (fun a k=>AT a k) (fun a k=>AU a k) (L:=(aO l k).2) (out:=fun s=> .inr ((s:Int),((aO l k).2.length:Int),false)) (fun s i a b G u v=>by
    have F:=bO b; have f:=bG b; obtain⟨a0,a1,a2,a3,a4,a5,a6,a7,a8,d,rfl⟩: ∃a0 a1 a2 a3 a4 a5 a6 a7 a8 d,a=aA.mk a0 a1 a2 a3 a4 a5 a6 a7 a8 d:=⟨_,_,_,_,_,_,_,_,_,_,(vR a).symm⟩; have e:aS (.mk a0 a1 a2 a3 a4 a5 a6 a7 a8 d)=3+(3+a2.length+nV a3+gH a4)+(3+a7.length+nV a8+gH d):=by
     unfold aA.mk; simp only[aS,aR]
    rw[bW,bD,bW,bD]at e; rw[e]at u v; simp only[Fz]at b ⊢; have y:=vA a3 (s+1+1+1); have r1:=vB a3 (s+1+1+1); have o:=g a3 (s+1+1+1) (by omega) (by omega) (by omega)
    generalize aX a3 (s+1+1+1)=t1 at*; obtain⟨u1,b1⟩:=t1; simp only at y r1 o b ⊢; have z:=sY a4 u1; have r2:=sZ a4 u1; have p:=j a4 u1 (by omega) (by omega) (by omega)
    generalize aO a4 u1=t2 at*; obtain⟨c,b2⟩:=t2; simp only at z r2 p b ⊢; have H:=vA a8 (c+1+1+1); have J:=vB a8 (c+1+1+1); have A:=g a8 (c+1+1+1) (by omega) (by omega) (by omega)
    generalize aX a8 (c+1+1+1)=t3 at*; obtain⟨r,N⟩:=t3; simp only at H J A b ⊢; have K:=sZ d r; have I:=sY d r; have D:=j d r (by omega) (by omega) (by omega)
    generalize aO d r=t4 at*; obtain⟨M,O⟩:=t4; simp only at I K D b ⊢
    simp only[fM,f,z15,bB,b,z8,LW,LV,LU,LT,LS,LR,LP,LO,LN,LM,decide_true,z33,z12,
     cY (show s<4611686018427387904 by omega),cY (show s+1<4611686018427387904 by omega),cY (show s+1+1<4611686018427387904 by omega),aN (show i<4611686018427387904 by omega),fN n (s+1+1) (by omega) (by omega) (by omega),o,p,A,D,
     cY (show c<4611686018427387904 by omega),cY (show c+1<4611686018427387904 by omega),cY (show c+1+1<4611686018427387904 by omega),fN n (c+1+1) (by omega) (by omega) (by omega),
     z13 (show ¬ (u1:Int)<0 by omega),z13 (show ¬ (c:Int)<0 by omega),z13 (show ¬ (r:Int)<0 by omega),z13 (show ¬ (M:Int)<0 by omega)]) (fun s=>by simp only[fM,aM,z12]) l [] k n (by rw[z77,qA]) w t (z64 _) (by omega)
   refine(congrArg (fun q=>Option.bind q _) x).trans ?_
   simp only[z8,qA]
theorem Lr(n:Nat)(hn:n≤1099511627776)(l:List aB)(k:Nat)(h:20+dl aR l<n)(b:0<k)(a:k+dl aR l≤1099511627776):dE n (aX l k).2 (k:Int)=some ((aX l k).1:Int):=(xJ n hn).1 l k h b a
theorem Ha(n:Nat)(hn:n≤1099511627776)(l:List aA)(k:Nat)(h:20+dl aS l<n)(b:0<k)(a:k+dl aS l≤1099511627776):cG n (aO l k).2 (k:Int)=some ((aO l k).1:Int):=(xJ n hn).2 l k h b a

def Jb(k:Nat):aD→Nat×aD
 | .mk a0 a1 a2 a3 a4 a5 a6=>((aO a6 ((aX a5 ((aZ a1 (k+1)).1+1+1+1)).1)).1, .mk (KU (k)) ((aZ a1 (k+1)).2) ((((aZ a1 (k+1)).1:Nat):Int)) ((((aZ a1 (k+1)).1+1:Nat):Int)) (KU ((aZ a1 (k+1)).1+1+1)) ((aX a5 ((aZ a1 (k+1)).1+1+1+1)).2) ((aO a6 ((aX a5 ((aZ a1 (k+1)).1+1+1+1)).1)).2))
theorem Ns(a:aD)(k:Nat):(Jb k a).1≤k+jL a:=by
 obtain⟨a0,a1,a2,a3,a4,a5,a6⟩:=a; have:=Fd a1 (k+1); have:=vA a5 ((aZ a1 (k+1)).1+1+1+1); have:=sY a6 ((aX a5 ((aZ a1 (k+1)).1+1+1+1)).1); have e:jL (.mk a0 a1 a2 a3 a4 a5 a6)=(3+a0.length+dl List.length a1+(3+a4.length+nV a5+gH a6)):=rfl; rw[bW,bD]at e; show(aO a6 ((aX a5 ((aZ a1 (k+1)).1+1+1+1)).1)).1≤k+jL (.mk a0 a1 a2 a3 a4 a5 a6); omega
theorem JL(a:aD)(k:Nat):k≤(Jb k a).1:=by
 obtain⟨a0,a1,a2,a3,a4,a5,a6⟩:=a; have:=Fk a1 (k+1); have:=vB a5 ((aZ a1 (k+1)).1+1+1+1); have:=sZ a6 ((aX a5 ((aZ a1 (k+1)).1+1+1+1)).1); show k≤(aO a6 ((aX a5 ((aZ a1 (k+1)).1+1+1+1)).1)).1; omega
def uD(l:List aD)(k:Nat):Nat×List aD:=gO Jb k l
theorem Tr(l:List aD)(k:Nat):k≤(uD l k).1:=FZ (fun a _ k=>JL a k) k
theorem GA(n:Nat)(hn:n≤1099511627776)(l:List aD)(k:Nat)(h:20+dl jL l<n)(u:0<k)(o:k+dl jL l≤1099511627776):jS n l (k:Int)=some (((uD l k).1:Int),(uD l k).2):=by
 unfold jS; have D:=bI jL l; have v:=Fa (body:=iT n) Jb jL (B:=1099511627776) (C:=dl jL l) (fun a k=>Ns a k) (len:=l.length) (fun L s i a c d E p r=>by
  have t:=bO d; obtain⟨a0,a1,a2,a3,a4,a5,a6⟩:=a; have e:jL (.mk a0 a1 a2 a3 a4 a5 a6)=(3+a0.length+dl List.length a1+(3+a4.length+nV a5+gH a6)):=rfl; rw[bW,bD]at e; rw[e]at p r; have g:Jb s (.mk a0 a1 a2 a3 a4 a5 a6)=((aO a6 ((aX a5 ((aZ a1 (s+1)).1+1+1+1)).1)).1, .mk (KU (s)) ((aZ a1 (s+1)).2) ((((aZ a1 (s+1)).1:Nat):Int)) ((((aZ a1 (s+1)).1+1:Nat):Int)) (KU ((aZ a1 (s+1)).1+1+1)) ((aX a5 ((aZ a1 (s+1)).1+1+1+1)).2) ((aO a6 ((aX a5 ((aZ a1 (s+1)).1+1+1+1)).1)).2)):=rfl; rw[g]; have w:=Fd a1 (s+1); have r1:=Fk a1 (s+1); have f:=HV n hn a1 (s+1) (by omega) (by omega) (by omega)
  generalize aZ a1 (s+1)=t1 at*; obtain⟨u1,b1⟩:=t1; simp only at w r1 f ⊢; have x:=vA a5 (u1+1+1+1); have r2:=vB a5 (u1+1+1+1); have j:=Lk n hn a5 (u1+1+1+1) (by omega) (by omega) (by omega)
  generalize aX a5 (u1+1+1+1)=t2 at*; obtain⟨b,b2⟩:=t2; simp only at x r2 j ⊢; have y:=sY a6 (b); have z:=sZ a6 (b); have m:=HW n hn a6 (b) (by omega) (by omega) (by omega)
  generalize aO a6 (b)=t3 at*; obtain⟨F,A⟩:=t3; simp only at y z m ⊢; simp only[iT,z20 (show(i:Int)<(L.length:Int)by omega),z15,bB,d,z8,z39,UB,z50 t,aN (show i<4611686018427387904 by omega),cY (show s<4611686018427387904 by omega),cY (show u1<4611686018427387904 by omega),cY (show u1+1<4611686018427387904 by omega),cY (show u1+1+1<4611686018427387904 by omega),fN n (s) (by omega) (by omega) (by omega),fN n (u1+1+1) (by omega) (by omega) (by omega),f,j,m]) (fun L s c=>by rw[←c]; simp only[iT,aM,z12]) (fun a k=>JL a k) l [] k n rfl u o (z64 _) (by omega)
 refine(congrArg (fun q=>Option.bind q _) v).trans ?_
 simp only[z8,z77]; rfl
theorem NJ(n:Nat)(hn:n≤1099511627776)(l:List aD)(k:Nat)(h:20+dl jL l<n)(r:0<k)(m:k+dl jL l≤1099511627776):mY n (uD l k).2 (k:Int)=some ((uD l k).1:Int):=by
 unfold mY; have D:=bI jL l; have t:=Fc (body:=iV n (uD l k).2) Jb jL (B:=1099511627776) (C:=dl jL l) (fun a k=>Ns a k) (fun a k=>JL a k) (L:=(uD l k).2) (out:=fun s=> .inr ((s:Int),((uD l k).2.length:Int),false)) (fun s i a b F o p=>by
  have E:=bO b; have u:(uD l k).2.length=l.length:=uU Jb l k; obtain⟨a0,a1,a2,a3,a4,a5,a6⟩:=a; have e:jL (.mk a0 a1 a2 a3 a4 a5 a6)=(3+a0.length+dl List.length a1+(3+a4.length+nV a5+gH a6)):=rfl; rw[bW,bD]at e; rw[e]at o p; have g:Jb s (.mk a0 a1 a2 a3 a4 a5 a6)=((aO a6 ((aX a5 ((aZ a1 (s+1)).1+1+1+1)).1)).1, .mk (KU (s)) ((aZ a1 (s+1)).2) ((((aZ a1 (s+1)).1:Nat):Int)) ((((aZ a1 (s+1)).1+1:Nat):Int)) (KU ((aZ a1 (s+1)).1+1+1)) ((aX a5 ((aZ a1 (s+1)).1+1+1+1)).2) ((aO a6 ((aX a5 ((aZ a1 (s+1)).1+1+1+1)).1)).2)):=rfl; rw[g]at b ⊢; have v:=Fd a1 (s+1); have r1:=Fk a1 (s+1); have d:=HZ n hn a1 (s+1) (by omega) (by omega) (by omega)
  generalize aZ a1 (s+1)=t1 at*; obtain⟨u1,b1⟩:=t1; simp only at v r1 d b ⊢; have w:=vA a5 (u1+1+1+1); have r2:=vB a5 (u1+1+1+1); have f:=Lr n hn a5 (u1+1+1+1) (by omega) (by omega) (by omega)
  generalize aX a5 (u1+1+1+1)=t2 at*; obtain⟨c,b2⟩:=t2; simp only at w r2 f b ⊢; have x:=sY a6 (c); have y:=sZ a6 (c); have j:=Ha n hn a6 (c) (by omega) (by omega) (by omega)
  generalize aO a6 (c)=t3 at*; obtain⟨z,A⟩:=t3; simp only at x y j b ⊢; simp only[iV,bG b,z15,bB,b,z8,decide_true,z91,z33,z12,aN (show i<4611686018427387904 by omega),cY (show s<4611686018427387904 by omega),cY (show u1<4611686018427387904 by omega),cY (show u1+1<4611686018427387904 by omega),cY (show u1+1+1<4611686018427387904 by omega),fN n (s) (by omega) (by omega) (by omega),fN n (u1+1+1) (by omega) (by omega) (by omega),d,z13 (show ¬ (u1:Int)<0 by omega),f,z13 (show ¬ (c:Int)<0 by omega),j,z13 (show ¬ (z:Int)<0 by omega)]) (fun s=>by simp only[iV,aM,z12]) l [] k n rfl r m (z64 _) (by omega)
 refine(congrArg (fun q=>Option.bind q _) t).trans ?_
 simp only[z8]; rfl
theorem Kp{α β:Type}(g:α→β){l:List α}{i:Nat}{a:α}(h:l[i]? =some a):(l.take i).map g++[g a]=(l.take (i+1)).map g:=by
 rw[←gG h,List.map_append]; rfl
theorem tT{α β:Type}(g:α→β){l:List α}{i b:Nat}{a:α}(c:l[i]? =some a)(h:l.length*b≤140737488355328)(d:l.length<1099511627776):sX b ((l.take i).map g) [g a]=some ((l.take (i+1)).map g):=by
 have f:=bO c; have e:((l.take i).map g).length=i:=by simp only[z65,z49]; omega
 rw[←Kp g c]; refine sJ ?_ (by simp only[e,z37,maxLen]; omega)
 rw[e]; exact z93 (z68 b (show i+[g a].length≤l.length by simp only[z37]; omega)) h
theorem Kb(a:aB):5≤aR a:=by
 rw[nX,bW,bD]; have:=bI aR a.f3; have:=bI aS a.f4; omega
theorem Tw: ∀l:List aA,14*l.length≤dl aS l
 | []=>by simp
 | c::r=>by
  have:=Tw r; have h1:=jM c; have a:=Kb c.p; have b:=Kb c.x; simp only[dl,z36]; omega
def tup(e:aB):Int×Int×List UInt8×List aB×List aA:=(e.f0,e.f1,e.f2,e.f3,e.f4)
def cmk(p x:aB):aA:= .mk p.f0 p.f1 p.f2 p.f3 p.f4 x.f0 x.f1 x.f2 x.f3 x.f4
theorem Qf(c:aA):cmk c.p c.x=c:=by obtain⟨p,x⟩:=c; cases p; cases x; rfl
theorem Pt(l:List aB)(h:dl aR l<1099511627776):l.length*80≤140737488355328∧l.length<1099511627776:=by
 have:=bI aR l; omega
theorem Pu(l:List aA)(h:dl aS l<1099511627776):l.length*160≤140737488355328∧l.length<1099511627776:=by
 have:=Tw l; omega
theorem Kz: ∀(n:Nat),n≤1099511627776→ ∀(e:aB),aR e<n→eB n e.f0 e.f1 e.f2 e.f3 e.f4=some (tup e)
 | 0,_=>fun e h=>by omega
 | n+1,hn=>fun e h=>by
  have g:=Kz n (by omega)
  rw[CE]; unfold pM; rw[nX,bW,bD]at h; have w:=bI aR e.f3; have y:=bI aS e.f4; have k:=Pt e.f3 (by omega)
  have m:=Pu e.f4 (by omega)
  show _=some (e.f0,e.f1,e.f2,e.f3,e.f4); generalize e.f3=l at*; generalize e.f4=c at*; have t:=fP (body:=lL n (eB n) l) (fun i=>((i:Int),e.f0,e.f1,e.f2,(l.take i).map id,([]:List aA))) (len:=l.length) (r:=((l.length:Int),false,e.f0,e.f1,e.f2,l,[])) (fun i f=>by
   have b:l[i]? =some l[i]:=z11 f
   generalize l[i]=a at b; have j:=dK aR (z18 b); have d:=tT id b k.1 k.2; simp only[id_eq]at d; simp only[lL,bG b,z15,bB,b,z8,g a (by omega),tup,nB,d,aN (show i<4611686018427387904 by omega)]) (by simp only[lL,aM,z12,z51,Rl]) (n:=n) (by omega)
  have s:=fP (body:=lK n (eB n) c) (fun i=>((i:Int),e.f0,e.f1,e.f2,l,(c.take i).map id)) (len:=c.length) (r:=((c.length:Int),false,e.f0,e.f1,e.f2,l,c)) (fun i f=>by
   have b:c[i]? =some c[i]:=z11 f
   generalize c[i]=a at b; have j:=dK aS (z18 b); rw[jM]at j; have d:=tT id b m.1 m.2; simp only[id_eq]at d; have u:eB n a.f0 a.f1 a.f2 a.f3 a.f4=some (tup a.p):=g a.p (by omega)
   have v:eB n a.f5 a.f6 a.f7 a.f8 a.f9=some (tup a.x):=g a.x (by omega)
   have o:aA.mk a.p.f0 a.p.f1 a.p.f2 a.p.f3 a.p.f4 a.x.f0 a.x.f1 a.x.f2 a.x.f3 a.x.f4=a:=Qf a; simp only[lK,bG b,z15,bB,b,z8,u,v,tup,o,d,aN (show i<4611686018427387904 by omega)]) (by simp only[lK,aM,z12,z51,Rl]) (n:=n) (by omega)
  refine(congrArg (fun q=>Option.bind q _) t).trans ?_
  refine(congrArg (fun q=>Option.bind q _) s).trans ?_
  rfl
theorem Ab: ∀(n:Nat),n≤1099511627776→ ∀(e:aB),aR e<n→bV n e.f0 e.f1 e.f2 e.f3 e.f4=some (tup e)
 | 0,_=>fun e h=>by omega
 | n+1,hn=>fun e h=>by
  have g:=Ab n (by omega)
  rw[zN]; unfold mR; rw[nX,bW,bD]at h; have w:=bI aR e.f3; have y:=bI aS e.f4; have k:=Pt e.f3 (by omega)
  have m:=Pu e.f4 (by omega)
  show _=some (e.f0,e.f1,e.f2,e.f3,e.f4); generalize e.f3=l at*; generalize e.f4=c at*; have t:=fP (body:=jB n (bV n) l) (fun i=>((i:Int),e.f0,e.f1,e.f2,(l.take i).map id,([]:List aA))) (len:=l.length) (r:=((l.length:Int),false,e.f0,e.f1,e.f2,l,[])) (fun i f=>by
   have b:l[i]? =some l[i]:=z11 f
   generalize l[i]=a at b; have j:=dK aR (z18 b); have d:=tT id b k.1 k.2; simp only[id_eq]at d; simp only[jB,bG b,z15,bB,b,z8,g a (by omega),tup,nB,d,aN (show i<4611686018427387904 by omega)]) (by simp only[jB,aM,z12,z51,Rl]) (n:=n) (by omega)
  have s:=fP (body:=jA n (bV n) c) (fun i=>((i:Int),e.f0,e.f1,e.f2,l,(c.take i).map id)) (len:=c.length) (r:=((c.length:Int),false,e.f0,e.f1,e.f2,l,c)) (fun i f=>by
   have b:c[i]? =some c[i]:=z11 f
   generalize c[i]=a at b; have j:=dK aS (z18 b); rw[jM]at j; have d:=tT id b m.1 m.2; simp only[id_eq]at d; have u:bV n a.f0 a.f1 a.f2 a.f3 a.f4=some (tup a.p):=g a.p (by omega)
   have v:bV n a.f5 a.f6 a.f7 a.f8 a.f9=some (tup a.x):=g a.x (by omega)
   have o:aA.mk a.p.f0 a.p.f1 a.p.f2 a.p.f3 a.p.f4 a.x.f0 a.x.f1 a.x.f2 a.x.f3 a.x.f4=a:=Qf a; simp only[jA,bG b,z15,bB,b,z8,u,v,tup,o,d,aN (show i<4611686018427387904 by omega)]) (by simp only[jA,aM,z12,z51,Rl]) (n:=n) (by omega)
  refine(congrArg (fun q=>Option.bind q _) t).trans ?_
  refine(congrArg (fun q=>Option.bind q _) s).trans ?_
  rfl
mutual
def wY:aB→Nat
 | .mk _ _ s l c=>s.length.min 1+AF l+rZ c
def AF:List aB→Nat
 | []=>0
 | x::r=>wY x+AF r
def rZ:List aA→Nat
 | []=>0
 | x::r=>Ex x+rZ r
def Ex:aA→Nat
 | .two _ x=>wY x
end
theorem Um(a:aB):wY a=a.f2.length.min 1+AF a.f3+rZ a.f4:=by cases a; simp only[wY]; rfl
theorem Qs(a:aA):Ex a=wY a.x:=by obtain⟨p,x⟩:=a; simp only[Ex]; rfl
mutual
theorem ML: ∀x:aI,2*wY (rB x)≤1+hH x
 | .mk a b s l c=>by
  have:=Ng l; have:=ID c; have:s.length.min 1≤s.length:=Nat.min_le_left _ _; have:s.length.min 1≤1:=Nat.min_le_right _ _; simp only[rB,wY,hH]; omega
theorem Ng: ∀l:List aI,2*AF (pH l)≤AD l
 | []=>by simp [pH,AF]
 | x::r=>by have:=ML x; have:=Ng r; simp only[pH,AF,AD]; omega
theorem ID: ∀l:List aF,2*rZ (fC l)≤pE l
 | []=>by simp [fC,rZ]
 | x::r=>by have:=Qr x; have:=ID r; simp only[fC,rZ,pE]; omega
theorem Qr: ∀x:aF,2*Ex (vD x)≤1+dT x
 | .two p x=>by have:=ML x; simp only[vD,Ex,dT]; omega
end
theorem IX{B:Nat}(g:aB→aB): ∀(l:List aB),(∀a∈l,aR (g a)≤aR a+B*wY a)→dl aR (l.map g)≤dl aR l+B*AF l
 | [],_=>by simp [AF]
 | a::r,h=>by
  have h1:=h a z26; have d:=IX g r (fun b c=>h b (z23 _ c))
  simp only[z45,dl,AF,SI]; omega
def gc(g:aB→aB)(c:aA):aA:=cmk c.p (g c.x)
theorem Mq(p x:aB):aS (cmk p x)=3+aR p+aR x:=by cases p; cases x; rw[jM]; rfl
theorem Dm{B:Nat}(g:aB→aB): ∀(l:List aA),(∀a∈l,aR (g a.x)≤aR a.x+B*wY a.x)→dl aS (l.map (gc g))≤dl aS l+B*rZ l
 | [],_=>by simp [rZ]
 | a::r,h=>by
  have h1:=h a z26; have i:=Dm g r (fun b d=>h b (z23 _ d))
  have e:aS (gc g a)=3+aR a.p+aR (g a.x):=Mq _ _; have f:=jM a; have c:=Qs a; simp only[z45,dl,rZ,SI,c]; omega
theorem EK{α:Type}(g:α→α){l:List α}{i:Nat}{a:α}(h:l[i]? =some a):((l.take i).map g++l.drop i)[i]? =some a:=by
 have b:=bO h; rw[z56 (by simp only[z65,z49]; omega)]
 simp only[z65,z49,Nat.min_eq_left (Nat.le_of_lt b),z98,z44,z75,h]
theorem EJ{α:Type}(g:α→α){l:List α}{i:Nat}{a:α}(h:l[i]? =some a):((l.take i).map g++l.drop i).set i (g a)=(l.take (i+1)).map g++l.drop (i+1):=by
 have c:=bO h; have e:l.drop i=a::l.drop (i+1):=by
  rw[z145 c]; have:=(z63.1 h).2
  rw[this]
 have b:((l.take i).map g).length=i:=by simp only[z65,z49]; omega
 rw[z135 _ _ (by omega),b,z98,e,z90, ←Kp g h,z74]
 rfl
theorem JT{α:Type}(g:α→α)(l:List α)(i:Nat):((l.take i).map g++l.drop i).length=l.length:=by
 simp only[z28,z65,z49,z66]; omega
theorem EL{α:Type}(g:α→α)(l:List α):(l.take l.length).map g++l.drop l.length=l.map g:=by
 rw[z51,List.drop_length,z89]
def hit(a:List UInt8)(e:aB):Bool:=decide (e.f0=(8:Int))&&decide (e.f2=a)
def ren(a b:List UInt8)(e:aB):List UInt8:=bif hit a e then b else e.f2
theorem IK(a b:List UInt8)(d:a≠[]): ∀(n:Nat),n≤1099511627776→ ∃g:aB→aB, ∀(e:aB),aR e<n→cM n e.f0 e.f1 e.f2 e.f3 e.f4 a b=some (tup (g e))∧dB n e.f0 e.f1 e.f2 e.f3 e.f4 a b=some (tup (g e))∧aR (g e)≤aR e+b.length*wY e
 | 0,_=>⟨id,fun e h=>by omega⟩
 | n+1,hn=>by
  obtain⟨g,m⟩:=IK a b d n (by omega)
  refine⟨fun e=> .mk e.f0 e.f1 (ren a b e) (e.f3.map g) (e.f4.map (gc g)),fun e h=> ?_⟩
  have F:=nX e; rw[bW,bD]at F; rw[F]at h; have S:=bI aR e.f3; have T:=bI aS e.f4; have J:=Pt e.f3 (by omega)
  have K:=Pu e.f4 (by omega)
  have u: ∀x∈e.f3,aR x<n:=fun x u=>by have:=dK aR u; omega
  have D: ∀c∈e.f4,aR c.p<n∧aR c.x<n:=fun c z=>by have:=dK aS z; have:=jM c; omega
  have gcf: ∀c:aA,aA.mk c.p.f0 c.p.f1 c.p.f2 c.p.f3 c.p.f4 (g c.x).f0 (g c.x).f1 (g c.x).f2 (g c.x).f3 (g c.x).f4=gc g c:=fun c=>rfl
  have o: ∀x:aB,aB.mk (g x).f0 (g x).f1 (g x).f2 (g x).f3 (g x).f4=g x:=fun x=>nB _
  have sl: ∀s:List UInt8,loopN (fT n (cM n) a b) n ((0:Int),e.f0,e.f1,s,e.f3,e.f4)=some ((e.f3.length:Int),false,e.f0,e.f1,s,e.f3.map g,e.f4):=fun s=>by
   generalize e.f3=l at*; have k:=fP (body:=fT n (cM n) a b) (fun i=>((i:Int),e.f0,e.f1,s,(l.take i).map g++l.drop i,e.f4)) (len:=l.length) (r:=((l.length:Int),false,e.f0,e.f1,s,l.map g,e.f4)) (fun i j=>by
    have d:l[i]? =some l[i]:=z11 j
    generalize l[i]=x at d; have q:=(m x (u x (z18 d))).1; have C:=EK g d; have E:=EJ g d; have A:decide ((i:Int)<(((l.take i).map g++l.drop i).length:Int))=true:=z20 (by rw[JT]; omega)
    generalize (l.take i).map g++l.drop i=L at*; simp only[fT,A,z15,bB,C,z8,q,tup,o,z39,E,aN (show i<4611686018427387904 by omega)]) (by simp only[EL,fT,z65,aM,z12]) (n:=n) (by omega)
   exact k
  have M: ∀(s:List UInt8) (l:List aB),loopN (fR n (cM n) a b) n ((0:Int),e.f0,e.f1,s,l,e.f4)=some ((e.f4.length:Int),false,e.f0,e.f1,s,l,e.f4.map (gc g)):=fun s l=>by
   generalize e.f4=c at*; have k:=fP (body:=fR n (cM n) a b) (fun i=>((i:Int),e.f0,e.f1,s,l,(c.take i).map (gc g)++c.drop i)) (len:=c.length) (r:=((c.length:Int),false,e.f0,e.f1,s,l,c.map (gc g))) (fun i j=>by
    have d:c[i]? =some c[i]:=z11 j
    generalize c[i]=x at d; have q:cM n x.f5 x.f6 x.f7 x.f8 x.f9 a b=some (tup (g x.x)):=(m x.x (D x (z18 d)).2).1; have C:=EK (gc g) d; have E:=EJ (gc g) d; have A:decide ((i:Int)<(((c.take i).map (gc g)++c.drop i).length:Int))=true:=z20 (by rw[JT]; omega)
    generalize (c.take i).map (gc g)++c.drop i=L at*; have O:aA.mk x.f0 x.f1 x.f2 x.f3 x.f4 (g x.x).f0 (g x.x).f1 (g x.x).f2 (g x.x).f3 (g x.x).f4=gc g x:=gcf x; simp only[fR,A,z15,bB,C,z8,q,tup,O,z39,E,aN (show i<4611686018427387904 by omega)]) (by simp only[EL,fR,z65,aM,z12]) (n:=n) (by omega)
   exact k
  have I: ∀s:List UInt8,loopN (gU n (dB n) a b e.f3) n ((0:Int),e.f0,e.f1,s,([]:List aB),([]:List aA))=some ((e.f3.length:Int),false,e.f0,e.f1,s,e.f3.map g,[]):=fun s=>by
   generalize e.f3=l at*; have k:=fP (body:=gU n (dB n) a b l) (fun i=>((i:Int),e.f0,e.f1,s,(l.take i).map g,([]:List aA))) (len:=l.length) (r:=((l.length:Int),false,e.f0,e.f1,s,l.map g,[])) (fun i j=>by
    have d:l[i]? =some l[i]:=z11 j
    generalize l[i]=x at d; have q:=(m x (u x (z18 d))).2.1; have f:=tT g d J.1 J.2; simp only[gU,bG d,z15,bB,d,z8,q,tup,o,f,aN (show i<4611686018427387904 by omega)]) (by simp only[gU,aM,z12,z51]) (n:=n) (by omega)
   exact k
  have H: ∀(s:List UInt8) (l:List aB),loopN (gT n (dB n) a b e.f4) n ((0:Int),e.f0,e.f1,s,l,([]:List aA))=some ((e.f4.length:Int),false,e.f0,e.f1,s,l,e.f4.map (gc g)):=fun s l=>by
   generalize e.f4=c at*; have k:=fP (body:=gT n (dB n) a b c) (fun i=>((i:Int),e.f0,e.f1,s,l,(c.take i).map (gc g))) (len:=c.length) (r:=((c.length:Int),false,e.f0,e.f1,s,l,c.map (gc g))) (fun i j=>by
    have d:c[i]? =some c[i]:=z11 j
    generalize c[i]=x at d; have t:=D x (z18 d); have q:dB n x.f5 x.f6 x.f7 x.f8 x.f9 a b=some (tup (g x.x)):=(m x.x t.2).2.1; have P:bV n x.f0 x.f1 x.f2 x.f3 x.f4=some (tup x.p):=Ab n (by omega) x.p t.1
    have f:=tT (gc g) d K.1 K.2; simp only[gT,bG d,z15,bB,d,z8,q,P,tup,gcf,f,aN (show i<4611686018427387904 by omega)]) (by simp only[gT,aM,z12,z51]) (n:=n) (by omega)
   exact k
  refine⟨?_, ?_, ?_⟩
  ·rw[zI]
   unfold mM; have y:(bif decide (e.f0=(8:Int))then some (decide (e.f2=a))else some false)=some (hit a e):=by unfold hit; cases decide (e.f0=(8:Int))<;>rfl
   rw[y]; show _=some (tup (.mk e.f0 e.f1 (bif hit a e then b else e.f2) (e.f3.map g) (e.f4.map (gc g))))
   cases hit a e with
   | true=>
    simp only[z8,z15]; rw[sl b]; simp only[z8]; rw[M b]; rfl
   | false=>
    simp only[z8,z12]; have v:=sl e.f2; have w:=M e.f2; exact(congrArg (fun q=>Option.bind q _) v).trans ((congrArg (fun q=>Option.bind q _) (w _)).trans rfl)
  ·rw[As]
   unfold oH; have y:(bif decide (e.f0=(8:Int))then some (decide (e.f2=a))else some false)=some (hit a e):=by unfold hit; cases decide (e.f0=(8:Int))<;>rfl
   rw[y]; show _=some (tup (.mk e.f0 e.f1 (bif hit a e then b else e.f2) (e.f3.map g) (e.f4.map (gc g))))
   cases hit a e with
   | true=>
    simp only[z8,z15]; rw[I b]; simp only[z8]; rw[H b]; rfl
   | false=>
    simp only[z8,z12]; have v:=I e.f2; have w:=H e.f2; exact(congrArg (fun q=>Option.bind q _) v).trans ((congrArg (fun q=>Option.bind q _) (w _)).trans rfl)
  ·have Q:=IX (B:=b.length) g e.f3 (fun x G=>(m x (u x G)).2.2)
   have R:=Dm (B:=b.length) g e.f4 (fun c z=>(m c.x (D c z).2).2.2)
   have N:aR (.mk e.f0 e.f1 (ren a b e) (e.f3.map g) (e.f4.map (gc g)))=3+(ren a b e).length+dl aR (e.f3.map g)+dl aS (e.f4.map (gc g)):=by rw[nX,bW,bD]; rfl
   have U:(ren a b e).length≤e.f2.length+b.length*(e.f2.length.min 1):=by
    unfold ren; cases hq:hit a e with
    | false=>simp only[z12]; omega
    | true=>
     simp only[hit,z7,z31]at hq; have:e.f2.length.min 1=1:=by
      rw[hq.2]; cases a with
      | nil=>exact absurd rfl d
      | cons c r=>exact Nat.min_eq_right (by simp only[z36]; omega)
     rw[this,z15]; omega
   rw[N,F,Um,SI,SI]; omega
theorem MK(f:aD):aR (fx f)≤jL f∧f.f1.length≤jL f:=by
 have:=AE f; have:=bI List.length f.f1; omega
theorem GU(n:Nat)(hn:n≤1099511627776)(m:List aD)(h:dl jL m<n):hI n m=some m:=by
 have o:=bI jL m; unfold hI; have j:=fP (body:=eP n m) (fun i=>((i:Int),(m.take i).map id)) (len:=m.length) (r:=((m.length:Int),false,m)) (fun i g=>by
  have c:m[i]? =some m[i]:=z11 g
  generalize m[i]=a at c; have l:=dK jL (z18 c); have p:=MK a; have d:=tT id (b:=120) c (by omega) (by omega)
  simp only[id_eq]at d; have f:eB n a.f2 a.f3 a.f4 a.f5 a.f6=some (tup (fx a)):=Kz n hn (fx a) (by omega)
  have k:sX 16 ([]:List (List UInt8)) a.f1=some a.f1:=sJ (by simp only[z79]; omega) (by simp only[z79,maxLen]; omega)
  have e:aD.mk a.f0 a.f1 (fx a).f0 (fx a).f1 (fx a).f2 (fx a).f3 (fx a).f4=a:=rfl; simp only[eP,bG c,z15,bB,c,z8,f,k,tup,e,d,aN (show i<4611686018427387904 by omega)]) (by simp only[eP,aM,z12,z51,Rl]) (n:=n) (by omega)
 refine(congrArg (fun q=>Option.bind q _) j).trans ?_
 rfl
theorem Jo(n:Nat)(hn:n≤1099511627776)(m:List aD)(h:dl jL m<n):kB n m=some m:=by
 have o:=bI jL m; unfold kB; have j:=fP (body:=gE n m) (fun i=>((i:Int),(m.take i).map id)) (len:=m.length) (r:=((m.length:Int),false,m)) (fun i g=>by
  have c:m[i]? =some m[i]:=z11 g
  generalize m[i]=a at c; have l:=dK jL (z18 c); have p:=MK a; have d:=tT id (b:=120) c (by omega) (by omega)
  simp only[id_eq]at d; have f:bV n a.f2 a.f3 a.f4 a.f5 a.f6=some (tup (fx a)):=Ab n hn (fx a) (by omega)
  have k:sX 16 ([]:List (List UInt8)) a.f1=some a.f1:=sJ (by simp only[z79]; omega) (by simp only[z79,maxLen]; omega)
  have e:aD.mk a.f0 a.f1 (fx a).f0 (fx a).f1 (fx a).f2 (fx a).f3 (fx a).f4=a:=rfl; simp only[gE,bG c,z15,bB,c,z8,f,k,tup,e,d,aN (show i<4611686018427387904 by omega)]) (by simp only[gE,aM,z12,z51,Rl]) (n:=n) (by omega)
 refine(congrArg (fun q=>Option.bind q _) j).trans ?_
 rfl
def gf(g:aB→aB)(f:aD):aD:= .mk f.f0 f.f1 (g (fx f)).f0 (g (fx f)).f1 (g (fx f)).f2 (g (fx f)).f3 (g (fx f)).f4
theorem fx_gf(g:aB→aB)(f:aD):fx (gf g f)=g (fx f):=nB _
def uM(m:List aD):Nat:=iC (fun f=>wY (fx f)) m
theorem LC{B:Nat}(g:aB→aB): ∀(l:List aD),(∀f∈l,aR (g (fx f))≤aR (fx f)+B*wY (fx f))→dl jL (l.map (gf g))≤dl jL l+B*uM l
 | [],_=>by simp [uM,iC]
 | a::r,h=>by
  have h1:=h a z26; have m:=LC g r (fun b j=>h b (z23 _ j))
  have c:=AE (gf g a); rw[fx_gf]at c; have k:=AE a; have d:uM (a::r)=wY (fx a)+uM r:=rfl; have e:(gf g a).f0=a.f0:=rfl; have i:(gf g a).f1=a.f1:=rfl; rw[e,i]at c; rw[d]; simp only[z45,dl,SI]; omega
theorem Tu{α:Type}(w:α→Nat){y x:α}: ∀ {l:List α} {k:Nat},l[k]? =some x→dl w (l.set k y)+w x=dl w l+w y
 | a::r,0,h=>by
  simp only[z19,z9]at h
  subst h; simp only[z90,dl]; omega
 | a::r,k+1,h=>by
  have:=Tu w (y:=y) (l:=r) (k:=k) (by simpa using h)
  simp only[Xh,dl]; omega
theorem Nh{α:Type}(w:α→Nat){y x:α}(e:w y=w x): ∀ {l:List α} {k:Nat},l[k]? =some x→iC w (l.set k y)=iC w l
 | a::r,0,h=>by
  simp only[z19,z9]at h
  subst h; simp only[z90,iC,e]
 | a::r,k+1,h=>by
  have:=Nh w e (l:=r) (k:=k) (by simpa using h)
  simp only[Xh,iC,this]
theorem VJ{m:List aD}(a:sF m=true){f:aD}(b:f∈m):f.f0≠[]:=by
 simp only[sF,CY,z7,z17]at a; have h:=a.1.1 f b; simp only[MH,z7]at h; have h:=h.2.1; simp only[jP,z7]at h; have h:=h.1; simp only[Cj,z7]at h; have h:=of_decide_eq_true h.2.1; intro e; rw[e]at h; simp at h
def UO(m:List aD)(a b:List UInt8):Bool:= !(sF m)||(decide (nC m a<0)||(!(jP b)||decide (0≤nC m b)))
theorem Rk(n:Nat)(hn:n≤1099511627776)(m:List aD)(a b:List UInt8)(h:dl jL m+m.length+400<n)(O:a.length<n)(P:b.length+dl jL m<n): ∃(R:List aD) (D:Bool),nE n m a b=some (R,D)∧kI n m a b=some (R,D)∧dl jL R≤dl jL m+b.length+b.length*uM m:=by
 have T:=bI jL m; generalize d:nE n m a b=S; generalize c:kI n m a b=I; unfold nE at d; unfold kI at c; rw[GU n hn m (by omega)]at d
 rw[Jo n hn m (by omega)]at c
 simp only[sL n m a (by omega) (by omega),sL n m b (by omega) (by omega),Ea n hn m (by omega),Fh n b (by omega) (by omega),z8]at d
 simp only[sN n m a (by omega) (by omega),sN n m b (by omega) (by omega),Eb n hn m (by omega),Ck n b (by omega) (by omega),z8]at c
 have F:(bif !(sF m)then some true else bif decide (nC m a<(0:Int))then some true else bif !(jP b)then some true else some (decide ((0:Int)≤nC m b)))=some (UO m a b):=by
  unfold UO; cases sF m<;>cases decide (nC m a<(0:Int))<;>cases jP b<;>cases decide ((0:Int)≤nC m b)<;>rfl
 have E:(bif decide (nC m a<(0:Int))then some true else bif !(jP b)then some true else bif decide ((0:Int)≤nC m b)then some true else some (!(sF m)))=some (UO m a b):=by
  unfold UO; cases sF m<;>cases decide (nC m a<(0:Int))<;>cases jP b<;>cases decide ((0:Int)≤nC m b)<;>rfl
 rw[F,z8]at d; rw[E,z8]at c; cases hb:UO m a b with
 | true=>
  rw[hb]at d c; exact⟨m,false,d.symm,c.symm,by omega⟩
 | false=>
  rw[hb,z12]at d c; simp only[UO,z59,Bool.not_eq_false']at hb; obtain⟨b1,b2, -⟩:=hb; have b2:=of_decide_eq_false b2; obtain⟨k,f,H,p,o⟩: ∃(k:Nat) (f:aD),nC m a=(k:Int)∧m[k]? =some f∧f.f0=a:=by
   unfold nC at b2 ⊢; rcases sC (fun f:aD=>decide (f.f0=a)) m 0 with⟨q,_⟩ | ⟨k,f,q,J,K,_⟩
   ·rw[q]at b2; omega
   ·exact⟨k,f,by rw[q]; simp,J,of_decide_eq_true K⟩
  have w:a≠[]:=by
   rw[←o]; exact VJ b1 (z18 p)
  rw[H]at d c; simp only[bB,p,z8,z39]at d c; have C:fx (aD.mk b f.f1 f.f2 f.f3 f.f4 f.f5 f.f6)=fx f:=rfl; have N:jL (aD.mk b f.f1 f.f2 f.f3 f.f4 f.f5 f.f6)+f.f0.length=jL f+b.length:=by
   rw[AE,AE,C]; show 3+b.length+dl List.length f.f1+aR (fx f)+f.f0.length=_; omega
  generalize aD.mk b f.f1 f.f2 f.f3 f.f4 f.f5 f.f6=f' at*; have U:=Tu jL (y:=f') p; have u1:uM (m.set k f')=uM m:=Nh _ (by rw[C]) p
  generalize m.set k f'=M at*; have Q:=bI jL M; obtain⟨g,u⟩:=IK a b w n hn; have A: ∀f∈M,aR (fx f)<n:=fun f t=>by have:=dK jL t; have:=MK f; omega
  have G:=LC (B:=b.length) g M (fun f t=>(u (fx f) (A f t)).2.2)
  refine⟨M.map (gf g),true, ?_, ?_,by rw[u1]at G; omega⟩
  ·rw[←d]
   have z:=fP (body:=lN n a b) (fun i=>((i:Int),(M.take i).map (gf g)++M.drop i)) (len:=M.length) (r:=((M.length:Int),false,M.map (gf g))) (fun i v=>by
    have e:M[i]? =some M[i]:=z11 v
    generalize M[i]=x at e; have q:cM n x.f2 x.f3 x.f4 x.f5 x.f6 a b=some (tup (g (fx x))):=(u (fx x) (A x (z18 e))).1; have j:=EK (gf g) e; have l:=EJ (gf g) e; have s:decide ((i:Int)<(((M.take i).map (gf g)++M.drop i).length:Int))=true:=z20 (by rw[JT]; omega)
    generalize (M.take i).map (gf g)++M.drop i=L at*; have o:aD.mk x.f0 x.f1 (g (fx x)).f0 (g (fx x)).f1 (g (fx x)).f2 (g (fx x)).f3 (g (fx x)).f4=gf g x:=rfl; simp only[lN,s,z15,bB,j,z8,q,tup,o,z39,l,aN (show i<4611686018427387904 by omega)]) (by simp only[EL,lN,z65,aM,z12]) (n:=n) (by omega)
   refine(congrArg (fun q=>Option.bind q _) z).trans ?_
   rfl
  ·rw[←c]
   have z:=fP (body:=lS n a b M) (fun i=>((i:Int),(M.take i).map (gf g)++M.drop i)) (len:=M.length) (r:=((M.length:Int),false,M.map (gf g))) (fun i v=>by
    have e:M[i]? =some M[i]:=z11 v
    generalize M[i]=x at e; have q:dB n x.f2 x.f3 x.f4 x.f5 x.f6 a b=some (tup (g (fx x))):=(u (fx x) (A x (z18 e))).2.1; have j:=EK (gf g) e; have l:=EJ (gf g) e; have s:decide ((i:Int)<(M.length:Int))=true:=z20 (by omega)
    generalize (M.take i).map (gf g)++M.drop i=L at*; have o:aD.mk x.f0 x.f1 (g (fx x)).f0 (g (fx x)).f1 (g (fx x)).f2 (g (fx x)).f3 (g (fx x)).f4=gf g x:=rfl; simp only[lS,s,z15,bB,j,z8,q,tup,o,z39,l,aN (show i<4611686018427387904 by omega)]) (by simp only[EL,lS,aM,z12]) (n:=n) (by omega)
   refine(congrArg (fun q=>Option.bind q _) z).trans ?_
   rfl
theorem uM_z: ∀l:List aW,2*uM (Jf l)≤zl vU l
 | []=>by simp [uM,Jf,iC]
 | f::r=>by
  have h:=uM_z r; have a:uM (Jf (f::r))=wY (fx (Hz f))+uM (Jf r):=rfl; have b:zl vU (f::r)=1+vU f+zl vU r:=by simp only[zl,iC,z36]; omega
  have e:2*wY (fx (Hz f))≤1+vU f:=by
   have q:=ML (.mk f.f2 f.f3 f.f4 f.f5 f.f6); have c:fx (Hz f)=rB (.mk f.f2 f.f3 f.f4 f.f5 f.f6):=by
    rw[EN]; obtain⟨a0,a1,a2,a3,a4,a5,a6⟩:=f; first | rfl | (simp only[Hz,fx,EN])
   have d:hH (.mk f.f2 f.f3 f.f4 f.f5 f.f6)≤vU f:=by
    obtain⟨a0,a1,a2,a3,a4,a5,a6⟩:=f; simp only[vU]; omega
   rw[c]; omega
  rw[a,b]; omega
theorem law(a:S_laws_Module)(b c:List UInt8)(ho:okModule a)(C:b.length≤maxLen)(D:c.length≤maxLen): ∃n,gD n a.f0 b c=some true:=by
 by_cases hz:(tU a:Int)≤1048576
 ·refine⟨1099511627776, ?_⟩
  have E:=Ra a; generalize r:1099511627776=n; have hn:n≤1099511627776:=by omega
  unfold gD; by_cases e:(1048576:Int)<(b.length:Int)
  ·rw[z20 e]; rfl
  by_cases f:(1048576:Int)<(c.length:Int)
  ·rw[z20 f,z13 e]; rfl
  rw[z13 e,z13 f,z12,z12]; rw[Ft n (h:=by rw[eU]; omega) (ho:=ho) (h0:=by omega) (h1:=by omega),eU,z16 hz]
  simp only[z8]; rw[z13 (by omega),z12]
  have d:=Ms n (a0:=a.f0) (h:=by rw[eU]; omega) (hz:=by rw[eU]; omega)
  rw[eU]at d; have i:2*uM (Bu a).f0≤tU a:=by
   obtain⟨l⟩:=a; exact uM_z l
  have G:Bl (Bu a)=tZ a:=Qp a; generalize Bu a=t at*; obtain⟨m⟩:=t; have w:Bl (.mk m)=3+dl jL m:=rfl; have i:2*uM m≤tU a:=i; have d:eD n a.f0=some m:=d; have F:=bI jL m; obtain⟨R,H,v,u,B⟩:=Rk n hn m b c (by omega) (by omega) (by omega)
  have j:c.length*uM m≤1048576*524288:=Nat.mul_le_mul (by omega) (by omega)
  have s:dl jL R≤600000000000:=by omega
  have x:=GJ n (a0:=m) (by omega) (by omega)
  have y:=GJ n (a0:=R) (show 3+dl jL R<n by omega) (by omega)
  have p:((1:Nat):Int)=1:=rfl; have k:=GA n hn m 1 (by omega) (by omega) (by omega)
  have z:=Tr m 1; have o:=GA n hn R 1 (by omega) (by omega) (by omega)
  have A:=Tr R 1; have g:=NJ n hn R 1 (by omega) (by omega) (by omega)
  rw[p]at k o g; have q:gR n (uD R 1).2 1=some ((uD R 1).1:Int):=by
   unfold gR; rw[g,z8,z13 (by omega),z12]
  simp only[d,z8,v,u,x,y,k,o,q,z91,z33,z12,decide_true,
   z13 (show ¬ ((uD m 1).1:Int)<0 by omega),z13 (show ¬ ((uD R 1).1:Int)<0 by omega)]
 ·refine⟨tZ a+500, ?_⟩
  generalize r:tZ a+500=n; unfold gD; rw[Ft n (h:=by rw[eU]; omega) (ho:=ho) (h0:=by omega) (h1:=by omega),eU,z10 hz]
  cases decide ((1048576:Int)<(b.length:Int))<;>cases decide ((1048576:Int)<(c.length:Int))<;>rfl
end Go.Own.Q
