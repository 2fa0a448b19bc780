/- Loops over lists and small things, in plain Lean. No conditions. -/
import Derived.Test.YtloebajamceclaaDoorW40W
set_option linter.unusedVariables false
set_option linter.unusedSimpArgs false
set_option linter.unnecessarySimpa false
namespace Go.Own.Q
open Go Go.Proofs
theorem sP{σ ρ:Type}{body:σ→Option (σ⊕ρ)}(st:Nat→σ){len:Nat}{r:ρ}(d: ∀i,i<len→body (st i)=some (.inl (st (i+1))))(b:body (st len)=some (.inr r)){n:Nat}(hn:len<n):loopN body n (st 0)=some r:=by
 have a: ∀k i,i+k=len→ ∀n,k<n→loopN body n (st i)=some r:=by
  intro k; induction k with
  | zero=>
   intro i c n hn; obtain⟨m,rfl⟩: ∃m,n=m+1:=⟨n - 1,by omega⟩
   have:i=len:=by omega
   subst this; simp only[loopN,b]
  | succ k e=>
   intro i c n hn; obtain⟨m,rfl⟩: ∃m,n=m+1:=⟨n - 1,by omega⟩
   simp only[loopN,d i (by omega)]
   exact e (i+1) (by omega) m (by omega)
 exact a len 0 (by omega) n hn

def sW{α σ ρ:Type}(f:σ→α→σ⊕ρ):List α→σ→σ⊕ρ
 | [],s=> .inl s
 | a::r,s=>match f s a with
  | .inl s'=>sW f r s'
  | .inr q=> .inr q
theorem JI{α σ τ ρ κ:Type}{body:σ→Option (σ⊕ρ)}(l:List α)(f:τ→α→τ⊕κ)(enc:τ→Nat→σ)(b:τ→ρ)(out:κ→ρ)(I:τ→Prop)(v: ∀(i:Nat) a t,l[i]? =some a→I t→(∃d,f t a= .inl d∧I d∧body (enc t i)=some (.inl (enc d (i+1))))∨(∃q,f t a= .inr q∧body (enc t i)=some (.inr (out q))))
  (p: ∀t,I t→body (enc t l.length)=some (.inr (b t))){n:Nat}(hn:l.length<n){t0:τ}(h0:I t0):loopN body n (enc t0 0)=some (match sW f l t0 with | .inl t=>b t | .inr q=>out q):=by
 have j: ∀(r:List α) (i:Nat) (t:τ) (n:Nat),l.drop i=r→I t→r.length<n→i≤l.length→loopN body n (enc t i)=some (match sW f r t with | .inl t=>b t | .inr q=>out q):=by
  intro r; induction r with
  | nil=>
   intro i t n c h hn s; obtain⟨m,rfl⟩: ∃m,n=m+1:=⟨n - 1,by simp at hn; omega⟩
   have:i=l.length:=by
    have:=congrArg List.length c; simp at this; omega
   subst this; simp only[loopN,p t h,sW]
  | cons a r ih=>
   intro i t n c h hn s; obtain⟨m,rfl⟩: ∃m,n=m+1:=⟨n - 1,by simp at hn; omega⟩
   have u:i<l.length:=by
    have:=congrArg List.length c; simp at this; omega
   have o:l[i]? =some a:=by
    have:=congrArg (·[0]?) c
    simpa using this
   have g:l.drop (i+1)=r:=by
    have:=congrArg List.tail c; simpa using this
   rcases v i a t o h with⟨d,h1,k,e⟩ | ⟨q,h1,e⟩
   ·simp only[loopN,e,sW,h1]
    exact ih (i+1) d m g k (by simp at hn; omega) (by omega)
   ·simp only[loopN,e,sW,h1]
 exact j l 0 t0 n rfl h0 hn (by omega)

theorem fF{α:Type}(l:List α)(i:Nat):ix l (i:Int)=l[i]? :=by
 unfold ix; rw[z17 (by omega)]
 simp
theorem By(s:List UInt8)(i:Nat):ixs s (i:Int)=(s[i]?).map fun b=>(b.toNat:Int):=by
 unfold ixs; rw[z17 (by omega)]
 simp
theorem bX{i:Nat}(h:i<4611686018427387904):IntKind.wrap .i64 ((i:Int)+1)=((i+1:Nat):Int):=by
 rw[wrap_i64 (by omega) (by omega)]; omega
theorem nP{α:Type}{l:List α}{i:Nat}{a:α}(h:l[i]? =some a):l.take i++[a]=l.take (i+1):=by
 rw[List.take_add_one,h]; rfl
theorem uE{α:Type}{b:Nat}{l1 l2:List α}(h:(l1.length+l2.length)*b≤140737488355328)(a:l1.length+l2.length≤maxLen):kG b l1 l2=some (l1++l2):=by
 unfold kG; rw[z17 ⟨a,h⟩]
theorem iD{α:Type}{l:List α}{i:Nat}{a:α}(h:l[i]? =some a):i<l.length:=(z94.1 h).1
theorem fU{α:Type}{l:List α}{i:Nat}{a:α}(h:l[i]? =some a):decide ((i:Int)<(l.length:Int))=true:=by
 have:=iD h; exact z15 (by omega)
theorem bI{k:Nat}:decide ((k:Int)<(k:Int))=false:=z9 (by omega)
def nO{α:Type}(z:α→Nat):List α→Nat
 | []=>0
 | a::r=>z a+nO z r
def dl{α:Type}(d:α→Nat):List α→Nat
 | []=>1
 | a::r=>1+d a+dl d r
theorem jK{α:Type}(d:α→Nat){a:α}: ∀ {l:List α},a∈l→d a<dl d l
 | b::r,h=>by
  cases h with
  | head=>simp only[dl]; omega
  | tail _ h=>have:=jK d h; simp only[dl]; omega
theorem eF{α:Type}(d:α→Nat): ∀l:List α,l.length<dl d l
 | []=>by simp [dl]
 | b::r=>by have:=eF d r; simp only[dl,z27]; omega
theorem NI{α:Type}{body:Int→Option (Int⊕(Bool⊕(Int×Bool)))}(l:List α)(b:α→Bool)(f: ∀(i:Nat) a,l[i]? =some a→body (i:Int)=some (if b a then .inl ((i+1:Nat):Int)else .inr (.inl false)))(g:body (l.length:Int)=some (.inr (.inr ((l.length:Int),false)))){n:Nat}(hn:l.length<n):loopN body n (0:Int)=some (if l.all b then .inr ((l.length:Int),false)else .inl false):=by
 have h:=JI (body:=body) l (fun(_:Unit) a=>if b a then .inl ()else .inr ()) (fun _ i=>(i:Int)) (fun _=> .inr ((l.length:Int),false)) (fun _=> .inl false) (fun _=>True) (fun i a t e _=>by
  by_cases c:b a=true
  ·left; exact⟨(),z17 c,trivial,by rw[f i a e,z17 c]⟩
  ·right; exact⟨(),z11 c,by rw[f i a e,z11 c]⟩) (fun _ _=>g) hn (t0:=()) trivial
 have d: ∀l:List α,sW (fun(_:Unit) a=>if b a then Sum.inl ()else Sum.inr ()) l ()=if l.all b then .inl ()else .inr ():=by
  intro l; induction l with
  | nil=>rfl
  | cons a r ih=>
   simp only[sW,Jp]; by_cases c:b a=true
   ·rw[z17 c]; simp only[ih,c,z39]
   ·rw[z11 c]; simp [c]
 refine h.trans ?_
 rw[d l]; by_cases c:l.all b=true
 ·rw[z17 c,z17 c]
 ·rw[z11 c,z11 c]
theorem BW{α σ τ ρ κ:Type}{body:σ→Option (σ⊕ρ)}(l:List α)(f:τ→α→τ⊕κ)(enc:τ→Nat→σ)(c:τ→ρ)(b:κ→ρ→Prop)(I:τ→Prop)(y: ∀(i:Nat) a t,l[i]? =some a→I t→(∃e,f t a= .inl e∧I e∧body (enc t i)=some (.inl (enc e (i+1))))∨(∃q r,f t a= .inr q∧body (enc t i)=some (.inr r)∧b q r))
  (u: ∀t,I t→body (enc t l.length)=some (.inr (c t))){n:Nat}(hn:l.length<n){t0:τ}(h0:I t0): ∃r,loopN body n (enc t0 0)=some r∧(match sW f l t0 with | .inl t=>r=c t | .inr q=>b q r):=by
 have k: ∀(r:List α) (i:Nat) (t:τ) (n:Nat),l.drop i=r→I t→r.length<n→i≤l.length→ ∃x,loopN body n (enc t i)=some x∧(match sW f r t with | .inl t=>x=c t | .inr q=>b q x):=by
  intro r; induction r with
  | nil=>
   intro i t n d j hn v; obtain⟨m,rfl⟩: ∃m,n=m+1:=⟨n - 1,by simp at hn; omega⟩
   have:i=l.length:=by
    have:=congrArg List.length d; simp at this; omega
   subst this; simp only[loopN,u t j,sW]; exact⟨_,rfl,rfl⟩
  | cons a r ih=>
   intro i t n d j hn v; obtain⟨m,rfl⟩: ∃m,n=m+1:=⟨n - 1,by simp at hn; omega⟩
   have w:i<l.length:=by
    have:=congrArg List.length d; simp at this; omega
   have s:l[i]? =some a:=by
    have:=congrArg (·[0]?) d
    simpa using this
   have h:l.drop (i+1)=r:=by
    have:=congrArg List.tail d; simpa using this
   rcases y i a t s j with⟨e,h1,o,g⟩ | ⟨q,x,h1,g,p⟩
   ·simp only[loopN,g,sW,h1]
    exact ih (i+1) e m h o (by simp at hn; omega) (by omega)
   ·simp only[loopN,g,sW,h1]
    exact⟨x,rfl,p⟩
 exact k l 0 t0 n rfl h0 hn (by omega)
def sX{α:Type}(b:Nat→α→Bool):Nat→List α→Bool
 | _,[]=>true
 | i,a::r=>b i a&&sX b (i+1) r
theorem wW{α:Type}{body:Int→Option (Int⊕(Bool⊕(Int×Bool)))}(l:List α)(d:Nat→α→Bool)(h: ∀(i:Nat) a,l[i]? =some a→body (i:Int)=some (if d i a then .inl ((i+1:Nat):Int)else .inr (.inl false)))(j:body (l.length:Int)=some (.inr (.inr ((l.length:Int),false)))){n:Nat}(hn:l.length<n):loopN body n (0:Int)=some (if sX d 0 l then .inr ((l.length:Int),false)else .inl false):=by
 have f: ∀(r:List α) (i n:Nat),l.drop i=r→r.length<n→i≤l.length→loopN body n (i:Int)=some (if sX d i r then .inr ((l.length:Int),false)else .inl false):=by
  intro r; induction r with
  | nil=>
   intro i n b hn k; obtain⟨m,rfl⟩: ∃m,n=m+1:=⟨n - 1,by simp at hn; omega⟩
   have:i=l.length:=by
    have:=congrArg List.length b; simp at this; omega
   subst this; simp only[loopN,j,sX,if_true]
  | cons a r ih=>
   intro i n b hn k; obtain⟨m,rfl⟩: ∃m,n=m+1:=⟨n - 1,by simp at hn; omega⟩
   have o:i<l.length:=by
    have:=congrArg List.length b; simp at this; omega
   have g:l[i]? =some a:=by
    have:=congrArg (·[0]?) b
    simpa using this
   have e:l.drop (i+1)=r:=by
    have:=congrArg List.tail b; simpa using this
   by_cases c:d i a=true
   ·simp only[loopN,h i a g,z17 c,sX,c,z39]
    exact ih (i+1) m e (by simp at hn; omega) (by omega)
   ·simp only[loopN,h i a g,z11 c,sX]
    simp [c]
 exact f l 0 n rfl hn (by omega)
def GC{α:Type}(p:α→Bool):Nat→List α→Int
 | _,[]=> -1
 | i,a::r=>bif p a then(i:Int)else GC p (i+1) r
theorem xB{α:Type}(p:α→Bool): ∀(l:List α) (i:Nat),(GC p i l= -1∧ ∀a∈l,p a=false)∨ ∃k a,GC p i l=((i+k:Nat):Int)∧l[k]? =some a∧p a=true∧ ∀(j:Nat) b,j<k→l[j]? =some b→p b=false
 | [],i=> .inl ⟨rfl,by simp⟩
 | a::r,i=>by
  unfold GC; cases h:p a with
  | true=>exact .inr ⟨0,a,rfl,rfl,h,fun j b o=>by omega⟩
  | false=>
   rw[z16]; rcases xB p r (i+1)with⟨h1,d⟩ | ⟨k,b,h1,d,g,m⟩
   ·exact .inl ⟨h1,fun b e=>by
     rcases MB.1 e with rfl | e
     ·exact h
     ·exact d b e⟩
   ·refine .inr ⟨k+1,b,by rw[h1]; omega,d,g,fun j c o f=> ?_⟩
    cases j with
    | zero=>simp only[z19,z8]at f; subst f; exact h
    | succ j=>exact m j c (by omega) f
theorem Ds{α σ ρ:Type}{body:σ→Option (σ⊕ρ)}(l:List α)(p:α→Bool)(enc:Nat→σ)(out:Nat→ρ)(b:ρ)(g: ∀(i:Nat) a,l[i]? =some a→body (enc i)=some (bif p a then .inr (out i)else .inl (enc (i+1))))(j:body (enc l.length)=some (.inr b)){n:Nat}(hn:l.length<n):
  loopN body n (enc 0)=some (bif decide (GC p 0 l<0)then b else out (GC p 0 l).toNat):=by
 have e: ∀(r:List α) (i n:Nat),l.drop i=r→r.length<n→i≤l.length→loopN body n (enc i)=some (bif decide (GC p i r<0)then b else out (GC p i r).toNat):=by
  intro r; induction r with
  | nil=>
   intro i n c hn o; obtain⟨m,rfl⟩: ∃m,n=m+1:=⟨n - 1,by simp at hn; omega⟩
   have:i=l.length:=by
    have:=congrArg List.length c; simp at this; omega
   subst this; simp only[loopN,j]; rfl
  | cons a r ih=>
   intro i n c hn o; obtain⟨m,rfl⟩: ∃m,n=m+1:=⟨n - 1,by simp at hn; omega⟩
   have q:i<l.length:=by
    have:=congrArg List.length c; simp at this; omega
   have f:l[i]? =some a:=by
    have:=congrArg (·[0]?) c
    simpa using this
   have d:l.drop (i+1)=r:=by
    have:=congrArg List.tail c; simpa using this
   have k:GC p i (a::r)=bif p a then(i:Int)else GC p (i+1) r:=rfl
   rw[k]; cases h:p a with
   | true=>
    simp only[loopN,g i a f,h,z18]; rw[z9 (by omega),z16,Int.toNat_natCast]
   | false=>
    simp only[loopN,g i a f,h,z16]; exact ih (i+1) m d (by simp at hn; omega) (by omega)
 exact e l 0 n rfl hn (by omega)
theorem xC{α:Type}(d:Nat→α→Bool): ∀(l:List α) (i:Nat),sX d i l=true↔ ∀(j:Nat) a,l[j]? =some a→d (i+j) a=true
 | [],i=>by simp [sX]
 | a::r,i=>by
  simp only[sX,z7,xC d r (i+1)]; constructor
  ·rintro ⟨h1,e⟩ j b c
   cases j with
   | zero=>simp only[z19,z8]at c; subst c; exact h1
   | succ j=>have:=e j b c; rwa[show i+1+j=i+(j+1)by omega]at this
  ·intro h
   refine⟨h 0 a rfl,fun j b c=> ?_⟩
   have:=h (j+1) b c; rwa[show i+(j+1)=i+1+j by omega]at this
theorem mG(a:aA):aA.mk a.f0 a.f1 a.f2 a.f3 a.f4=a:=by cases a; rfl
theorem vV(a:aB):aB.mk a.f0 a.f1 a.f2 a.f3 a.f4 a.f5 a.f6 a.f7 a.f8 a.f9=a:=by
 obtain⟨p,x⟩:=a; cases p; cases x; rfl
mutual
def aN:aA→Nat
 | .mk _ _ s l c=>3+s.length+uP l+nZ c
def uP:List aA→Nat
 | []=>1
 | x::r=>1+aN x+uP r
def nZ:List aB→Nat
 | []=>1
 | x::r=>1+bM x+nZ r
def bM:aB→Nat
 | .two p x=>3+aN p+aN x
end
theorem oZ(a:aA):aN a=3+a.f2.length+uP a.f3+nZ a.f4:=by cases a; simp only[aN]; rfl
theorem iG(a:aB):bM a=3+aN a.p+aN a.x:=by obtain⟨p,x⟩:=a; simp only[bM]; rfl
theorem iF: ∀l,uP l=dl aN l
 | []=>rfl
 | x::r=>by simp only[uP,dl,iF r]
theorem fH: ∀l:List aB,nZ l=dl bM l
 | []=>rfl
 | x::r=>by
  have e:=fH r; have a:nZ (x::r)=1+bM x+nZ r:=by simp only[nZ]
  rw[a,e]; rfl
theorem qU(n:Nat)(x a b:Int):cM n x a b=some (decide (a≤x)&&decide (x≤b)):=by
 unfold cM; cases decide (a≤x)<;>rfl
theorem vE(n:Nat)(x a b:Int):dQ n x a b=some (decide (a≤x)&&decide (x≤b)):=by
 unfold dQ; cases decide (a≤x)<;>rfl
theorem Bb(n:Nat)(x:Int):eS n x=some (decide (97≤x)&&decide (x≤122)):=by
 unfold eS; cases decide (97≤x)<;>rfl
theorem zU(n:Nat)(x:Int):dT n x=some (decide (48≤x)&&decide (x≤57)):=by
 unfold dT; cases decide (48≤x)<;>rfl
def jI(c:Int):Bool:=decide (97≤c)&&decide (c≤122)
def xU(c:Int):Bool:=decide (48≤c)&&decide (c≤57)
def Ab(i:Nat)(c:UInt8):Bool:=jI c.toNat||(!decide (i=0)&&(xU c.toNat||decide ((c.toNat:Int)=95)))
def uZ(s:List UInt8):Bool:=sX Ab 0 s&&(decide (1≤(s.length:Int))&&decide ((s.length:Int)≤20))
theorem Bj(c:UInt8):IntKind.wrap .i64 ((c.toNat:Nat):Int)=c.toNat:=by
 have:=c.toNat_lt; exact wrap_i64 (by omega) (by omega)
theorem IA(i:Nat):decide ((i:Int)=0)=decide (i=0):=by
 by_cases h:i=0<;>simp [h]
theorem Ao(n:Nat)(s:List UInt8)(h:s.length<n)(hn:s.length<4611686018427387904):jT n s=some (uZ s):=by
 unfold jT; rw[wW s Ab (fun i c a=>by
  have b:=iD a; simp only[jA,fU a,z18,By,a,z40,z10,qU,Bj,bX (show i<4611686018427387904 by omega),IA]
  unfold Ab jI xU; cases decide (97≤(c.toNat:Int))<;>cases decide ((c.toNat:Int)≤122)<;>cases decide (i=0)<;>cases decide (48≤(c.toNat:Int))<;>cases decide ((c.toNat:Int)≤57)<;>cases decide ((c.toNat:Int)=95)<;>rfl) (by simp only[jA,bI,z16]) h]
 unfold uZ; by_cases c:sX Ab 0 s=true
 ·rw[z17 c,c]; simp only[z10,qU,z39]
 ·rw[z11 c]; simp only[z82]at c; rw[c]; rfl
theorem Ar(n:Nat)(s:List UInt8)(h:s.length<n)(hn:s.length<4611686018427387904):jV n s=some (uZ s):=by
 unfold jV; rw[wW s Ab (fun i c a=>by
  have b:=iD a; simp only[jB,fU a,z18,By,a,z40,z10,Bb,zU,bX (show i<4611686018427387904 by omega),IA]
  unfold Ab jI xU; cases decide (97≤(c.toNat:Int))<;>cases decide ((c.toNat:Int)≤122)<;>cases decide (i=0)<;>cases decide (48≤(c.toNat:Int))<;>cases decide ((c.toNat:Int)≤57)<;>cases decide ((c.toNat:Int)=95)<;>rfl) (by simp only[jB,bI,z16]) h]
 unfold uZ; by_cases c:sX Ab 0 s=true
 ·rw[z17 c,c]; simp only[z10,vE,z39]
 ·rw[z11 c]; simp only[z82]at c; rw[c]; rfl
def iE(c:Int):Bool:=(decide (65≤c)&&decide (c≤90))||decide (c=95)
theorem Bc(n:Nat)(x:Int):gH n x=some (iE x):=by
 unfold gH iE; cases decide (65≤x)<;>cases decide (x≤90)<;>rfl
theorem HL(n:Nat)(c:UInt8):iQ n (c.toNat:Int)=some (iE c.toNat):=by
 unfold iQ iE; rw[Bj,qU]; cases decide (65≤(c.toNat:Int))<;>cases decide ((c.toNat:Int)≤90)<;>rfl
theorem HK(n:Nat)(c:UInt8):iP n (c.toNat:Int)=some (jI c.toNat):=by
 unfold iP jI; rw[Bj,qU]; rfl
theorem HM(n:Nat)(c:UInt8):iR n (c.toNat:Int)=some (xU c.toNat):=by
 unfold iR xU; rw[Bj,qU]; rfl
theorem Fj(n:Nat)(x:Int):eS n x=some (jI x):=Bb n x
theorem JY(n:Nat)(x:Int):dT n x=some (xU x):=zU n x
def jX(c:UInt8):Bool:=jI c.toNat||(iE c.toNat||xU c.toNat)
theorem Co(n:Nat)(x:Int):fE n x=some (jI x||(iE x||xU x)):=by
 unfold fE; rw[Fj,Bc,JY]; cases jI x<;>cases iE x<;>cases xU x<;>rfl
def GA(i:Nat)(c:UInt8):Bool:=iE c.toNat||(!decide (i=0)&&(jI c.toNat||xU c.toNat))
def tS(s:List UInt8):Bool:=sX GA 0 s&&(decide (1≤(s.length:Int))&&decide ((s.length:Int)≤20))
theorem Cm(n:Nat)(s:List UInt8)(h:s.length<n)(hn:s.length<4611686018427387904):iO n s=some (tS s):=by
 unfold iO; rw[wW s GA (fun i c a=>by
  have b:=iD a; simp only[iB,fU a,z18,By,a,z40,z10,HL,HK,HM,bX (show i<4611686018427387904 by omega),IA]
  unfold GA; cases iE (c.toNat:Int)<;>cases decide (i=0)<;>cases jI (c.toNat:Int)<;>cases xU (c.toNat:Int)<;>rfl) (by simp only[iB,bI,z16]) h]
 unfold tS; by_cases c:sX GA 0 s=true
 ·rw[z17 c,c]; simp only[z10,qU,z39]
 ·rw[z11 c]; simp only[z82]at c; rw[c]; rfl
theorem EF: ∀(r:List UInt8) (i:Nat),0<i→sX GA i r=r.all jX
 | [],i,h=>rfl
 | c::r,i,h=>by
  have e:GA i c=jX c:=by
   unfold GA jX; rw[z9 (by omega)]
   cases iE (c.toNat:Int)<;>cases jI (c.toNat:Int)<;>cases xU (c.toNat:Int)<;>rfl
  simp only[sX,Jp,EF r (i+1) (by omega),e]
theorem Cq(n:Nat)(s:List UInt8)(h:s.length<n)(hn:s.length<4611686018427387904):kT n s=some (tS s):=by
 unfold kT; rw[NI s jX (fun i c b=>by
  have k:=iD b; simp only[kA,fU b,z18,By,b,z40,z10,Co,bX (show i<4611686018427387904 by omega)]
  unfold jX; cases jI (c.toNat:Int)<;>cases iE (c.toNat:Int)<;>cases xU (c.toNat:Int)<;>rfl) (by simp only[kA,bI,z16]) h]
 unfold tS; cases s with
 | nil=>rfl
 | cons c r=>
  have e:sX GA 0 (c::r)=(iE c.toNat&&r.all jX):=by
   simp only[sX,z34,EF r 1 (by omega)]
   unfold GA; rw[z15 rfl]; cases iE (c.toNat:Int)<;>rfl
  have f:(c::r).all jX=(jX c&&r.all jX):=Jp; have j:ixs (c::r) (0:Int)=some (c.toNat:Int):=rfl; have g:iE c.toNat=true→jX c=true:=fun h=>by unfold jX; rw[h]; cases jI (c.toNat:Int)<;>rfl
  rw[e,f]; generalize r.all jX=q; by_cases a:(jX c&&q)=true
  ·rw[z17 a]
   simp only[z10,vE,j,Bc]; have d:q=true:=by cases q with | true=>rfl | false=>simp at a
   subst d; cases decide (1≤((c::r).length:Int))<;>cases decide (((c::r).length:Int)≤20)<;>cases iE (c.toNat:Int)<;>rfl
  ·rw[z11 a]
   cases hl:iE (c.toNat:Int)with
   | false=>rfl
   | true=>
    rw[g hl]at a; cases q with
    | true=>simp at a
    | false=>rfl
def gV(s:List UInt8):Bool:=uZ s&&(!decide (s=[99,97,115,101])&&(!decide (s=[111,102])&& !decide (s=[101,110,100])))
theorem Gx(n:Nat)(s:List UInt8)(h:s.length<n)(hn:s.length<4611686018427387904):gE n s=some (gV s):=by
 unfold gE gV; rw[Ar n s h hn,z10]; generalize decide (s=[99,97,115,101])=a; generalize decide (s=[111,102])=b; generalize decide (s=[101,110,100])=c; cases uZ s<;>cases a<;>cases b<;>cases c<;>rfl
theorem JX(n:Nat)(s:List UInt8)(h:s.length<n)(hn:s.length<4611686018427387904):hH n s=some (gV s):=by
 unfold hH gV iA; rw[Ao n s h hn,z10]; generalize decide (s=[99,97,115,101])=a; generalize decide (s=[111,102])=b; generalize decide (s=[101,110,100])=c; cases uZ s<;>cases a<;>cases b<;>cases c<;>rfl
def DW(s:List UInt8):Bool:=decide (s=[43])||(decide (s=[45])||(decide (s=[42])||(decide (s=[61,61])||decide (s=[60]))))
theorem NT(n:Nat)(s:List UInt8):lY n s=some (DW s):=by
 unfold lY DW; generalize decide (s=[43])=a; generalize decide (s=[45])=b; generalize decide (s=[42])=c; generalize decide (s=[61,61])=d; generalize decide (s=[60])=e; cases a<;>cases b<;>cases c<;>cases d<;>cases e<;>rfl
theorem NP(n:Nat)(s:List UInt8):lX n s=some (DW s):=by
 unfold lX DW; generalize decide (s=[43])=a; generalize decide (s=[45])=b; generalize decide (s=[42])=c; generalize decide (s=[61,61])=d; generalize decide (s=[60])=e; cases a<;>cases b<;>cases c<;>cases d<;>cases e<;>rfl

theorem LD(n:Nat)(l:List (List UInt8))(s:List UInt8)(hn:l.length<n)(c:n<4611686018427387904):dX n l s=some (GC (fun a=>decide (s=a)) 0 l):=by
 unfold dX; have e:=Ds (body:=dA n l s) l (fun a=>decide (s=a)) (fun i=>(i:Int)) (fun i=>Sum.inl (i:Int)) (Sum.inr ((l.length:Int),false)) (fun i a b=>by
  have d:=iD b; simp only[dA,fU b,z18,fF,b,z10,bX (show i<4611686018427387904 by omega)]
  cases decide (s=a)<;>rfl) (by simp only[dA,bI,z16]) hn
 refine(congrArg (fun q=>Option.bind q _) e).trans ?_
 rcases xB (fun a=>decide (s=a)) l 0 with⟨h,_⟩ | ⟨k,a,h,_⟩
 ·rw[h]; rfl
 ·rw[h,z9 (by omega)]
  simp only[z10,z16,Int.toNat_natCast]
theorem Fq(n:Nat)(l:List (List UInt8))(s:List UInt8)(hn:l.length<n)(c:n<4611686018427387904):dB n l s=some (decide (s∈l)):=by
 unfold dB; rw[LD n l s hn c]; simp only[z10,z8]; rcases xB (fun a=>decide (s=a)) l 0 with⟨h,h1⟩ | ⟨k,a,h,h1,b,_⟩
 ·rw[h,z9 (by omega),z9 (fun d=>by have:=h1 s d; simp at this)]
 ·simp only[z22]at b
  subst b; rw[h,z15 (by omega),z15 (z35 h1)]
def Ej(l:List (List UInt8)):Bool:=sX (fun i a=> !(decide (a∈l.take i))) 0 l
theorem Kn(l:List (List UInt8)):Ej l=true↔l.Nodup:=by
 unfold Ej; rw[xC,List.Nodup,List.pairwise_iff_getElem]; constructor
 ·intro h i j d b f e
  have:=h j l[j] (z13 b)
  simp only[z34,z37,z36]at this; exact this (by rw[←e]; exact z142.2 ⟨i,by omega,rfl⟩)
 ·intro h j a c
  simp only[z34,z37,z36]; intro g; obtain⟨i,d,e⟩:=z142.1 g; obtain⟨b,rfl⟩:=z94.1 c
  exact h i j (by omega) b (by omega) e
theorem Lg{α:Type}{l:List α}{i:Nat}(h:i≤l.length):sub l none (some (i:Int))=some (l.take i):=by
 unfold sub bnd; rw[z17 ⟨by simp,by simp only[Option.getD_none,z72]; omega,by simp only[z72]; omega⟩]
 simp
theorem Ga(n:Nat)(l:List (List UInt8))(s:List UInt8)(hn:l.length<n)(f:n<4611686018427387904):eG n l s=some (decide (s∈l)):=by
 unfold eG; have e:=Ds (body:=gZ n l s) l (fun a=>decide (a=s)) (fun i=>(i:Int)) (fun i=>Sum.inl true) (Sum.inr ((l.length:Int),false)) (fun i a b=>by
  have g:=iD b; simp only[gZ,fU b,z18,fF,b,z10,bX (show i<4611686018427387904 by omega)]
  cases decide (a=s)<;>rfl) (by simp only[gZ,bI,z16]) hn
 refine(congrArg (fun q=>Option.bind q _) e).trans ?_
 rcases xB (fun a=>decide (a=s)) l 0 with⟨h,h1⟩ | ⟨k,a,h,h1,c,_⟩
 ·rw[h,z15 (show(-1:Int)<0 by omega),z9 (show ¬ s∈l from fun d=>by have:=h1 s d; simp at this)]; rfl
 ·simp only[z22]at c
  subst c; rw[h,z9 (by omega),z15 (z35 h1)]
  rfl
theorem JR(n:Nat)(l:List (List UInt8))(hn:l.length<n)(c:n<4611686018427387904):jS n l=some (Ej l):=by
 unfold jS; rw[wW l (fun i a=> !(decide (a∈l.take i))) (fun i a b=>by
  have d:=iD b; simp only[iV,fU b,z18,fF,b,z10,bX (show i<4611686018427387904 by omega),Lg (show i≤l.length by omega),Ga n (l.take i) a (by rw[z56]; omega) c]
  cases decide (a∈l.take i)<;>rfl) (by simp only[iV,bI,z16]) hn]
 unfold Ej; cases sX (fun i a=> !(decide (a∈l.take i))) 0 l<;>rfl
def vQ(k m:Int)(s:List UInt8)(a:Int):Bool:=
 bif decide (k=1)then(decide (0≤m)&&decide (m≤1000000000000))&&(decide (s=[])&&decide (a=0))
 else bif decide (k=2)then decide (m=0)&&(gV s&&decide (a=0))
 else bif decide (k=3)then decide (m=0)&&(tS s&&decide (a=0))
 else bif decide (k=4)then decide (m=0)&&(decide (s=[])&&decide (a≤20))
 else bif decide (k=5)then decide (m=0)&&(decide (s=[])&&decide (a≤20))
 else bif decide (k=6)then decide (m=0)&&(decide (s=[])&&(decide (2≤a)&&decide (a≤6)))
 else bif decide (k=7)then decide (m=0)&&(DW s&&decide (a=2))
 else bif decide (k=8)then decide (m=0)&&(gV s&&decide (a≤4))
 else bif decide (k=9)then decide (m=0)&&(decide (s=[])&&decide (a=1))
 else false
theorem BQ(n:Nat)(k m:Int)(s:List UInt8)(a:Int)(h:s.length<n)(hn:s.length<4611686018427387904):gG n k m s a=some (vQ k m s a):=by
 unfold gG vQ; rw[Gx n s h hn,Cq n s h hn,NT n s]; simp only[vE,z10]; cases decide (k=1)with
 | true=>cases decide (0≤m)<;>cases decide (m≤1000000000000)<;>cases decide (s=[])<;>rfl
 | false=>
 cases decide (k=2)with
 | true=>cases decide (m=0)<;>cases gV s<;>rfl
 | false=>
 cases decide (k=3)with
 | true=>cases decide (m=0)<;>cases tS s<;>rfl
 | false=>
 cases decide (k=4)with
 | true=>cases decide (m=0)<;>cases decide (s=[])<;>rfl
 | false=>
 cases decide (k=5)with
 | true=>cases decide (m=0)<;>cases decide (s=[])<;>rfl
 | false=>
 cases decide (k=6)with
 | true=>cases decide (m=0)<;>cases decide (s=[])<;>rfl
 | false=>
 cases decide (k=7)with
 | true=>cases decide (m=0)<;>cases DW s<;>rfl
 | false=>
 cases decide (k=8)with
 | true=>cases decide (m=0)<;>cases gV s<;>rfl
 | false=>
 cases decide (k=9)with
 | true=>cases decide (m=0)<;>cases decide (s=[])<;>rfl
 | false=>rfl
def shp(a:Bool)(k m:Int)(s:List UInt8)(c b:Int):Bool:=
 bif decide (k=9)then(!a&&vQ k m s c)&&(decide (1≤b)&&decide (b≤6))
 else !decide (0<b)&&(vQ k m s c&&(bif a then !decide (6<k)else !(decide (k=3)&&decide (s=[95]))))
theorem HJ(n:Nat)(k m:Int)(s:List UInt8)(l:List aA)(c:List aB)(a:Bool)(h:s.length<n)(hn:s.length<4611686018427387904):iM n k m s l c a=some (shp a k m s l.length c.length):=by
 unfold iM shp vQ; rw[JX n s h hn,Cm n s h hn,NP n s]; simp only[qU,z10]; generalize (l.length:Int)=ne; generalize (c.length:Int)=nc; by_cases h1:k=1
 ·subst h1
  cases decide (0<nc)<;>cases decide (0≤m)<;>cases decide (m≤1000000000000)<;>cases decide (s=[])<;>cases decide (ne=0)<;>cases a<;>rfl
 by_cases b:k=2
 ·subst b
  cases decide (0<nc)<;>cases decide (m=0)<;>cases gV s<;>cases decide (ne=0)<;>cases a<;>rfl
 by_cases d:k=3
 ·subst d
  cases decide (0<nc)<;>cases decide (m=0)<;>cases tS s<;>cases decide (ne=0)<;>cases a<;>cases decide (s=[95])<;>rfl
 by_cases e:k=4
 ·subst e
  cases decide (0<nc)<;>cases decide (m=0)<;>cases decide (s=[])<;>cases decide (ne≤20)<;>cases a<;>rfl
 by_cases f:k=5
 ·subst f
  cases decide (0<nc)<;>cases decide (m=0)<;>cases decide (s=[])<;>cases decide (ne≤20)<;>cases a<;>rfl
 by_cases g:k=6
 ·subst g
  cases decide (0<nc)<;>cases decide (m=0)<;>cases decide (s=[])<;>cases decide (2≤ne)<;>cases decide (ne≤6)<;>cases a<;>rfl
 by_cases i:k=7
 ·subst i
  cases decide (0<nc)<;>cases decide (m=0)<;>cases DW s<;>cases decide (ne=2)<;>cases a<;>rfl
 by_cases j:k=8
 ·subst j
  cases decide (0<nc)<;>cases decide (m=0)<;>cases gV s<;>cases decide (ne≤4)<;>cases a<;>rfl
 by_cases o:k=9
 ·subst o
  cases decide (m=0)<;>cases decide (s=[])<;>cases decide (ne=1)<;>cases decide (1≤nc)<;>cases decide (nc≤6)<;>cases a<;>rfl
 rw[z9 h1,z9 b,z9 d,z9 e,z9 f,z9 g,z9 i,z9 j,z9 o]; cases decide (0<nc)<;>cases decide (m=0)<;>rfl
theorem Kg(k m:Int)(s:List UInt8)(d c:Int):(vQ k m s d&&(!(decide (k=3)&&decide (s=[95]))&&(!(!(decide (k=9) == decide (0<c)))&& !decide (6<c))))=shp false k m s d c:=by
 unfold shp; by_cases e:k=9
 ·subst e
  by_cases a:0<c
  ·rw[z15 a,z15 (show(1:Int)≤c by omega)]
   by_cases b:6<c
   ·rw[z15 b,z9 (show ¬ c≤6 by omega)]; cases vQ 9 m s d<;>rfl
   ·rw[z9 b,z15 (show c≤6 by omega)]; cases vQ 9 m s d<;>rfl
  ·rw[z9 a,z9 (show ¬ (1:Int)≤c by omega)]
   cases vQ 9 m s d<;>rfl
 ·rw[z9 e]
  by_cases a:0<c
  ·rw[z15 a]; cases vQ k m s d<;>cases (decide (k=3)&&decide (s=[95]))<;>rfl
  ·rw[z9 a,z9 (show ¬ 6<c by omega)]
   cases vQ k m s d<;>cases (decide (k=3)&&decide (s=[95]))<;>rfl
theorem Mo(k m:Int)(s:List UInt8)(b a:Int):(!decide (6<k)&&(!decide (0<a)&&vQ k m s b))=shp true k m s b a:=by
 unfold shp; by_cases c:k=9
 ·subst c; rfl
 ·rw[z9 c]
  cases decide (6<k)<;>cases decide (0<a)<;>cases vQ k m s b<;>rfl

mutual
def jL:aA→List (List UInt8)
 | .mk k _ s l _=>bif decide (k=3)then(bif decide (s=[95])then []else [s])else gP l
def gP:List aA→List (List UInt8)
 | []=> []
 | x::r=>jL x++gP r
end
theorem Ld(a:aA):jL a=bif decide (a.f0=3)then(bif decide (a.f2=[95])then []else [a.f2])else gP a.f3:=by cases a; simp only[jL]; rfl
theorem Dc: ∀(a b:List aA),gP (a++b)=gP a++gP b
 | [],b=>rfl
 | x::r,b=>by simp only[z62,gP,Dc r b,z85]
theorem Iw(a:aA):gP [a]=jL a:=by simp only[gP,z78]
mutual
theorem GI: ∀e,(jL e).length≤aN e
 | .mk k m s l c=>by
  have:=yO l; simp only[jL,aN]; cases decide (k=3)<;>cases decide (s=[95])<;>simp<;>omega
theorem yO: ∀l,(gP l).length≤uP l
 | []=>by simp [gP]
 | x::r=>by have:=GI x; have:=yO r; simp only[gP,uP,z21]; omega
end
mutual
def eZ:aA→Nat
 | .mk _ _ _ l c=>1+iT l+EN c
def iT:List aA→Nat
 | []=>0
 | x::r=>eZ x+iT r
def EN:List aB→Nat
 | []=>0
 | x::r=>Ck x+EN r
def Ck:aB→Nat
 | .two p x=>eZ p+eZ x
end
theorem FI(a:aA):eZ a=1+iT a.f3+EN a.f4:=by cases a; simp only[eZ]; rfl
theorem Lw(a:aB):Ck a=eZ a.p+eZ a.x:=by cases a; simp only[Ck]; rfl
theorem yN: ∀l,iT l=nO eZ l
 | []=>rfl
 | x::r=>by simp only[iT,nO,yN r]
theorem zF: ∀l,EN l=nO Ck l
 | []=>rfl
 | x::r=>by simp only[EN,nO,zF r]
def xok:Nat→Bool→aA→Bool
 | 0,_,_=>false
 | d+1,a,e=>shp a e.f0 e.f1 e.f2 e.f3.length e.f4.length&&(e.f3.all (xok d a)&&e.f4.all (fun c=>Ej (jL c.p)&&(xok d true c.p&&xok d false c.x)))
def cok(d:Nat)(c:aB):Bool:=Ej (jL c.p)&&(xok d true c.p&&xok d false c.x)
theorem sN(d:Nat)(a:Bool)(e:aA):xok (d+1) a e=(shp a e.f0 e.f1 e.f2 e.f3.length e.f4.length&&(e.f3.all (xok d a)&&e.f4.all (cok d))):=rfl
def mZ(e:aA):Bool:=xok 10 false e&&decide ((eZ e:Int)≤300)
def tk(b:Bool)(c:Nat)(t:Int):Int:=bif b&&decide ((c:Int)≤t)then t - c else -1
theorem PH(b:Bool)(c:Nat){t:Int}(h:t<c):tk b c t= -1:=by
 unfold tk; rw[z9 (by omega),z71]; rfl
theorem MP(b:Bool)(c:Nat)(t:Int)(h: -1≤t): -1≤tk b c t∧tk b c t≤t:=by
 unfold tk; by_cases q:(b&&decide ((c:Int)≤t))=true
 ·rw[q]
  simp only[z7,z22]at q; simp only[z18]; omega
 ·rw[z82]at q; rw[q]; simp only[z16]; omega
def Hn{α:Type}(b:α→Bool)(c:α→Nat):List α→Int→Int
 | [],t=>t
 | a::r,t=>bif decide (0≤t)then Hn b c r (tk (b a) (c a) t)else t
theorem CI{α:Type}(b:α→Bool)(c:α→Nat): ∀(l:List α) {t:Int},t<0→Hn b c l t=t
 | [],t,h=>rfl
 | a::r,t,h=>by unfold Hn; rw[z9 (by omega)]; rfl
theorem Er{α:Type}(b:α→Bool)(c:α→Nat): ∀(l:List α) {t:Int},0≤t→Hn b c l t=tk (l.all b) (nO c l) t
 | [],t,h=>by
  unfold Hn tk; rw[z15 (show((nO c []:Nat):Int)≤t by simp only[nO]; omega)]
  simp [nO]
 | a::r,t,h=>by
  unfold Hn; rw[z15 h,z18,Jp]; have e:nO c (a::r)=c a+nO c r:=rfl; rw[e]; by_cases q:(b a&&decide ((c a:Int)≤t))=true
  ·have d:tk (b a) (c a) t=t - c a:=by unfold tk; rw[q]; rfl
   simp only[z7,z22]at q; rw[d,Er b c r (by omega),q.1,z39]
   unfold tk; by_cases z:((nO c r:Nat):Int)≤t - c a
   ·rw[z15 z,z15 (by omega)]
    cases r.all b
    ·rfl
    ·simp only[MA,z18]; omega
   ·rw[z9 z,z9 (by omega)]
    cases r.all b<;>rfl
  ·have d:tk (b a) (c a) t= -1:=by unfold tk; rw[z82]at q; rw[q]; rfl
   rw[d,CI b c r (by omega)]
   unfold tk; cases ha:b a with
   | false=>rfl
   | true=>
    rw[ha,z39,z22]at q; rw[z9 (by omega),z71]; rfl
theorem yV{α ρ:Type}{body:Int×Int→Option ((Int×Int)⊕ρ)}(l:List α)(d:α→Bool)(c:α→Nat)(b:Int→ρ→Prop)(s: ∀(i:Nat) a (t:Int),l[i]? =some a→0≤t→t≤300→body (t,(i:Int))=some (.inl (tk (d a) (c a) t,((i+1:Nat):Int)))∨(∃r,body (t,(i:Int))=some (.inr r)∧b (-1) r∧tk (d a) (c a) t= -1))
  (hn: ∀(i:Nat) (t:Int),t<0→i<l.length→ ∃r,body (t,(i:Int))=some (.inr r)∧b t r)(p: ∀t:Int, ∃r,body (t,(l.length:Int))=some (.inr r)∧b t r): ∀(r:List α) (i:Nat) (t:Int) (n:Nat),l.drop i=r→ -1≤t→t≤300→r.length<n→i≤l.length→ ∃x,loopN body n (t,(i:Int))=some x∧b (Hn d c r t) x
 | [],i,t,n,h,h0,h1,j,y=>by
  obtain⟨m,rfl⟩: ∃m,n=m+1:=⟨n - 1,by simp at j; omega⟩
  have:i=l.length:=by
   have:=congrArg List.length h; simp at this; omega
  subst this; obtain⟨x,f,g⟩:=p t; simp only[loopN,f]; exact⟨x,rfl,g⟩
 | a::r,i,t,n,h,h0,h1,j,y=>by
  obtain⟨m,rfl⟩: ∃m,n=m+1:=⟨n - 1,by simp at j; omega⟩
  have k:i<l.length:=by
   have:=congrArg List.length h; simp at this; omega
  have v:l[i]? =some a:=by
   have:=congrArg (·[0]?) h
   simpa using this
  have o:l.drop (i+1)=r:=by
   have:=congrArg List.tail h; simpa using this
  have e:Hn d c (a::r) t=bif decide (0≤t)then Hn d c r (tk (d a) (c a) t)else t:=rfl
  rw[e]; by_cases q:0≤t
  ·rw[z15 q,z18]
   have w:=MP (d a) (c a) t h0; rcases s i a t v q h1 with f | ⟨x,f,g,u⟩
   ·simp only[loopN,f]
    exact yV l d c b s hn p r (i+1) _ m o w.1 (by omega) (by simp at j; omega) (by omega)
   ·simp only[loopN,f]
    rw[u,CI d c r (by omega)]
    exact⟨x,rfl,g⟩
  ·rw[z9 q,z16]
   obtain⟨x,f,g⟩:=hn i t (by omega) k
   simp only[loopN,f]; exact⟨x,rfl,g⟩
theorem Ii{α:Type}(w:α→Nat): ∀(l:List α) (i:Nat),dl w (l.take i)≤dl w l
 | [],i=>by simp
 | a::r,0=>by simp only[ME,dl]; omega
 | a::r,i+1=>by have:=Ii w r i; simp only[z133,dl]; omega
theorem rG: ∀(n:Nat),n≤1099511627776→ ∀(a:aA),aN a<n→eK n a.f0 a.f1 a.f2 a.f3 a.f4=some (jL a)
 | 0,_,a,h=>by omega
 | n+1,hn,a,h=>by
  have o:=rG n (by omega)
  rw[uK,Ld]; unfold jQ; rw[oZ,iF,fH]at h; have f:=eF aN a.f3; cases decide (a.f0=3)with
  | true=>
   simp only[z18]; have c:kG 16 ([]:List (List UInt8)) [a.f2]=some [a.f2]:=uE (by simp) (by simp [maxLen])
   rw[c]; cases decide (a.f2=[95])<;>rfl
  | false=>
   simp only[z16]; generalize a.f3=l at h f; have m:=sP (body:=gC n (eK n) l) (fun i=>(gP (l.take i),(i:Int))) (len:=l.length) (r:=(gP l,(l.length:Int),false)) (fun i k=>by
    have d:l[i]? =some l[i]:=z13 k
    generalize l[i]=b at d; have p:=jK aN (z35 d); have e:gP (l.take (i+1))=gP (l.take i)++jL b:=by rw[←nP d,Dc,Iw]
    have g:=yO (l.take (i+1)); have j:uP (l.take (i+1))≤dl aN l:=by
     rw[iF]; exact Ii aN l (i+1)
    rw[e,z21]at g; have c:kG 16 (gP (l.take i)) (jL b)=some (gP (l.take (i+1))):=by
     rw[e]; exact uE (by omega) (by simp only[maxLen]; omega)
    simp only[gC,fU d,z18,fF,d,z10,o b (by omega),c,bX (show i<4611686018427387904 by omega)]) (by simp only[gC,bI,z16,z83]) (n:=n) (by omega)
   refine(congrArg (fun q=>Option.bind q _) m).trans ?_
   rfl
def val2:Int⊕(Int×Int×Bool)→Int
 | .inl v=>v
 | .inr (v,_,_)=>v
theorem CB: ∀(n:Nat),n≤1099511627776→ ∀(a:aA) (f:Bool) (d:Nat) (t:Int),d≤10→ -1≤t→t≤300→aN a<n→bW n a.f0 a.f1 a.f2 a.f3 a.f4 f (d:Int) t=some (tk (xok d f a) (eZ a) t)
 | 0,_,a,f,d,t,L,t0,Q,h=>by omega
 | n+1,hn,a,f,d,t,L,t0,Q,h=>by
  have D:=CB n (by omega)
  rw[uH]; unfold jN; rw[oZ,iF,fH]at h; have M:=eF aN a.f3; have B:=eF bM a.f4; rw[HJ n a.f0 a.f1 a.f2 a.f3 a.f4 f (by omega) (by omega)]
  have C:=FI a; cases d with
  | zero=>
   rw[z15 (show((0:Nat):Int)<1 by omega)]
   have e:tk (xok 0 f a) (eZ a) t= -1:=rfl; rw[e]; rfl
  | succ d=>
   rw[z9 (show ¬ ((d+1:Nat):Int)<1 by omega)]
   by_cases o:t<1
   ·rw[z15 o,PH _ _ (by omega)]; rfl
   rw[z9 o,sN]; generalize eZ a=q at C ⊢; simp only[z16,z10]; cases hs:shp f a.f0 a.f1 a.f2 a.f3.length a.f4.length with
   | false=>rfl
   | true=>
    simp only[z46,z16,z39]; generalize a.f3=l at h M C ⊢; generalize a.f4=c at h B C ⊢; have G:IntKind.wrap .i64 (((d+1:Nat):Int) - 1)=(d:Int):=by rw[wrap_i64 (by omega) (by omega)]; omega
    rw[wrap_i64 (n:=t - 1) (by omega) (by omega)]
    obtain⟨x,h1,H⟩:=yV (body:=dN n (bW n) f ((d+1:Nat):Int) l) l (xok d f) eZ (fun t r=>r.1=t) (fun i b t j E F=>by
     have N:=jK aN (z35 j); have A:=iD j; left
     simp only[dN,fU j,z18,fF,j,z10,z15 E,G,D b f d t (by omega) (by omega) F (by omega),bX (show i<4611686018427387904 by omega)]) (fun i t o A=>⟨(t,(i:Int),false),by
      simp only[dN,z15 (show(i:Int)<(l.length:Int)by omega),z18,z10,z9 (show ¬ 0≤t by omega),z16],rfl⟩) (fun t=>⟨(t,(l.length:Int),false),by simp only[dN,bI,z16,z10],rfl⟩) l 0 (t - 1) n rfl (by omega) (by omega) (by omega) (by omega)
    have h1:loopN (dN n (bW n) f ((d+1:Nat):Int) l) n (t - 1,(0:Int))=some x:=h1; rw[h1]; obtain⟨x1,V,W⟩:=x; simp only at H; subst H; simp only[z10]; rw[Er (xok d f) eZ l (by omega), ←yN]
    have j:=MP (l.all (xok d f)) (iT l) (t - 1) (by omega)
    obtain⟨y,u,I⟩:=yV (body:=dM n (bW n) ((d+1:Nat):Int) c) c (cok d) Ck (fun t r=>val2 r=t) (fun i b t m E F=>by
     have N:=jK bM (z35 m); have A:=iD m; have U:=iG b; have R:eK n b.f0 b.f1 b.f2 b.f3 b.f4=some (jL b.p):=rG n (by omega) b.p (by omega)
     have P:=GI b.p; have S:bW n b.f0 b.f1 b.f2 b.f3 b.f4 true (d:Int) t=some (tk (xok d true b.p) (eZ b.p) t):=D b.p true d t (by omega) (by omega) F (by omega)
     have w:=MP (xok d true b.p) (eZ b.p) t (by omega)
     have T:bW n b.f5 b.f6 b.f7 b.f8 b.f9 false (d:Int) (tk (xok d true b.p) (eZ b.p) t)=some (tk (xok d false b.x) (eZ b.x) (tk (xok d true b.p) (eZ b.p) t)):=D b.x false d _ (by omega) w.1 (by omega) (by omega)
     have K:=Lw b; have O:=FI b.p; unfold cok; simp only[dM,fU m,z18,fF,m,z10,z15 E,R,JR n (jL b.p) (by omega) (by omega),G,S,T,bX (show i<4611686018427387904 by omega)]
     cases ho:Ej (jL b.p)with
     | false=>
      right
      exact⟨.inl (-1),rfl,rfl,by unfold tk; rfl⟩
     | true=>
      left
      simp only[z46,z16,z39]; by_cases g:0≤tk (xok d true b.p) (eZ b.p) t
      ·rw[z15 g]
       simp only[z18,z10,z8,Sum.inl.injEq,z43,and_true]; unfold tk at g ⊢; cases hx:xok d true b.p with
       | false=>rw[hx]at g; simp at g
       | true=>
        rw[hx,z39]at g; simp only[z39]; by_cases z:(eZ b.p:Int)≤t
        ·rw[z15 z,z18]
         by_cases k:(eZ b.x:Int)≤t - eZ b.p
         ·rw[z15 k,z15 (show(Ck b:Int)≤t by omega)]
          cases xok d false b.x
          ·rfl
          ·simp only[MA,z18]; omega
         ·rw[z9 k,z9 (show ¬ (Ck b:Int)≤t by omega)]
          cases xok d false b.x<;>rfl
        ·rw[z9 z]at g; simp at g
      ·rw[z9 g]
       have s:tk (xok d true b.p) (eZ b.p) t= -1:=by omega
       simp only[z16,z10,z8,Sum.inl.injEq,z43,and_true]; rw[s]; unfold tk at g ⊢; cases hx:xok d true b.p with
       | false=>rfl
       | true=>
        rw[hx,z39]at g; by_cases z:(eZ b.p:Int)≤t
        ·rw[z15 z,z18]at g; omega
        ·rw[z9 (show ¬ (Ck b:Int)≤t by omega),z71]; rfl) (fun i t o A=>⟨.inr (t,(i:Int),false),by
      simp only[dM,z15 (show(i:Int)<(c.length:Int)by omega),z18,z10,z9 (show ¬ 0≤t by omega),z16],rfl⟩) (fun t=>⟨.inr (t,(c.length:Int),false),by simp only[dM,bI,z16,z10],rfl⟩) c 0 (tk (l.all (xok d f)) (iT l) (t - 1)) n rfl j.1 (by omega) (by omega) (by omega)
    have u:loopN (dM n (bW n) ((d+1:Nat):Int) c) n (tk (l.all (xok d f)) (iT l) (t - 1),(0:Int))=some y:=u; rw[u]; simp only[z10]; have J:some (val2 y)=some (tk (l.all (xok d f)&&c.all (cok d)) q t):=by
     rw[I]; congr 1
     by_cases g:0≤tk (l.all (xok d f)) (iT l) (t - 1)
     ·rw[Er (cok d) Ck c g, ←zF]
      unfold tk at g ⊢; cases hx:l.all (xok d f)with
      | false=>rw[hx]at g; simp at g
      | true=>
       rw[hx,z39]at g; simp only[z39]; by_cases z:(iT l:Int)≤t - 1
       ·rw[z15 z,z18]
        by_cases k:(EN c:Int)≤t - 1 - iT l
        ·rw[z15 k,z15 (show(q:Int)≤t by omega)]
         cases c.all (cok d)
         ·rfl
         ·simp only[MA,z18]; omega
        ·rw[z9 k,z9 (show ¬ (q:Int)≤t by omega)]
         cases c.all (cok d)<;>rfl
       ·rw[z9 z]at g; simp at g
     ·have s:tk (l.all (xok d f)) (iT l) (t - 1)= -1:=by omega
      rw[s,CI _ _ _ (by omega)]
      unfold tk at g ⊢; cases hx:l.all (xok d f)with
      | false=>rfl
      | true=>
       rw[hx,z39]at g; by_cases z:(iT l:Int)≤t - 1
       ·rw[z15 z,z18]at g; omega
       ·rw[z9 (show ¬ (q:Int)≤t by omega),z71]; rfl
    rw[←J]; rcases y with v | ⟨v,i,b⟩<;>rfl
def fr:List (List UInt8)→List (List UInt8)→Bool
 | _,[]=>true
 | P,v::r=> !decide (v∈P)&&fr (P++[v]) r
theorem Lu: ∀(V W P:List (List UInt8)),fr P (V++W)=(fr P V&&fr (P++V) W)
 | [],W,P=>by simp [fr]
 | v::V,W,P=>by
  simp only[z62,fr,Lu V W (P++[v]),z85,Bool.and_assoc,z77]
theorem IC: ∀(V P:List (List UInt8)),P.Nodup→(fr P V=true↔(P++V).Nodup)
 | [],P,h=>by simp [fr,h]
 | v::V,P,h=>by
  simp only[fr,z7,z37,z36]; have e:P++v::V=(P++[v])++V:=by simp
  constructor
  ·rintro ⟨h1,c⟩
   have hn:(P++[v]).Nodup:=by
    rw[z148]; exact⟨h,by simp,fun a f b d=>by simp only[z68]at d; subst d; exact fun e=>h1 (e ▸ f)⟩
   rw[e]; exact(IC V _ hn).1 c
  ·intro c
   rw[e]at c; have hn:=(z148.1 c).1; refine⟨fun g=> ?_,(IC V _ hn).2 c⟩
   exact(z148.1 hn).2.2 v g v (by simp) rfl
theorem Pk(V:List (List UInt8)):fr [] V=Ej V:=by
 rw[z95,IC V [] Oe,Kn]; simp

mutual
theorem GJ: ∀e,(jL e).length≤eZ e
 | .mk k m s l c=>by
  have:=Db l; simp only[jL,eZ]; cases decide (k=3)<;>cases decide (s=[95])<;>simp<;>omega
theorem Db: ∀l,(gP l).length≤iT l
 | []=>by simp [gP]
 | x::r=>by have:=GJ x; have:=Db r; simp only[gP,iT,z21]; omega
end
abbrev JS:=Int×List (List UInt8)
def Gu(d:Nat)(t:JS)(a:aA):JS⊕Unit:=bif xok d true a&&(decide (t.1+eZ a≤300)&&fr t.2 (jL a))then .inl (t.1+eZ a,t.2++jL a)else .inr ()
theorem Dx(d:Nat): ∀(l:List aA) (t:JS),t.1≤300→sW (Gu d) l t=bif l.all (xok d true)&&(decide (t.1+iT l≤300)&&fr t.2 (gP l))then .inl (t.1+iT l,t.2++gP l)else .inr ()
 | [],t,h=>by
  have e:decide (t.1+((iT []:Nat):Int)≤300)=true:=z15 (by simp only[iT]; omega)
  rw[e]; simp [sW,gP,fr,iT]
 | a::r,t,h=>by
  simp only[sW]; have c:iT (a::r)=eZ a+iT r:=by simp only[iT]
  have f:gP (a::r)=jL a++gP r:=by simp only[gP]
  rw[c,f,Lu,Jp]; by_cases q:(xok d true a&&(decide (t.1+eZ a≤300)&&fr t.2 (jL a)))=true
  ·have b:Gu d t a= .inl (t.1+eZ a,t.2++jL a):=by unfold Gu; rw[q]; rfl
   simp only[z7,z22]at q; obtain⟨g,i,j⟩:=q; rw[b,g,j,z39,z39]; simp only; rw[Dx d r _ i]; simp only; rw[show t.1+((eZ a+iT r:Nat):Int)=t.1+eZ a+iT r by omega,z85]
  ·have b:Gu d t a= .inr ():=by unfold Gu; rw[z82]at q; rw[q]; rfl
   rw[b]; simp only; cases h1:xok d true a with
   | false=>rfl
   | true=>
    rw[h1,z39]at q; cases h3:fr t.2 (jL a)with
    | false=>cases r.all (xok d true)<;>simp
    | true=>
     rw[h3,MA,z22]at q; rw[z9 (show ¬ t.1+((eZ a+iT r:Nat):Int)≤300 by omega)]
     cases r.all (xok d true)<;>rfl
def jv:(Bool×Int×List (List UInt8))⊕(Int×Bool×Int×List (List UInt8))→Option (Bool×Int×List (List UInt8))
 | .inl (v,w,z)=>some (v,w,z)
 | .inr (_,_,w,z)=>some (true,w,z)
def pJ(b:Bool)(c:Int)(a:List (List UInt8))(r:Bool×Int×List (List UInt8)):Prop:=r.1=b∧(b=true→r.2=(c,a))
theorem wI: ∀(n:Nat),n≤1099511627776→ ∀(a:aA) (d:Nat) (c:Int) (g:List (List UInt8)),d≤10→0≤c→c≤300→(g.length:Int)≤c→aN a+400<n→ ∃r,bQ n a.f0 a.f1 a.f2 a.f3 a.f4 (11 - (d:Int)) c g=some r∧pJ (xok d true a&&(decide (c+eZ a≤300)&&fr g (jL a))) (c+eZ a) (g++jL a) r
 | 0,_,a,d,c,g,Z,Q,R,M,h=>by omega
 | n+1,hn,a,d,c,g,Z,Q,R,M,h=>by
  have ih:=wI n (by omega)
  rw[qJ]; unfold fY; rw[oZ,iF,fH]at h; have hl:=eF aN a.f3; have hp:=FI a; have A:=Ld a; rw[BQ n _ _ _ _ (by omega) (by omega),wrap_i64 (n:=c+1) (by omega) (by omega)]
  cases d with
  | zero=>
   rw[z15 (show(10:Int)<11 - ((0:Nat):Int)by omega)]
   exact⟨_,rfl,rfl,fun h=>by cases h⟩
  | succ d=>
   rw[z9 (show ¬ (10:Int)<11 - ((d+1:Nat):Int)by omega),sN]
   by_cases y:300<c+1
   ·rw[z15 y,z9 (show ¬ c+(eZ a:Int)≤300 by omega)]
    refine⟨_,rfl, ?_, ?_⟩<;>cases shp true a.f0 a.f1 a.f2 a.f3.length a.f4.length<;>cases (a.f3.all (xok d true)&&a.f4.all (cok d))<;>simp
   rw[z9 y]; have j:=Mo a.f0 a.f1 a.f2 a.f3.length a.f4.length; cases F:shp true a.f0 a.f1 a.f2 a.f3.length a.f4.length with
   | false=>
    rw[F]at j; refine⟨(false,c+1,g), ?_,rfl,fun h=>by cases h⟩
    revert j
    cases decide (6<a.f0)<;>cases decide ((0:Int)<a.f4.length)<;>cases vQ a.f0 a.f1 a.f2 a.f3.length<;>intro j<;>first | rfl | cases j
   | true=>
    rw[F]at j; simp only[z7,z37]at j; obtain⟨p1,G,D⟩:=j; have B:a.f4=[]:=by
     rw[z36]at G; cases m:a.f4 with
     | nil=>rfl
     | cons x r=>rw[m]at G; simp only[z27]at G; omega
    rw[p1,G,D]; have J:a.f4.all (cok d)=true:=by rw[B]; rfl
    have Y:EN a.f4=0:=by rw[B]; rfl
    rw[J,MA]; simp only[z16,z10,z46,z39]; generalize eZ a=q at hp ⊢; have H:IntKind.wrap .i64 (11 - ((d+1:Nat):Int)+1)=11 - (d:Int):=by rw[wrap_i64 (by omega) (by omega)]; omega
    have o: ∀(l:List aA),dl aN l+401≤n→ ∀(body:Int×Int×List (List UInt8)→Option ((Int×Int×List (List UInt8))⊕((Bool×Int×List (List UInt8))⊕(Int×Bool×Int×List (List UInt8))))),(∀(i:Nat) b (t:JS),l[i]? =some b→body ((i:Int),t.1,t.2)=(bQ n b.f0 b.f1 b.f2 b.f3 b.f4 (11 - (d:Int)) t.1 t.2).bind fun r=>bif !r.1 then some (.inr (.inl (false,r.2.1,r.2.2)))else some (.inl (((i+1:Nat):Int),r.2.1,r.2.2)))→(∀t:JS,body ((l.length:Int),t.1,t.2)=some (.inr (.inr ((l.length:Int),false,t.1,t.2))))→
      ∀t0:JS,0≤t0.1→t0.1≤300→(t0.2.length:Int)≤t0.1→ ∃x,loopN body n ((0:Int),t0.1,t0.2)=some x∧(match sW (Gu d) l t0 with | .inl t=>x= .inr ((l.length:Int),false,t.1,t.2) | .inr _=> ∃u v,x= .inl (false,u,v)):=by
     intro l hw body F he t0 g0 W X; have hll:=eF aN l; obtain⟨x,x1,s⟩:=BW (body:=body) l (Gu d) (fun t i=>((i:Int),t.1,t.2)) (fun t=> .inr ((l.length:Int),false,t.1,t.2)) (fun _ x=> ∃u v,x= .inl (false,u,v)) (fun t=>0≤t.1∧t.1≤300∧(t.2.length:Int)≤t.1) (fun i b t k y=>by
      have K:=jK aN (z35 k); obtain⟨r,r1,r2,O⟩:=ih b d t.1 t.2 (by omega) y.1 y.2.1 y.2.2 (by omega)
      rw[F i b t k,r1]; unfold Gu; obtain⟨rb,rc,rn⟩:=r; simp only at r2 O; simp only[z10]; rw[r2]; by_cases hz:(xok d true b&&(decide (t.1+eZ b≤300)&&fr t.2 (jL b)))=true
      ·left
       have P:=O hz; simp only[z43]at P; obtain⟨rfl,rfl⟩:=P; rw[hz]; simp only[z7,z22]at hz; have hvc:=GJ b; refine⟨_,rfl,⟨?_,hz.2.1, ?_⟩,rfl⟩
       ·show 0≤t.1+(eZ b:Int); omega
       ·show((t.2++jL b).length:Int)≤t.1+(eZ b:Int)
        rw[z21]; omega
      ·right
       rw[z82]at hz; rw[hz]; exact⟨(),_,rfl,rfl,_,_,rfl⟩) (fun t _=>he t) (n:=n) (by omega) (t0:=t0) ⟨g0,W,X⟩
     refine⟨x,x1, ?_⟩
     revert s
     cases sW (Gu d) l t0<;>exact id
    have p: ∀(t0:JS) (x:(Bool×Int×List (List UInt8))⊕(Int×Bool×Int×List (List UInt8))),t0.1=c+1→(match sW (Gu d) a.f3 t0 with | .inl t=>x= .inr ((a.f3.length:Int),false,t.1,t.2) | .inr _=> ∃u v,x= .inl (false,u,v))→
      ∃r,jv x=some r∧pJ (a.f3.all (xok d true)&&(decide (c+(q:Int)≤300)&&fr t0.2 (gP a.f3))) (c+q) (t0.2++gP a.f3) r:=by
     intro t0 x S m; rw[Dx d a.f3 t0 (by omega),S,show c+1+(iT a.f3:Int)=c+q by omega]at m
     cases hz:(a.f3.all (xok d true)&&(decide (c+(q:Int)≤300)&&fr t0.2 (gP a.f3)))with
     | true=>
      rw[hz]at m; simp only[z18]at m; subst m; exact⟨_,rfl,rfl,fun _=>rfl⟩
     | false=>
      rw[hz]at m; simp only[z16]at m; obtain⟨u,v,rfl⟩:=m; exact⟨_,rfl,rfl,fun h=>by cases h⟩
    by_cases E:a.f0=3
    ·have L:a.f3=[]:=by
      rw[E]at D; have e:vQ 3 a.f1 a.f2 a.f3.length=(decide (a.f1=0)&&(tS a.f2&&decide ((a.f3.length:Int)=0))):=rfl; rw[e]at D; simp only[z7,z22]at D; have:=D.2.2; cases m:a.f3 with
      | nil=>rfl
      | cons x r=>rw[m]at this; simp only[z27]at this; omega
     rw[z15 E]; rw[z15 E]at A; simp only[z18]at A; rw[A]; have C:gP a.f3=[]:=by rw[L]; rfl
     cases hu:decide (a.f2=[95])with
     | true=>
      simp only[z46,z18,z10,z16]; obtain⟨x,x1,s⟩:=o a.f3 (by omega) (cA n (bQ n) (11 - ((d+1:Nat):Int)) a.f3) (fun i b t k=>by
       have N:=iD k; simp only[cA,fU k,z18,fF,k,z10,H,bX (show i<4611686018427387904 by omega)]) (fun t=>by simp only[cA,bI,z16]) (c+1,g) (by show 0≤c+1; omega) (by show c+1≤300; omega) (by show(g.length:Int)≤c+1; omega)
      have f:=p (c+1,g) x rfl s; rw[C]at f; rw[x1]; obtain⟨r,f1,f2⟩:=f; exact⟨r,by rcases x with⟨u,v,w⟩ | ⟨u,v,w,z⟩<;>exact f1,f2⟩
     | false=>
      simp only[Of,z18,z10]; rw[Fq n g a.f2 (by omega) (by omega)]
      simp only[z10]; cases K:decide (a.f2∈g)with
      | true=>
       have U:fr g [a.f2]=false:=by simp only[fr,K]; rfl
       have V:(a.f3.all (xok d true)&&(decide (c+(q:Int)≤300)&&fr g [a.f2]))=false:=by rw[U]; cases a.f3.all (xok d true)<;>simp
       rw[z16,V]; exact⟨_,rfl,rfl,fun h=>by cases h⟩
      | false=>
       have I:kG 16 g [a.f2]=some (g++[a.f2]):=uE (by simp only[z26]; omega) (by simp only[z26,maxLen]; omega)
       rw[I]; simp only[z16,z10]; obtain⟨x,x1,s⟩:=o a.f3 (by omega) (dY n (bQ n) (11 - ((d+1:Nat):Int)) a.f3) (fun i b t k=>by
        have N:=iD k; simp only[dY,fU k,z18,fF,k,z10,H,bX (show i<4611686018427387904 by omega)]) (fun t=>by simp only[dY,bI,z16]) (c+1,g++[a.f2]) (by show 0≤c+1; omega) (by show c+1≤300; omega) (by show((g++[a.f2]).length:Int)≤c+1; rw[z21,z26]; omega)
       have f:=p (c+1,g++[a.f2]) x rfl s; rw[C,z78]at f; have T:fr g [a.f2]=fr (g++[a.f2]) []:=by simp only[fr,K]; rfl
       rw[T,x1]; obtain⟨r,f1,f2⟩:=f; exact⟨r,by rcases x with⟨u,v,w⟩ | ⟨u,v,w,z⟩<;>exact f1,f2⟩
    ·rw[z9 E]at A ⊢
     simp only[z16]at A; rw[A]; simp only[z16,z10]; obtain⟨x,x1,s⟩:=o a.f3 (by omega) (cA n (bQ n) (11 - ((d+1:Nat):Int)) a.f3) (fun i b t k=>by
      have N:=iD k; simp only[cA,fU k,z18,fF,k,z10,H,bX (show i<4611686018427387904 by omega)]) (fun t=>by simp only[cA,bI,z16]) (c+1,g) (by show 0≤c+1; omega) (by show c+1≤300; omega) (by show(g.length:Int)≤c+1; omega)
     have f:=p (c+1,g) x rfl s; rw[x1]; obtain⟨r,f1,f2⟩:=f; exact⟨r,by rcases x with⟨u,v,w⟩ | ⟨u,v,w,z⟩<;>exact f1,f2⟩
mutual
def nmx:aA→List (List UInt8)→List (List UInt8)
 | .mk _ _ _ l c,a=>nmc c (OD l a)
def OD:List aA→List (List UInt8)→List (List UInt8)
 | [],a=>a
 | x::r,a=>OD r (nmx x a)
def nmc:List aB→List (List UInt8)→List (List UInt8)
 | [],a=>a
 | x::r,a=>nmc r (nmk x a)
def nmk:aB→List (List UInt8)→List (List UInt8)
 | .two p x,_=>nmx x (jL p)
end
theorem nmx_e(a:aA)(b:List (List UInt8)):nmx a b=nmc a.f4 (OD a.f3 b):=by cases a; simp only[nmx]; rfl
theorem nmk_e(a:aB)(b:List (List UInt8)):nmk a b=nmx a.x (jL a.p):=by cases a; simp only[nmk]; rfl
def jst{α:Type}(d:α→Bool)(c:α→Nat)(b:α→List (List UInt8)→List (List UInt8))(t:JS)(a:α):JS⊕Unit:=bif d a&&decide (t.1+c a≤300)then .inl (t.1+c a,b a t.2)else .inr ()
def yK{α:Type}(c:α→List (List UInt8)→List (List UInt8)):List α→List (List UInt8)→List (List UInt8)
 | [],b=>b
 | a::r,b=>yK c r (c a b)
theorem Do: ∀(l:List aA) (a:List (List UInt8)),OD l a=yK nmx l a
 | [],a=>rfl
 | x::r,a=>by simp only[OD,yK,Do r]
theorem GV: ∀(l:List aB) (a:List (List UInt8)),nmc l a=yK nmk l a
 | [],a=>rfl
 | x::r,a=>by simp only[nmc,yK,GV r]
theorem Gg{α:Type}(b:α→Bool)(c:α→Nat)(d:α→List (List UInt8)→List (List UInt8)): ∀(l:List α) (t:JS),t.1≤300→sW (jst b c d) l t=bif l.all b&&decide (t.1+nO c l≤300)then .inl (t.1+nO c l,yK d l t.2)else .inr ()
 | [],t,h=>by
  have e:decide (t.1+((nO c []:Nat):Int)≤300)=true:=z15 (by simp only[nO]; omega)
  rw[e]; simp [sW,nO,yK]
 | a::r,t,h=>by
  simp only[sW]; have g:nO c (a::r)=c a+nO c r:=rfl; rw[g,Jp]; by_cases q:(b a&&decide (t.1+c a≤300))=true
  ·have f:jst b c d t a= .inl (t.1+c a,d a t.2):=by unfold jst; rw[q]; rfl
   simp only[z7,z22]at q; rw[f,q.1,z39]; simp only; rw[Gg b c d r _ q.2]; simp only; rw[show t.1+((c a+nO c r:Nat):Int)=t.1+c a+nO c r by omega]
   rfl
  ·have f:jst b c d t a= .inr ():=by unfold jst; rw[z82]at q; rw[q]; rfl
   rw[f]; simp only; cases h1:b a with
   | false=>rfl
   | true=>
    rw[h1,z39,z22]at q; rw[z9 (show ¬ t.1+((c a+nO c r:Nat):Int)≤300 by omega)]
    cases r.all b<;>rfl
theorem BX{α:Type}{body:Int×Int×List (List UInt8)→Option ((Int×Int×List (List UInt8))⊕((Bool×Int×List (List UInt8))⊕(Int×Bool×Int×List (List UInt8))))}(l:List α)(b:α→Bool)(c:α→Nat)(d:α→List (List UInt8)→List (List UInt8))
  (m: ∀(i:Nat) a (t:JS),l[i]? =some a→0≤t.1→t.1≤300→ ∃u v,body ((i:Int),t.1,t.2)=some (bif b a&&decide (t.1+c a≤300)then .inl (((i+1:Nat):Int),t.1+c a,d a t.2)else .inr (.inl (false,u,v))))(k: ∀t:JS,body ((l.length:Int),t.1,t.2)=some (.inr (.inr ((l.length:Int),false,t.1,t.2)))){n:Nat}(hn:l.length<n)
  (t0:JS)(g0:0≤t0.1)(e:t0.1≤300): ∃x,loopN body n ((0:Int),t0.1,t0.2)=some x∧(bif l.all b&&decide (t0.1+nO c l≤300)then x= .inr ((l.length:Int),false,t0.1+nO c l,yK d l t0.2)else ∃u v,x= .inl (false,u,v)):=by
 obtain⟨x,x1,g⟩:=BW (body:=body) l (jst b c d) (fun t i=>((i:Int),t.1,t.2)) (fun t=> .inr ((l.length:Int),false,t.1,t.2)) (fun _ x=> ∃u v,x= .inl (false,u,v)) (fun t=>0≤t.1∧t.1≤300) (fun i a t j f=>by
  obtain⟨u,v,h⟩:=m i a t j f.1 f.2; unfold jst; by_cases z:(b a&&decide (t.1+c a≤300))=true
  ·rw[z]at h ⊢
   simp only[z7,z22]at z; left; exact⟨_,rfl,⟨by show 0≤t.1+(c a:Int); omega,z.2⟩,h⟩
  ·rw[z82]at z
   rw[z]at h ⊢; right; exact⟨(),_,rfl,h,_,_,rfl⟩) (fun t _=>k t) hn (t0:=t0) ⟨g0,e⟩
 refine⟨x,x1, ?_⟩
 rw[Gg b c d l t0 e]at g; revert g
 cases (l.all b&&decide (t0.1+nO c l≤300))<;>exact id
theorem tP: ∀(n:Nat),n≤1099511627776→ ∀(a:aA) (d:Nat) (c:Int) (g:List (List UInt8)),d≤10→0≤c→c≤300→aN a+400<n→ ∃r,aZ n a.f0 a.f1 a.f2 a.f3 a.f4 (11 - (d:Int)) c g=some r∧pJ (xok d false a&&decide (c+eZ a≤300)) (c+eZ a) (nmx a g) r
 | 0,_,a,d,c,g,X,S,T,h=>by omega
 | n+1,hn,a,d,c,g,X,S,T,h=>by
  have J:=tP n (by omega)
  rw[pB]; unfold fA; rw[oZ,iF,fH]at h; have Z:=eF aN a.f3; have C:=eF bM a.f4; have w:=FI a; rw[BQ n _ _ _ _ (by omega) (by omega),wrap_i64 (n:=c+1) (by omega) (by omega)]
  cases d with
  | zero=>
   rw[z15 (show(10:Int)<11 - ((0:Nat):Int)by omega)]
   exact⟨_,rfl,rfl,fun h=>by cases h⟩
  | succ d=>
   rw[z9 (show ¬ (10:Int)<11 - ((d+1:Nat):Int)by omega),sN]
   by_cases I:300<c+1
   ·rw[z15 I,z9 (show ¬ c+(eZ a:Int)≤300 by omega),z71]
    exact⟨_,rfl,rfl,fun h=>by cases h⟩
   rw[z9 I]; have e:=Kg a.f0 a.f1 a.f2 a.f3.length a.f4.length; cases hs:shp false a.f0 a.f1 a.f2 a.f3.length a.f4.length with
   | false=>
    rw[hs]at e; refine⟨(false,c+1,g), ?_,rfl,fun h=>by cases h⟩
    generalize decide (a.f2=[95])=z1 at e ⊢; generalize decide ((6:Int)<a.f4.length)=z2 at e ⊢; revert e
    cases vQ a.f0 a.f1 a.f2 a.f3.length<;>cases decide (a.f0=3)<;>cases decide (a.f0=9)<;>cases decide ((0:Int)<a.f4.length)<;>cases z1<;>cases z2<;>intro e<;>first | rfl | cases e
   | true=>
    rw[hs]at e; simp only[z7]at e; obtain⟨p1,K,L,M⟩:=e; simp only[Bool.not_not]at L; have D:(bif decide (a.f0=3)then some (decide (a.f2=[95]))else some false)=some false:=by
     generalize decide (a.f2=[95])=z1 at K ⊢; revert K
     cases decide (a.f0=3)<;>cases z1<;>simp
    rw[z37]at M; rw[p1,L,M]; simp only[z16,z10,z46,z39,D]; rw[nmx_e,GV,Do]; rw[yN,zF]at w; generalize eZ a=q at w ⊢; generalize a.f3=l at h Z w ⊢; generalize a.f4=o at h C w ⊢; have H:IntKind.wrap .i64 (11 - ((d+1:Nat):Int)+1)=11 - (d:Int):=by rw[wrap_i64 (by omega) (by omega)]; omega
    obtain⟨x,x1,m⟩:=BX (body:=cW n (aZ n) (11 - ((d+1:Nat):Int)) l) l (xok d false) eZ nmx (fun i b t f t0 F=>by
     have Y:=iD f; have hm:=jK aN (z35 f); obtain⟨⟨N,z,A⟩,r1,r2,j⟩:=J b d t.1 t.2 (by omega) t0 F (by omega)
     simp only at r2 j; refine⟨z,A, ?_⟩
     simp only[cW,fU f,z18,fF,f,z10,H,r1,bX (show i<4611686018427387904 by omega)]
     rw[r2]; revert j
     cases (xok d false b&&decide (t.1+eZ b≤300))with
     | true=>
      intro j; have s:=j rfl; simp only[z43]at s; obtain⟨rfl,rfl⟩:=s; rfl
     | false=>intro _; rfl) (fun t=>by simp only[cW,bI,z16]) (n:=n) (by omega) (c+1,g) (by show 0≤c+1; omega) (by show c+1≤300; omega)
    have x1:loopN (cW n (aZ n) (11 - ((d+1:Nat):Int)) l) n ((0:Int),c+1,g)=some x:=x1; simp only[x1,z10]; simp only at m; cases hz:(l.all (xok d false)&&decide (c+1+(nO eZ l:Int)≤300))with
    | false=>
     rw[hz]at m; simp only[z16]at m; obtain⟨u,v,rfl⟩:=m; have U:(l.all (xok d false)&&o.all (cok d)&&decide (c+(q:Int)≤300))=false:=by
      cases h1:l.all (xok d false)with
      | false=>rfl
      | true=>
       rw[h1,z39,z36]at hz; rw[z9 (show ¬ c+(q:Int)≤300 by omega),z71]
     rw[U]; exact⟨_,rfl,rfl,fun h=>by cases h⟩
    | true=>
     rw[hz]at m; simp only[z18]at m; subst m; simp only[z7,z22]at hz; rw[hz.1,z39]; simp only; obtain⟨y,G,k⟩:=BX (body:=cV n (aZ n) (11 - ((d+1:Nat):Int)) o) o (cok d) Ck nmk (fun i b t f t0 F=>by
      have Y:=iD f; have hm:=jK bM (z35 f); have hw:=iG b; have W:=Lw b; obtain⟨⟨N,z,A⟩,r1,r2,j⟩:=wI n (by omega) b.p d t.1 [] (by omega) t0 F (by simpa using t0) (by omega)
      have r1:bQ n b.f0 b.f1 b.f2 b.f3 b.f4 (11 - (d:Int)) t.1 []=some (N,z,A):=r1; simp only at r2 j; simp only[cV,fU f,z18,fF,f,z10,H,r1,bX (show i<4611686018427387904 by omega)]
      rw[Pk]at r2 j; rw[r2]; unfold cok; rw[nmk_e]; cases h1:(xok d true b.p&&(decide (t.1+eZ b.p≤300)&&Ej (jL b.p)))with
      | false=>
       refine⟨z,A, ?_⟩
       have V:(Ej (jL b.p)&&(xok d true b.p&&xok d false b.x)&&decide (t.1+Ck b≤300))=false:=by
        cases h2:xok d true b.p with
        | false=>cases Ej (jL b.p)<;>rfl
        | true=>
         cases h3:Ej (jL b.p)with
         | false=>rfl
         | true=>
          rw[h2,h3,z39,MA,z36]at h1; rw[z9 (show ¬ t.1+(Ck b:Int)≤300 by omega),z71]
       rw[V]; rfl
      | true=>
       rw[h1]at j; have s:=j rfl; simp only[z43,z77]at s; obtain⟨rfl,rfl⟩:=s; simp only[z7,z22]at h1; rw[h1.1,h1.2.2,z39,z39]; obtain⟨⟨sb,Q,R⟩,E,O,B⟩:=J b.x d (t.1+eZ b.p) (jL b.p) (by omega) (by omega) h1.2.1 (by omega)
       have E:aZ n b.f5 b.f6 b.f7 b.f8 b.f9 (11 - (d:Int)) (t.1+eZ b.p) (jL b.p)=some (sb,Q,R):=E; simp only at O B; simp only[z46,z16,E,z10]; rw[O]; rw[show t.1+(Ck b:Int)=t.1+eZ b.p+eZ b.x by omega]
       refine⟨Q,R, ?_⟩
       revert B
       cases (xok d false b.x&&decide (t.1+(eZ b.p:Int)+eZ b.x≤300))with
       | true=>
        intro B; have P:=B rfl; simp only[z43]at P; obtain⟨rfl,rfl⟩:=P; rfl
       | false=>intro _; rfl) (fun t=>by simp only[cV,bI,z16]) (n:=n) (by omega) (c+1+(nO eZ l:Int),yK nmx l g) (by show 0≤c+1+(nO eZ l:Int); omega) hz.2
     have G:loopN (cV n (aZ n) (11 - ((d+1:Nat):Int)) o) n ((0:Int),c+1+(nO eZ l:Int),yK nmx l g)=some y:=G; rw[G]; simp only at k; rw[show c+1+(nO eZ l:Int)+(nO Ck o:Int)=c+q by omega]at k
     cases hz2:(o.all (cok d)&&decide (c+(q:Int)≤300))with
     | true=>
      rw[hz2]at k; simp only[z18]at k; subst k; exact⟨_,rfl,rfl,fun _=>rfl⟩
     | false=>
      rw[hz2]at k; simp only[z16]at k; obtain⟨u,v,rfl⟩:=k; exact⟨_,rfl,rfl,fun h=>by cases h⟩
theorem rH(n:Nat)(hn:n≤1099511627776)(a:aA)(h:aN a<n):dG n a.f0 a.f1 a.f2 a.f3 a.f4=some (mZ a):=by
 unfold dG mZ; have h1:=CB n hn a false 10 300 (by omega) (by omega) (by omega) h
 have h1:bW n a.f0 a.f1 a.f2 a.f3 a.f4 false (10:Int) 300=_:=h1; rw[h1]; unfold tk; simp only[z10,z8]; cases q:(xok 10 false a&&decide ((eZ a:Int)≤300))with
 | true=>
  simp only[z7,z22]at q; rw[z18]; exact z15 (by omega)
 | false=>rfl
theorem Aq(n:Nat)(hn:n≤1099511627776)(a:aA)(h:aN a+400<n):jU n a.f0 a.f1 a.f2 a.f3 a.f4=some (mZ a):=by
 unfold jU mZ; obtain⟨r,r1,r2,b⟩:=tP n hn a 10 0 [] (by omega) (by omega) (by omega) h
 have r1:aZ n a.f0 a.f1 a.f2 a.f3 a.f4 (1:Int) 0 []=some r:=r1; rw[r1]; simp only[z10,z8]; rw[r2,Int.zero_add]
def Gt{α:Type}(o:Option α)(Q:α→Prop):Prop:= ∃r,o=some r∧Q r
theorem Gt.pure{α:Type}{a:α}{Q:α→Prop}(h:Q a):Gt (some a) Q:=⟨a,rfl,h⟩
theorem Gt.bind{α β:Type}{o:Option α}{f:α→Option β}{P:α→Prop}{Q:β→Prop}(h:Gt o P)(c: ∀r,P r→Gt (f r) Q):Gt (o.bind f) Q:=by
 obtain⟨r,rfl,a⟩:=h; exact c r a
theorem Gt.cond{α:Type}{b:Bool}{x y:Option α}{Q:α→Prop}(h1:b=true→Gt x Q)(h0:b=false→Gt y Q):Gt (bif b then x else y) Q:=by
 cases b with
 | true=>exact h1 rfl
 | false=>exact h0 rfl
theorem Gt.of{α:Type}{o:Option α}{r:α}{Q:α→Prop}(e:o=some r)(h:Q r):Gt o Q:=⟨r,e,h⟩
def Rnd{σ ρ:Type}(I:Nat→σ→Prop)(Q:ρ→Prop)(m:Nat):σ⊕ρ→Prop
 | .inl s=> ∃a,m=a+1∧I a s
 | .inr r=>Q r
theorem Gt.loop{σ ρ:Type}{body:σ→Option (σ⊕ρ)}(I:Nat→σ→Prop)(Q:ρ→Prop)(a: ∀m s,I m s→Gt (body s) (Rnd I Q m)): ∀ {n m:Nat} {s:σ},I m s→m<n→Gt (loopN body n s) Q
 | 0,m,s,h,hn=>by omega
 | n+1,m,s,h,hn=>by
  obtain⟨x,e,c⟩:=a m s h; unfold loopN; rw[e]; cases x with
  | inl s'=>
   obtain⟨f,rfl,d⟩:=c; exact Gt.loop I Q a d (by omega)
  | inr r=>exact⟨r,rfl,c⟩
theorem ML{p:Prop} [Decidable p](h:decide p=true):p:=of_decide_eq_true h
theorem MM{p:Prop} [Decidable p](h:decide p=false): ¬ p:=of_decide_eq_false h
structure Cur (b:List Int) (i:Int):Prop where
 len:b.length≤1048576
 at0:0≤i
theorem qP{α:Type}{k:Nat}{a b:List α}(h:a.length+b.length≤1048576000)(c:k≤255):Gt (kG k a b) (fun r=>r=a++b):=by
 refine Gt.of (uE ?_ (by simp only[maxLen]; omega)) rfl
 have:(a.length+b.length)*k≤1048576000*255:=Nat.mul_le_mul h c; omega
theorem MI{α:Type}{l:List α}{i:Int}(h0:0≤i)(h:i<l.length):Gt (ix l i) (fun a=>a∈l):=by
 obtain⟨k,rfl⟩: ∃k:Nat,i=k:=⟨i.toNat,by omega⟩
 rw[fF]; exact⟨_,z13 (by omega),z93 _⟩
theorem Ir(x:Int):0≤bits .and .i64 x 255∧bits .and .i64 x 255≤255:=Fs x 255 (by decide)
theorem wY{n:Nat}{b:List Int}{i h:Int}(c:Cur b i):Gt (eI n b i h) (fun r=>(0≤r.1∧r.1≤255)∧Cur r.2.1 r.2.2.1):=by
 have h1:=c.len; have d:=c.at0; unfold eI; refine Gt.cond (fun e=> ?_) (fun e=> ?_)
 ·have:=ML e
  refine Gt.bind (MI d this) fun a _=>Gt.pure ⟨Ir _,c.len, ?_⟩
  show 0≤IntKind.wrap .i64 (i+1); rw[wrap_i64 (by omega) (by omega)]; omega
 ·exact Gt.pure ⟨Ir _,c⟩
theorem ck_o{b:Bool}(h:b=true):Gt (ck b) (fun _=>True):=by subst h; exact⟨_,rfl,trivial⟩
theorem dR{n:Nat}{t:Int}{b:List Int}{i h:Int}(d:Cur b i)(j:0<t):Gt (aG n t b i h) (fun r=>(t≤256→0≤r.1∧r.1<t)∧Cur r.2.1 r.2.2.1):=by
 unfold aG; have c:(!decide (t=0))=true:=by rw[z9 (by omega)]; rfl
 refine Gt.cond (fun e=> ?_) (fun _=>Gt.cond (fun e=> ?_) (fun e=> ?_))
 ·have:=ML e; omega
 ·refine Gt.bind (wY d) fun r ⟨h1,a⟩=>Gt.bind (ck_o c) fun _ _=>Gt.pure ⟨fun _=>⟨Int.tmod_nonneg _ h1.1,Int.tmod_lt_of_pos _ j⟩,a⟩
 ·have hn:=MM e
  refine Gt.bind (wY d) fun r ⟨h1,a⟩=>Gt.bind (wY a) fun r2 ⟨_,f⟩=>Gt.bind (wY f) fun k ⟨_,g⟩=>Gt.bind (ck_o c) fun _ _=>Gt.pure ⟨fun h=>absurd h hn,g⟩
theorem Ge{n:Nat}{t:Int}{b:List Int}{i h:Int}(c:Cur b i)(d:0<t):Gt (fN n t b i h) (fun r=>Cur r.2.1 r.2.2.1):=by
 unfold fN; exact Gt.bind (dR c d) fun r ⟨_,a⟩=>Gt.pure a
theorem Bw{n:Nat}{l:List Int}{b:List Int}{i h:Int}(j:Cur b i)(h0:0<l.length)(h1:l.length≤256):Gt (dI n l b i h) (fun r=>r.1∈l∧Cur r.2.1 r.2.2.1):=by
 unfold dI; refine Gt.bind (dR j (by omega)) fun r ⟨c,d⟩=> ?_
 obtain⟨e,f⟩:=c (by omega)
 exact Gt.bind (MI e f) fun a g=>Gt.pure ⟨g,d⟩
theorem uB{n K:Nat}{l:List (List UInt8)}{b:List Int}{i h:Int}(k:Cur b i)(h0:0<l.length)(h1:l.length≤256)(g: ∀s∈l,s.length≤K):Gt (aU n l b i h) (fun r=>r.1.length≤K∧Cur r.2.1 r.2.2.1):=by
 unfold aU; refine Gt.bind (dR k (by omega)) fun r ⟨c,d⟩=> ?_
 obtain⟨e,f⟩:=c (by omega)
 exact Gt.bind (MI e f) fun a j=>Gt.pure ⟨g a j,d⟩
theorem NQ{n:Nat}(hn:4001<n)(code:List Int)(g:code.length≤1048576):Gt (kR n code) (fun r=>Cur r.1 r.2.1):=by
 unfold kR; refine Gt.bind (P:=fun _=>True) (Gt.loop (fun(m:Nat) (s:Int×Int)=>0≤s.2∧s.2+m=4001) (fun _=>True) (fun m s h=> ?_) (m:=4001) (by simp) (by omega)) fun r _=>Gt.pure ⟨g,Nt _⟩
 obtain⟨a,i⟩:=s; obtain⟨h1,f⟩:=h; unfold mC; simp only at h1 f ⊢; by_cases c:i<code.length
 ·by_cases d:i<4000
  ·rw[z15 c,z15 d]
   simp only[z18,z10]; refine Gt.bind (MI h1 c) fun e _=>Gt.pure ⟨m - 1,by omega, ?_⟩
   simp only; rw[wrap_i64 (n:=i+1) (by omega) (by omega)]
   omega
  ·rw[z15 c,z9 d]
   simp only[z18,z16,z10]; exact Gt.pure trivial
 ·rw[z9 c]
  simp only[z16,z10]; exact Gt.pure trivial
theorem Ij{α:Type}(w:α→Nat): ∀(a b:List α),dl w (a++b)+1=dl w a+dl w b
 | [],b=>by simp only[z77,dl]; omega
 | x::r,b=>by have:=Ij w r b; simp only[z62,dl]; omega
theorem lI{α:Type}(w:α→Nat)(l:List α)(a:α):dl w (l++[a])=dl w l+1+w a:=by
 have:=Ij w l [a]; simp only[dl]at this; omega
theorem tR(k m:Int)(s:List UInt8)(l:List aA)(c:List aB):aN (.mk k m s l c)=3+s.length+dl aN l+dl bM c:=by rw[oZ,iF,fH]; rfl
def Nm(K:Nat)(l:List (List UInt8)):Prop:=l.length≤K∧ ∀s∈l,s.length≤5
theorem Nm.up{K K':Nat}{l:List (List UInt8)}(h:Nm K l)(a:K≤K'):Nm K' l:=⟨z81 h.1 a,h.2⟩
theorem Nm.app{K K':Nat}{l l':List (List UInt8)}(h:Nm K l)(a:Nm K' l'):Nm (K+K') (l++l'):=⟨by rw[z21]; exact Nat.add_le_add h.1 a.1,fun s b=>(MF.1 b).elim (h.2 s) (a.2 s)⟩
def kX:Nat→Nat
 | 0=>7
 | d+1=>7+2*kX d
def kY:Nat→Nat
 | 0=>1
 | d+1=>2*kY d
theorem kX_7: ∀d,7≤kX d
 | 0=>z63 _
 | d+1=>by simp only[kX]; omega
theorem Oz: ∀d,1≤kY d
 | 0=>z63 _
 | d+1=>by have:=Oz d; simp only[kY]; omega
def DP(B K:Nat)(r:Int×Int×List UInt8×List aA×List aB×List Int×Int×Int×List (List UInt8)):Prop:=aN (.mk r.1 r.2.1 r.2.2.1 r.2.2.2.1 r.2.2.2.2.1)≤B∧Cur r.2.2.2.2.2.1 r.2.2.2.2.2.2.1∧Nm K r.2.2.2.2.2.2.2.2
theorem DP.mk{B K:Nat}{k m:Int}{s:List UInt8}{l:List aA}{c:List aB}{b:List Int}{i h:Int}{a:List (List UInt8)}(e:3+s.length+dl aN l+dl bM c≤B)(d:Cur b i)(hn:Nm K a):DP B K (k,m,s,l,c,b,i,h,a):=⟨by rw[tR]; exact e,d,hn⟩
def DPS(X Y K m:Nat)(x:Int×Int×List UInt8×List aA×List aB×List Int×Int×Int×List (List UInt8)):Prop:=x.2.2.1=[]∧x.2.2.2.2.1=[]∧dl aN x.2.2.2.1+m*(1+X)≤1+2*(1+X)∧Cur x.2.2.2.2.2.1 x.2.2.2.2.2.2.1∧x.2.2.2.2.2.2.2.2.length+m*Y≤K+2*Y∧ ∀s∈x.2.2.2.2.2.2.2.2,s.length≤5
theorem Ky(n d K:Nat)(M:d≤2)(I:K+10*d≤1000)(E:d≠0→ ∀ {K':Nat} {b:List Int} {i h:Int} {p:List (List UInt8)},K'+10*(d - 1)≤1000→Cur b i→Nm K' p→Gt (cS n ((d - 1:Nat):Int) b i h p) (DP (kX d) (K'+kY d)))(m:Nat)(s:Int×Int×Int×List UInt8×List aA×List aB×List Int×Int×Int×List (List UInt8))(D:s.1+m=(2:Int)∧0≤s.1∧DPS (kX d) (kY d) K m s.2):Gt (jZ n (cS n) (d:Int) s) (Rnd (fun m s=>s.1+m=(2:Int)∧0≤s.1∧DPS (kX d) (kY d) K m s.2) (fun r=>DPS (kX d) (kY d) K 0 r.2.2) m):=by
 obtain⟨v,w0,O,Q,k,R,S,T,U,w⟩:=s; obtain⟨F,G,t,u,g,c,j,f⟩:=D; simp only at F G t u g c j f; subst t; subst u; have J:kX d≤49:=by
  have:d=0∨d=1∨d=2:=by omega
  rcases this with e | e | e<;>rw[e]<;>simp [kX]
 have L:1≤kY d:=Oz _; have z:kY d≤4:=by
  have:d=0∨d=1∨d=2:=by omega
  rcases this with e | e | e<;>rw[e]<;>simp [kY]
 have N:=eF aN k; unfold jZ; simp only; by_cases l:v<(2:Int)
 ·rw[z15 l,z18]
  obtain⟨a,rfl⟩: ∃a,m=a+1:=⟨m - 1,by omega⟩
  rw[z90]at g j; have A:a*(1+kX d)≥0:=Jn _; have B:a*kY d≥0:=Jn _; refine Gt.bind (P:=DPS (kX d) (kY d) K a) (Gt.cond (fun e=> ?_) (fun e=> ?_)) fun r C=> ?_
  ·have:=ML e
   have x:IntKind.wrap .i64 ((d:Int) - 1)=((d - 1:Nat):Int):=by rw[wrap_i64 (by omega) (by omega)]; omega
   rw[x]; refine Gt.bind (E (by omega) (K':=w.length) (by omega) c ⟨z63 _,f⟩) fun r ⟨H,y,o⟩=>Gt.bind (qP (by simp only[z26]; omega) (by omega)) fun q e=>Gt.pure ⟨rfl,rfl, ?_,y, ?_,o.2⟩
   ·subst e
    show dl aN (k++[_])+a*(1+kX d)≤_; rw[lI]; omega
   ·exact z81 (Nat.add_le_add_right o.1 _) (by omega)
  ·refine Gt.bind (qP (by simp only[z26]; omega) (by omega)) fun q e=>Gt.pure ⟨rfl,rfl, ?_,c, ?_,f⟩
   ·subst e
    have:=kX_7 d; show dl aN (k++[_])+a*(1+kX d)≤_; rw[lI,tR]; simp only[dl,z26]; omega
   ·show w.length+a*kY d≤_
    omega
  ·obtain⟨x0,x1,V,W,X,Y,Z,x7,x8⟩:=r
   rw[wrap_i64 (n:=v+1) (by omega) (by omega)]
   refine Gt.pure ⟨a,rfl, ?_, ?_,C⟩
   ·show v+1+(a:Int)=(2:Int)
    omega
   ·show 0≤v+1
    omega
 ·rw[z9 l,z16]
  have:m=0:=by omega
  subst this; exact Gt.pure ⟨rfl,rfl,g,c,j,f⟩
theorem Kx(n d K:Nat)(O:d≤2)(L:K+10*d≤1000)(c:Int×List Int×Int×Int)(B:c.1≤2)(G:d≠0→ ∀ {K':Nat} {b:List Int} {i h:Int} {t:List (List UInt8)},K'+10*(d - 1)≤1000→Cur b i→Nm K' t→Gt (cS n ((d - 1:Nat):Int) b i h t) (DP (kX d) (K'+kY d)))(m:Nat)(s:Int×Int×Int×List UInt8×List aA×List aB×List Int×Int×Int×List (List UInt8))(F:s.1+m=c.1∧0≤s.1∧DPS (kX d) (kY d) K m s.2):Gt (jY n (cS n) (d:Int) c s) (Rnd (fun m s=>s.1+m=c.1∧0≤s.1∧DPS (kX d) (kY d) K m s.2) (fun r=>DPS (kX d) (kY d) K 0 r.2.2) m):=by
 obtain⟨v,w0,R,S,l,T,U,V,W,x⟩:=s; obtain⟨H,I,u,w,j,f,k,g⟩:=F; simp only at H I u w j f k g; subst u; subst w; have M:kX d≤49:=by
  have:d=0∨d=1∨d=2:=by omega
  rcases this with e | e | e<;>rw[e]<;>simp [kX]
 have N:1≤kY d:=Oz _; have A:kY d≤4:=by
  have:d=0∨d=1∨d=2:=by omega
  rcases this with e | e | e<;>rw[e]<;>simp [kY]
 have Q:=eF aN l; unfold jY; simp only; by_cases o:v<c.1
 ·rw[z15 o,z18]
  obtain⟨a,rfl⟩: ∃a,m=a+1:=⟨m - 1,by omega⟩
  rw[z90]at j k; have C:a*(1+kX d)≥0:=Jn _; have D:a*kY d≥0:=Jn _; refine Gt.bind (P:=DPS (kX d) (kY d) K a) (Gt.cond (fun e=> ?_) (fun e=> ?_)) fun r E=> ?_
  ·have:=ML e
   have y:IntKind.wrap .i64 ((d:Int) - 1)=((d - 1:Nat):Int):=by rw[wrap_i64 (by omega) (by omega)]; omega
   rw[y]; refine Gt.bind (G (by omega) (K':=x.length) (by omega) f ⟨z63 _,g⟩) fun r ⟨J,z,p⟩=>Gt.bind (qP (by simp only[z26]; omega) (by omega)) fun q e=>Gt.pure ⟨rfl,rfl, ?_,z, ?_,p.2⟩
   ·subst e
    show dl aN (l++[_])+a*(1+kX d)≤_; rw[lI]; omega
   ·exact z81 (Nat.add_le_add_right p.1 _) (by omega)
  ·refine Gt.bind (qP (by simp only[z26]; omega) (by omega)) fun q e=>Gt.pure ⟨rfl,rfl, ?_,f, ?_,g⟩
   ·subst e
    have:=kX_7 d; show dl aN (l++[_])+a*(1+kX d)≤_; rw[lI,tR]; simp only[dl,z26]; omega
   ·show x.length+a*kY d≤_
    omega
  ·obtain⟨x0,x1,X,Y,Z,x5,x6,x7,x8⟩:=r
   rw[wrap_i64 (n:=v+1) (by omega) (by omega)]
   refine Gt.pure ⟨a,rfl, ?_, ?_,E⟩
   ·show v+1+(a:Int)=c.1
    omega
   ·show 0≤v+1
    omega
 ·rw[z9 o,z16]
  have:m=0:=by omega
  subst this; exact Gt.pure ⟨rfl,rfl,j,f,k,g⟩
theorem Ic: ∀(d n:Nat),d≤2→d+2000<n→n≤1099511627776→ ∀ {K:Nat} {b:List Int} {i h:Int} {l:List (List UInt8)},K+10*d≤1000→Cur b i→Nm K l→Gt (cS n (d:Int) b i h l) (DP (kX (d+1)) (K+kY (d+1)))
 | d,0,_,hn,_=>by omega
 | d,n+1,N,hn,Y=>fun M D H=>by
  rename_i K b i h l; rw[vS]; unfold kP; have hX:=kX_7 d; have hY:=Oz d; have eX:kX (d+1)=7+2*kX d:=rfl; have eY:kY (d+1)=2*kY d:=rfl; have p: ∀ {k m:Int} {s:List UInt8} {b:List Int} {i h:Int} {l:List (List UInt8)},s.length≤5→Cur b i→Nm (K+1) l→DP (kX (d+1)) (K+kY (d+1)) (k,m,s,[],[],b,i,h,l):=fun B D hn=>DP.mk (by simp only[dl]; omega) D (hn.up (by omega))
  have u:Nm (K+1) l:=H.up (by omega)
  have X:=H.1; have jL: ∀ {b:List Int} {i h:Int},Cur b i→Gt ((aU n ([([65]:List UInt8),([66]:List UInt8),([67]:List UInt8),([68]:List UInt8),([72]:List UInt8),([84]:List UInt8)]:List (List UInt8)) b i h).bind fun a=>(eG n l a.1).bind fun t=>bif t then some ((3:Int),(0:Int),([95]:List UInt8),([]:List aA),([]:List aB),a.2.1,a.2.2.1,a.2.2.2,l)else(kG 16 l ([a.1]:List (List UInt8))).bind fun v=>some ((3:Int),(0:Int),a.1,([]:List aA),([]:List aB),a.2.1,a.2.2.1,a.2.2.2,v)) (DP (kX (d+1)) (K+kY (d+1))):=fun D=>by
   refine Gt.bind (uB (K:=5) D (by simp) (by simp) (by decide)) fun r ⟨h1,o⟩=> ?_
   rw[Ga n l r.1 (by omega) (by omega),z10]
   refine Gt.cond (fun _=>Gt.pure (p (by simp) o u)) fun _=>Gt.bind (qP (by simp only[z26]; omega) (by omega)) fun q e=>Gt.pure (p h1 o ?_)
   subst e; exact H.app ⟨z63 _,fun s B=>by rw[z68.1 B]; exact h1⟩
  refine Gt.bind (dR D (by omega)) fun r ⟨_,o⟩=> ?_
  refine Gt.cond (fun _=> ?_) fun _=>Gt.cond (fun _=> ?_) fun _=>Gt.cond (fun _=>Gt.pure (p (by simp) o u)) fun _=>Gt.cond (fun _=>jL o) fun _=>Gt.cond (fun _=>jL o) fun _=>Gt.cond (fun _=>jL o) fun _=> ?_
  ·exact Gt.bind (dR o (by omega)) fun r ⟨_,o⟩=>Gt.pure (p (by simp) o u)
  ·exact Gt.bind (uB (K:=5) o (by simp) (by simp) (by decide)) fun r ⟨h1,o⟩=>Gt.pure (p h1 o u)
  ·refine Gt.bind (Bw o (by simp) (by simp)) fun r3 ⟨_,T⟩=>Gt.bind (dR T (by omega)) fun F ⟨U,V⟩=> ?_
   obtain⟨h6,h7⟩:=U (by omega)
   have O:d≠0→ ∀ {K':Nat} {b:List Int} {i h:Int} {l:List (List UInt8)},K'+10*(d - 1)≤1000→Cur b i→Nm K' l→Gt (cS n ((d - 1:Nat):Int) b i h l) (DP (kX d) (K'+kY d)):=fun W=>by
    obtain⟨L,rfl⟩: ∃L,d=L+1:=⟨d - 1,by omega⟩
    exact Ic L n (by omega) (by omega) (by omega)
   have C: ∀(r:Int×Bool×Int×Int×List UInt8×List aA×List aB×List Int×Int×Int×List (List UInt8)),DPS (kX d) (kY d) K 0 r.2.2→Gt ((fun(I,J,w,x,y,z,A,c,f,g,j)=>some (w,x,y,z,A,c,f,g,j)) r) (DP (kX (d+1)) (K+kY (d+1))):=fun r Z=>by
    obtain⟨x0,x1,x2,x3,x4,x5,x6,x7,x8,x9,x10⟩:=r; obtain⟨P,Q,q3,R,q5,S⟩:=Z; simp only at P Q q3 R q5 S; subst P; subst Q; exact Gt.pure (DP.mk (by simp only[dl,z31]; omega) R ⟨by omega,S⟩)
   have G: ∀(m:Nat) (k:Int),m≤2→DPS (kX d) (kY d) K m (k,(0:Int),([]:List UInt8),([]:List aA),([]:List aB),F.2.1,F.2.2.1,F.2.2.2,l):=fun m k E=>by
    have a1:m*(1+kX d)≤2*(1+kX d):=z58 _ E; have a2:m*kY d≤2*kY d:=z58 _ E; exact⟨rfl,rfl,by simp only[dl]; omega,V,by simp only; omega,H.2⟩
   refine Gt.cond (fun _=> ?_) fun _=> ?_
   ·exact Gt.bind (Gt.loop _ _ (fun m s B=>Ky n d K N M O m s B) (m:=2) ⟨rfl,Nt _,G 2 _ (z63 _)⟩ (by omega)) C
   ·exact Gt.bind (Gt.loop _ _ (fun m s B=>Kx n d K N M F (by omega) O m s B) (m:=F.1.toNat) ⟨by simp only; omega,Nt _,G _ _ (by omega)⟩ (by omega)) C
theorem Jt(a0 a1:Int)(a2:List UInt8)(a3:List aA)(a4:List aB)(a5 a6:Int)(a7:List UInt8)(a8:List aA)(a:List aB):bM (.mk a0 a1 a2 a3 a4 a5 a6 a7 a8 a)=3+aN (.mk a0 a1 a2 a3 a4)+aN (.mk a5 a6 a7 a8 a):=iG _
theorem Dg{α:Type}{l:List α}{i:Nat}{a:α}(b:Nat)(c:l[i]? =some a)(f:l.length≤20000000)(d:b≤255):kG b (l.take i) [a]=some (l.take (i+1)):=by
 have e:=iD c; rw[←nP c]; refine uE ?_ (by simp only[z56,z26,maxLen]; omega)
 have:((l.take i).length+[a].length)*b≤200000000*255:=Nat.mul_le_mul (by simp only[z56,z26]; omega) d
 omega
theorem yZ: ∀(n:Nat),n≤1099511627776→ ∀(a:aA),aN a<n→aN a≤20000000→cB n a.f0 a.f1 a.f2 a.f3 a.f4=some (a.f0,a.f1,a.f2,a.f3,a.f4)
 | 0,_=>fun a h=>by omega
 | n+1,hn=>fun a h t=>by
  have d:=yZ n (by omega)
  rw[uJ]; unfold jP; have k:=oZ a; rw[iF,fH]at k; have o:=eF aN a.f3; have s:=eF bM a.f4; have g:=sP (body:=gB n (cB n) a.f3) (fun i=>((i:Int),a.f0,a.f1,a.f2,a.f3.take i,([]:List aB))) (len:=a.f3.length) (r:=((a.f3.length:Int),false,a.f0,a.f1,a.f2,a.f3,[])) (fun i c=>by
   have b:a.f3[i]? =some a.f3[i]:=z13 c
   generalize a.f3[i]=e at b; have f:=jK aN (z35 b); simp only[gB,fU b,z18,fF,b,z10,d e (by omega) (by omega),mG,Dg 80 b (by omega) (by omega),bX (show i<4611686018427387904 by omega)]) (by simp only[gB,bI,z16,z83]) (n:=n) (by omega)
  have j:=sP (body:=gA n (cB n) a.f4) (fun i=>((i:Int),a.f0,a.f1,a.f2,a.f3,a.f4.take i)) (len:=a.f4.length) (r:=((a.f4.length:Int),false,a.f0,a.f1,a.f2,a.f3,a.f4)) (fun i c=>by
   have b:a.f4[i]? =some a.f4[i]:=z13 c
   generalize a.f4[i]=e at b; have f:=jK bM (z35 b); have u:=iG e; have l:cB n e.f0 e.f1 e.f2 e.f3 e.f4=some (e.f0,e.f1,e.f2,e.f3,e.f4):=d e.p (by omega) (by omega)
   have m:cB n e.f5 e.f6 e.f7 e.f8 e.f9=some (e.f5,e.f6,e.f7,e.f8,e.f9):=d e.x (by omega) (by omega)
   simp only[gA,fU b,z18,fF,b,z10,l,m,vV,Dg 160 b (by omega) (by omega),bX (show i<4611686018427387904 by omega)]) (by simp only[gA,bI,z16,z83]) (n:=n) (by omega)
  refine(congrArg (fun q=>Option.bind q _) g).trans ?_
  simp only[z10]; refine(congrArg (fun q=>Option.bind q _) j).trans ?_
  rfl
def eB:Nat→Nat
 | 0=>10
 | d+1=>200+4*eB d
theorem eB_10: ∀d,10≤eB d
 | 0=>z63 _
 | d+1=>by simp only[eB]; omega
theorem OH{d:Nat}(h:d≤3):eB d≤4840:=by
 have:d=0∨d=1∨d=2∨d=3:=by omega
 rcases this with e | e | e | e<;>rw[e]<;>simp [eB]
def DE(B:Nat)(r:Int×Int×List UInt8×List aA×List aB×List Int×Int×Int):Prop:=aN (.mk r.1 r.2.1 r.2.2.1 r.2.2.2.1 r.2.2.2.2.1)≤B∧Cur r.2.2.2.2.2.1 r.2.2.2.2.2.2.1
theorem DE.mk{B:Nat}{k m:Int}{s:List UInt8}{l:List aA}{c:List aB}{b:List Int}{i h:Int}(d:3+s.length+dl aN l+dl bM c≤B)(a:Cur b i):DE B (k,m,s,l,c,b,i,h):=⟨by rw[tR]; exact d,a⟩
def ES(X m:Nat)(x:Int×Int×List UInt8×List aA×List aB×List Int×Int×Int):Prop:=x.2.2.1.length≤5∧x.2.2.2.2.1=[]∧dl aN x.2.2.2.1+m*(1+X)≤1+2*(1+X)∧Cur x.2.2.2.2.2.1 x.2.2.2.2.2.2.1
def CS(X m:Nat)(x:Int×Int×List UInt8×List aA×List aB×List Int×Int×Int):Prop:=x.2.2.1=[]∧dl aN x.2.2.2.1≤2+X∧dl bM x.2.2.2.2.1+m*(53+X)≤1+2*(53+X)∧Cur x.2.2.2.2.2.1 x.2.2.2.2.2.2.1
theorem JW(n d K:Nat)(c:List (List UInt8))(E:d≤2)(w:K+10*d≤200)(x:Nm K c)(A: ∀ {K':Nat} {b:List Int} {i h:Int} {c:List (List UInt8)},K'+10*d≤200→Cur b i→Nm K' c→Gt (aY n (d:Int) c b i h) (DE (eB d)))(m:Nat)(y:m≤2)(s:Int×Int×Int×List UInt8×List aA×List aB×List Int×Int×Int)(z:s.1=(m:Int)∧ES (eB d) m s.2):Gt (iZ n (aY n) ((d+1:Nat):Int) c s) (Rnd (fun m s=>m≤2∧s.1=(m:Int)∧ES (eB d) m s.2) (fun r=>ES (eB d) 0 r.2.2) m):=by
 obtain⟨v,w0,G,H,o,I,J,L,M⟩:=s; obtain⟨B,f,l,g,j⟩:=z; simp only at B f l g j; subst l; have D:=OH (d:=d) (by omega)
 have F:=eF aN o; unfold iZ; simp only; by_cases k:(0:Int)<v
 ·rw[z15 k,z18]
  obtain⟨a,rfl⟩: ∃a,m=a+1:=⟨m - 1,by omega⟩
  rw[z90]at g; have p:IntKind.wrap .i64 (((d+1:Nat):Int) - 1)=(d:Int):=by rw[wrap_i64 (by omega) (by omega)]; omega
  rw[p]; refine Gt.bind (A w j x) fun r ⟨C,t⟩=>Gt.bind (qP (by simp only[z26]; omega) (by omega)) fun q e=> ?_
  rw[wrap_i64 (n:=v - 1) (by omega) (by omega)]
  subst e; have u:dl aN (o++[.mk r.1 r.2.1 r.2.2.1 r.2.2.2.1 r.2.2.2.2.1])+a*(1+eB d)≤1+2*(1+eB d):=by rw[lI]; omega
  refine Gt.pure ⟨a,rfl,by omega,(by show v - 1=(a:Int); omega),f,rfl,u,t⟩
 ·rw[z9 k,z16]
  have:m=0:=by omega
  subst this; exact Gt.pure ⟨f,rfl,g,j⟩
theorem JV(n d K:Nat)(c:List (List UInt8))(F:d≤2)(w:K+10*d≤200)(x:Nm K c)(A: ∀ {K':Nat} {b:List Int} {i h:Int} {c:List (List UInt8)},K'+10*d≤200→Cur b i→Nm K' c→Gt (aY n (d:Int) c b i h) (DE (eB d)))(m:Nat)(y:m≤2)(s:Int×Int×Int×List UInt8×List aA×List aB×List Int×Int×Int)(z:(s.1+m=2∧0≤s.1)∧ES (eB d) m s.2):Gt (iY n (aY n) ((d+1:Nat):Int) c s) (Rnd (fun m s=>m≤2∧(s.1+m=2∧0≤s.1)∧ES (eB d) m s.2) (fun r=>ES (eB d) 0 r.2.2) m):=by
 obtain⟨v,w0,H,I,o,J,L,M,N⟩:=s; obtain⟨⟨C,B⟩,f,l,g,j⟩:=z; simp only at C f l g j B; subst l; have E:=OH (d:=d) (by omega)
 have G:=eF aN o; unfold iY; simp only; by_cases k:v<(2:Int)
 ·rw[z15 k,z18]
  obtain⟨a,rfl⟩: ∃a,m=a+1:=⟨m - 1,by omega⟩
  rw[z90]at g; have p:IntKind.wrap .i64 (((d+1:Nat):Int) - 1)=(d:Int):=by rw[wrap_i64 (by omega) (by omega)]; omega
  rw[p]; refine Gt.bind (A w j x) fun r ⟨D,t⟩=>Gt.bind (qP (by simp only[z26]; omega) (by omega)) fun q e=> ?_
  rw[wrap_i64 (n:=v+1) (by omega) (by omega)]
  subst e; have u:dl aN (o++[.mk r.1 r.2.1 r.2.2.1 r.2.2.2.1 r.2.2.2.2.1])+a*(1+eB d)≤1+2*(1+eB d):=by rw[lI]; omega
  refine Gt.pure ⟨a,rfl,by omega,⟨(by show v+1+(a:Int)=2; omega),(by show 0≤v+1; omega)⟩,f,rfl,u,t⟩
 ·rw[z9 k,z16]
  have:m=0:=by omega
  subst this; exact Gt.pure ⟨f,rfl,g,j⟩
theorem JU(n d K:Nat)(c:List (List UInt8))(F:d≤2)(w:K+10*d≤200)(x:Nm K c)(A: ∀ {K':Nat} {b:List Int} {i h:Int} {c:List (List UInt8)},K'+10*d≤200→Cur b i→Nm K' c→Gt (aY n (d:Int) c b i h) (DE (eB d)))(m:Nat)(y:m≤2)(s:Int×Int×Int×List UInt8×List aA×List aB×List Int×Int×Int)(z:(s.1+m=1∧0≤s.1)∧ES (eB d) m s.2):Gt (iX n (aY n) ((d+1:Nat):Int) c s) (Rnd (fun m s=>m≤2∧(s.1+m=1∧0≤s.1)∧ES (eB d) m s.2) (fun r=>ES (eB d) 0 r.2.2) m):=by
 obtain⟨v,w0,H,I,o,J,L,M,N⟩:=s; obtain⟨⟨C,B⟩,f,l,g,j⟩:=z; simp only at C f l g j B; subst l; have E:=OH (d:=d) (by omega)
 have G:=eF aN o; unfold iX; simp only; by_cases k:v<(1:Int)
 ·rw[z15 k,z18]
  obtain⟨a,rfl⟩: ∃a,m=a+1:=⟨m - 1,by omega⟩
  rw[z90]at g; have p:IntKind.wrap .i64 (((d+1:Nat):Int) - 1)=(d:Int):=by rw[wrap_i64 (by omega) (by omega)]; omega
  rw[p]; refine Gt.bind (A w j x) fun r ⟨D,t⟩=>Gt.bind (qP (by simp only[z26]; omega) (by omega)) fun q e=> ?_
  rw[wrap_i64 (n:=v+1) (by omega) (by omega)]
  subst e; have u:dl aN (o++[.mk r.1 r.2.1 r.2.2.1 r.2.2.2.1 r.2.2.2.2.1])+a*(1+eB d)≤1+2*(1+eB d):=by rw[lI]; omega
  refine Gt.pure ⟨a,rfl,by omega,⟨(by show v+1+(a:Int)=1; omega),(by show 0≤v+1; omega)⟩,f,rfl,u,t⟩
 ·rw[z9 k,z16]
  have:m=0:=by omega
  subst this; exact Gt.pure ⟨f,rfl,g,j⟩
theorem JT(n d K:Nat)(c:List (List UInt8))(L:d≤2)(hn:2010<n)(f:n≤1099511627776)(I:K+10*(d+1)≤200)(t:Nm K c)(D: ∀ {K':Nat} {b:List Int} {i h:Int} {c:List (List UInt8)},K'+10*d≤200→Cur b i→Nm K' c→Gt (aY n (d:Int) c b i h) (DE (eB d)))(m:Nat)(B:m≤2)(s:Int×Int×Int×List UInt8×List aA×List aB×List Int×Int×Int)(g:s.1=(m:Int)∧CS (eB d) m s.2):Gt (iW n (aY n) ((d+1:Nat):Int) c s) (Rnd (fun m s=>m≤2∧s.1=(m:Int)∧CS (eB d) m s.2) (fun r=>CS (eB d) 0 r.2.2) m):=by
 obtain⟨v,w0,P,Q,R,w,S,T,U⟩:=s; obtain⟨E,u,j,k,l⟩:=g; simp only at E u j k l; subst u; have J:=OH (d:=d) (by omega)
 have M:=eF bM w; have C:=t.1; unfold iW; simp only; by_cases o:(0:Int)<v
 ·rw[z15 o,z18]
  obtain⟨a,rfl⟩: ∃a,m=a+1:=⟨m - 1,by omega⟩
  rw[z90]at k; have x:IntKind.wrap .i64 (((d+1:Nat):Int) - 1)=(d:Int):=by rw[wrap_i64 (by omega) (by omega)]; omega
  rw[x]; refine Gt.bind (Ic 1 n (by omega) (by omega) f (K:=0) (by omega) l ⟨z63 _,fun s g=>by cases g⟩) fun r ⟨f1,f2,p⟩=> ?_
  have y:=p.1; have F:kY (1+1)=4:=rfl; have G:kX (1+1)=49:=rfl; refine Gt.bind (qP (by simp only[z31]; omega) (by omega)) fun N e=> ?_
  rw[z77]at e; subst e; refine Gt.bind (qP (by omega) (by omega)) fun O e=> ?_
  subst e; refine Gt.bind (D (K':=K+4) (by omega) f2 ((t.app p).up (by omega))) fun r2 ⟨H,z⟩=>Gt.bind (qP (by simp only[z26]; omega) (by omega)) fun q e=> ?_
  rw[wrap_i64 (n:=v - 1) (by omega) (by omega)]
  subst e; have A:dl bM (w++[.mk r.1 r.2.1 r.2.2.1 r.2.2.2.1 r.2.2.2.2.1 r2.1 r2.2.1 r2.2.2.1 r2.2.2.2.1 r2.2.2.2.2.1])+a*(53+eB d)≤1+2*(53+eB d):=by rw[lI,Jt]; omega
  exact Gt.pure ⟨a,rfl,by omega,(by show v - 1=(a:Int); omega),rfl,j,A,z⟩
 ·rw[z9 o,z16]
  have:m=0:=by omega
  subst this; exact Gt.pure ⟨rfl,j,k,l⟩
theorem yA{n:Nat}{x:Int}:Gt (bL n x) (fun r=>r=(1,x,[],[],[])):=Gt.pure rfl
theorem Pd{n:Nat}{s:List UInt8}:Gt (iU n s) (fun r=>r=(2,0,s,[],[])):=Gt.pure rfl
theorem Gb: ∀(d n:Nat),d≤3→d+2100<n→n≤1099511627776→ ∀ {K:Nat} {b:List Int} {i h:Int} {z:List (List UInt8)},K+10*d≤200→Cur b i→Nm K z→Gt (aY n (d:Int) z b i h) (DE (eB d))
 | d,0,_,hn,_=>by omega
 | d,n+1,hd,hn,hn2=>fun hK A B=>by
  rename_i K b i h z; rw[uI]; unfold jO; have hX:=eB_10 d; have hml:=B.1; have H: ∀ {k m:Int} {s:List UInt8} {b:List Int} {i h:Int},s.length≤5→Cur b i→DE (eB d) (k,m,s,[],[],b,i,h):=fun C A=>DE.mk (by simp only[dl]; omega) A
  have J: ∀ {b:List Int} {i h:Int},Cur b i→Gt ((dI n ([(0:Int),(1:Int),(2:Int),(5:Int),(40:Int)]:List Int) b i h).bind fun w=>(bL n w.1).bind fun t=>some (t.1,t.2.1,t.2.2.1,t.2.2.2.1,t.2.2.2.2,w.2.1,w.2.2.1,w.2.2.2)) (DE (eB d)):=fun A=>
   Gt.bind (Bw A (by simp) (by simp)) fun r ⟨_,v⟩=>Gt.bind yA fun q e=>by subst e; exact Gt.pure (H (by simp) v)
  have D: ∀ {b:List Int} {i h:Int},Cur b i→Gt ((aU n ([([111,107]:List UInt8),([97]:List UInt8),([115,116,111,112]:List UInt8),([116,114,117,101]:List UInt8)]:List (List UInt8)) b i h).bind fun y=>(iU n y.1).bind fun u=>some (u.1,u.2.1,u.2.2.1,u.2.2.2.1,u.2.2.2.2,y.2.1,y.2.2.1,y.2.2.2)) (DE (eB d)):=fun A=>
   Gt.bind (uB (K:=5) A (by simp) (by simp) (by decide)) fun r ⟨h1,v⟩=>Gt.bind Pd fun q e=>by subst e; exact Gt.pure (H h1 v)
  have jL: ∀ {b:List Int} {i h:Int},Cur b i→Gt (bif decide ((0:Int)<(z.length:Int))then(aG n (z.length:Int) b i h).bind fun j=>(ix z j.1).bind fun G=>some ((3:Int),(0:Int),G,([]:List aA),([]:List aB),j.2.1,j.2.2.1,j.2.2.2)else(aG n (4:Int) b i h).bind fun l=>(bL n l.1).bind fun g=>some (g.1,g.2.1,g.2.2.1,g.2.2.2.1,g.2.2.2.2,l.2.1,l.2.2.1,l.2.2.2)) (DE (eB d)):=fun A=>by
   refine Gt.cond (fun e=> ?_) fun _=> ?_
   ·have:=ML e
    refine Gt.bind (dR A this) fun r ⟨h1,v⟩=> ?_
    obtain⟨N,E⟩:=h1 (by omega)
    exact Gt.bind (MI N E) fun a ha=>Gt.pure (H (B.2 a ha) v)
   ·exact Gt.bind (dR A (by omega)) fun r ⟨_,v⟩=>Gt.bind yA fun q e=>by subst e; exact Gt.pure (H (by simp) v)
  refine Gt.bind (dR A (by omega)) fun r ⟨_,v⟩=>Gt.cond (fun e0=> ?_) fun e0=> ?_
  ·refine Gt.bind (dR v (by omega)) fun r2 ⟨E,I⟩=> ?_
   obtain⟨h6,h7⟩:=E (by omega)
   refine Gt.cond (fun _=>J I) fun q0=>Gt.cond (fun _=>D I) fun O=>Gt.cond (fun _=>jL I) fun P=>Gt.cond (fun _=>jL I) fun S=> ?_
   have:=MM q0; have:=MM O; have:=MM P; have:=MM S; omega
  ·have:=MM e0
   obtain⟨p,rfl⟩: ∃p,d=p+1:=⟨d - 1,by omega⟩
   have e1:IntKind.wrap .i64 (((p+1:Nat):Int) - 1)=(p:Int):=by rw[wrap_i64 (by omega) (by omega)]; omega
   have eX:eB (p+1)=200+4*eB p:=rfl; have F: ∀ {K':Nat} {b:List Int} {i h:Int} {z:List (List UInt8)},K'+10*p≤200→Cur b i→Nm K' z→Gt (aY n (p:Int) z b i h) (DE (eB p)):=Gb p n (by omega) (by omega) (by omega)
   rw[e1]; have ops: ∀ {b:List Int} {i h:Int},Cur b i→Gt ((aU n ([([43]:List UInt8),([45]:List UInt8),([42]:List UInt8),([61,61]:List UInt8),([60]:List UInt8),([43]:List UInt8)]:List (List UInt8)) b i h).bind fun o=>(aY n (p:Int) z o.2.1 o.2.2.1 o.2.2.2).bind fun c=>(aY n (p:Int) z c.2.2.2.2.2.1 c.2.2.2.2.2.2.1 c.2.2.2.2.2.2.2).bind fun f=>some ((7:Int),(0:Int),o.1,([aA.mk c.1 c.2.1 c.2.2.1 c.2.2.2.1 c.2.2.2.2.1,aA.mk f.1 f.2.1 f.2.2.1 f.2.2.2.1 f.2.2.2.2.1]:List aA),([]:List aB),f.2.2.2.2.2.1,f.2.2.2.2.2.2.1,f.2.2.2.2.2.2.2)) (DE (eB (p+1))):=fun A=>
    Gt.bind (uB (K:=5) A (by simp) (by simp) (by decide)) fun r ⟨h1,v⟩=>Gt.bind (F (by omega) v B) fun r1 ⟨f1,f2⟩=>Gt.bind (F (by omega) f2 B) fun r2 ⟨g1,R⟩=>Gt.pure (DE.mk (by simp only[dl]; omega) R)
   have L: ∀ {x:Int×Int×List UInt8×List aA×List aB×List Int×Int×Int},ES (eB p) 0 x→DE (eB (p+1)) x:=fun {x} hx=>by
    obtain⟨V,W,X,Y,U,Z,x8,x9⟩:=x; obtain⟨O,P,S,T⟩:=hx; simp only at O P S T; subst P; exact DE.mk (by simp only[dl]; omega) T
   refine Gt.cond (fun _=>J v) fun _=>Gt.cond (fun _=>D v) fun _=>Gt.cond (fun _=>jL v) fun _=>Gt.cond (fun _=>jL v) fun _=>Gt.cond (fun _=>jL v) fun _=>Gt.cond (fun _=>ops v) fun _=>Gt.cond (fun _=>ops v) fun _=>Gt.cond (fun _=> ?_) fun _=>Gt.cond (fun _=> ?_) fun _=>Gt.cond (fun _=> ?_) fun _=> ?_
   ·refine Gt.bind (Bw v (by simp) (by simp)) fun r3 ⟨_,N⟩=>Gt.bind (dR N (by omega)) fun Q ⟨E,I⟩=> ?_
    obtain⟨h6,h7⟩:=E (by omega)
    refine Gt.bind (Gt.loop _ _ (fun m s C=>JW n p K z (by omega) (by omega) B F m C.1 s C.2) (m:=Q.1.toNat) ⟨by omega,by simp only; omega,by simp,rfl, ?_,I⟩ (by omega)) fun r M=> ?_
    ·have a1:Q.1.toNat*(1+eB p)≤2*(1+eB p):=z58 _ (by omega)
     simp only[dl]; omega
    ·obtain⟨x0,x1,V,W,X,Y,U,Z,x8,x9⟩:=r
     exact Gt.pure (L M)
   ·refine Gt.bind (F (by omega) v B) fun r1 ⟨f1,f2⟩=>Gt.bind (F (by omega) f2 B) fun r2 ⟨g1,R⟩=>Gt.pure (DE.mk ?_ R)
    simp only[dl,z31]; rw[tR 5 0]; simp only[dl,z31]; omega
   ·refine Gt.bind (uB (K:=5) v (by simp) (by simp) (by decide)) fun r3 ⟨N,E⟩=>Gt.cond (fun _=> ?_) fun _=> ?_
    ·refine Gt.bind (Gt.loop _ _ (fun m s C=>JV n p K z (by omega) (by omega) B F m C.1 s C.2) (m:=2) ⟨by omega,⟨by simp,by simp⟩,N,rfl, ?_,E⟩ (by omega)) fun r M=> ?_
     ·simp only[dl]; omega
     ·obtain⟨x0,x1,V,W,X,Y,U,Z,x8,x9⟩:=r
      exact Gt.pure (L M)
    ·refine Gt.bind (Gt.loop _ _ (fun m s C=>JU n p K z (by omega) (by omega) B F m C.1 s C.2) (m:=1) ⟨by omega,⟨by simp,by simp⟩,N,rfl, ?_,E⟩ (by omega)) fun r M=> ?_
     ·simp only[dl]; omega
     ·obtain⟨x0,x1,V,W,X,Y,U,Z,x8,x9⟩:=r
      exact Gt.pure (L M)
   ·refine Gt.bind (F (by omega) v B) fun r1 ⟨f1,f2⟩=>Gt.bind (dR f2 (by omega)) fun Q ⟨E,I⟩=> ?_
    obtain⟨h6,h7⟩:=E (by omega)
    rw[wrap_i64 (n:=1+Q.1) (by omega) (by omega)]
    refine Gt.bind (Gt.loop _ _ (fun m s C=>JT n p K z (by omega) (by omega) (by omega) (by omega) B F m C.1 s C.2) (m:=(1+Q.1).toNat) ⟨by omega,by simp only; omega,rfl, ?_, ?_,I⟩ (by omega)) fun r M=> ?_
    ·simp only[dl]; omega
    ·have a1:(1+Q.1).toNat*(53+eB p)≤2*(53+eB p):=z58 _ (by omega)
     simp only[dl]; omega
    ·obtain⟨x0,x1,V,W,X,Y,U,Z,x8,x9⟩:=r
     obtain⟨O,P,S,T⟩:=M; simp only at O P S T ⊢; subst O; have hl:=eF bM U; have hX5:=OH (d:=p) (by omega)
     refine Gt.bind (Ge T (by omega)) fun r5 h8=>Gt.cond (fun _=> ?_) fun _=>Gt.pure (DE.mk (by simp only[z31]; omega) h8)
     refine Gt.bind (F (by omega) h8 B) fun r6 ⟨g1,R⟩=>Gt.bind (qP (by simp only[z26]; omega) (by omega)) fun q e=>Gt.pure (DE.mk ?_ R)
     subst e; rw[lI,Jt,tR 3 0]; simp only[dl,z31,z26]; omega
theorem EC{α:Type}(w:α→Nat)(b:α): ∀(l:List α) (k:Nat),dl w (l.set k b)≤dl w l+w b
 | [],k=>by simp [dl]
 | x::r,0=>by simp only[z136,dl]; omega
 | x::r,k+1=>by have:=EC w b r k; simp only[z137,dl]; omega
theorem Gc{n B:Nat}{a:aA}(hn:aN a+200<n)(g:n≤1099511627776)(D:aN a≤B)(L:B≤100000){b:List Int}{i h:Int}(y:Cur b i):Gt (hG n a.f0 a.f1 a.f2 a.f3 a.f4 b i h) (DE (2*B+200)):=by
 unfold hG; have f:=yZ n g a (by omega) (by omega)
 have k:aN (.mk a.f0 a.f1 a.f2 a.f3 a.f4)≤B:=by rw[mG]; exact D
 have j:=k; rw[tR]at j; have I:=eF aN a.f3; have J:=eF bM a.f4; simp only[f,z10]; refine Gt.bind (dR y (by omega)) fun r ⟨_,c⟩=> ?_
 refine Gt.cond (fun _=> ?_) fun _=>Gt.cond (fun _=> ?_) fun _=>Gt.cond (fun _=> ?_) fun _=>Gt.cond (fun _=> ?_) fun _=>Gt.cond (fun _=> ?_) fun _=>Gt.cond (fun _=> ?_) fun _=>Gt.cond (fun _=> ?_) fun _=> ?_
 ·exact Gt.bind (dR c (by omega)) fun r ⟨_,c⟩=>Gt.pure (DE.mk (by omega) c)
 ·exact Gt.bind (Bw c (by simp) (by simp)) fun r ⟨_,c⟩=>Gt.pure (DE.mk (by omega) c)
 ·exact Gt.bind (uB (K:=5) c (by simp) (by simp) (by decide)) fun r ⟨h1,c⟩=>Gt.pure (DE.mk (by omega) c)
 ·refine Gt.bind yA fun q e=> ?_
  subst e; refine Gt.bind (qP (by simp only[z26]; omega) (by omega)) fun q e=>Gt.pure (DE.mk ?_ c)
  subst e; rw[lI,tR]; simp only[dl,z31]; omega
 ·refine Gt.bind yA fun q e=> ?_
  subst e; refine Gt.bind (qP (by simp only[z26]; omega) (by omega)) fun q e=>Gt.pure (DE.mk ?_ c)
  subst e; rw[lI,Jt,tR 1 1]; simp only[dl,z31]; omega
 ·refine Gt.bind (P:=fun r=>aN (.mk r.2.2.1 r.2.2.2.1 r.2.2.2.2.1 r.2.2.2.2.2.1 r.2.2.2.2.2.2)≤B+54) (Gt.loop (fun(m:Nat) (s:Int×Int×Int×List UInt8×List aA×List aB)=>s.1+m=9∧0≤s.1∧aN (.mk s.2.1 s.2.2.1 s.2.2.2.1 s.2.2.2.2.1 s.2.2.2.2.2)+6*m≤B+54) _ (fun m s d=> ?_) (m:=9) ?_ (by omega)) fun r C=>Gt.pure ⟨z81 C (by omega),c⟩
  ·obtain⟨v,o,p,t,u,w⟩:=s
   obtain⟨F,G,H⟩:=d; simp only at F G H; unfold lD; simp only; by_cases l:v<(9:Int)
   ·rw[z15 l,z18,wrap_i64 (n:=v+1) (by omega) (by omega)]
    refine Gt.pure ⟨m - 1,by omega, ?_, ?_, ?_⟩
    ·show v+1+((m - 1:Nat):Int)=9
     omega
    ·show 0≤v+1
     omega
    ·show aN (.mk 4 0 [] [.mk o p t u w] [])+6*(m - 1)≤B+54
     rw[tR 4 0]; simp only[dl,z31]; omega
   ·rw[z9 l,z16]
    refine Gt.pure ?_
    show aN (.mk o p t u w)≤B+54; omega
  ·exact⟨by simp,by simp,by simp only; omega⟩
 ·refine Gt.cond (fun e=> ?_) fun _=>Gt.pure (DE.mk (by omega) c)
  have:=ML e; refine Gt.bind (MI (Nt _) this) fun e z=>Gt.pure (DE.mk ?_ c)
  have M:=jK bM z; have A:=iG e; have E:aN (.mk e.f5 e.f6 e.f7 e.f8 e.f9)=aN e.x:=congrArg aN (mG e.x); have d:=EC bM (aB.mk 4 0 [] [.mk 3 0 [65] [] [], .mk 3 0 [65] [] []] [] e.f5 e.f6 e.f7 e.f8 e.f9) a.f4 (Int.toNat 0); rw[Jt,tR 4 0,E]at d; simp only[dl,z31,tR 3 0 [65] [] [],z26]at d; omega
 ·exact Gt.pure (DE.mk (by omega) c)
theorem JP{n K:Nat}(hn:10000<n)(a:n≤1099511627776)(l:K≤100){b:List Int}{i h:Int}{f:List (List UInt8)}(g:Cur b i)(j:Nm K f):Gt (iN n f b i h) (DE 4840):=by
 unfold iN; refine Gt.bind (Gb 3 n (by omega) (by omega) a (by omega) g j) fun r ⟨h1,d⟩=> ?_
 have k:eB 3=4840:=rfl; have c:=CB n a (.mk r.1 r.2.1 r.2.2.1 r.2.2.2.1 r.2.2.2.2.1) false 10 300 (by omega) (by omega) (by omega) (by omega)
 have c:bW n r.1 r.2.1 r.2.2.1 r.2.2.2.1 r.2.2.2.2.1 false (10:Int) 300=_:=c; unfold dG; rw[c]; simp only[z10]; refine Gt.cond (fun _=>Gt.bind yA fun q e=> ?_) fun _=>Gt.pure ⟨z81 h1 (by omega),d⟩
 subst e; exact Gt.pure (DE.mk (by simp only[dl,z31]; omega) d)
theorem Ie{n:Nat}(hn:20000<n)(c:n≤1099511627776){b:List Int}{i h:Int}(j:Cur b i):Gt (jF n b i h) (DE 9880):=by
 unfold jF; refine Gt.bind (JP (K:=2) (by omega) c (by omega) j ⟨by simp,by decide⟩) fun r ⟨h1,g⟩=>Gt.bind (Ge g (by omega)) fun r2 d=>Gt.cond (fun _=> ?_) fun _=>Gt.pure ⟨z81 h1 (by omega),d⟩
 have:=Gc (n:=n) (B:=4840) (a:= .mk r.1 r.2.1 r.2.2.1 r.2.2.2.1 r.2.2.2.2.1) (by omega) c h1 (by omega) (b:=r2.2.1) (i:=r2.2.2.1) (h:=r2.2.2.2) d
 exact Gt.bind this fun q ⟨e,f⟩=>Gt.pure ⟨e,f⟩
theorem JJ{α:Type}(L M:List α)(g:L.length=M.length){body:Int→Option (Int⊕(Bool⊕(Int×Bool)))}{n:Nat}
  (j: ∀(i:Nat) x y,L[i]? =some x→M[i]? =some y→ ∃s:Bool,body (i:Int)=some (bif !s then .inr (.inl false)else .inl ((i+1:Nat):Int))∧(s=true↔x=y))
  (e:body (L.length:Int)=some (.inr (.inr ((L.length:Int),false))))(hn:L.length<n):
  ∃s:Bool,loopN body n (0:Int)=some (bif s then .inr ((L.length:Int),false)else .inl false)∧(s=true↔L=M):=by
 have d: ∀(m i n:Nat),i+m=L.length→m<n→ ∃s:Bool,loopN body n (i:Int)=some (bif s then .inr ((L.length:Int),false)else .inl false)∧(s=true↔L.drop i=M.drop i):=by
  intro m; induction m with
  | zero=>
   intro i n f hn; obtain⟨n,rfl⟩: ∃k,n=k+1:=⟨n - 1,by omega⟩
   have:i=L.length:=by omega
   subst this; refine⟨true, ?_, ?_⟩
   ·unfold loopN; rw[e]; rfl
   ·rw[List.drop_length,g,List.drop_length]; simp
  | succ m l=>
   intro i n f hn; obtain⟨n,rfl⟩: ∃k,n=k+1:=⟨n - 1,by omega⟩
   have a:i<L.length:=by omega
   have b:i<M.length:=by omega
   obtain⟨s,h1,c⟩:=j i L[i] M[i] (z13 a) (z13 b)
   rw[z113 a,z113 b]; unfold loopN; rw[h1]; cases s with
   | false=>
    refine⟨false,rfl, ?_⟩
    simp only[z64]; exact⟨(fun h=>nomatch h),fun h=>by have:=c.2 h.1; cases this⟩
   | true=>
    obtain⟨t,o,p⟩:=l (i+1) n (by omega) (by omega)
    refine⟨t,o, ?_⟩
    rw[p]; simp only[z64,c.1 rfl,Ci]
 obtain⟨s,h1,c⟩:=d L.length 0 n (by omega) hn
 exact⟨s,h1,by simpa using c⟩
def lK(o:Option Bool)(p:Prop):Prop:= ∃s:Bool,o=some s∧(s=true↔p)
theorem lK.iff{o:Option Bool}{p q:Prop}(h:lK o p)(e:p↔q):lK o q:=by
 obtain⟨s,h1,a⟩:=h; exact⟨s,h1,a.trans e⟩
theorem qB{α:Type}(L M:List α){body:Int→Option (Int⊕(Bool⊕(Int×Bool)))}{n:Nat}(d:L.length=M.length)
  (g: ∀(i:Nat) x y,L[i]? =some x→M[i]? =some y→ ∃s:Bool,body (i:Int)=some (bif !s then .inr (.inl false)else .inl ((i+1:Nat):Int))∧(s=true↔x=y))
  (b:body (L.length:Int)=some (.inr (.inr ((L.length:Int),false))))(hn:L.length<n){f:Bool⊕(Int×Bool)→Option Bool}{o:Option Bool}{p:Prop}(c:f (.inl false)=some false)(e:f (.inr ((L.length:Int),false))=o)(ho:lK o p):
  lK ((loopN body n (0:Int)).bind f) (L=M∧p):=by
 obtain⟨s,h1,a⟩:=JJ L M d g b hn; rw[h1,z10]; cases s with
 | false=>exact⟨false,c,⟨(fun h=>nomatch h),fun h=>a.2 h.1⟩⟩
 | true=>
  rw[z18,e]; exact ho.iff ⟨fun h=>⟨a.1 rfl,h⟩,fun h=>h.2⟩
theorem vA:lK (some true) True:=⟨true,rfl,by simp⟩
theorem Gz{o:Option Bool}{p:Prop}{f:Bool→Option Bool}(h:lK o p)(b: ∀c,f c=some c):lK (o.bind f) p:=by
 obtain⟨s,rfl,a⟩:=h; exact⟨s,b s,a⟩
theorem FC{α:Type}{a b:List α}:(decide ((a.length:Int)=(b.length:Int)))=true↔a.length=b.length:=by
 rw[z22]; omega
theorem Df{α:Type}{a b:List α}{o:Option Bool}{q:Prop}(h:a.length=b.length→lK o (a=b∧q)):lK (bif !decide ((a.length:Int)=(b.length:Int))then some false else o) (a=b∧q):=by
 by_cases e:a.length=b.length
 ·rw[FC.2 e]; exact h e
 ·rw[z9 (by omega)]
  exact⟨false,rfl,⟨(fun h=>nomatch h),fun h=>absurd (congrArg List.length h.1) e⟩⟩
theorem CV(x y:aA):x.f0=y.f0∧x.f1=y.f1∧x.f2=y.f2∧x.f3=y.f3∧x.f4=y.f4↔x=y:=by
 cases x; cases y; simp only[aA.mk.injEq]; rfl
theorem vK(x y:aB):x.p=y.p∧x.x=y.x↔x=y:=by
 cases x; cases y; simp only[aB.two.injEq]; rfl
theorem OL(a:aA):aN a=3+a.f2.length+dl aN a.f3+dl bM a.f4:=by rw[oZ,iF,fH]
theorem bifs(s:Bool){α:Type}(x y:α):(bif !s then some x else some y)=some (bif !s then x else y):=by cases s<;>rfl
theorem Gy{α β:Type} [DecidableEq β]{a b c d:Int}{e f:β}{g h:List α}{q:Prop}{o m:Option Bool}(ho:lK o (g=h))(k:lK m q):lK ((bif !decide (a=b)then some true else bif !decide (c=d)then some true else bif !decide (e=f)then some true else o.bind fun v=>some (!v)).bind fun v=>bif v then some false else m) (a=b∧c=d∧e=f∧g=h∧q):=by
 by_cases h1:a=b
 ·rw[z15 h1]
  by_cases i:c=d
  ·rw[z15 i]
   by_cases j:e=f
   ·rw[z15 j]
    obtain⟨s,rfl,l⟩:=ho; cases s with
    | false=>exact⟨false,rfl,⟨(fun h=>nomatch h),fun h=>l.2 h.2.2.2.1⟩⟩
    | true=>exact k.iff ⟨fun h=>⟨h1,i,j,l.1 rfl,h⟩,fun h=>h.2.2.2.2⟩
   ·rw[z9 j]; exact⟨false,rfl,⟨(fun h=>nomatch h),fun h=>absurd h.2.2.1 j⟩⟩
  ·rw[z9 i]; exact⟨false,rfl,⟨(fun h=>nomatch h),fun h=>absurd h.2.1 i⟩⟩
 ·rw[z9 h1]; exact⟨false,rfl,⟨(fun h=>nomatch h),fun h=>absurd h.1 h1⟩⟩
theorem qE: ∀(n:Nat),n≤1099511627776→(∀x y:aA,3*aN x<n→lK (aT n x.f0 x.f1 x.f2 x.f3 x.f4 y.f0 y.f1 y.f2 y.f3 y.f4) (x=y))∧(∀L M:List aA,3*dl aN L<n→lK (bE n L M) (L=M))∧
  (∀L M:List aB,3*dl bM L<n→lK (bG n L M) (L=M))∧(∀x y:aB,3*bM x<n→lK (cH n x.f0 x.f1 x.f2 x.f3 x.f4 x.f5 x.f6 x.f7 x.f8 x.f9 y.f0 y.f1 y.f2 y.f3 y.f4 y.f5 y.f6 y.f7 y.f8 y.f9) (x=y))
 | 0,_=>⟨fun x y h=>by omega,fun x y h=>by omega,fun x y h=>by omega,fun x y h=>by omega⟩
 | n+1,hn=>by
  obtain⟨e,k,l,m⟩:=qE n (by omega)
  refine⟨fun x y h=> ?_,fun L M h=> ?_,fun L M h=> ?_,fun x y h=> ?_⟩
  ·have j:=OL x
   rw[rD]; unfold gX; exact(Gy (k x.f3 y.f3 (by omega)) (Gz (l x.f4 y.f4 (by omega)) fun _=>rfl)).iff (CV x y)
  ·have c:=eF aN L
   rw[lV]; unfold cP; refine(Df fun c=>qB L M c (fun i x y a d=> ?_) ?_ (by omega) rfl rfl vA).iff (by simp)
   ·have:=iD a
    have g:=jK aN (z35 a); obtain⟨s,h1,b⟩:=e x y (by omega)
    refine⟨s, ?_,b⟩
    simp only[cY,fU a,z18,fF,a,d,z10,h1,bX (show i<4611686018427387904 by omega)]
    exact bifs _ _ _
   ·simp only[cY,bI,z16]
  ·have c:=eF bM L
   rw[lW]; unfold cQ; refine(Df fun c=>qB L M c (fun i x y a d=> ?_) ?_ (by omega) rfl rfl vA).iff (by simp)
   ·have:=iD a
    have g:=jK bM (z35 a); obtain⟨s,h1,b⟩:=m x y (by omega)
    refine⟨s, ?_,b⟩
    simp only[cZ,fU a,z18,fF,a,d,z10,h1,bX (show i<4611686018427387904 by omega)]
    exact bifs _ _ _
   ·simp only[cZ,bI,z16]
  ·have j:=iG x
   rw[pC]; unfold fC; obtain⟨s,h1,b⟩:=e x.p y.p (by omega)
   obtain⟨t,f,o⟩:=e x.x y.x (by omega)
   have h1:aT n x.f0 x.f1 x.f2 x.f3 x.f4 y.f0 y.f1 y.f2 y.f3 y.f4=some s:=h1; have f:aT n x.f5 x.f6 x.f7 x.f8 x.f9 y.f5 y.f6 y.f7 y.f8 y.f9=some t:=f; rw[h1,f]; refine⟨s&&t,by cases s<;>rfl, ?_⟩
   rw[z7,b,o]; exact vK x y
theorem BP: ∀(n:Nat),n≤1099511627776→ ∀x y:aA,aN x<n→lK (cO n x.f0 x.f1 x.f2 x.f3 x.f4 y.f0 y.f1 y.f2 y.f3 y.f4) (x=y)
 | 0,_=>fun x y h=>by omega
 | n+1,hn=>fun x y h=>by
  have C:=BP n (by omega)
  have K:=OL x; have F:=eF aN x.f3; have G:=eF bM x.f4; rw[rC]; unfold gW; have e: ∀ {a b c d:Int} {e f:List UInt8} {g h:List aA} {k l:List aB} {o:Option Bool},(g.length=h.length→k.length=l.length→lK o (g=h∧k=l))→lK ((bif !decide (a=b)then some true else bif !decide (c=d)then some true else bif !decide (e=f)then some true else bif !decide ((g.length:Int)=(h.length:Int))then some true else some (!decide ((k.length:Int)=(l.length:Int)))).bind fun v=>bif v then some false else o) (a=b∧c=d∧e=f∧g=h∧k=l):=fun {a b c d e f g h k l o} ho=>by
   have no: ∀ {p:Prop}, ¬ p→lK (some false) p:=fun H=>⟨false,rfl,⟨(fun h=>nomatch h),fun h=>absurd h H⟩⟩
   by_cases h1:a=b
   ·rw[z15 h1]
    by_cases m:c=d
    ·rw[z15 m]
     by_cases r:e=f
     ·rw[z15 r]
      by_cases u:g.length=h.length
      ·rw[FC.2 u]
       by_cases w:k.length=l.length
       ·rw[FC.2 w]
        exact(ho u w).iff ⟨fun q=>⟨h1,m,r,q.1,q.2⟩,fun q=>⟨q.2.2.2.1,q.2.2.2.2⟩⟩
       ·rw[z9 (by omega)]
        exact no fun q=>w (congrArg List.length q.2.2.2.2)
      ·rw[z9 (by omega)]
       exact no fun q=>u (congrArg List.length q.2.2.2.1)
     ·rw[z9 r]; exact no fun q=>r q.2.2.1
    ·rw[z9 m]; exact no fun q=>m q.2.1
   ·rw[z9 h1]; exact no fun q=>h1 q.1
  refine(e fun z A=> ?_).iff (CV x y)
  refine qB x.f3 y.f3 z (fun i a b j B=> ?_) ?_ (by omega) rfl rfl ?_
  ·have:=iD j
   have E:=jK aN (z35 j); obtain⟨s,h1,m⟩:=C a b (by omega)
   refine⟨s, ?_,m⟩
   simp only[gM,fU j,z18,fF,j,B,z10,h1,bX (show i<4611686018427387904 by omega)]
   exact bifs _ _ _
  ·simp only[gM,bI,z16]
  ·refine(qB x.f4 y.f4 A (fun i a b j B=> ?_) ?_ (by omega) rfl rfl vA).iff (by simp)
   ·have:=iD j
    have E:=jK bM (z35 j); have J:=iG a; obtain⟨s,h1,m⟩:=C a.p b.p (by omega)
    obtain⟨t,D,I⟩:=C a.x b.x (by omega)
    have h1:cO n a.f0 a.f1 a.f2 a.f3 a.f4 b.f0 b.f1 b.f2 b.f3 b.f4=some s:=h1; have D:cO n a.f5 a.f6 a.f7 a.f8 a.f9 b.f5 b.f6 b.f7 b.f8 b.f9=some t:=D; refine⟨s&&t, ?_,by rw[z7,m,I]; exact vK a b⟩
    simp only[gL,fU j,z18,fF,j,B,z10,h1,D,bX (show i<4611686018427387904 by omega)]
    cases s<;>cases t<;>rfl
   ·simp only[gL,bI,z16]
theorem ckA{a b:Nat}(h:a+b≤9223372036854775807):ck (decide (a+b≤9223372036854775807))=some ():=by rw[z15 h]; rfl
theorem Cg{α:Type}{l:List α}{i:Nat}{a d:α}(h:l[i]? =some a):l.getD i d=a:=by rw[z92,h]; rfl
theorem sV{α:Type}(w:α→Nat): ∀(l:List α) (i:Nat),dl w (l.take i)≤dl w l
 | [],i=>by simp
 | a::l,0=>by simp only[ME,dl]; omega
 | a::l,i+1=>by
  have:=sV w l i; simp only[z133,dl]; omega
theorem zT{α:Type}(f:α→List UInt8)(w:α→Nat)(c:List UInt8): ∀(l:List α),(∀a∈l,(f a).length+c.length≤40*(1+w a))→(Lib.joinTail c (l.map f)).length+40≤40*dl w l
 | [],_=>by simp [Lib.joinTail,dl]
 | a::l,h=>by
  have h1:=zT f w c l (fun b d=>h b (z24 _ d))
  have g:=h a z25; simp only[Lib.joinTail,z41,z98,z21,dl]at h1 ⊢; omega
theorem yB{α:Type}(f:α→List UInt8)(w:α→Nat)(c:List UInt8): ∀(l:List α),(∀a∈l,(f a).length+c.length≤40*(1+w a))→(Lib.join (l.map f) c).length+40≤40*dl w l
 | [],_=>by simp [Lib.join_nil,dl]
 | a::l,h=>by
  have h1:=zT f w c l (fun b d=>h b (z24 _ d))
  have g:=h a z25; rw[z41,Lib.join_cons]; simp only[z21,dl]; omega
theorem Il: ∀(k v:Nat),v<10 ^ (k+1)→(Lib.decDigits v).length≤k+1
 | k,v,h=>by
  by_cases a:v<10
  ·rw[Lib.decDigits_one a,z26]; omega
  ·cases k with
   | zero=>rw[z34,Nat.pow_one]at h; omega
   | succ k=>
    have:=Il k (v / 10) (Nat.div_lt_of_lt_mul (by rw[z165]; exact h))
    rw[Lib.decDigits,KK a,z21,z26]; omega
theorem NS{v:Int}(h0:0≤v)(h1:v≤1000000000000):(Lib.itoa v).length≤20:=by
 obtain⟨k,rfl⟩: ∃k:Nat,v=k:=⟨v.toNat,by omega⟩
 rw[Lib.itoa_nonneg]; have:=Il 12 k (by omega)
 omega
def zE:aA:= .mk 0 0 [] [] []
def tx:Nat→aA→List UInt8
 | 0,_=> []
 | d+1,e=>
  bif decide (e.f0=1)then Lib.itoa e.f1 else bif decide (e.f0=2)then e.f2 else bif decide (e.f0=3)then e.f2
  else bif decide (e.f0=4)then([123]++Lib.join (e.f3.map (tx d)) [44,32])++[125]
  else bif decide (e.f0=5)then([91]++Lib.join (e.f3.map (tx d)) [44,32])++[93]
  else bif decide (e.f0=6)then((([91]++Lib.join ((e.f3.take (e.f3.length - 1)).map (tx d)) [44,32])++[32,124,32])++tx d (e.f3.getD (e.f3.length - 1) zE))++[93]
  else bif decide (e.f0=7)then((((([40]++tx d (e.f3.getD 0 zE))++[32])++e.f2)++[32])++tx d (e.f3.getD 1 zE))++[41]
  else bif decide (e.f0=8)then((e.f2++[40])++Lib.join (e.f3.map (tx d)) [44,32])++[41]
  else((([99,97,115,101,32]++tx d (e.f3.getD 0 zE))++[32,111,102,32])++Lib.join (e.f4.map fun c=>(tx d c.p++[32,45,62,32])++tx d c.x) [59,32])++[32,101,110,100]
def txc(d:Nat)(c:aB):List UInt8:=(tx d c.p++[32,45,62,32])++tx d c.x
structure Kinds (e:aA):Prop where
 k1:e.f0=1→0≤e.f1∧e.f1≤1000000000000
 k6:e.f0=6→2≤e.f3.length
 k7:e.f0=7→e.f3.length=2
 k9:e.f0≠1→e.f0≠2→e.f0≠3→e.f0≠4→e.f0≠5→e.f0≠6→e.f0≠7→e.f0≠8→e.f3.length=1
theorem yM{d:Nat}{f:Bool}{e:aA}(h:xok (d+1) f e=true):Kinds e∧(∀a∈e.f3,xok d f a=true)∧ ∀c∈e.f4,xok d true c.p=true∧xok d false c.x=true:=by
 rw[sN,z7,z7]at h; obtain⟨b,i,g⟩:=h; refine⟨?_,z14.1 i,fun c j=> ?_⟩
 ·have h0:vQ e.f0 e.f1 e.f2 e.f3.length=true:=by
   unfold shp at b; cases h9:decide (e.f0=9)with
   | true=>rw[h9]at b; simp only[z18,z7]at b; exact b.1.2
   | false=>rw[h9]at b; simp only[z16,z7]at b; exact b.2.1
  unfold vQ at h0; refine⟨fun k=> ?_,fun k=> ?_,fun k=> ?_,fun k1 l m o q k6 k7 r=> ?_⟩
  ·rw[k]at h0
   have h0:((decide (0≤e.f1)&&decide (e.f1≤1000000000000))&&(decide (e.f2=[])&&decide ((e.f3.length:Int)=0)))=true:=h0; simp only[z7,z22]at h0; exact h0.1
  ·rw[k]at h0
   have h0:(decide (e.f1=0)&&(decide (e.f2=[])&&(decide (2≤(e.f3.length:Int))&&decide ((e.f3.length:Int)≤6))))=true:=h0; simp only[z7,z22]at h0; omega
  ·rw[k]at h0
   have h0:(decide (e.f1=0)&&(DW e.f2&&decide ((e.f3.length:Int)=2)))=true:=h0; simp only[z7,z22]at h0; omega
  ·rw[z9 k1,z9 l,z9 m,z9 o,z9 q,z9 k6,z9 k7,z9 r]at h0
   simp only[z16]at h0; cases h9:decide (e.f0=9)with
   | false=>rw[h9]at h0; cases h0
   | true=>
    rw[h9]at h0; simp only[z18,z7,z22]at h0; omega
 ·have:=z14.1 g c j
  unfold cok at this; simp only[z7]at this; exact this.2
theorem wE_d(a:aA):aN a=3+a.f2.length+dl aN a.f3+dl bM a.f4:=by rw[oZ,iF,fH]
theorem vY: ∀(d:Nat) (f:Bool) (e:aA),xok d f e=true→(tx d e).length+20≤40*aN e
 | 0,f,e,h=>by cases h
 | d+1,f,e,h=>by
  obtain⟨j,k,z⟩:=yM h; have G:=yB (tx d) aN [44,32] e.f3 (fun a g=>by have:=vY d f a (k a g); simp only[z27,z31]; omega)
  have A:=yB (txc d) bM [59,32] e.f4 (fun c B=>by
   have a1:=vY d true c.p (z c B).1; have a2:=vY d false c.x (z c B).2; have a3:=iG c; simp only[txc,z21,z27,z31]; omega)
  have D:=yB (tx d) aN [44,32] (e.f3.take (e.f3.length - 1)) (fun a g=>by have:=vY d f a (k a (z88 g)); simp only[z27,z31]; omega)
  have H:=sV aN e.f3 (e.f3.length - 1); have I:=wE_d e; have mem: ∀i,i<e.f3.length→(tx d (e.f3.getD i zE)).length+20≤40*aN (e.f3.getD i zE)∧aN (e.f3.getD i zE)<dl aN e.f3:=fun i o=>by
   have g:e.f3[i]? =some e.f3[i]:=z13 o
   rw[Cg g]; exact⟨vY d f _ (k _ (z93 o)),jK aN (z93 o)⟩
  unfold tx; by_cases k1:e.f0=1
  ·rw[z15 k1,z18]
   have:=NS (j.k1 k1).1 (j.k1 k1).2; omega
  rw[z9 k1,z16]; by_cases s:e.f0=2
  ·rw[z15 s,z18]; omega
  rw[z9 s,z16]; by_cases t:e.f0=3
  ·rw[z15 t,z18]; omega
  rw[z9 t,z16]; by_cases u:e.f0=4
  ·rw[z15 u,z18]
   simp only[z21,z27,z31]; omega
  rw[z9 u,z16]; by_cases v:e.f0=5
  ·rw[z15 v,z18]
   simp only[z21,z27,z31]; omega
  rw[z9 v,z16]; by_cases k6:e.f0=6
  ·rw[z15 k6,z18]
   have q:=j.k6 k6; have m:=mem (e.f3.length - 1) (by omega)
   have E:dl aN (e.f3.take (e.f3.length - 1))+1+aN (e.f3.getD (e.f3.length - 1) zE)=dl aN e.f3:=by
    have g:e.f3[e.f3.length - 1]? =some e.f3[e.f3.length - 1]:=z13 (by omega)
    have y:=nP g; rw[show e.f3.length - 1+1=e.f3.length by omega,z83]at y
    rw[Cg g]; have: ∀(l:List aA) a,dl aN (l++[a])=dl aN l+1+aN a:=fun l a=>by
     induction l with
     | nil=>simp only[z77,dl]; omega
     | cons b l ih=>simp only[z62,dl,ih]; omega
    have C:=this (e.f3.take (e.f3.length - 1)) (e.f3[e.f3.length - 1]'(by omega))
    rw[y]at C; omega
   simp only[z21,z27,z31]; omega
  rw[z9 k6,z16]; by_cases k7:e.f0=7
  ·rw[z15 k7,z18]
   have q:=j.k7 k7; have F:=mem 0 (by omega)
   have J:=mem 1 (by omega)
   have E:aN (e.f3.getD 0 zE)+aN (e.f3.getD 1 zE)+3≤dl aN e.f3:=by
    match hl:e.f3 with
    | []=>rw[hl]at q; cases q
    | [a]=>rw[hl]at q; cases q
    | a::b::r=>
     have:=eF aN r; show aN a+aN b+3≤dl aN (a::b::r); simp only[dl]; omega
   simp only[z21,z27,z31]; omega
  rw[z9 k7,z16]; by_cases w:e.f0=8
  ·rw[z15 w,z18]
   simp only[z21,z27,z31]; omega
  rw[z9 w,z16]; have q:=j.k9 k1 s t u v k6 k7 w; have F:=mem 0 (by omega)
  have A:(Lib.join (e.f4.map fun c=>(tx d c.p++[32,45,62,32])++tx d c.x) [59,32]).length+40≤40*dl bM e.f4:=A
  simp only[z21,z27,z31]; omega
theorem Lt{n:Nat}{xs:List (List UInt8)}{a:List UInt8}(h1:xs.length≤140737488355328)(b:(Lib.join xs a).length≤140737488355328):eQ n xs a=some (Lib.join xs a):=by
 unfold eQ; rw[z15 h1,z15 b]; rfl
theorem Oa{α:Type}{f:α→List UInt8}{l:List α}{i:Nat}{a:α}(h:l[i]? =some a)(c:l.length≤1099511627776):kG 16 ((l.take i).map f) [f a]=some ((l.take (i+1)).map f):=by
 have b:=bV h; rw[uE (by simp only[z61,z56,z26]; omega) (by simp only[z61,z56,z26,maxLen]; omega), ←nP h,List.map_append]; rfl
theorem LA{d:Nat}{b:Bool}{l:List aA}(h: ∀a∈l,xok d b a=true)(i:Nat):(Lib.join ((l.take i).map (tx d)) [44,32]).length+40≤40*dl aN l:=by
 have h1:=yB (tx d) aN [44,32] (l.take i) (fun a c=>by have:=vY d b a (h a (z88 c)); simp only[z27,z31]; omega)
 have e:=sV aN l i; omega
theorem LB{d:Nat}{l:List aB}(h: ∀c∈l,xok d true c.p=true∧xok d false c.x=true)(i:Nat):(Lib.join ((l.take i).map (txc d)) [59,32]).length+40≤40*dl bM l:=by
 have h1:=yB (txc d) bM [59,32] (l.take i) (fun c a=>by
  have a1:=vY d true c.p (h c (z88 a)).1; have a2:=vY d false c.x (h c (z88 a)).2; have a3:=iG c; simp only[txc,z21,z27,z31]; omega)
 have b:=sV bM l i; omega
theorem wlast{α:Type}{l:List α}(h:0<l.length)(a:l.length≤1099511627776):IntKind.wrap .i64 ((l.length:Int) - 1)=((l.length - 1:Nat):Int):=by
 rw[wrap_i64 (by omega) (by omega)]; omega
theorem tQ: ∀(n:Nat),n≤1099511627776→(∀(d:Nat) (f:Bool) (e:aA),xok d f e=true→aN e+30<n→bJ n e.f0 e.f1 e.f2 e.f3 e.f4=some (tx d e))∧
  (∀(d:Nat) (f:Bool) (l:List aA),(∀a∈l,xok d f a=true)→dl aN l+30<n→gF n l=some (Lib.join (l.map (tx d)) [44,32]))
 | 0,_=>⟨fun d f e h F=>by omega,fun d f l h F=>by omega⟩
 | n+1,hn=>by
  obtain⟨k,m⟩:=tQ n (by omega)
  refine⟨fun d f e h F=> ?_,fun d f l h F=> ?_⟩
  ·rw[qK]
   cases d with
   | zero=>cases h
   | succ d=>
    obtain⟨A,w,y⟩:=yM h; have hE:=wE_d e; have g:=vY (d+1) f e h; have R:=eF aN e.f3; have Z:=eF bM e.f4; have o: ∀i,i<e.f3.length→ ∃a,e.f3[i]? =some a∧bJ n a.f0 a.f1 a.f2 a.f3 a.f4=some (tx d a):=fun i t=>by
     have j:e.f3[i]? =some e.f3[i]:=z13 t
     have N:=jK aN (z93 t); exact⟨_,j,k d f _ (w _ (z93 t)) (by omega)⟩
    unfold fZ; unfold tx at g ⊢; by_cases B:e.f0=1
    ·simp only[z15 B,z18]
     have:iL n e.f1=some (Lib.itoa e.f1):=by
      have:=A.k1 B; unfold iL; rw[z15 (by omega),z15 (by omega)]; rfl
     rw[this]; rfl
    simp only[z9 B,z16]at g ⊢; by_cases H:e.f0=2
    ·simp only[z15 H,z18]
    simp only[z9 H,z16]at g ⊢; by_cases I:e.f0=3
    ·simp only[z15 I,z18]
    simp only[z9 I,z16]at g ⊢; by_cases J:e.f0=4
    ·simp only[z15 J,z18]at g ⊢
     simp only[z21,z27,z31]at g; simp (disch:=(simp only[z21,z27,z31]; omega)) only[m d f e.f3 w (by omega),z10,ckA]
    simp only[z9 J,z16]at g ⊢; by_cases K:e.f0=5
    ·simp only[z15 K,z18]at g ⊢
     simp only[z21,z27,z31]at g; simp (disch:=(simp only[z21,z27,z31]; omega)) only[m d f e.f3 w (by omega),z10,ckA]
    simp only[z9 K,z16]at g ⊢; by_cases C:e.f0=6
    ·simp only[z15 C,z18]at g ⊢
     have q:=A.k6 C; obtain⟨a,j,v⟩:=o (e.f3.length - 1) (by omega)
     have S:sub e.f3 none (some ((e.f3.length - 1:Nat):Int))=some (e.f3.take (e.f3.length - 1)):=Lg (by omega)
     have ht:=sV aN e.f3 (e.f3.length - 1); have E:=m d f (e.f3.take (e.f3.length - 1)) (fun x T=>w x (z88 T)) (by omega)
     rw[Cg j]at g ⊢; simp only[z21,z27,z31]at g; simp (disch:=(simp only[z21,z27,z31]; omega)) only[wlast (show 0<e.f3.length by omega) (by omega),S,fF,j,v,E,z10,ckA]
    simp only[z9 C,z16]at g ⊢; by_cases D:e.f0=7
    ·simp only[z15 D,z18]at g ⊢
     have q:=A.k7 D; obtain⟨a,j,v⟩:=o 0 (by omega)
     obtain⟨b,M,P⟩:=o 1 (by omega)
     have G:ix e.f3 (0:Int)=some a:=(fF e.f3 0).trans j; have U:ix e.f3 (1:Int)=some b:=(fF e.f3 1).trans M; rw[Cg j,Cg M]at g ⊢; simp only[z21,z27,z31]at g; simp (disch:=(simp only[z21,z27,z31]; omega)) only[G,U,v,P,z10,ckA]
    simp only[z9 D,z16]at g ⊢; by_cases L:e.f0=8
    ·simp only[z15 L,z18]at g ⊢
     simp only[z21,z27,z31]at g; simp (disch:=(simp only[z21,z27,z31]; omega)) only[m d f e.f3 w (by omega),z10,ckA]
    simp only[z9 L,z16]at g ⊢; have q:=A.k9 B H I J K C D L; obtain⟨a,j,v⟩:=o 0 (by omega)
    have G:ix e.f3 (0:Int)=some a:=(fF e.f3 0).trans j; rw[Cg j]at g ⊢; have u:=sP (body:=dZ n (bJ n) e.f4) (fun i=>((e.f4.take i).map (txc d),(i:Int))) (len:=e.f4.length) (r:=(e.f4.map (txc d),(e.f4.length:Int),false)) (fun i t=>by
     obtain⟨c,z⟩: ∃c,e.f4[i]? =some c:=⟨_,z13 t⟩
     have s:=z35 z; have N:=jK bM s; have he:=iG c; have X:bJ n c.f0 c.f1 c.f2 c.f3 c.f4=some (tx d c.p):=k d true c.p (y c s).1 (by omega)
     have Y:bJ n c.f5 c.f6 c.f7 c.f8 c.f9=some (tx d c.x):=k d false c.x (y c s).2 (by omega)
     have t1:=vY d true c.p (y c s).1; have t2:=vY d false c.x (y c s).2; have O:kG 16 ((e.f4.take i).map (txc d)) [(tx d c.p++[32,45,62,32])++tx d c.x]=some ((e.f4.take (i+1)).map (txc d)):=Oa z (by omega)
     simp (disch:=(simp only[z21,z27,z31]; omega)) only[dZ,fU z,z18,fF,z,z10,X,Y,ckA,O,bX (show i<4611686018427387904 by omega)]) (by simp only[dZ,bI,z16,z83]) (n:=n) (by omega)
    simp only[ME,z89]at u; rw[show((0:Nat):Int)=0 from rfl]at u; have V:=LB y e.f4.length; rw[z83]at V; have E:eQ n (e.f4.map (txc d)) [59,32]=some (Lib.join (e.f4.map (txc d)) [59,32]):=Lt (by rw[z61]; omega) (by omega)
    have Q:(e.f4.map fun c=>(tx d c.p++[32,45,62,32])++tx d c.x)=e.f4.map (txc d):=rfl
    rw[Q]at g ⊢; simp only[z21,z27,z31]at g; rw[u]; simp (disch:=(simp only[z21,z27,z31]; omega)) only[G,v,E,z10,ckA]
  ·rw[sG]
   unfold iK; have R:=eF aN l; have u:=sP (body:=fD n (bJ n) l) (fun i=>((l.take i).map (tx d),(i:Int))) (len:=l.length) (r:=(l.map (tx d),(l.length:Int),false)) (fun i t=>by
    obtain⟨a,j⟩: ∃a,l[i]? =some a:=⟨_,z13 t⟩
    have s:=z35 j; have N:=jK aN s; simp only[fD,fU j,z18,fF,j,z10,k d f a (h a s) (by omega),Oa j (show l.length≤1099511627776 by omega),bX (show i<4611686018427387904 by omega)]) (by simp only[fD,bI,z16,z83]) (n:=n) (by omega)
   simp only[ME,z89]at u; rw[show((0:Nat):Int)=0 from rfl]at u; have W:=LA h l.length; rw[z83]at W; rw[u]; simp only[z10,Lt (show(l.map (tx d)).length≤140737488355328 by rw[z61]; omega) (show(Lib.join (l.map (tx d)) [44,32]).length≤140737488355328 by omega)]
def qN(c:UInt8):Bool:=decide (c=44)||(decide (c=125)||(decide (c=93)||(decide (c=41)||(decide (c=32)||decide (c=59)))))
theorem zJ{c:UInt8}(h:qN c=true):c=44∨c=125∨c=93∨c=41∨c=32∨c=59:=by
 simpa only[qN,z38,z22]using h
def cls(c:UInt8):Nat:=bif xU c.toNat then 1 else bif jI c.toNat then 2 else bif iE c.toNat then 3 else bif decide (c=123)then 4 else bif decide (c=91)then 5 else bif decide (c=40)then 6 else 0
theorem JA{c:UInt8}(h:qN c=true):jX c=false:=by
 rcases zJ h with rfl | rfl | rfl | rfl | rfl | rfl<;>decide
theorem GK{c:UInt8}(h:qN c=true):cls c=0:=by
 rcases zJ h with rfl | rfl | rfl | rfl | rfl | rfl<;>decide
def Stop(r:List UInt8):Prop:=r=[]∨ ∃c r',r=c::r'∧qN c=true
theorem Stop.cons{c:UInt8}{r:List UInt8}(h:qN c=true):Stop (c::r):= .inr ⟨c,r,rfl,h⟩
def NW(r:List UInt8):Prop:= ∀c r',r=c::r'→jX c=false
theorem Stop.nw{r:List UInt8}(h:Stop r):NW r:=fun c r' e=>by
 rcases h with h | ⟨c',r2,h,hs⟩
 ·rw[h]at e; cases e
 ·rw[h]at e; cases e; exact JA hs
theorem NW.cons{c:UInt8}{r:List UInt8}(h:jX c=false):NW (c::r):=fun c' r' e=>by cases e; exact h
theorem lF: ∀(s t r u:List UInt8),(∀c∈s,jX c=true)→(∀c∈t,jX c=true)→NW r→NW u→s++r=t++u→s=t∧r=u
 | [],[],r,u,_,_,_,_,h=>⟨rfl,h⟩
 | [],y::t,r,u,_,ht,hr,_,h=>by
  have:=hr y (t++u) h; rw[ht y z25]at this; cases this
 | x::s,[],r,u,hs,_,_,hu,h=>by
  have:=hu x (s++r) h.symm; rw[hs x z25]at this; cases this
 | x::s,y::t,r,u,hs,ht,hr,hu,h=>by
  simp only[z62,z64]at h; obtain⟨rfl,h⟩:=h; obtain⟨rfl,h2⟩:=lF s t r u (fun c hc=>hs c (z24 _ hc)) (fun c hc=>ht c (z24 _ hc)) hr hu h
  exact⟨rfl,h2⟩
theorem Ik{a b:Nat}(ha:a<10)(hb:b<10)(h:UInt8.ofNat (48+a)=UInt8.ofNat (48+b)):a=b:=by
 have:=congrArg UInt8.toNat h; simp only[UInt8.toNat_ofNat']at this; omega
theorem FF{a:Nat}(h:a<10):cls (UInt8.ofNat (48+a))=1∧jX (UInt8.ofNat (48+a))=true:=by
 have:a=0∨a=1∨a=2∨a=3∨a=4∨a=5∨a=6∨a=7∨a=8∨a=9:=by omega
 rcases this with rfl | rfl | rfl | rfl | rfl | rfl | rfl | rfl | rfl | rfl<;>decide
theorem Lv(v:Nat):Lib.decDigits v≠[]:=by
 by_cases h:v<10
 ·rw[Lib.decDigits_one h]; simp
 ·rw[Lib.decDigits,KK h]; simp
theorem Nd(u:Nat): ∀v,Lib.decDigits u=Lib.decDigits v→u=v:=by
 induction u using Nat.strongRecOn with
 | _ u ih=>
  intro v h; by_cases hu:u<10
  ·rw[Lib.decDigits_one hu]at h
   by_cases hv:v<10
   ·rw[Lib.decDigits_one hv]at h
    exact Ik hu hv (z60 h).1
   ·rw[Lib.decDigits,KK hv]at h
    have h2:=congrArg List.length h; have h3:=List.length_pos_iff.2 (Lv (v / 10)); simp only[z21,z26]at h2; omega
  ·by_cases hv:v<10
   ·rw[Lib.decDigits_one hv,Lib.decDigits,KK hu]at h
    have h2:=congrArg List.length h; have h3:=List.length_pos_iff.2 (Lv (u / 10)); simp only[z21,z26]at h2; omega
   ·rw[Lib.decDigits,KK hu]at h
    conv at h=>rhs; rw[Lib.decDigits,KK hv]
    obtain⟨h1,h2⟩:=List.append_inj' h rfl; have e1:=ih (u / 10) (by omega) (v / 10) h1
    have e2:=Ik (Oc u (by omega)) (Oc v (by omega)) (z60 h2).1
    omega
theorem CX(v:Nat):(∀c∈Lib.decDigits v,jX c=true)∧ ∃c r,Lib.decDigits v=c::r∧cls c=1:=by
 induction v using Nat.strongRecOn with
 | _ v ih=>
  by_cases h:v<10
  ·rw[Lib.decDigits_one h]
   exact⟨fun c hc=>by rw[z68.1 hc]; exact(FF h).2,_,_,rfl,(FF h).1⟩
  ·rw[Lib.decDigits,KK h]
   obtain⟨h1,c,r,h2,h3⟩:=ih (v / 10) (by omega)
   refine⟨fun c hc=> ?_,c,r++[_],by rw[h2]; rfl,h3⟩
   rcases MF.1 hc with hc | hc
   ·exact h1 c hc
   ·rw[z68.1 hc]; exact(FF (Oc v (by omega))).2
theorem cX{s:List UInt8}(h:gV s=true):(∀c∈s,jX c=true)∧(∃c r,s=c::r∧cls c=2)∧s≠[99,97,115,101]:=by
 unfold gV uZ at h; simp only[z7,z22,z37,z36]at h; obtain⟨⟨h1,h2,h3⟩,h4,_⟩:=h; refine⟨fun c hc=> ?_, ?_,h4⟩
 ·obtain⟨j,hj⟩:=z160.1 hc
  have:=(xC _ _ _).1 h1 j c hj; unfold Ab at this; unfold jX; simp only[z38,z7]at this; rcases this with h | ⟨_,h | h⟩
  ·rw[h]; rfl
  ·rw[h]; simp
  ·have:iE (c.toNat:Int)=true:=by unfold iE; rw[h]; simp
   rw[this]; simp
 ·cases s with
  | nil=>simp at h2
  | cons c r=>
   refine⟨c,r,rfl, ?_⟩
   simp only[sX,z7]at h1; have:=h1.1; unfold Ab at this; simp only[decide_true,z46,z161,z162]at this; unfold cls; rw[this]; have hf:xU (c.toNat:Int)=false:=by
    unfold jI at this; simp only[z7,z22]at this; unfold xU; rw[z9 (show ¬ ((c.toNat:Int)≤57)by omega),z71]
   rw[hf]; rfl
theorem CD{s:List UInt8}(h:tS s=true):(∀c∈s,jX c=true)∧ ∃c r,s=c::r∧cls c=3:=by
 unfold tS at h; simp only[z7,z22]at h; obtain⟨h1,h2,h3⟩:=h; refine⟨fun c hc=> ?_, ?_⟩
 ·obtain⟨j,hj⟩:=z160.1 hc
  have:=(xC _ _ _).1 h1 j c hj; unfold GA at this; unfold jX; simp only[z38,z7]at this; rcases this with h | ⟨_,h | h⟩<;>rw[h]<;>simp
 ·cases s with
  | nil=>simp at h2
  | cons c r=>
   refine⟨c,r,rfl, ?_⟩
   simp only[sX,z7]at h1; have:=h1.1; unfold GA at this; simp only[decide_true,z46,z161,z162]at this; have hx:((c.toNat:Int)≤90∧65≤(c.toNat:Int))∨(c.toNat:Int)=95:=by
    unfold iE at this; simp only[z38,z7,z22]at this; omega
   have hf:xU (c.toNat:Int)=false:=by
    unfold xU; rw[z9 (show ¬ ((c.toNat:Int)≤57)by omega),z71]
   have hm:jI (c.toNat:Int)=false:=by
    unfold jI; rw[z9 (show ¬ (97≤(c.toNat:Int))by omega),z161]
   unfold cls; rw[hf,hm,this]; rfl
theorem PT{f g X Y:List UInt8}(hf:DW f=true)(hg:DW g=true)(h:f++32::X=g++32::Y):f=g∧X=Y:=by
 unfold DW at hf hg; simp only[z38,z22]at hf hg; rcases hf with rfl | rfl | rfl | rfl | rfl<;>rcases hg with rfl | rfl | rfl | rfl | rfl<;>simp at h ⊢ <;>exact h
section
variable {α:Type} {f:α→List UInt8} {ok:α→Prop}
theorem Dh{sb:UInt8}{sep:List UInt8}(hsb:qN sb=true)(H: ∀a b r s,ok a→ok b→Stop r→Stop s→f a++r=f b++s→a=b∧r=s){c c':UInt8}{u v:List UInt8}(hc:qN c=true∧c≠sb)(hc':qN c'=true∧c'≠sb):
  ∀(la lb:List α),(∀a∈la,ok a)→(∀b∈lb,ok b)→Lib.joinTail (sb::sep) (la.map f)++(c::u)=Lib.joinTail (sb::sep) (lb.map f)++(c'::v)→la=lb∧c::u=c'::v
 | [],[],_,_,h=>⟨rfl,h⟩
 | [],b::lb,_,_,h=>by
  simp only[Lib.joinTail,z89,List.flatten_nil,z77,z41,z98,z62,z64]at h; exact absurd h.1 hc.2
 | a::la,[],_,_,h=>by
  simp only[Lib.joinTail,z89,List.flatten_nil,z77,z41,z98,z62,z64]at h; exact absurd h.1.symm hc'.2
 | a::la,b::lb,ha,hb,h=>by
  have st: ∀(l:List α) {c:UInt8} {u:List UInt8},qN c=true→Stop (Lib.joinTail (sb::sep) (l.map f)++(c::u)):=fun l c u hc=>by
   cases l with
   | nil=>exact Stop.cons hc
   | cons x l=>exact Stop.cons hsb
  have h:sb::(sep++(f a++(Lib.joinTail (sb::sep) (la.map f)++(c::u))))=sb::(sep++(f b++(Lib.joinTail (sb::sep) (lb.map f)++(c'::v)))):=by
   simpa only[Lib.joinTail,z41,z98,z62,z85]using h
  have h2:=z152 (z60 h).2; obtain⟨rfl,h3⟩:=H a b _ _ (ha a z25) (hb b z25) (st la hc.1) (st lb hc'.1) h2; obtain⟨rfl,h4⟩:=Dh hsb H hc hc' la lb (fun x hx=>ha x (z24 _ hx)) (fun x hx=>hb x (z24 _ hx)) h3
  exact⟨rfl,h4⟩
theorem oB{sb:UInt8}{sep:List UInt8}(hsb:qN sb=true)(H: ∀a b r s,ok a→ok b→Stop r→Stop s→f a++r=f b++s→a=b∧r=s)(hh: ∀a,ok a→ ∃c r,f a=c::r∧cls c≠0){c c':UInt8}{u v:List UInt8}(hc:qN c=true∧c≠sb)(hc':qN c'=true∧c'≠sb)
  {la lb:List α}(ha: ∀a∈la,ok a)(hb: ∀b∈lb,ok b)(h:Lib.join (la.map f) (sb::sep)++(c::u)=Lib.join (lb.map f) (sb::sep)++(c'::v)):la=lb∧c::u=c'::v:=by
 have st: ∀(l:List α) {c:UInt8} {u:List UInt8},qN c=true→Stop (Lib.joinTail (sb::sep) (l.map f)++(c::u)):=fun l c u hc=>by
  cases l with
  | nil=>exact Stop.cons hc
  | cons x l=>exact Stop.cons hsb
 cases la with
 | nil=>
  cases lb with
  | nil=>exact⟨rfl,h⟩
  | cons b lb=>
   obtain⟨x,r,e,hx⟩:=hh b (hb b z25); rw[z41,Lib.join_cons,e]at h; simp only[z89,Lib.join_nil,z77,z62,z64]at h; rw[←h.1]at hx; exact absurd (GK hc.1) hx
 | cons a la=>
  cases lb with
  | nil=>
   obtain⟨x,r,e,hx⟩:=hh a (ha a z25); rw[z41,Lib.join_cons,e]at h; simp only[z89,Lib.join_nil,z77,z62,z64]at h; rw[h.1]at hx; exact absurd (GK hc'.1) hx
  | cons b lb=>
   rw[z41,z41,Lib.join_cons,Lib.join_cons,z85,z85]at h; obtain⟨rfl,h3⟩:=H a b _ _ (ha a z25) (hb b z25) (st la hc.1) (st lb hc'.1) h; obtain⟨rfl,h4⟩:=Dh hsb H hc hc' la lb (fun x hx=>ha x (z24 _ hx)) (fun x hx=>hb x (z24 _ hx)) h3
   exact⟨rfl,h4⟩
end
structure Form (e:aA):Prop where
 c:e.f0≠9→e.f4=[]
 k1:e.f0=1→e.f2=[]∧e.f3=[]∧0≤e.f1
 k2:e.f0=2→e.f1=0∧gV e.f2=true∧e.f3=[]
 k3:e.f0=3→e.f1=0∧tS e.f2=true∧e.f3=[]
 k4:e.f0=4→e.f1=0∧e.f2=[]
 k5:e.f0=5→e.f1=0∧e.f2=[]
 k6:e.f0=6→e.f1=0∧e.f2=[]∧2≤e.f3.length
 k7:e.f0=7→e.f1=0∧DW e.f2=true∧e.f3.length=2
 k8:e.f0=8→e.f1=0∧gV e.f2=true
 k9:e.f0=9→e.f1=0∧e.f2=[]∧e.f3.length=1
 k:e.f0=1∨(e.f0=2∨e.f0=8∨e.f0=9)∨e.f0=3∨e.f0=4∨(e.f0=5∨e.f0=6)∨e.f0=7
theorem FP{α:Type}{l:List α}(h:(l.length:Int)=0):l=[]:=z73.1 (by omega)
theorem KV{d:Nat}{f:Bool}{e:aA}(h:xok (d+1) f e=true):Form e:=by
 rw[sN,z7]at h; have a:=h.1; have i:e.f0≠9→e.f4=[]:=fun b=>by
  unfold shp at a; rw[z9 b]at a; simp only[z16,z7,z37,z36]at a; exact FP (by omega)
 have h0:vQ e.f0 e.f1 e.f2 e.f3.length=true:=by
  unfold shp at a; cases b:decide (e.f0=9)with
  | true=>rw[b]at a; simp only[z18,z7]at a; exact a.1.2
  | false=>rw[b]at a; simp only[z16,z7]at a; exact a.2.1
 clear a h; unfold vQ at h0; refine⟨i,fun k=> ?_,fun k=> ?_,fun k=> ?_,fun k=> ?_,fun k=> ?_,fun k=> ?_,fun k=> ?_,fun k=> ?_,fun k=> ?_, ?_⟩
 ·rw[k]at h0
  have h0:((decide (0≤e.f1)&&decide (e.f1≤1000000000000))&&(decide (e.f2=[])&&decide ((e.f3.length:Int)=0)))=true:=h0; simp only[z7,z22]at h0; exact⟨h0.2.1,FP h0.2.2,h0.1.1⟩
 ·rw[k]at h0
  have h0:(decide (e.f1=0)&&(gV e.f2&&decide ((e.f3.length:Int)=0)))=true:=h0; simp only[z7,z22]at h0; exact⟨h0.1,h0.2.1,FP h0.2.2⟩
 ·rw[k]at h0
  have h0:(decide (e.f1=0)&&(tS e.f2&&decide ((e.f3.length:Int)=0)))=true:=h0; simp only[z7,z22]at h0; exact⟨h0.1,h0.2.1,FP h0.2.2⟩
 ·rw[k]at h0
  have h0:(decide (e.f1=0)&&(decide (e.f2=[])&&decide ((e.f3.length:Int)≤20)))=true:=h0; simp only[z7,z22]at h0; exact⟨h0.1,h0.2.1⟩
 ·rw[k]at h0
  have h0:(decide (e.f1=0)&&(decide (e.f2=[])&&decide ((e.f3.length:Int)≤20)))=true:=h0; simp only[z7,z22]at h0; exact⟨h0.1,h0.2.1⟩
 ·rw[k]at h0
  have h0:(decide (e.f1=0)&&(decide (e.f2=[])&&(decide (2≤(e.f3.length:Int))&&decide ((e.f3.length:Int)≤6))))=true:=h0; simp only[z7,z22]at h0; exact⟨h0.1,h0.2.1,by omega⟩
 ·rw[k]at h0
  have h0:(decide (e.f1=0)&&(DW e.f2&&decide ((e.f3.length:Int)=2)))=true:=h0; simp only[z7,z22]at h0; exact⟨h0.1,h0.2.1,by omega⟩
 ·rw[k]at h0
  have h0:(decide (e.f1=0)&&(gV e.f2&&decide ((e.f3.length:Int)≤4)))=true:=h0; simp only[z7,z22]at h0; exact⟨h0.1,h0.2.1⟩
 ·rw[k]at h0
  have h0:(decide (e.f1=0)&&(decide (e.f2=[])&&decide ((e.f3.length:Int)=1)))=true:=h0; simp only[z7,z22]at h0; exact⟨h0.1,h0.2.1,by omega⟩
 ·by_cases g:e.f0=1
  ·exact .inl g
  by_cases j:e.f0=2
  ·omega
  by_cases l:e.f0=3
  ·omega
  by_cases m:e.f0=4
  ·omega
  by_cases o:e.f0=5
  ·omega
  by_cases p:e.f0=6
  ·omega
  by_cases q:e.f0=7
  ·omega
  by_cases r:e.f0=8
  ·omega
  by_cases s:e.f0=9
  ·omega
  rw[z9 g,z9 j,z9 l,z9 m,z9 o,z9 p,z9 q,z9 r,z9 s]at h0; cases h0
def okX(d:Nat)(e:aA):Prop:= ∃p,xok d p e=true
def okC(d:Nat)(c:aB):Prop:=okX d c.p∧okX d c.x
theorem CM{d:Nat}{e:aA}(h:okX (d+1) e):Form e∧(∀a∈e.f3,okX d a)∧ ∀c∈e.f4,okC d c:=by
 obtain⟨p,h⟩:=h; obtain⟨_,g,b⟩:=yM h; exact⟨KV h,fun a i=>⟨p,g a i⟩,fun c f=>⟨⟨true,(b c f).1⟩,⟨false,(b c f).2⟩⟩⟩
section
variable {d:Nat} {e:aA}
theorem tx1(h:e.f0=1):tx (d+1) e=Lib.itoa e.f1:=by rw[tx,h]; rfl
theorem tx2(h:e.f0=2):tx (d+1) e=e.f2:=by rw[tx,h]; rfl
theorem tx3(h:e.f0=3):tx (d+1) e=e.f2:=by rw[tx,h]; rfl
theorem tx4(h:e.f0=4)(r:List UInt8):tx (d+1) e++r=123::(Lib.join (e.f3.map (tx d)) [44,32]++125::r):=by
 have:tx (d+1) e=([123]++Lib.join (e.f3.map (tx d)) [44,32])++[125]:=by rw[tx,h]; rfl
 rw[this]; simp
theorem tx5(h:e.f0=5)(r:List UInt8):tx (d+1) e++r=91::(Lib.join (e.f3.map (tx d)) [44,32]++93::r):=by
 have:tx (d+1) e=([91]++Lib.join (e.f3.map (tx d)) [44,32])++[93]:=by rw[tx,h]; rfl
 rw[this]; simp
theorem tx6(h:e.f0=6)(r:List UInt8):tx (d+1) e++r=91::(Lib.join ((e.f3.take (e.f3.length - 1)).map (tx d)) [44,32]++32::124::32::(tx d (e.f3.getD (e.f3.length - 1) zE)++93::r)):=by
 have:tx (d+1) e=((([91]++Lib.join ((e.f3.take (e.f3.length - 1)).map (tx d)) [44,32])++[32,124,32])++tx d (e.f3.getD (e.f3.length - 1) zE))++[93]:=by rw[tx,h]; rfl
 rw[this]; simp
theorem tx7(h:e.f0=7){x y:aA}(a:e.f3=[x,y])(r:List UInt8):tx (d+1) e++r=40::(tx d x++32::(e.f2++32::(tx d y++41::r))):=by
 have:tx (d+1) e=((((([40]++tx d (e.f3.getD 0 zE))++[32])++e.f2)++[32])++tx d (e.f3.getD 1 zE))++[41]:=by rw[tx,h]; rfl
 rw[this,a]; simp
theorem tx8(h:e.f0=8)(r:List UInt8):tx (d+1) e++r=e.f2++40::(Lib.join (e.f3.map (tx d)) [44,32]++41::r):=by
 have:tx (d+1) e=((e.f2++[40])++Lib.join (e.f3.map (tx d)) [44,32])++[41]:=by rw[tx,h]; rfl
 rw[this]; simp
theorem tx9(h:e.f0=9){x:aA}(a:e.f3=[x])(r:List UInt8):tx (d+1) e++r=[99,97,115,101]++32::(tx d x++32::111::102::32::(Lib.join (e.f4.map (txc d)) [59,32]++32::101::110::100::r)):=by
 have:tx (d+1) e=((([99,97,115,101,32]++tx d (e.f3.getD 0 zE))++[32,111,102,32])++Lib.join (e.f4.map (txc d)) [59,32])++[32,101,110,100]:=by rw[tx,h]; rfl
 rw[this,a]; simp
end
theorem wP{α:Type}{l:List α}(h:l.length=1): ∃x,l=[x]:=by
 match l,h with
 | [x],_=>exact⟨x,rfl⟩
theorem Hu{α:Type}{l:List α}(h:l.length=2): ∃x y,l=[x,y]:=by
 match l,h with
 | [x,y],_=>exact⟨x,y,rfl⟩
def Hd(e:aA)(c:UInt8):Prop:=(e.f0=1∧cls c=1)∨((e.f0=2∨e.f0=8∨e.f0=9)∧cls c=2)∨(e.f0=3∧cls c=3)∨(e.f0=4∧cls c=4)∨((e.f0=5∨e.f0=6)∧cls c=5)∨(e.f0=7∧cls c=6)
theorem Bm: ∀ {d:Nat} {e:aA},okX d e→ ∃c r,tx d e=c::r∧Hd e c
 | 0,e,⟨_,h⟩=>by cases h
 | d+1,e,h=>by
  obtain⟨f,_,_⟩:=CM h; rcases f.k with k | (k | k | k) | k | k | (k | k) | k
  ·obtain⟨_,_,hn⟩:=f.k1 k
   obtain⟨m,i⟩: ∃m:Nat,e.f1=m:=⟨e.f1.toNat,by omega⟩
   obtain⟨_,c,r,a,b⟩:=CX m; exact⟨c,r,by rw[tx1 k,i,Lib.itoa_nonneg,a], .inl ⟨k,b⟩⟩
  ·obtain⟨_,⟨c,r,a,b⟩,_⟩:=cX (f.k2 k).2.1
   exact⟨c,r,by rw[tx2 k,a], .inr (.inl ⟨.inl k,b⟩)⟩
  ·obtain⟨_,⟨c,r,a,b⟩,_⟩:=cX (f.k8 k).2
   have:=tx8 (d:=d) k []; rw[z78,a]at this; exact⟨c,_,this, .inr (.inl ⟨.inr (.inl k),b⟩)⟩
  ·obtain⟨x,g⟩:=wP (f.k9 k).2.2
   have:=tx9 (d:=d) k g []; rw[z78]at this; exact⟨_,_,this, .inr (.inl ⟨.inr (.inr k),by decide⟩)⟩
  ·obtain⟨_,c,r,a,b⟩:=CD (f.k3 k).2.1
   exact⟨c,r,by rw[tx3 k,a], .inr (.inr (.inl ⟨k,b⟩))⟩
  ·have:=tx4 (d:=d) k []
   rw[z78]at this; exact⟨_,_,this, .inr (.inr (.inr (.inl ⟨k,by decide⟩)))⟩
  ·have:=tx5 (d:=d) k []
   rw[z78]at this; exact⟨_,_,this, .inr (.inr (.inr (.inr (.inl ⟨.inl k,by decide⟩))))⟩
  ·have:=tx6 (d:=d) k []
   rw[z78]at this; exact⟨_,_,this, .inr (.inr (.inr (.inr (.inl ⟨.inr k,by decide⟩))))⟩
  ·obtain⟨x,y,g⟩:=Hu (f.k7 k).2.2
   have:=tx7 (d:=d) k g []; rw[z78]at this; exact⟨_,_,this, .inr (.inr (.inr (.inr (.inr ⟨k,by decide⟩))))⟩
theorem Hd.ne{e:aA}{c:UInt8}(h:Hd e c):cls c≠0:=by
 rcases h with h | h | h | h | h | h<;>omega
theorem Ib{α:Type}{l:List α}{z:α}(h:0<l.length):l=l.take (l.length - 1)++[l.getD (l.length - 1) z]:=by
 have a:l[l.length - 1]? =some l[l.length - 1]:=z13 (by omega)
 rw[Cg a,nP a,show l.length - 1+1=l.length by omega,z83]
theorem Lf: ∀(d:Nat) (a b:aA) (r s:List UInt8),okX d a→okX d b→Stop r→Stop s→tx d a++r=tx d b++s→a=b∧r=s
 | 0,a,b,r,s,⟨_,h⟩,_,_,_,_=>by cases h
 | d+1,a,b,r,s,ha,hb,N,O,h=>by
  obtain⟨j,H,h4⟩:=CM ha; obtain⟨o,M,g4⟩:=CM hb; have I:=Lf d; have ihc: ∀(x y:aB) (r s:List UInt8),okC d x→okC d y→Stop r→Stop s→txc d x++r=txc d y++s→x=y∧r=s:=fun x y r s t J N O h=>by
   have h:tx d x.p++(32::45::62::32::(tx d x.x++r))=tx d y.p++(32::45::62::32::(tx d y.x++s)):=by
    simpa only[txc,z85,z62,z77]using h
   obtain⟨g,i⟩:=I _ _ _ _ t.1 J.1 (Stop.cons (by decide)) (Stop.cons (by decide)) h
   simp only[z64,Ci]at i; obtain⟨F,w⟩:=I _ _ _ _ t.2 J.2 N O i; exact⟨(vK x y).1 ⟨g,F⟩,w⟩
  have Q: ∀x,okX d x→ ∃c r,tx d x=c::r∧cls c≠0:=fun x t=>by
   obtain⟨c,r,g,i⟩:=Bm t; exact⟨c,r,g,i.ne⟩
  have hhc: ∀x,okC d x→ ∃c r,txc d x=c::r∧cls c≠0:=fun x t=>by
   obtain⟨c,r,g,i⟩:=Bm t.1; exact⟨c,_,by unfold txc; rw[g]; rfl,i.ne⟩
  obtain⟨c,ra,ea,Y⟩:=Bm ha; obtain⟨c',rb,eb,Z⟩:=Bm hb; have W:c=c':=by
   rw[ea,eb]at h; exact(z60 h).1
  subst W; clear ea eb; have B:a.f0=b.f0→a.f1=b.f1→a.f2=b.f2→a.f3=b.f3→a.f4=b.f4→a=b:=fun e0 g i F w=>(CV a b).1 ⟨e0,g,i,F,w⟩
  have f: ∀ {e:aA} {k:Int},e.f0=k→k≠9→e.f0≠9:=fun h V H=>V (h.symm.trans H)
  rcases Y with⟨k,q⟩ | ⟨k,q⟩ | ⟨k,q⟩ | ⟨k,q⟩ | ⟨k,q⟩ | ⟨k,q⟩<;>rcases Z with⟨m,R⟩ | ⟨m,R⟩ | ⟨m,R⟩ | ⟨m,R⟩ | ⟨m,R⟩ | ⟨m,R⟩<;>try (exfalso; omega)
  ·-- numbers
   obtain⟨C,K,x1⟩:=j.k1 k; obtain⟨D,L,E⟩:=o.k1 m; obtain⟨u,hu⟩: ∃u:Nat,a.f1=u:=⟨a.f1.toNat,by omega⟩
   obtain⟨v,hv⟩: ∃v:Nat,b.f1=v:=⟨b.f1.toNat,by omega⟩
   rw[tx1 k,tx1 m,hu,hv,Lib.itoa_nonneg,Lib.itoa_nonneg]at h; obtain⟨g,i⟩:=lF _ _ _ _ (CX u).1 (CX v).1 N.nw O.nw h; have:=Nd u v g; exact⟨B (k.trans m.symm) (by omega) (C.trans D.symm) (K.trans L.symm) ((j.c (f k (by decide))).trans (o.c (f m (by decide))).symm),i⟩
  ·-- words
   have A: ∀X:List UInt8,NW (40::X):=fun X=>NW.cons (by decide)
   have G: ∀X:List UInt8,NW (32::X):=fun X=>NW.cons (by decide)
   have S: ∀c∈([99,97,115,101]:List UInt8),jX c=true:=by decide
   have P: ∀ {r X:List UInt8},Stop r→r=40::X→False:=fun N e=>by
    rcases N with h | ⟨c,r',h,hc⟩
    ·rw[h]at e; cases e
    ·rw[h]at e; cases e; revert hc; decide
   rcases k with k | k | k<;>rcases m with m | m | m
   ·obtain⟨x1,C,K⟩:=j.k2 k
    obtain⟨E,D,L⟩:=o.k2 m; rw[tx2 k,tx2 m]at h; obtain⟨g,i⟩:=lF _ _ _ _ (cX C).1 (cX D).1 N.nw O.nw h; exact⟨B (k.trans m.symm) (x1.trans E.symm) g (K.trans L.symm) ((j.c (f k (by decide))).trans (o.c (f m (by decide))).symm),i⟩
   ·rw[tx2 k,tx8 m]at h
    obtain⟨_,i⟩:=lF _ _ _ _ (cX (j.k2 k).2.1).1 (cX (o.k8 m).2).1 N.nw (A _) h; exact(P N i).elim
   ·obtain⟨x,t⟩:=wP (o.k9 m).2.2
    rw[tx2 k,tx9 m t]at h; obtain⟨g,_⟩:=lF _ _ _ _ (cX (j.k2 k).2.1).1 S N.nw (G _) h; exact absurd g (cX (j.k2 k).2.1).2.2
   ·rw[tx8 k,tx2 m]at h
    obtain⟨_,i⟩:=lF _ _ _ _ (cX (j.k8 k).2).1 (cX (o.k2 m).2.1).1 (A _) O.nw h; exact(P O i.symm).elim
   ·obtain⟨x1,C⟩:=j.k8 k
    obtain⟨E,D⟩:=o.k8 m; rw[tx8 k,tx8 m]at h; obtain⟨g,i⟩:=lF _ _ _ _ (cX C).1 (cX D).1 (A _) (A _) h; obtain⟨F,w⟩:=oB (by decide) I Q ⟨by decide,by decide⟩ ⟨by decide,by decide⟩ H M (z60 i).2
    exact⟨B (k.trans m.symm) (x1.trans E.symm) g F ((j.c (f k (by decide))).trans (o.c (f m (by decide))).symm),(z60 w).2⟩
   ·obtain⟨x,t⟩:=wP (o.k9 m).2.2
    rw[tx8 k,tx9 m t]at h; obtain⟨g,_⟩:=lF _ _ _ _ (cX (j.k8 k).2).1 S (A _) (G _) h; exact absurd g (cX (j.k8 k).2).2.2
   ·obtain⟨x,t⟩:=wP (j.k9 k).2.2
    rw[tx9 k t,tx2 m]at h; obtain⟨g,_⟩:=lF _ _ _ _ S (cX (o.k2 m).2.1).1 (G _) O.nw h; exact absurd g.symm (cX (o.k2 m).2.1).2.2
   ·obtain⟨x,t⟩:=wP (j.k9 k).2.2
    rw[tx9 k t,tx8 m]at h; obtain⟨g,_⟩:=lF _ _ _ _ S (cX (o.k8 m).2).1 (G _) (A _) h; exact absurd g.symm (cX (o.k8 m).2).2.2
   ·obtain⟨x1,C,K⟩:=j.k9 k
    obtain⟨E,D,L⟩:=o.k9 m; obtain⟨x,t⟩:=wP K; obtain⟨y,J⟩:=wP L; rw[tx9 k t,tx9 m J]at h; have V:=(z60 (z152 h)).2; obtain⟨g,i⟩:=I x y _ _ (H x (by rw[t]; exact z25)) (M y (by rw[J]; exact z25)) (Stop.cons (by decide)) (Stop.cons (by decide)) V
    simp only[z64,Ci]at i; obtain⟨F,w⟩:=oB (by decide) ihc hhc (c:=32) (c':=32) ⟨by decide,by decide⟩ ⟨by decide,by decide⟩ h4 g4 i
    simp only[z64,Ci]at w; exact⟨B (k.trans m.symm) (x1.trans E.symm) (C.trans D.symm) (by rw[t,J,g]) F,w⟩
  ·-- names
   obtain⟨x1,C,K⟩:=j.k3 k; obtain⟨E,D,L⟩:=o.k3 m; rw[tx3 k,tx3 m]at h; obtain⟨g,i⟩:=lF _ _ _ _ (CD C).1 (CD D).1 N.nw O.nw h; exact⟨B (k.trans m.symm) (x1.trans E.symm) g (K.trans L.symm) ((j.c (f k (by decide))).trans (o.c (f m (by decide))).symm),i⟩
  ·-- tuples
   obtain⟨x1,C⟩:=j.k4 k; obtain⟨E,D⟩:=o.k4 m; rw[tx4 k,tx4 m]at h; obtain⟨F,w⟩:=oB (by decide) I Q ⟨by decide,by decide⟩ ⟨by decide,by decide⟩ H M (z60 h).2
   exact⟨B (k.trans m.symm) (x1.trans E.symm) (C.trans D.symm) F ((j.c (f k (by decide))).trans (o.c (f m (by decide))).symm),(z60 w).2⟩
  ·-- lists
   have tk: ∀ {e:aA},(∀x∈e.f3,okX d x)→ ∀x∈e.f3.take (e.f3.length - 1),okX d x:=fun h x t=>h x (z88 t)
   rcases k with k | k<;>rcases m with m | m
   ·obtain⟨x1,C⟩:=j.k5 k
    obtain⟨E,D⟩:=o.k5 m; rw[tx5 k,tx5 m]at h; obtain⟨F,w⟩:=oB (by decide) I Q ⟨by decide,by decide⟩ ⟨by decide,by decide⟩ H M (z60 h).2
    exact⟨B (k.trans m.symm) (x1.trans E.symm) (C.trans D.symm) F ((j.c (f k (by decide))).trans (o.c (f m (by decide))).symm),(z60 w).2⟩
   ·rw[tx5 k,tx6 m]at h
    obtain⟨_,w⟩:=oB (by decide) I Q ⟨by decide,by decide⟩ ⟨by decide,by decide⟩ H (tk M) (z60 h).2
    exact absurd (z60 w).1 (by decide)
   ·rw[tx6 k,tx5 m]at h
    obtain⟨_,w⟩:=oB (by decide) I Q ⟨by decide,by decide⟩ ⟨by decide,by decide⟩ (tk H) M (z60 h).2
    exact absurd (z60 w).1 (by decide)
   ·obtain⟨x1,C,K⟩:=j.k6 k
    obtain⟨E,D,L⟩:=o.k6 m; rw[tx6 k,tx6 m]at h; obtain⟨F,w⟩:=oB (by decide) I Q ⟨by decide,by decide⟩ ⟨by decide,by decide⟩ (tk H) (tk M) (z60 h).2
    simp only[z64,Ci]at w; have lx:=Ib (l:=a.f3) (z:=zE) (by omega)
    have ly:=Ib (l:=b.f3) (z:=zE) (by omega)
    have mx: ∀ {l:List aA},2≤l.length→l.getD (l.length - 1) zE∈l:=fun {l} h=>by
     rw[Cg (z13 (show l.length - 1<l.length by omega))]; exact z93 _
    obtain⟨T,U⟩:=I _ _ _ _ (H _ (mx K)) (M _ (mx L)) (Stop.cons (by decide)) (Stop.cons (by decide)) w
    exact⟨B (k.trans m.symm) (x1.trans E.symm) (C.trans D.symm) (by rw[lx,ly,F,T]) ((j.c (f k (by decide))).trans (o.c (f m (by decide))).symm),(z60 U).2⟩
  ·-- operations
   obtain⟨x1,C,K⟩:=j.k7 k; obtain⟨E,D,L⟩:=o.k7 m; obtain⟨x,x',t⟩:=Hu K; obtain⟨y,y',J⟩:=Hu L; rw[tx7 k t,tx7 m J]at h; obtain⟨g,i⟩:=I x y _ _ (H x (by rw[t]; simp)) (M y (by rw[J]; simp)) (Stop.cons (by decide)) (Stop.cons (by decide)) (z60 h).2
   obtain⟨F,w⟩:=PT C D (z60 i).2; obtain⟨T,U⟩:=I x' y' _ _ (H x' (by rw[t]; simp)) (M y' (by rw[J]; simp)) (Stop.cons (by decide)) (Stop.cons (by decide)) w
   exact⟨B (k.trans m.symm) (x1.trans E.symm) F (by rw[t,J,g,T]) ((j.c (f k (by decide))).trans (o.c (f m (by decide))).symm),(z60 U).2⟩
theorem rZ{x:aA}(h:mZ x=true):xok 10 false x=true:=by
 unfold mZ at h; simp only[z7]at h; exact h.1
theorem pW{n:Nat}(hn:n≤1099511627776)(x:aA)(h:aN x+400<n)(a:mZ x=true):dJ n x.f0 x.f1 x.f2 x.f3 x.f4=some (tx 10 x):=by
 unfold dJ; rw[Aq n hn x h,z10,a,(tQ n hn).1 10 false x (rZ a) (by omega)]; rfl
def DS(r:Int×Int×List UInt8×List aA×List aB×Int×Int×List UInt8×List aA×List aB):Prop:=aN (.mk r.1 r.2.1 r.2.2.1 r.2.2.2.1 r.2.2.2.2.1)≤20000∧aN (.mk r.2.2.2.2.2.1 r.2.2.2.2.2.2.1 r.2.2.2.2.2.2.2.1 r.2.2.2.2.2.2.2.2.1 r.2.2.2.2.2.2.2.2.2)≤20000
theorem Av{n:Nat}(hn:30000<n)(c:n≤1099511627776){code:List Int}(k:code.length≤1048576):Gt (dW n code) DS:=by
 unfold dW; refine Gt.bind (NQ (by omega) code k) fun l h0=>Gt.bind (Ie (by omega) c h0) fun r ⟨h1,j⟩=>Gt.bind (dR j (by omega)) fun d ⟨_,e⟩=>Gt.cond (fun _=> ?_) fun _=>Gt.cond (fun _=> ?_) fun _=> ?_
 ·have:=yZ n c (.mk r.1 r.2.1 r.2.2.1 r.2.2.2.1 r.2.2.2.2.1) (by omega) (by omega)
  have this:cB n r.1 r.2.1 r.2.2.1 r.2.2.2.1 r.2.2.2.2.1=some (r.1,r.2.1,r.2.2.1,r.2.2.2.1,r.2.2.2.2.1):=this; rw[this]; exact Gt.pure ⟨by simp only; omega,by simp only; omega⟩
 ·have:=Gc (n:=n) (B:=9880) (a:= .mk r.1 r.2.1 r.2.2.1 r.2.2.2.1 r.2.2.2.2.1) (by omega) c h1 (by omega) (b:=d.2.1) (i:=d.2.2.1) (h:=d.2.2.2) e
  exact Gt.bind this fun q ⟨f,g⟩=>Gt.pure ⟨by simp only; omega,by simp only; omega⟩
 ·exact Gt.bind (Ie (by omega) c e) fun q ⟨f,g⟩=>Gt.pure ⟨by simp only; omega,by simp only; omega⟩
theorem law(a:List Int)(ho:a.length≤maxLen∧ ∀x∈a,IntKind.u8.min≤x∧x≤IntKind.u8.max): ∃n,gN n a=some true:=by
 refine⟨1000000, ?_⟩
 generalize H:(1000000:Nat)=n; have hn:n≤1099511627776:=by omega
 unfold gN qC; simp only[z10]; by_cases hz:(1048576:Int)<(a.length:Int)
 ·rw[z15 hz]; rfl
 rw[z9 hz,z16]; obtain⟨r,B,D,C⟩:=Av (n:=n) (by omega) hn (code:=a) (by omega)
 rw[B]; simp only[z10]; obtain⟨a0,a1,a2,a3,a4,d,b1,b2,e,f⟩:=r; simp only at D C ⊢; obtain⟨x,b⟩: ∃x:aA,x= .mk a0 a1 a2 a3 a4:=⟨_,rfl⟩; obtain⟨y,c⟩: ∃y:aA,y= .mk d b1 b2 e f:=⟨_,rfl⟩; obtain⟨s,m,o⟩:=(qE n hn).1 x y (by rw[b]; omega)
 obtain⟨t,g,E⟩:=BP n hn x y (by rw[b]; omega)
 obtain⟨u,i,F⟩:=(qE n hn).1 x x (by rw[b]; omega)
 obtain⟨v,j,G⟩:=(qE n hn).1 y x (by rw[c]; omega)
 have k:=rH n hn x (by rw[b]; omega)
 have l:=rH n hn y (by rw[c]; omega)
 have p:=pW hn x (by rw[b]; omega)
 have q:=pW hn y (by rw[c]; omega)
 have m:aT n a0 a1 a2 a3 a4 d b1 b2 e f=some s:=by subst b; subst c; exact m
 have g:cO n a0 a1 a2 a3 a4 d b1 b2 e f=some t:=by subst b; subst c; exact g
 have i:aT n a0 a1 a2 a3 a4 a0 a1 a2 a3 a4=some u:=by subst b; exact i
 have j:aT n d b1 b2 e f a0 a1 a2 a3 a4=some v:=by subst b; subst c; exact j
 have k:dG n a0 a1 a2 a3 a4=some (mZ x):=by rw[b]at k ⊢; exact k
 have l:dG n d b1 b2 e f=some (mZ y):=by rw[c]at l ⊢; exact l
 have p:mZ x=true→dJ n a0 a1 a2 a3 a4=some (tx 10 x):=fun h=>by have:=p h; rw[b]at this ⊢; exact this
 have q:mZ y=true→dJ n d b1 b2 e f=some (tx 10 y):=fun h=>by have:=q h; rw[c]at this ⊢; exact this
 have w:t=s:=z95.2 (E.trans o.symm); have z:u=true:=F.2 rfl; have ev:v=s:=z95.2 (G.trans (Iff.trans ⟨Eq.symm,Eq.symm⟩ o.symm)); rw[w]at g; rw[z]at i; rw[ev]at j; simp only[m,g,i,j,k,l,z10,beq_self_eq_true,z46,z16]; cases hp:mZ x with
 | false=>rfl
 | true=>
  cases hq:mZ y with
  | false=>rfl
  | true=>
   simp only[z46,z16,p hp,q hq,z10]; have A:decide (tx 10 x=tx 10 y)=s:=by
    refine z95.2 (Iff.trans ?_ o.symm)
    rw[z22]; refine⟨fun h=> ?_,fun h=>by rw[h]⟩
    exact(Lf 10 x y [] [] ⟨false,rZ hp⟩ ⟨false,rZ hq⟩ (.inl rfl) (.inl rfl) (by rw[h])).1
   rw[A,beq_self_eq_true]
end Go.Own.Q
