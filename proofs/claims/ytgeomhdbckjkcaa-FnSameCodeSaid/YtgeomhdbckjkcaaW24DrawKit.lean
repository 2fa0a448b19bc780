/- Answers that are there, and of a kind; the cursor. No conditions. -/
import Derived.Test.YtgeomhdbckjkcaaW24ExprOk3
set_option linter.unusedVariables false
set_option linter.unusedSimpArgs false
set_option linter.unnecessarySimpa false
namespace Go.Own.Q
open Go Go.Proofs
def Gt{α:Type}(o:Option α)(Q:α→Prop):Prop:= ∃r,o=some r∧Q r
theorem Gt.pure{α:Type}{a:α}{Q:α→Prop}(h:Q a):Gt (some a) Q:=⟨a,rfl,h⟩
theorem Gt.bind{α β:Type}{o:Option α}{f:α→Option β}{P:α→Prop}{Q:β→Prop}(h:Gt o P)(hf: ∀r,P r→Gt (f r) Q):Gt (o.bind f) Q:=by
 obtain⟨r,rfl,h2⟩:=h
 exact hf r h2
theorem Gt.cond{α:Type}{b:Bool}{x y:Option α}{Q:α→Prop}(h1:b=true→Gt x Q)(h0:b=false→Gt y Q):Gt (bif b then x else y) Q:=by
 cases b with
 | true=>exact h1 rfl
 | false=>exact h0 rfl
theorem Gt.mono{α:Type}{o:Option α}{P Q:α→Prop}(h:Gt o P)(hf: ∀r,P r→Q r):Gt o Q:=by
 obtain⟨r,e,h2⟩:=h
 exact⟨r,e,hf r h2⟩
theorem Gt.of{α:Type}{o:Option α}{r:α}{Q:α→Prop}(e:o=some r)(h:Q r):Gt o Q:=⟨r,e,h⟩
/-- What a round leaves. -/
def Rnd{σ ρ:Type}(I:Nat→σ→Prop)(Q:ρ→Prop)(m:Nat):σ⊕ρ→Prop
 | .inl s=> ∃m',m=m'+1∧I m' s
 | .inr r=>Q r
theorem Gt.loop{σ ρ:Type}{body:σ→Option (σ⊕ρ)}(I:Nat→σ→Prop)(Q:ρ→Prop)(hs: ∀m s,I m s→Gt (body s) (Rnd I Q m)): ∀ {n m:Nat} {s:σ},I m s→m<n→Gt (loopN body n s) Q
 | 0,m,s,h,hn=>by omega
 | n+1,m,s,h,hn=>by
  obtain⟨x,e,hx⟩:=hs m s h
  unfold loopN
  rw[e]
  cases x with
  | inl s'=>
   obtain⟨m',rfl,h'⟩:=hx
   exact Gt.loop I Q hs h' (by omega)
  | inr r=>exact⟨r,rfl,hx⟩
theorem LR{p:Prop} [Decidable p](h:decide p=true):p:=of_decide_eq_true h
theorem Np{p:Prop} [Decidable p](h:decide p=false): ¬ p:=of_decide_eq_false h
/-- A cursor. -/
structure Cur (b:List Int) (i:Int):Prop where
 len:b.length≤1048576
 at0:0≤i
theorem mF{α:Type}{k:Nat}{a b:List α}(h:a.length+b.length≤1048576000)(hk:k≤255):Gt (fQ k a b) (fun r=>r=a++b):=by
 refine Gt.of (vA ?_ (by simp only[maxLen]; omega)) rfl
 have:(a.length+b.length)*k≤1048576000*255:=Nat.mul_le_mul h hk
 omega
theorem GR{α:Type}{l:List α}{i:Int}(h0:0≤i)(h:i<l.length):Gt (ix l i) (fun a=>a∈l):=by
 obtain⟨k,rfl⟩: ∃k:Nat,i=k:=⟨i.toNat,by omega⟩
 rw[cQ]
 exact⟨_,List.getElem?_eq_getElem (by omega),List.getElem_mem _⟩
theorem Mj(x:Int):0≤bits .and .i64 x 255∧bits .and .i64 x 255≤255:=JF x 255 (by decide)
theorem pL{n:Nat}{b:List Int}{i h:Int}(hc:Cur b i):Gt (fX n b i h) (fun r=>(0≤r.1∧r.1≤255)∧Cur r.2.1 r.2.2.1):=by
 have h1:=hc.len
 have h2:=hc.at0
 unfold fX
 refine Gt.cond (fun e=> ?_) (fun e=> ?_)
 ·have:=LR e
  refine Gt.bind (GR h2 this) fun a _=>Gt.pure ⟨Mj _,hc.len, ?_⟩
  show 0≤IntKind.wrap .i64 (i+1)
  rw[wrap_i64 (by omega) (by omega)]; omega
 ·exact Gt.pure ⟨Mj _,hc⟩
theorem UY{b:Bool}(h:b=true):Gt (ck b) (fun _=>True):=by subst h; exact⟨_,rfl,trivial⟩
theorem gV{n:Nat}{t:Int}{b:List Int}{i h:Int}(hc:Cur b i)(ht:0<t):Gt (aM n t b i h) (fun r=>(t≤256→0≤r.1∧r.1<t)∧Cur r.2.1 r.2.2.1):=by
 unfold aM
 have e0:(!decide (t=0))=true:=by rw[decide_eq_false (by omega)]; rfl
 refine Gt.cond (fun e=> ?_) (fun _=>Gt.cond (fun e=> ?_) (fun e=> ?_))
 ·have:=LR e; omega
 ·refine Gt.bind (pL hc) fun r ⟨h1,h2⟩=>Gt.bind (UY e0) fun _ _=>Gt.pure ⟨fun _=>⟨Int.tmod_nonneg _ h1.1,Int.tmod_lt_of_pos _ ht⟩,h2⟩
 ·have hn:=Np e
  refine Gt.bind (pL hc) fun r ⟨h1,h2⟩=>Gt.bind (pL h2) fun r2 ⟨_,h4⟩=>Gt.bind (pL h4) fun r3 ⟨_,h6⟩=>Gt.bind (UY e0) fun _ _=>Gt.pure ⟨fun h=>absurd h hn,h6⟩
theorem FH{n:Nat}{t:Int}{b:List Int}{i h:Int}(hc:Cur b i)(ht:0<t):Gt (fW n t b i h) (fun r=>Cur r.2.1 r.2.2.1):=by
 unfold fW
 exact Gt.bind (gV hc ht) fun r ⟨_,h2⟩=>Gt.pure h2
theorem sQ{n:Nat}{l:List Int}{b:List Int}{i h:Int}(hc:Cur b i)(h0:0<l.length)(h1:l.length≤256):Gt (cK n l b i h) (fun r=>r.1∈l∧Cur r.2.1 r.2.2.1):=by
 unfold cK
 refine Gt.bind (gV hc (by omega)) fun r ⟨h2,h3⟩=> ?_
 obtain⟨h4,h5⟩:=h2 (by omega)
 exact Gt.bind (GR h4 h5) fun a ha=>Gt.pure ⟨ha,h3⟩
theorem yD{n K:Nat}{l:List (List UInt8)}{b:List Int}{i h:Int}(hc:Cur b i)(h0:0<l.length)(h1:l.length≤256)(hK: ∀s∈l,s.length≤K):Gt (bE n l b i h) (fun r=>r.1.length≤K∧Cur r.2.1 r.2.2.1):=by
 unfold bE
 refine Gt.bind (gV hc (by omega)) fun r ⟨h2,h3⟩=> ?_
 obtain⟨h4,h5⟩:=h2 (by omega)
 exact Gt.bind (GR h4 h5) fun a ha=>Gt.pure ⟨hK a ha,h3⟩
theorem Ro{n:Nat}(hn:4001<n)(code:List Int)(hc:code.length≤1048576):Gt (nO n code) (fun r=>Cur r.1 r.2.1):=by
 unfold nO
 refine Gt.bind (P:=fun _=>True) (Gt.loop (fun(m:Nat) (s:Int×Int)=>0≤s.2∧s.2+m=4001) (fun _=>True) (fun m s hs=> ?_) (m:=4001) (by simp) (by omega)) fun r _=>Gt.pure ⟨hc,Int.le_refl _⟩
 obtain⟨a,i⟩:=s
 obtain⟨h1,h2⟩:=hs
 unfold pF
 simp only at h1 h2 ⊢
 by_cases c1:i<code.length
 ·by_cases c2:i<4000
  ·rw[decide_eq_true c1,decide_eq_true c2]
   simp only[cond_true,Option.bind_some]
   refine Gt.bind (GR h1 c1) fun e _=>Gt.pure ⟨m - 1,by omega, ?_⟩
   simp only
   rw[wrap_i64 (n:=i+1) (by omega) (by omega)]
   omega
  ·rw[decide_eq_true c1,decide_eq_false c2]
   simp only[cond_true,cond_false,Option.bind_some]
   exact Gt.pure trivial
 ·rw[decide_eq_false c1]
  simp only[cond_false,Option.bind_some]
  exact Gt.pure trivial
end Go.Own.Q
