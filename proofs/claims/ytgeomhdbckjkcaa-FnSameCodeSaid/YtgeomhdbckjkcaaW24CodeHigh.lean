/- The heights of the instructions: the program's answer and the reference's, in plain Lean. No conditions. -/
import Derived.Test.YtgeomhdbckjkcaaW24CodeIns
set_option linter.unusedVariables false
set_option linter.unusedSimpArgs false
set_option linter.unnecessarySimpa false
namespace Go.Own.Q
open Go Go.Proofs

def wF(i:aF):Int:=
 bif decide (i.f0=4)then i.f1 else bif decide (i.f0=5)then i.f1 else bif decide (i.f0=6)then i.f1 else bif decide (i.f0=8)then i.f1 else bif decide (i.f0=7)then 2 else bif decide (i.f0=9)then 1 else bif decide (i.f0=12)then 1 else 0
theorem KK(n:Nat)(i:aF):iO n i.f0 i.f1 i.f2 i.f3=some (wF i):=by
 unfold iO wF
 simp only[nV]
def nF(hs:List Int)(p:Nat)(v:Int):Option (List Int):=match hs[p]? with
 | none=>none
 | some x=>bif decide (x= -1)then some (hs.set p v)else bif decide (x=v)then some hs else none
theorem nC{hs:List Int}{p:Nat}{v:Int}{q:List Int}(h:nF hs p v=some q):q.length=hs.length:=by
 unfold nF at h
 cases e:hs[p]? with
 | none=>rw[e]at h; cases h
 | some x=>
  rw[e]at h
  simp only at h
  cases h1:decide (x= -1)<;>rw[h1]at h
  ·cases h2:decide (x=v)<;>rw[h2]at h
   ·cases h
   ·cases h; rfl
  ·cases h; exact List.length_set
/-- What a come leaves: what was told stays. -/
theorem HD{hs:List Int}{p:Nat}{v:Int}{q:List Int}(h:nF hs p v=some q):q[p]? =some v∧ ∀j,j≠p→q[j]? =hs[j]? :=by
 unfold nF at h
 cases e:hs[p]? with
 | none=>rw[e]at h; cases h
 | some x=>
  rw[e]at h
  simp only at h
  cases h1:decide (x= -1)<;>rw[h1]at h
  ·cases h2:decide (x=v)<;>rw[h2]at h
   ·cases h
   ·cases h
    have:=of_decide_eq_true h2
    exact⟨by rw[e,this],fun _ _=>rfl⟩
  ·cases h
   exact⟨List.getElem?_set_self (cH e),fun j hj=>List.getElem?_set_ne (Ne.symm hj)⟩
theorem uH{hs:List Int}{p:Nat}{v:Int}{q:List Int}(h:nF hs p v=some q){j:Nat}{x:Int}(hj:hs[j]? =some x)(hx:x≠ -1):q[j]? =some x:=by
 by_cases e:j=p
 ·subst e
  unfold nF at h
  rw[hj]at h
  simp only[decide_eq_false hx,cond_false]at h
  cases h2:decide (x=v)<;>rw[h2]at h
  ·cases h
  ·cases h; exact hj
 ·rw[(HD h).2 j e]; exact hj
theorem Kn(hs:List Int)(p q:Nat)(u v:Int)(hu:u≠ -1)(hv:v≠ -1):(nF hs q u).bind (fun l=>nF l p v)=(nF hs p v).bind (fun l=>nF l q u):=by
 by_cases e:p=q
 ·subst e
  unfold nF
  cases e:hs[p]? with
  | none=>rfl
  | some x=>
   simp only
   have hp:=cH e
   by_cases h1:x= -1
   ·rw[decide_eq_true h1]
    simp only[cond_true,Option.bind_some,List.getElem?_set_self hp,decide_eq_false hu,decide_eq_false hv,cond_false]
    by_cases h2:u=v
    ·subst h2; rfl
    ·rw[decide_eq_false h2,decide_eq_false (Ne.symm h2)]; rfl
   ·rw[decide_eq_false h1]
    simp only[cond_false]
    by_cases h2:x=u
    ·by_cases h3:x=v
     ·subst h2; subst h3; rfl
     ·rw[decide_eq_true h2,decide_eq_false h3]
      simp only[cond_true,cond_false,Option.bind_some,e,decide_eq_false h1,decide_eq_false h3,Option.bind_none]
    ·rw[decide_eq_false h2]
     by_cases h3:x=v
     ·rw[decide_eq_true h3]
      simp only[cond_true,cond_false,Option.bind_some,e,decide_eq_false h1,decide_eq_false h2,Option.bind_none]
     ·rw[decide_eq_false h3]; rfl
 ·have hA: ∀(l:List Int) (a b:Nat) (w:Int),a≠b→(l.set a w)[b]? =l[b]? :=fun l a b w h=>List.getElem?_set_ne h
  unfold nF
  cases e1:hs[q]? with
  | none=>
   cases e2:hs[p]? with
   | none=>rfl
   | some y=>
    simp only[Option.bind_none]
    cases decide (y= -1)with
    | true=>simp only[cond_true,Option.bind_some,hA _ _ _ _ e,e1]
    | false=>
     cases decide (y=v)with
     | true=>simp only[cond_true,cond_false,Option.bind_some,e1]
     | false=>rfl
  | some x=>
   cases e2:hs[p]? with
   | none=>
    simp only[Option.bind_none]
    cases decide (x= -1)with
    | true=>simp only[cond_true,Option.bind_some,hA _ _ _ _ (Ne.symm e),e2]
    | false=>
     cases decide (x=u)with
     | true=>simp only[cond_true,cond_false,Option.bind_some,e2]
     | false=>rfl
   | some y=>
    simp only
    cases h1:decide (x= -1)<;>cases h2:decide (y= -1)<;>cases h3:decide (x=u)<;>cases h4:decide (y=v)<;>simp only[cond_true,cond_false,Option.bind_some,Option.bind_none,hA _ _ _ _ e,hA _ _ _ _ (Ne.symm e),e1,e2,h1,h2,h3,h4,List.set_comm _ _ e]

/-! the run, as the reference has it -/
def up(h t:Int):Int:=IntKind.wrap .i64 (IntKind.wrap .i64 (h - t)+1)
def Nn(at':Nat)(i:aF)(h:Int)(hs:List Int):Option (List Int):=
 bif decide (i.f0=11)then some hs else bif decide (i.f0=12)then some hs
 else bif decide (i.f0=10)then nF hs i.f3.toNat h
 else bif decide (i.f0=9)then(nF hs i.f3.toNat h).bind fun l=>nF l (at'+1) (IntKind.wrap .i64 (h - 1))
 else nF hs (at'+1) (up h (wF i))
def Ns(i:aF)(h:Int):Bool:=decide (h<wF i)||(decide (300<h)||(decide (i.f0=12)&& !decide (h=1)))
def JP:Nat→List aF→List Int→Bool
 | _,[],_=>true
 | at',i::r,hs=>match hs[at']? with
  | none=>false
  | some h=>bif Ns i h then false else match Nn at' i h hs with
   | none=>false
   | some l=>JP (at'+1) r l
/-- As told by the look at each instruction by itself. -/
def wfI(len at':Nat)(i:aF):Prop:=1≤i.f0∧i.f0≤12∧((i.f0=9∨i.f0=10)→(at':Int)<i.f3∧i.f3<len)
theorem PE{at':Nat}{i:aF}{h:Int}{hs l:List Int}(e:Nn at' i h hs=some l):l.length=hs.length:=by
 unfold Nn at e
 cases h1:decide (i.f0=11)<;>rw[h1]at e
 ·cases h2:decide (i.f0=12)<;>rw[h2]at e
  ·cases h3:decide (i.f0=10)<;>rw[h3]at e
   ·cases h4:decide (i.f0=9)<;>rw[h4]at e
    ·exact nC e
    ·obtain⟨m,m1,m2⟩:=Option.bind_eq_some_iff.1 e
     rw[nC m2,nC m1]
   ·exact nC e
  ·cases e; rfl
 ·cases e; rfl
theorem ST{α:Type}{o:Option α}(h:o.isSome=true): ∃a,o=some a:=Option.isSome_iff_exists.1 h
def finS:(List Int×Bool)⊕(List Int×Int×Bool)→Option (List Int×Bool)
 | .inl t=>some (t.1,t.2)
 | .inr t=>some (t.1,true)
theorem Us(z v:Int): ∀(L i:Nat),i<L→(List.replicate i v++List.replicate (L - i) z).set i v=List.replicate (i+1) v++List.replicate (L - (i+1)) z:=by
 intro L i h
 obtain⟨k,hk⟩: ∃k,L - i=k+1:=⟨L - i - 1,by omega⟩
 have hk2:L - (i+1)=k:=by omega
 rw[hk,hk2,List.replicate_succ,List.set_append_right _ _ (by simp)]
 simp [List.replicate_succ',List.append_assoc]
def start(L:Nat):List Int:=0::List.replicate (L - 1) (-1)
end Go.Own.Q
