/- Loops over lists that have an answer. No conditions. -/
import Derived.Test.YtgeomhdbckjkcaaW24Draw7
set_option linter.unusedVariables false
set_option linter.unusedSimpArgs false
set_option linter.unnecessarySimpa false
namespace Go.Own.Q
open Go Go.Proofs
theorem Gt.list{α σ ρ:Type}{body:σ→Option (σ⊕ρ)}(L:List α)(I:Nat→σ→Prop)(Q:ρ→Prop)(hs: ∀(i:Nat) a s,L[i]? =some a→I i s→Gt (body s) (fun o=> ∃s',o= .inl s'∧I (i+1) s'))(he: ∀s,I L.length s→Gt (body s) (fun o=> ∃r,o= .inr r∧Q r)){n:Nat}{s:σ}(h:I 0 s)(hn:L.length<n):Gt (loopN body n s) Q:=by
 refine Gt.loop (fun m s=> ∃i,i+m=L.length∧I i s) Q (fun m s ⟨i,h1,h2⟩=> ?_) (m:=L.length) ⟨0,by omega,h⟩ hn
 cases m with
 | zero=>
  have:i=L.length:=by omega
  subst this
  exact(he s h2).mono fun o ⟨r,e,hr⟩=>by subst e; exact hr
 | succ m=>
  have hi:i<L.length:=by omega
  exact(hs i _ s (List.getElem?_eq_getElem hi) h2).mono fun o ⟨s',e,hs'⟩=>by subst e; exact⟨m,rfl,i+1,by omega,hs'⟩
theorem tJ{α:Type}(w:α→Nat){L:List α}{i:Nat}{a:α}(h:L[i]? =some a):dl w (L.take (i+1))=dl w (L.take i)+1+w a:=by
 rw[←qS h,iU]
theorem uF{α:Type}(w:α→Nat)(L:List α)(i:Nat):dl w (L.take i)≤dl w L:=by
 have:=IQ w (L.take i) (L.drop i)
 rw[List.take_append_drop]at this
 have:=bM w (L.drop i)
 omega
theorem GO{α:Type}(w:α→Nat)(L:List α):1≤dl w L:=by have:=bM w L; omega
end Go.Own.Q
