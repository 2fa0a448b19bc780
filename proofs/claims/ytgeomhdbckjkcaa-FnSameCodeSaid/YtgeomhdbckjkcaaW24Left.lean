/- How many may be left, in plain Lean. No conditions. -/
import Derived.Test.YtgeomhdbckjkcaaW24Shape
set_option linter.unusedVariables false
set_option linter.unusedSimpArgs false
set_option linter.unnecessarySimpa false
namespace Go.Own.Q
open Go Go.Proofs

/-! how many may be left -/
def tk(b:Bool)(c:Nat)(t:Int):Int:=bif b&&decide ((c:Int)≤t)then t - c else -1
theorem Ui(b:Bool)(c:Nat){t:Int}(h:t<c):tk b c t= -1:=by
 unfold tk; rw[decide_eq_false (by omega),Bool.and_false]; rfl
theorem Qd(b:Bool)(c:Nat)(t:Int)(h: -1≤t): -1≤tk b c t∧tk b c t≤t:=by
 unfold tk
 by_cases q:(b&&decide ((c:Int)≤t))=true
 ·rw[q]
  simp only[Bool.and_eq_true,decide_eq_true_eq]at q
  simp only[cond_true]; omega
 ·rw[Bool.not_eq_true]at q; rw[q]; simp only[cond_false]; omega
def LM{α:Type}(ok:α→Bool)(c:α→Nat):List α→Int→Int
 | [],t=>t
 | a::r,t=>bif decide (0≤t)then LM ok c r (tk (ok a) (c a) t)else t
theorem FC{α:Type}(ok:α→Bool)(c:α→Nat): ∀(l:List α) {t:Int},t<0→LM ok c l t=t
 | [],t,h=>rfl
 | a::r,t,h=>by unfold LM; rw[decide_eq_false (by omega)]; rfl
theorem Hz{α:Type}(ok:α→Bool)(c:α→Nat): ∀(l:List α) {t:Int},0≤t→LM ok c l t=tk (l.all ok) (qO c l) t
 | [],t,h=>by
  unfold LM tk
  rw[decide_eq_true (show((qO c []:Nat):Int)≤t by simp only[qO]; omega)]
  simp [qO]
 | a::r,t,h=>by
  unfold LM
  rw[decide_eq_true h,cond_true,List.all_cons]
  have e:qO c (a::r)=c a+qO c r:=rfl
  rw[e]
  by_cases q:(ok a&&decide ((c a:Int)≤t))=true
  ·have e1:tk (ok a) (c a) t=t - c a:=by unfold tk; rw[q]; rfl
   simp only[Bool.and_eq_true,decide_eq_true_eq]at q
   rw[e1,Hz ok c r (by omega),q.1,Bool.true_and]
   unfold tk
   by_cases z:((qO c r:Nat):Int)≤t - c a
   ·rw[decide_eq_true z,decide_eq_true (by omega)]
    cases r.all ok
    ·rfl
    ·simp only[Bool.and_true,cond_true]; omega
   ·rw[decide_eq_false z,decide_eq_false (by omega)]
    cases r.all ok<;>rfl
  ·have e1:tk (ok a) (c a) t= -1:=by unfold tk; rw[Bool.not_eq_true]at q; rw[q]; rfl
   rw[e1,FC ok c r (by omega)]
   unfold tk
   cases ha:ok a with
   | false=>rfl
   | true=>
    rw[ha,Bool.true_and,decide_eq_true_eq]at q
    rw[decide_eq_false (by omega),Bool.and_false]; rfl
/-- A loop over a list that goes on while something is left. -/
theorem Bm{α ρ:Type}{body:Int×Int→Option ((Int×Int)⊕ρ)}(l:List α)(ok:α→Bool)(c:α→Nat)(Out:Int→ρ→Prop)(hs: ∀(i:Nat) a (t:Int),l[i]? =some a→0≤t→t≤300→body (t,(i:Int))=some (.inl (tk (ok a) (c a) t,((i+1:Nat):Int)))∨(∃r,body (t,(i:Int))=some (.inr r)∧Out (-1) r∧tk (ok a) (c a) t= -1))
  (hn: ∀(i:Nat) (t:Int),t<0→i<l.length→ ∃r,body (t,(i:Int))=some (.inr r)∧Out t r)(he: ∀t:Int, ∃r,body (t,(l.length:Int))=some (.inr r)∧Out t r): ∀(r:List α) (i:Nat) (t:Int) (n:Nat),l.drop i=r→ -1≤t→t≤300→r.length<n→i≤l.length→ ∃x,loopN body n (t,(i:Int))=some x∧Out (LM ok c r t) x
 | [],i,t,n,hr,h0,h1,hm,hi=>by
  obtain⟨m,rfl⟩: ∃m,n=m+1:=⟨n - 1,by simp at hm; omega⟩
  have:i=l.length:=by
   have:=congrArg List.length hr
   simp at this; omega
  subst this
  obtain⟨x,h2,h3⟩:=he t
  simp only[loopN,h2]
  exact⟨x,rfl,h3⟩
 | a::r,i,t,n,hr,h0,h1,hm,hi=>by
  obtain⟨m,rfl⟩: ∃m,n=m+1:=⟨n - 1,by simp at hm; omega⟩
  have hil:i<l.length:=by
   have:=congrArg List.length hr
   simp at this; omega
  have ha:l[i]? =some a:=by
   have:=congrArg (·[0]?) hr
   simpa using this
  have hr':l.drop (i+1)=r:=by
   have:=congrArg List.tail hr
   simpa using this
  have e:LM ok c (a::r) t=bif decide (0≤t)then LM ok c r (tk (ok a) (c a) t)else t:=rfl
  rw[e]
  by_cases q:0≤t
  ·rw[decide_eq_true q,cond_true]
   have hb:=Qd (ok a) (c a) t h0
   rcases hs i a t ha q h1 with h2 | ⟨x,h2,h3,h4⟩
   ·simp only[loopN,h2]
    exact Bm l ok c Out hs hn he r (i+1) _ m hr' hb.1 (by omega) (by simp at hm; omega) (by omega)
   ·simp only[loopN,h2]
    rw[h4,FC ok c r (by omega)]
    exact⟨x,rfl,h3⟩
  ·rw[decide_eq_false q,cond_false]
   obtain⟨x,h2,h3⟩:=hn i t (by omega) hil
   simp only[loopN,h2]
   exact⟨x,rfl,h3⟩
end Go.Own.Q
