/- Lemmas. No conditions. -/
import Derived.Test.YtgeomhdbckjkcaaW22Match3
set_option linter.unusedVariables false
set_option linter.unusedSimpArgs false
namespace Go.Own.Q
open Go Go.Proofs
def lF(a:aA)(t:aB):List aG×Bool:=bif wK a&&qM t then(match mt 10 a t with | some M=>(M,true) | none=>([],false))else([],false)
theorem xS{a:aA}(h:wK a=true):xok 10 true a=true:=by
 unfold wK at h
 simp only[Bool.and_eq_true]at h
 exact h.1.1
theorem GG(n:Nat)(hn:n≤1099511627776)(a:aA)(t:aB)(h:aN a+aT t+400<n):lI n a.f0 a.f1 a.f2 a.f3 a.f4 t.f0 t.f1 t.f2 t.f3=some (lF a t):=by
 unfold lI lF
 have hT:=qZ n t.f0 t.f1 t.f2 t.f3 (by rw[aU]; omega) (by omega)
 rw[aU]at hT
 rw[yJ n hn a (by omega),hT]
 cases hp:wK a with
 | false=>rfl
 | true=>
  cases ht:qM t with
  | false=>rfl
  | true=>
   obtain⟨L,ok,e1,e2⟩:=(vU n hn).1 10 a t [] (xS hp) (by omega) (by simp only[List.length_nil]; omega)
   simp only[Option.bind_some,Bool.not_true,cond_false,e1,Bool.and_self,cond_true]
   cases hM:mt 10 a t with
   | none=>rw[hM]at e2; have e2:ok=false:=e2; subst e2; rfl
   | some M=>rw[hM]at e2; obtain⟨rfl,rfl⟩:L=[]++M∧ok=true:=e2; rfl
theorem GC(n:Nat)(hn:n≤1099511627776)(a:aA)(t:aB)(h:aN a+aT t+400<n):lH n a.f0 a.f1 a.f2 a.f3 a.f4 t.f0 t.f1 t.f2 t.f3=some (lF a t):=by
 unfold lH lF
 have hT:=Dl n t.f0 t.f1 t.f2 t.f3 (by rw[aU]; omega) (by omega)
 rw[aU]at hT
 rw[GB n hn a (by omega),hT]
 cases hp:wK a with
 | false=>rfl
 | true=>
  cases ht:qM t with
  | false=>rfl
  | true=>
   obtain⟨L,ok,e1,e2⟩:=(vR n hn).1 10 a t [] (xS hp) (by omega) (by simp only[List.length_nil]; omega)
   simp only[Option.bind_some,Bool.not_true,cond_false,e1,Bool.and_self,cond_true]
   cases hM:mt 10 a t with
   | none=>rw[hM]at e2; have e2:ok=false:=e2; subst e2; rfl
   | some M=>rw[hM]at e2; obtain⟨rfl,rfl⟩:L=[]++M∧ok=true:=e2; rfl
theorem aBg(a:aA)(t:aB):dl mU (lF a t).1≤1+aN a+aT t:=by
 unfold lF
 cases wK a&&qM t with
 | false=>simp only[cond_false,dl]; omega
 | true=>
  rw[cond_true]
  cases h:mt 10 a t with
  | none=>simp only[dl]; omega
  | some M=>exact Pe 10 a t M h
end Go.Own.Q
