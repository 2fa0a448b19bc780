/- Lemmas. No conditions. -/
import Derived.Test.YtgeomhdbckjkcaaW22Kit
set_option linter.unusedVariables false
set_option linter.unusedSimpArgs false
namespace Go.Own.Q
open Go Go.Proofs
theorem aU(a:aB):aB.mk a.f0 a.f1 a.f2 a.f3=a:=by cases a; rfl
mutual
def aT:aB→Nat
 | .mk _ _ s l=>3+s.length+Ga l
def Ga:List aB→Nat
 | []=>1
 | x::r=>1+aT x+Ga r
end
theorem fF: ∀l,Ga l=dl aT l
 | []=>rfl
 | x::r=>by simp only[Ga,dl,fF r]
theorem pO(a:aA):aA.mk a.f0 a.f1 a.f2 a.f3 a.f4=a:=by cases a; rfl
theorem AP(a:aC):aC.mk a.f0 a.f1 a.f2 a.f3 a.f4 a.f5 a.f6 a.f7 a.f8 a.f9=a:=by
 obtain⟨p,x⟩:=a; cases p; cases x; rfl
mutual
def aN:aA→Nat
 | .mk _ _ s l c=>3+s.length+vY l+rS c
def vY:List aA→Nat
 | []=>1
 | x::r=>1+aN x+vY r
def rS:List aC→Nat
 | []=>1
 | x::r=>1+dP x+rS r
def dP:aC→Nat
 | .two p x=>3+aN p+aN x
end
theorem nF(a:aA):aN a=3+a.f2.length+vY a.f3+rS a.f4:=by cases a; simp only[aN]; rfl
theorem xM(a:aC):dP a=3+aN a.p+aN a.x:=by obtain⟨p,x⟩:=a; simp only[dP]; rfl
theorem eO: ∀l,vY l=dl aN l
 | []=>rfl
 | x::r=>by simp only[vY,dl,eO r]
theorem dH: ∀l:List aC,rS l=dl dP l
 | []=>rfl
 | x::r=>by
  have e:=dH r
  have e1:rS (x::r)=1+dP x+rS r:=by simp only[rS]
  rw[e1,e]; rfl
theorem Ob(a:aG):aG.mk a.f0 a.f1 a.f2 a.f3 a.f4=a:=rfl
def mU:aG→Nat
 | .mk a0 a1 a2 a3 a4=>3+a0.length+aT (.mk a1 a2 a3 a4)
end Go.Own.Q
