/- Sizes, copies, equality of the types, in plain Lean. No conditions. -/
import Derived.Test.YtgeomhdbckjkcaaW24Kit
set_option linter.unusedVariables false
set_option linter.unusedSimpArgs false
set_option linter.unnecessarySimpa false
namespace Go.Own.Q
open Go Go.Proofs
theorem Nu(a:aA):aA.mk a.f0 a.f1 a.f2 a.f3 a.f4=a:=by cases a; rfl
theorem Kr(a:aC):aC.mk a.f0 a.f1 a.f2 a.f3 a.f4 a.f5 a.f6 a.f7 a.f8 a.f9=a:=by
 obtain⟨p,x⟩:=a; cases p; cases x; rfl
mutual
def bH:aA→Nat
 | .mk _ _ s l c=>3+s.length+yR l+rE c
def yR:List aA→Nat
 | []=>1
 | x::r=>1+bH x+yR r
def rE:List aC→Nat
 | []=>1
 | x::r=>1+cD x+rE r
def cD:aC→Nat
 | .two p x=>3+bH p+bH x
end
theorem Ed(a:aA):bH a=3+a.f2.length+yR a.f3+rE a.f4:=by cases a; simp only[bH]; rfl
theorem Ba(a:aC):cD a=3+bH a.p+bH a.x:=by obtain⟨p,x⟩:=a; simp only[cD]; rfl
theorem qH: ∀l,yR l=dl bH l
 | []=>rfl
 | x::r=>by simp only[yR,dl,qH r]
theorem oX: ∀l:List aC,rE l=dl cD l
 | []=>rfl
 | x::r=>by
  have e:=oX r
  have e1:rE (x::r)=1+cD x+rE r:=by simp only[rE]
  rw[e1,e]; rfl
theorem OO(a:aY):aY.mk a.f0 a.f1 a.f2 a.f3 a.f4 a.f5 a.f6=a:=rfl
def wFun:aY→Nat
 | .mk a0 a1 a2 a3 a4 a5 a6=>3+a0.length+dl List.length a1+bH (.mk a2 a3 a4 a5 a6)
theorem ON(a:aF):aF.mk a.f0 a.f1 a.f2 a.f3=a:=rfl
def iX:aF→Nat
 | .mk a0 a1 a2 a3=>4+a2.length
theorem Pz(a:aG):aG.mk a.f0 a.f1 a.f2 a.f3=a:=rfl
def wFn:aG→Nat
 | .mk a0 a1 a2 a3=>3+a0.length+dl iX a3
theorem OM(a:aB):aB.mk a.f0 a.f1 a.f2 a.f3=a:=by cases a; rfl
mutual
def cS:aB→Nat
 | .mk _ _ s l=>3+s.length+DK l
def DK:List aB→Nat
 | []=>1
 | x::r=>1+cS x+DK r
end
theorem Ev: ∀l,DK l=dl cS l
 | []=>rfl
 | x::r=>by simp only[DK,dl,Ev r]
end Go.Own.Q
