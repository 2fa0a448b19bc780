/- Numbers, bytes, atoms, in plain Lean. No conditions. -/
import Derived.Test.YtjfgchodolnmcaaW32F32m
set_option linter.unusedVariables false
set_option linter.unusedSimpArgs false
set_option linter.unnecessarySimpa false
namespace Go.Own.Q
open Go Go.Proofs

theorem pZ(n:Nat)(x a b:Int):aP n x a b=some (decide (a≤x)&&decide (x≤b)):=by
 unfold aP
 cases decide (a≤x)<;>rfl
theorem gI(n:Nat)(x a b:Int):aL n x a b=some (decide (a≤x)&&decide (x≤b)):=by
 unfold aL
 cases decide (a≤x)<;>rfl
theorem Do(n:Nat)(x:Int):gF n x=some (decide (97≤x)&&decide (x≤122)):=by
 unfold gF
 cases decide (97≤x)<;>rfl
theorem BY(n:Nat)(x:Int):eU n x=some (decide (48≤x)&&decide (x≤57)):=by
 unfold eU
 cases decide (48≤x)<;>rfl
def qU(c:Int):Bool:=decide (97≤c)&&decide (c≤122)
def JM(c:Int):Bool:=decide (48≤c)&&decide (c≤57)
def Ge(i:Nat)(c:UInt8):Bool:=qU c.toNat||(!decide (i=0)&&(JM c.toNat||decide ((c.toNat:Int)=95)))
def zL(s:List UInt8):Bool:=rE Ge 0 s&&(decide (1≤(s.length:Int))&&decide ((s.length:Int)≤20))
theorem PY(c:UInt8):IntKind.wrap .i64 ((c.toNat:Nat):Int)=c.toNat:=by
 have:=c.toNat_lt
 exact wrap_i64 (by omega) (by omega)
theorem Oj(i:Nat):decide ((i:Int)=0)=decide (i=0):=by
 by_cases h:i=0<;>simp [h]
theorem Co(n:Nat)(s:List UInt8)(h:s.length<n)(hn:s.length<4611686018427387904):lH n s=some (zL s):=by
 unfold lH
 rw[vH s Ge (fun i c hc=>by
  have hi:=bL hc
  simp only[kP,cK hc,cond_true,HT,hc,Option.map_some,Option.bind_some,pZ,PY,aI (show i<4611686018427387904 by omega),Oj]
  unfold Ge qU JM
  cases decide (97≤(c.toNat:Int))<;>cases decide ((c.toNat:Int)≤122)<;>cases decide (i=0)<;>cases decide (48≤(c.toNat:Int))<;>cases decide ((c.toNat:Int)≤57)<;>cases decide ((c.toNat:Int)=95)<;>rfl) (by simp only[kP,aK,cond_false]) h]
 unfold zL
 by_cases c:rE Ge 0 s=true
 ·rw[if_pos c,c]; simp only[Option.bind_some,pZ,Bool.true_and]
 ·rw[if_neg c]; simp only[Bool.not_eq_true]at c; rw[c]; rfl
theorem Cp(n:Nat)(s:List UInt8)(h:s.length<n)(hn:s.length<4611686018427387904):lK n s=some (zL s):=by
 unfold lK
 rw[vH s Ge (fun i c hc=>by
  have hi:=bL hc
  simp only[kT,cK hc,cond_true,HT,hc,Option.map_some,Option.bind_some,Do,BY,aI (show i<4611686018427387904 by omega),Oj]
  unfold Ge qU JM
  cases decide (97≤(c.toNat:Int))<;>cases decide ((c.toNat:Int)≤122)<;>cases decide (i=0)<;>cases decide (48≤(c.toNat:Int))<;>cases decide ((c.toNat:Int)≤57)<;>cases decide ((c.toNat:Int)=95)<;>rfl) (by simp only[kT,aK,cond_false]) h]
 unfold zL
 by_cases c:rE Ge 0 s=true
 ·rw[if_pos c,c]; simp only[Option.bind_some,gI,Bool.true_and]
 ·rw[if_neg c]; simp only[Bool.not_eq_true]at c; rw[c]; rfl

end Go.Own.Q
