/- Numbers, bytes, atoms, in plain Lean. No conditions. -/
import Derived.Test.YtgeomhdbckjkcaaW24F24
set_option linter.unusedVariables false
set_option linter.unusedSimpArgs false
set_option linter.unnecessarySimpa false
namespace Go.Own.Q
open Go Go.Proofs

theorem uW(n:Nat)(x a b:Int):dB n x a b=some (decide (a≤x)&&decide (x≤b)):=by
 unfold dB
 cases decide (a≤x)<;>rfl
theorem lF(n:Nat)(x a b:Int):aR n x a b=some (decide (a≤x)&&decide (x≤b)):=by
 unfold aR
 cases decide (a≤x)<;>rfl
theorem ET(n:Nat)(x:Int):gF n x=some (decide (97≤x)&&decide (x≤122)):=by
 unfold gF
 cases decide (97≤x)<;>rfl
theorem CO(n:Nat)(x:Int):fD n x=some (decide (48≤x)&&decide (x≤57)):=by
 unfold fD
 cases decide (48≤x)<;>rfl
def oU(c:Int):Bool:=decide (97≤c)&&decide (c≤122)
def GT(c:Int):Bool:=decide (48≤c)&&decide (c≤57)
def HR(i:Nat)(c:UInt8):Bool:=oU c.toNat||(!decide (i=0)&&(GT c.toNat||decide ((c.toNat:Int)=95)))
def zA(s:List UInt8):Bool:=sU HR 0 s&&(decide (1≤(s.length:Int))&&decide ((s.length:Int)≤20))
theorem Ec(c:UInt8):IntKind.wrap .i64 ((c.toNat:Nat):Int)=c.toNat:=by
 have:=c.toNat_lt
 exact wrap_i64 (by omega) (by omega)
theorem Ld(i:Nat):decide ((i:Int)=0)=decide (i=0):=by
 by_cases h:i=0<;>simp [h]
theorem Df(n:Nat)(s:List UInt8)(h:s.length<n)(hn:s.length<4611686018427387904):lZ n s=some (zA s):=by
 unfold lZ
 rw[Aa s HR (fun i c hc=>by
  have hi:=cH hc
  simp only[kW,cW hc,cond_true,Er,hc,Option.map_some,Option.bind_some,uW,Ec,aV (show i<4611686018427387904 by omega),Ld]
  unfold HR oU GT
  cases decide (97≤(c.toNat:Int))<;>cases decide ((c.toNat:Int)≤122)<;>cases decide (i=0)<;>cases decide (48≤(c.toNat:Int))<;>cases decide ((c.toNat:Int)≤57)<;>cases decide ((c.toNat:Int)=95)<;>rfl) (by simp only[kW,aQ,cond_false]) h]
 unfold zA
 by_cases c:sU HR 0 s=true
 ·rw[if_pos c,c]; simp only[Option.bind_some,uW,Bool.true_and]
 ·rw[if_neg c]; simp only[Bool.not_eq_true]at c; rw[c]; rfl
theorem Dj(n:Nat)(s:List UInt8)(h:s.length<n)(hn:s.length<4611686018427387904):mB n s=some (zA s):=by
 unfold mB
 rw[Aa s HR (fun i c hc=>by
  have hi:=cH hc
  simp only[lA,cW hc,cond_true,Er,hc,Option.map_some,Option.bind_some,ET,CO,aV (show i<4611686018427387904 by omega),Ld]
  unfold HR oU GT
  cases decide (97≤(c.toNat:Int))<;>cases decide ((c.toNat:Int)≤122)<;>cases decide (i=0)<;>cases decide (48≤(c.toNat:Int))<;>cases decide ((c.toNat:Int)≤57)<;>cases decide ((c.toNat:Int)=95)<;>rfl) (by simp only[lA,aQ,cond_false]) h]
 unfold zA
 by_cases c:sU HR 0 s=true
 ·rw[if_pos c,c]; simp only[Option.bind_some,lF,Bool.true_and]
 ·rw[if_neg c]; simp only[Bool.not_eq_true]at c; rw[c]; rfl

end Go.Own.Q
