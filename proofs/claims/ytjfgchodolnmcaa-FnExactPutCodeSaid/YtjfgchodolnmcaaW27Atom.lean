/- Numbers, bytes, atoms, in plain Lean. No conditions. -/
import Derived.Test.YtjfgchodolnmcaaW27F27m
set_option linter.unusedVariables false
set_option linter.unusedSimpArgs false
set_option linter.unnecessarySimpa false
namespace Go.Own.Q
open Go Go.Proofs

theorem l1In_ok(n:Nat)(x a b:Int):p_spec_l1In n x a b=some (decide (a≤x)&&decide (x≤b)):=by
 unfold p_spec_l1In
 cases decide (a≤x)<;>rfl
theorem inRange_ok(n:Nat)(x a b:Int):p_impl_inRange n x a b=some (decide (a≤x)&&decide (x≤b)):=by
 unfold p_impl_inRange
 cases decide (a≤x)<;>rfl
theorem isSmall_ok(n:Nat)(x:Int):p_impl_isSmall n x=some (decide (97≤x)&&decide (x≤122)):=by
 unfold p_impl_isSmall
 cases decide (97≤x)<;>rfl
theorem isFigure_ok(n:Nat)(x:Int):p_impl_isFigure n x=some (decide (48≤x)&&decide (x≤57)):=by
 unfold p_impl_isFigure
 cases decide (48≤x)<;>rfl
def smallC(c:Int):Bool:=decide (97≤c)&&decide (c≤122)
def figC(c:Int):Bool:=decide (48≤c)&&decide (c≤57)
def atomC(i:Nat)(c:UInt8):Bool:=smallC c.toNat||(!decide (i=0)&&(figC c.toNat||decide ((c.toNat:Int)=95)))
def atomOk(s:List UInt8):Bool:=allI atomC 0 s&&(decide (1≤(s.length:Int))&&decide ((s.length:Int)≤20))
theorem wrap_u8(c:UInt8):IntKind.wrap .i64 ((c.toNat:Nat):Int)=c.toNat:=by
 have:=c.toNat_lt
 exact wrap_i64 (by omega) (by omega)
theorem i_zero(i:Nat):decide ((i:Int)=0)=decide (i=0):=by
 by_cases h:i=0<;>simp [h]
theorem spec_AtomOk_ok(n:Nat)(s:List UInt8)(h:s.length<n)(hn:s.length<4611686018427387904):p_spec_AtomOk n s=some (atomOk s):=by
 unfold p_spec_AtomOk
 rw[loop_okI s atomC (fun i c hc=>by
  have hi:=lt_len hc
  simp only[p_spec_AtomOk_b1,lt_int hc,cond_true,ixs_nat,hc,Option.map_some,Option.bind_some,l1In_ok,wrap_u8,wrap_succ (show i<4611686018427387904 by omega),i_zero]
  unfold atomC smallC figC
  cases decide (97≤(c.toNat:Int))<;>cases decide ((c.toNat:Int)≤122)<;>cases decide (i=0)<;>cases decide (48≤(c.toNat:Int))<;>cases decide ((c.toNat:Int)≤57)<;>cases decide ((c.toNat:Int)=95)<;>rfl) (by simp only[p_spec_AtomOk_b1,not_lt_int,cond_false]) h]
 unfold atomOk
 by_cases c:allI atomC 0 s=true
 ·rw[if_pos c,c]; simp only[Option.bind_some,l1In_ok,Bool.true_and]
 ·rw[if_neg c]; simp only[Bool.not_eq_true]at c; rw[c]; rfl
theorem impl_AtomOk_ok(n:Nat)(s:List UInt8)(h:s.length<n)(hn:s.length<4611686018427387904):p_impl_AtomOk n s=some (atomOk s):=by
 unfold p_impl_AtomOk
 rw[loop_okI s atomC (fun i c hc=>by
  have hi:=lt_len hc
  simp only[p_impl_AtomOk_b1,lt_int hc,cond_true,ixs_nat,hc,Option.map_some,Option.bind_some,isSmall_ok,isFigure_ok,wrap_succ (show i<4611686018427387904 by omega),i_zero]
  unfold atomC smallC figC
  cases decide (97≤(c.toNat:Int))<;>cases decide ((c.toNat:Int)≤122)<;>cases decide (i=0)<;>cases decide (48≤(c.toNat:Int))<;>cases decide ((c.toNat:Int)≤57)<;>cases decide ((c.toNat:Int)=95)<;>rfl) (by simp only[p_impl_AtomOk_b1,not_lt_int,cond_false]) h]
 unfold atomOk
 by_cases c:allI atomC 0 s=true
 ·rw[if_pos c,c]; simp only[Option.bind_some,inRange_ok,Bool.true_and]
 ·rw[if_neg c]; simp only[Bool.not_eq_true]at c; rw[c]; rfl

end Go.Own.Q
