/- Words: the program's answers and the reference's, in plain Lean. No conditions. -/
import Derived.Test.YtjfgchodolnmcaaW27Atom
set_option linter.unusedVariables false
set_option linter.unusedSimpArgs false
set_option linter.unnecessarySimpa false
namespace Go.Own.Q
open Go Go.Proofs

def largeC(c:Int):Bool:=(decide (65≤c)&&decide (c≤90))||decide (c=95)
theorem isLarge_ok(n:Nat)(x:Int):p_impl_isLarge n x=some (largeC x):=by
 unfold p_impl_isLarge largeC
 cases decide (65≤x)<;>cases decide (x≤90)<;>rfl
theorem isSmallC_ok(n:Nat)(x:Int):p_impl_isSmall n x=some (smallC x):=isSmall_ok n x
theorem isFigC_ok(n:Nat)(x:Int):p_impl_isFigure n x=some (figC x):=isFigure_ok n x
def wordC(c:UInt8):Bool:=smallC c.toNat||(largeC c.toNat||figC c.toNat)
theorem isWordByte_ok(n:Nat)(x:Int):p_impl_isWordByte n x=some (smallC x||(largeC x||figC x)):=by
 unfold p_impl_isWordByte
 rw[isSmallC_ok,isLarge_ok,isFigC_ok]
 cases smallC x<;>cases largeC x<;>cases figC x<;>rfl
def varC(i:Nat)(c:UInt8):Bool:=largeC c.toNat||(!decide (i=0)&&(smallC c.toNat||figC c.toNat))
def varOk(s:List UInt8):Bool:=allI varC 0 s&&(decide (1≤(s.length:Int))&&decide ((s.length:Int)≤20))
theorem allI_word: ∀(r:List UInt8) (i:Nat),0<i→allI varC i r=r.all wordC
 | [],i,h=>rfl
 | c::r,i,h=>by
  have e:varC i c=wordC c:=by
   unfold varC wordC
   rw[decide_eq_false (by omega)]
   cases largeC (c.toNat:Int)<;>cases smallC (c.toNat:Int)<;>cases figC (c.toNat:Int)<;>rfl
  simp only[allI,List.all_cons,allI_word r (i+1) (by omega),e]
theorem impl_varOk_ok(n:Nat)(s:List UInt8)(h:s.length<n)(hn:s.length<4611686018427387904):p_impl_varOk n s=some (varOk s):=by
 unfold p_impl_varOk
 rw[loop_ok s wordC (fun i c hc=>by
  have hi:=lt_len hc
  simp only[p_impl_varOk_b1,lt_int hc,cond_true,ixs_nat,hc,Option.map_some,Option.bind_some,isWordByte_ok,wrap_succ (show i<4611686018427387904 by omega)]
  unfold wordC
  cases smallC (c.toNat:Int)<;>cases largeC (c.toNat:Int)<;>cases figC (c.toNat:Int)<;>rfl) (by simp only[p_impl_varOk_b1,not_lt_int,cond_false]) h]
 unfold varOk
 cases s with
 | nil=>rfl
 | cons c r=>
  have e:allI varC 0 (c::r)=(largeC c.toNat&&r.all wordC):=by
   simp only[allI,Nat.zero_add,allI_word r 1 (by omega)]
   unfold varC
   rw[decide_eq_true rfl]
   cases largeC (c.toNat:Int)<;>rfl
  have e2:(c::r).all wordC=(wordC c&&r.all wordC):=List.all_cons
  have i0:ixs (c::r) (0:Int)=some (c.toNat:Int):=rfl
  have hw:largeC c.toNat=true→wordC c=true:=fun h=>by unfold wordC; rw[h]; cases smallC (c.toNat:Int)<;>rfl
  rw[e,e2]
  generalize r.all wordC=q
  by_cases hq:(wordC c&&q)=true
  ·rw[if_pos hq]
   simp only[Option.bind_some,inRange_ok,i0,isLarge_ok]
   have hq2:q=true:=by cases q with | true=>rfl | false=>simp at hq
   subst hq2
   cases decide (1≤((c::r).length:Int))<;>cases decide (((c::r).length:Int)≤20)<;>cases largeC (c.toNat:Int)<;>rfl
  ·rw[if_neg hq]
   cases hl:largeC (c.toNat:Int)with
   | false=>rfl
   | true=>
    rw[hw hl]at hq
    cases q with
    | true=>simp at hq
    | false=>rfl
def xatomOk(s:List UInt8):Bool:=atomOk s&&(!decide (s=[99,97,115,101])&&(!decide (s=[111,102])&& !decide (s=[101,110,100])))
theorem xAtomOk_ok(n:Nat)(s:List UInt8)(h:s.length<n)(hn:s.length<4611686018427387904):p_impl_xAtomOk n s=some (xatomOk s):=by
 unfold p_impl_xAtomOk xatomOk
 rw[impl_AtomOk_ok n s h hn,Option.bind_some]
 generalize decide (s=[99,97,115,101])=a
 generalize decide (s=[111,102])=b
 generalize decide (s=[101,110,100])=c
 cases atomOk s<;>cases a<;>cases b<;>cases c<;>rfl
theorem l4Atom_ok(n:Nat)(s:List UInt8)(h:s.length<n)(hn:s.length<4611686018427387904):p_spec_l4Atom n s=some (xatomOk s):=by
 unfold p_spec_l4Atom xatomOk p_spec_l4Reserved
 rw[spec_AtomOk_ok n s h hn,Option.bind_some]
 generalize decide (s=[99,97,115,101])=a
 generalize decide (s=[111,102])=b
 generalize decide (s=[101,110,100])=c
 cases atomOk s<;>cases a<;>cases b<;>cases c<;>rfl
def opOk(s:List UInt8):Bool:=decide (s=[43])||(decide (s=[45])||(decide (s=[42])||(decide (s=[61,61])||decide (s=[60]))))
theorem isOp_ok(n:Nat)(s:List UInt8):p_impl_isOp n s=some (opOk s):=by
 unfold p_impl_isOp opOk
 generalize decide (s=[43])=a
 generalize decide (s=[45])=b
 generalize decide (s=[42])=c
 generalize decide (s=[61,61])=d
 generalize decide (s=[60])=e
 cases a<;>cases b<;>cases c<;>cases d<;>cases e<;>rfl
theorem l4Op_ok(n:Nat)(s:List UInt8):p_spec_l4Op n s=some (opOk s):=by
 unfold p_spec_l4Op opOk
 generalize decide (s=[43])=a
 generalize decide (s=[45])=b
 generalize decide (s=[42])=c
 generalize decide (s=[61,61])=d
 generalize decide (s=[60])=e
 cases a<;>cases b<;>cases c<;>cases d<;>cases e<;>rfl

end Go.Own.Q
