/- The law FnExactPurgeCode, put together. No conditions. -/
import Derived.Test.YtjfgchodolnmcaaW33TabCopy
set_option linter.unusedVariables false
set_option linter.unusedSimpArgs false
set_option linter.unnecessarySimpa false
namespace Go.Own.Q
open Go Go.Proofs
/-- What both answer. -/
def Cp(l:List aC)(s:List UInt8):List aC×Int:=
 bif !(kL s&&qD l)then(l,1)else match l[(zI l s).toNat]? with
  | some e=>bif decide (zI l s<0)|| !e.f4 then(l,4)else(l.set (zI l s).toNat (aC.mk e.f0 e.f1 e.f2 e.f3 false [] []),0)
  | none=>(l,4)
theorem NT(n:Nat)(hn:n≤1099511627776)(l:List aC)(s:List UInt8)(h:dl bQ l+400<n)(hs:s.length<n):eH n l s=some (Cp l s)∧hH n l s=some (Cp l s):=by
 have l1:=bK bQ l
 unfold eH hH
 rw[Gy n hn l (by omega),Ji n hn l (by omega),pL n s (by omega) (by omega),pH n s (by omega) (by omega),Bz n hn l h,Bw n hn l h]
 simp only[Option.bind_some]
 have g1:(bif !kL s then some true else some (!qD l))=some (!(kL s&&qD l)):=by cases kL s<;>rfl
 have g2:(bif !qD l then some true else some (!kL s))=some (!(kL s&&qD l)):=by cases kL s<;>cases qD l<;>rfl
 rw[g1,g2,Option.bind_some]
 unfold Cp
 cases kL s&&qD l with
 | false=>exact⟨rfl,rfl⟩
 | true=>
  simp only[Bool.not_true,cond_false]
  rw[Js n l s (by omega) (by omega),Nf n l s (by omega) (by omega)]
  simp only[Option.bind_some]
  rcases nK (MN s) l 0 with⟨h1,_⟩ | ⟨k,a,h1,h2,_⟩
  ·have h1:zI l s= -1:=h1
   rw[h1]
   have hz:(bif decide ((-1:Int)<0)then some true else(ix l (-1)).bind fun e27_10=>some (!e27_10.f4))=some true:=rfl
   rw[hz]
   simp only[Option.bind_some,cond_true]
   cases l[Int.toNat (-1)]? <;>exact⟨rfl,rfl⟩
  ·have h1:zI l s=(k:Int):=by rw[Nat.zero_add]at h1; exact h1
   have hk:=bI h2
   rw[h1,decide_eq_false (show ¬ (k:Int)<0 by omega)]
   simp only[cond_false,bB,h2,Option.bind_some,Int.toNat_natCast,Bool.false_or]
   cases a.f4 with
   | false=>exact⟨rfl,rfl⟩
   | true=>
    simp only[Bool.not_true,cond_false,List.getElem?_set_self hk,Option.bind_some,List.set_set]
    exact⟨by first | trivial | rfl,by first | trivial | rfl⟩
theorem Oj{α:Type}(w:α→Nat){a b:α}(hw:w b≤w a): ∀ {l:List α} {k:Nat},l[k]? =some a→dl w (l.set k b)≤dl w l
 | x::r,0,h=>by
  simp only[List.getElem?_cons_zero,Option.some.injEq]at h
  subst h
  simp only[List.set_cons_zero,dl]; omega
 | x::r,k+1,h=>by
  simp only[List.getElem?_cons_succ]at h
  have:=Oj w hw (l:=r) h
  simp only[List.set_cons_succ,dl]; omega
theorem NS(l:List aC)(s:List UInt8):dl bQ (Cp l s).1≤dl bQ l:=by
 unfold Cp
 cases !(kL s&&qD l)with
 | true=>exact Nat.le_refl _
 | false=>
  rw[cond_false]
  cases h:l[(zI l s).toNat]? with
  | none=>exact Nat.le_refl _
  | some e=>
   simp only
   cases decide (zI l s<0)|| !e.f4 with
   | true=>exact Nat.le_refl _
   | false=>
    refine Oj bQ ?_ h
    have h1:=bK wFn e.f5
    have h2:=bK cO e.f6
    have e1:dl wFn ([]:List aB)=1:=rfl
    have e2:dl cO ([]:List aA)=1:=rfl
    rw[sD,sD]
    simp only[e1,e2]
    omega
theorem law(l:List S_laws_Entry)(s:List UInt8)(ho:l.length≤maxLen∧ ∀a∈l,okEntry a)(hs:s.length≤maxLen): ∃n,dU n l s=some true:=by
 refine⟨dl mB l+s.length+500, ?_⟩
 generalize hN:dl mB l+s.length+500=n
 unfold dU
 by_cases hs2:(1048576:Int)<(s.length:Int)
 ·rw[decide_eq_true hs2]; rfl
 ·rw[decide_eq_false hs2,cond_false,Hv n l 1048576 (by omega) ho.1 ho.2 (by omega) (by omega)]
  by_cases hz:(zl kK l:Int)≤1048576
  ·have hd:=KA (C:=100) Ny (by omega) (by omega) l
   rw[if_pos hz]
   simp only[Option.bind_some]
   rw[decide_eq_false (by omega),cond_false]
   rw[Hu n l (by omega) (by omega)]
   simp only[Option.bind_some]
   have hc:dl bQ (Av l)=dl mB l:=MC l
   generalize Av l=t at*
   have hn:n≤1099511627776:=by omega
   obtain⟨h1,h2⟩:=NT n hn t s (by omega) (by omega)
   have hw:=NS t s
   rw[h1,h2]
   generalize (Cp t s)=r at*
   have e1:((1:Nat):Int)=1:=rfl
   have k1:=Bj n r.1 (by omega) (by omega)
   have k2:=Bj n t (by omega) (by omega)
   have m1:=wJ n hn r.1 1 (by omega) (by omega) (by omega)
   have q1:=FD n hn r.1 1 (by omega) (by omega) (by omega)
   have m2:=wJ n hn t 1 (by omega) (by omega) (by omega)
   rw[e1]at m1 q1 m2
   simp only[k1,k2,m1,m2,q1,Option.bind_some,Bool.not_true,cond_false,decide_true,decide_eq_false (show ¬ ((jV r.1 1).1:Int)<0 by omega),decide_eq_false (show ¬ ((jV t 1).1:Int)<0 by omega)]
  ·rw[if_neg hz]; rfl
end Go.Own.Q
