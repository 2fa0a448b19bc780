/- When a table is right: the program's answer and the reference's, in plain Lean. No conditions. -/
import Derived.Test.YtjfgchodolnmcaaW33CodeOk
set_option linter.unusedVariables false
set_option linter.unusedSimpArgs false
set_option linter.unnecessarySimpa false
namespace Go.Own.Q
open Go Go.Proofs

theorem Fw: ∀(a b:List UInt8),(!pG a b)=(pG b a||decide (b=a))
 | a,[]=>by cases a<;>rfl
 | [],y::b=>rfl
 | x::a,y::b=>by
  have ih:(!Op.bytesLess a b)=(Op.bytesLess b a||decide (b=a)):=Fw a b
  show(!(decide (x<y)||((x == y)&&Op.bytesLess a b)))=((decide (y<x)||((y == x)&&Op.bytesLess b a))||decide (y::b=x::a))
  by_cases h:x=y
  ·subst h
   have: ¬ x<x:=by rw[UInt8.lt_iff_toNat_lt]; omega
   rw[decide_eq_false this]
   simp only[beq_self_eq_true,Bool.true_and,Bool.false_or,List.cons.injEq,true_and]
   exact ih
  ·have h2: ¬ y=x:=fun e=>h e.symm
   have e1:(x == y)=false:=beq_eq_false_iff_ne.2 h
   have e2:(y == x)=false:=beq_eq_false_iff_ne.2 h2
   have e3:decide (y::b=x::a)=false:=decide_eq_false (by simp [h2])
   rw[e1,e2,e3]
   have hn:x.toNat≠y.toNat:=fun e=>h (UInt8.toNat_inj.1 e)
   by_cases h3:x<y
   ·have: ¬ y<x:=by rw[UInt8.lt_iff_toNat_lt]at*; omega
    rw[decide_eq_true h3,decide_eq_false this]; rfl
   ·have:y<x:=by rw[UInt8.lt_iff_toNat_lt]at*; omega
    rw[decide_eq_false h3,decide_eq_true this]; rfl
def uH(e:aC):Bool:=(kL e.f0&&((decide (1≤e.f1)&&decide (e.f1≤10000))&&(BB e.f2 e.f3&&BB e.f5 e.f6)))&&(bif e.f4 then decide (2≤e.f1)else decide ((e.f5.length:Int)=0)&&decide ((e.f6.length:Int)=0))
theorem sD(e:aC):bQ e=3+e.f0.length+(3+dl wFn e.f2+dl cO e.f3)+(3+dl wFn e.f5+dl cO e.f6):=rfl
theorem Ex(n:Nat)(hn:n≤1099511627776)(e:aC)(h:bQ e+400<n):iV n e.f0 e.f1 e.f2 e.f3 e.f4 e.f5 e.f6=some (uH e):=by
 rw[sD]at h
 unfold iV uH
 have e2:decide ((1:Int)<e.f1)=decide ((2:Int)≤e.f1):=decide_eq_decide.2 (by omega)
 rw[pH n e.f0 (by omega) (by omega),rU,uB n hn e.f2 e.f3 (by omega) (by omega),uB n hn e.f5 e.f6 (by omega) (by omega),e2]
 simp only[Option.bind_some]
 generalize (decide (1≤e.f1)&&decide (e.f1≤10000))=q1
 generalize decide (2≤e.f1)=q2
 cases kL e.f0<;>cases q1<;>cases BB e.f2 e.f3<;>cases BB e.f5 e.f6<;>cases e.f4<;>cases decide ((e.f5.length:Int)=0)<;>rfl
theorem FC(n:Nat)(hn:n≤1099511627776)(e:aC)(h:bQ e+400<n):kH n e.f0 e.f1 e.f2 e.f3 e.f4 e.f5 e.f6=some (uH e):=by
 rw[sD]at h
 unfold kH uH
 rw[pL n e.f0 (by omega) (by omega),jA,uE n hn e.f2 e.f3 (by omega) (by omega),uE n hn e.f5 e.f6 (by omega) (by omega)]
 simp only[Option.bind_some]
 generalize (decide (1≤e.f1)&&decide (e.f1≤10000))=q1
 generalize decide (2≤e.f1)=q2
 cases kL e.f0<;>cases q1<;>cases BB e.f2 e.f3<;>cases BB e.f5 e.f6<;>cases e.f4<;>cases decide ((e.f5.length:Int)=0)<;>rfl
def Jw(l:List aC)(j:Nat)(e:aC):Bool:=match j with
 | 0=>true
 | j+1=>match l[j]? with
  | some p=>pG p.f0 e.f0
  | none=>false
def qD(l:List aC):Bool:=qK (fun j e=>uH e&&Jw l j e) 0 l&&decide ((l.length:Int)≤10)
theorem Bw(n:Nat)(hn:n≤1099511627776)(l:List aC)(h:dl bQ l+400<n):kC n l=some (qD l):=by
 have hl:=bK bQ l
 unfold kC qD
 rw[qM l (fun j e=>uH e&&Jw l j e) (fun j e hj=>by
  have hk:=bI hj
  have hm:=cU bQ (List.mem_of_getElem? hj)
  simp only[jN,bT hj,cond_true,bB,hj,Option.bind_some,Ex n hn e (by omega),aN (show j<4611686018427387904 by omega)]
  cases uH e with
  | false=>rfl
  | true=>
   simp only[Bool.not_true,cond_false,Bool.true_and]
   cases j with
   | zero=>rfl
   | succ j=>
    have hg:l[j]? =some l[j]:=List.getElem?_eq_getElem (by omega)
    generalize l[j]=p at hg
    have hpv:Jw l (j+1) e=pG p.f0 e.f0:=by show(match l[j]? with | some p=>pG p.f0 e.f0 | none=>false)=_; rw[hg]
    rw[hpv,decide_eq_true (show(0:Int)<((j+1:Nat):Int)by omega),vS (by omega),bB,hg]
    simp only[cond_true,Option.bind_some]
    cases pG p.f0 e.f0<;>rfl) (by simp only[jN,aM,cond_false]) (by omega)]
 generalize qK _ 0 l=q
 cases q<;>rfl
theorem Bz(n:Nat)(hn:n≤1099511627776)(l:List aC)(h:dl bQ l+400<n):kJ n l=some (qD l):=by
 have hl:=bK bQ l
 unfold kJ qD
 rw[qM l (fun j e=>uH e&&Jw l j e) (fun j e hj=>by
  have hk:=bI hj
  have hm:=cU bQ (List.mem_of_getElem? hj)
  simp only[jP,bT hj,cond_true,bB,hj,Option.bind_some,FC n hn e (by omega),aN (show j<4611686018427387904 by omega)]
  cases uH e with
  | false=>rfl
  | true=>
   simp only[Bool.not_true,cond_false,Bool.true_and]
   cases j with
   | zero=>rfl
   | succ j=>
    have hg:l[j]? =some l[j]:=List.getElem?_eq_getElem (by omega)
    generalize l[j]=p at hg
    have hpv:Jw l (j+1) e=pG p.f0 e.f0:=by show(match l[j]? with | some p=>pG p.f0 e.f0 | none=>false)=_; rw[hg]
    rw[hpv,decide_eq_true (show(0:Int)<((j+1:Nat):Int)by omega),vS (by omega),bB,hg]
    simp only[cond_true,Option.bind_some, ←Fw]
    cases pG p.f0 e.f0<;>rfl) (by simp only[jP,aM,cond_false]) (by omega)]
 generalize qK _ 0 l=q
 cases q<;>rfl
end Go.Own.Q
