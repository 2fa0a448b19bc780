/- The program's answer: whether an expression, a pattern, is right; in plain Lean. No conditions. -/
import Derived.Test.YtgeomhdbckjkcaaW24ExprOk2
set_option linter.unusedVariables false
set_option linter.unusedSimpArgs false
set_option linter.unnecessarySimpa false
namespace Go.Own.Q
open Go Go.Proofs

/-- None of these is among those, nor twice. -/
def fr:List (List UInt8)→List (List UInt8)→Bool
 | _,[]=>true
 | P,v::r=> !decide (v∈P)&&fr (P++[v]) r
theorem QS: ∀(V W P:List (List UInt8)),fr P (V++W)=(fr P V&&fr (P++V) W)
 | [],W,P=>by simp [fr]
 | v::V,W,P=>by
  simp only[List.cons_append,fr,QS V W (P++[v]),List.append_assoc,Bool.and_assoc,List.nil_append]
theorem Lf: ∀(V P:List (List UInt8)),P.Nodup→(fr P V=true↔(P++V).Nodup)
 | [],P,h=>by simp [fr,h]
 | v::V,P,h=>by
  simp only[fr,Bool.and_eq_true,Bool.not_eq_true',decide_eq_false_iff_not]
  have e:P++v::V=(P++[v])++V:=by simp
  constructor
  ·rintro ⟨h1,h2⟩
   have hn:(P++[v]).Nodup:=by
    rw[List.nodup_append]
    exact⟨h,by simp,fun a ha b hb=>by simp only[List.mem_singleton]at hb; subst hb; exact fun e=>h1 (e ▸ ha)⟩
   rw[e]; exact(Lf V _ hn).1 h2
  ·intro h2
   rw[e]at h2
   have hn:=(List.nodup_append.1 h2).1
   refine⟨fun hm=> ?_,(Lf V _ hn).2 h2⟩
   exact(List.nodup_append.1 hn).2.2 v hm v (by simp) rfl
theorem fr_nil(V:List (List UInt8)):fr [] V=LP V:=by
 rw[Bool.eq_iff_iff,Lf V [] List.nodup_nil,PC]; simp

mutual
theorem Of: ∀e,(pW e).length≤oR e
 | .mk k m s l c=>by
  have:=GY l
  simp only[pW,oR]
  cases decide (k=3)<;>cases decide (s=[95])<;>simp<;>omega
theorem GY: ∀l,(kO l).length≤lM l
 | []=>by simp [kO]
 | x::r=>by have:=Of x; have:=GY r; simp only[kO,lM,List.length_append]; omega
end
abbrev JS:=Int×List (List UInt8)
def SY(d:Nat)(t:JS)(a:aA):JS⊕Unit:=bif xok d true a&&(decide (t.1+oR a≤300)&&fr t.2 (pW a))then .inl (t.1+oR a,t.2++pW a)else .inr ()
theorem NR(d:Nat): ∀(l:List aA) (t:JS),t.1≤300→vC (SY d) l t=bif l.all (xok d true)&&(decide (t.1+lM l≤300)&&fr t.2 (kO l))then .inl (t.1+lM l,t.2++kO l)else .inr ()
 | [],t,h=>by
  have e:decide (t.1+((lM []:Nat):Int)≤300)=true:=decide_eq_true (by simp only[lM]; omega)
  rw[e]
  simp [vC,kO,fr,lM]
 | a::r,t,h=>by
  simp only[vC]
  have e1:lM (a::r)=oR a+lM r:=by simp only[lM]
  have e2:kO (a::r)=pW a++kO r:=by simp only[kO]
  rw[e1,e2,QS,List.all_cons]
  by_cases q:(xok d true a&&(decide (t.1+oR a≤300)&&fr t.2 (pW a)))=true
  ·have e3:SY d t a= .inl (t.1+oR a,t.2++pW a):=by unfold SY; rw[q]; rfl
   simp only[Bool.and_eq_true,decide_eq_true_eq]at q
   obtain⟨q1,q2,q3⟩:=q
   rw[e3,q1,q3,Bool.true_and,Bool.true_and]
   simp only
   rw[NR d r _ q2]
   simp only
   rw[show t.1+((oR a+lM r:Nat):Int)=t.1+oR a+lM r by omega,List.append_assoc]
  ·have e3:SY d t a= .inr ():=by unfold SY; rw[Bool.not_eq_true]at q; rw[q]; rfl
   rw[e3]
   simp only
   cases h1:xok d true a with
   | false=>rfl
   | true=>
    rw[h1,Bool.true_and]at q
    cases h3:fr t.2 (pW a)with
    | false=>cases r.all (xok d true)<;>simp
    | true=>
     rw[h3,Bool.and_true,decide_eq_true_eq]at q
     rw[decide_eq_false (show ¬ t.1+((oR a+lM r:Nat):Int)≤300 by omega)]
     cases r.all (xok d true)<;>rfl
def jv:(Bool×Int×List (List UInt8))⊕(Int×Bool×Int×List (List UInt8))→Option (Bool×Int×List (List UInt8))
 | .inl (v,w,z)=>some (v,w,z)
 | .inr (_,_,w,z)=>some (true,w,z)
def pJ(b:Bool)(c:Int)(ns:List (List UInt8))(r:Bool×Int×List (List UInt8)):Prop:=r.1=b∧(b=true→r.2=(c,ns))
end Go.Own.Q
