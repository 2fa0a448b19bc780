/- The law FnExactPutCode, put together. No conditions. -/
import Derived.Test.YtjfgchodolnmcaaW27PutCode
set_option linter.unusedVariables false
set_option linter.unusedSimpArgs false
set_option linter.unnecessarySimpa false
namespace Go.Own.Q
open Go Go.Proofs
theorem law(a:S_laws_Code)(ho:okCode a): ∃n,p_laws_FnExactPutCode n a.f0 a.f1=some true:=by
 refine⟨41*dCode a+1000, ?_⟩
 generalize hN:41*dCode a+1000=n
 unfold p_laws_FnExactPutCode
 rw[szCode_ok n (h:=by rw[S_laws_Code_eta]; omega) (ho:=by rw[S_laws_Code_eta]; exact ho) (h0:=by omega) (h1:=by omega),S_laws_Code_eta]
 by_cases hz:(zCode a:Int)≤1048576
 ·have hd:=dCode_z a
  rw[if_pos hz]
  simp only[Option.bind_some]
  rw[decide_eq_false (by omega),cond_false]
  rw[toCode_ok n (h:=by rw[S_laws_Code_eta]; omega) (hz:=by rw[S_laws_Code_eta]; omega)]
  simp only[S_laws_Code_eta,Option.bind_some]
  have hw:wCode (cCode a)=dCode a:=wCode_c a
  generalize cCode a=t at*
  obtain⟨fs,ps⟩:=t
  have hwe:wCode (.mk fs ps)=3+dl wFn fs+dl wPat ps:=rfl
  have hn:n≤1099511627776:=by omega
  obtain⟨r,r1,r2,r3⟩:=codeBoth n hn fs ps (by omega) (by omega) (by omega)
  have e0:([]:List Int).length=0:=rfl
  have e1:((1:Nat):Int)=1:=rfl
  have k1:=eqCode_ok n (a0:=fs) (a1:=ps) (by omega) (by omega)
  have k2:=eqByteS_ok n r (by omega) (by omega)
  have m1:=markFnS_ok n hn fs 1 (by omega) (by omega) (by omega)
  have l1:=leFnS fs 1
  have g1:=geFnS fs 1
  have m2:=markPatS_ok n hn ps (mkFnS fs 1).1 (by omega) (by omega) (by omega)
  have g2:=gePatS ps (mkFnS fs 1).1
  have hdl: ∀l:List Int,dl (fun _=>0) l=l.length+1:=fun l=>by
   induction l with
   | nil=>rfl
   | cons x l ih=>simp only[dl,ih,List.length_cons]; omega
  have m3:=markByteS_ok n hn r 1 (by rw[hdl]; omega) (by omega) (by rw[hdl]; omega)
  have h3:=heldByteS_ok n hn r 1 (by rw[hdl]; omega) (by omega) (by rw[hdl]; omega)
  rw[e1]at m1 m3 h3
  simp only[r1,r2,k1,k2,m1,m2,m3,h3,Option.bind_some,Bool.not_true,cond_false,decide_eq_false (show ¬ ((mkPatS ps (mkFnS fs 1).1).1:Int)<0 by omega),decide_eq_false (show ¬ ((mkByteS r 1).1:Int)<0 by omega),decide_true]
 ·rw[if_neg hz]; rfl
end Go.Own.Q
