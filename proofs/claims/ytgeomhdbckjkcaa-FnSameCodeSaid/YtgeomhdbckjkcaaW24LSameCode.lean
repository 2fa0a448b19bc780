/- The law FnSameCode, put together. No conditions. -/
import Derived.Test.YtgeomhdbckjkcaaW24DrawCode2
set_option linter.unusedVariables false
set_option linter.unusedSimpArgs false
set_option linter.unnecessarySimpa false
namespace Go.Own.Q
open Go Go.Proofs
theorem Ma(fs:List aG)(ps:List aB):0<(lG fs ps).length:=by
 have:=cR (fs.length:Int)
 simp only[lG,List.length_append]; omega
theorem JB(fs:List aG)(ps:List aB):(lG fs ps).length≤16+40*dl wFn fs+40*dl cS ps:=by
 have l0:=cR (fs.length:Int)
 have l1:=cR (ps.length:Int)
 have lf:=Da wFn BW Bv fs
 have lp:=Da cS mQ qU ps
 simp only[lG,List.length_append]; omega
theorem law(a:List Int)(ho:a.length≤maxLen∧ ∀x∈a,IntKind.u8.min≤x∧x≤IntKind.u8.max): ∃n,jV n a=some true:=by
 refine⟨1000000000000, ?_⟩
 generalize hN:(1000000000000:Nat)=n
 unfold jV uB
 by_cases hz:(1048576:Int)<(a.length:Int)
 ·rw[decide_eq_true hz]; rfl
 ·rw[decide_eq_false hz]
  have hn:n≤1099511627776:=by omega
  obtain⟨r,e,⟨h1,h2,h3⟩,h4,h5,h6⟩:=Dq (n:=n) (by omega) hn (code:=a) (by omega)
  rw[Option.bind_some,cond_false,e,Option.bind_some]
  obtain⟨fs,ps,gs,qs⟩:=r
  simp only at h1 h2 h3 h4 h5 h6 ⊢
  obtain⟨s,s1,s2,s3⟩:=(sH hn (fs:=fs) (gs:=gs) (ps:=ps) (qs:=qs) (by omega) (by omega)).eq (Aq hn (by omega) (by omega))
  obtain⟨t,t1,t2⟩:=sH (n:=n) hn (fs:=fs) (gs:=fs) (ps:=ps) (qs:=ps) (by omega) (by omega)
  have ht:t=true:=t2.2 ⟨rfl,rfl⟩
  subst ht
  have k1:=KA n hn fs ps (by omega) (by omega) (by omega)
  have k2:=KA n hn gs qs (by omega) (by omega) (by omega)
  simp only[s1,s2,t1,k1,k2,Option.bind_some,beq_self_eq_true,Bool.not_true,cond_false]
  cases c1:BZ fs ps&&ps.all (Cd 400)with
  | false=>rfl
  | true=>
   cases c2:BZ gs qs&&qs.all (Cd 400)with
   | false=>
    simp only[cond_true,cond_false,List.length_nil]
    cases decide (((lG fs ps).length:Int)=0)<;>rfl
   | true=>
    have p1:=Ma fs ps
    have p2:=Ma gs qs
    have q1:=JB fs ps
    simp only[cond_true,decide_eq_false (show ¬ ((lG fs ps).length:Int)=0 by omega),decide_eq_false (show ¬ ((lG gs qs).length:Int)=0 by omega),cond_false]
    simp only[Bool.and_eq_true]at c1 c2
    obtain⟨u,u1,u2⟩:=HU (n:=n) hn (a:=lG fs ps) (b:=lG gs qs) (by omega)
    have:u=s:=Bool.eq_iff_iff.2 (u2.trans (Iff.trans ⟨fun h=>Pp c1.1 c1.2 c2.1 c2.2 (by omega) (by omega) (by omega) (by omega) h,fun h=>by rw[h.1,h.2]⟩ s3.symm))
    subst this
    rw[u1]
    simp only[Option.bind_some,beq_self_eq_true]
end Go.Own.Q
