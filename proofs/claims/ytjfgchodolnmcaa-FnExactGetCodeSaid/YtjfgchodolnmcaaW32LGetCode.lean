/- The law FnExactGetCode, put together. No conditions. -/
import Derived.Test.YtjfgchodolnmcaaW32GetCode
set_option linter.unusedVariables false
set_option linter.unusedSimpArgs false
set_option linter.unnecessarySimpa false
namespace Go.Own.Q
open Go Go.Proofs
theorem JT(n:Nat)(l:List Int)(h:l.length<n)(h2:l.length≤1048576):eO n l=some l:=by
 unfold eO
 have hck:(decide ((0:Int)≤(l.length:Int)∧(l.length:Int)≤maxLen∧1*(l.length:Int)≤281474976710656))=true:=decide_eq_true ⟨by omega,by simp only[maxLen]; omega,by omega⟩
 rw[hck]
 have hl:=QD (body:=gX n l) l (fun a=>a) 0 (fun i a o b ha hb=>by
  have hi:=bL ha
  simp only[gX,cK ha,cond_true,bI,ha,hb,Option.bind_some,Int.toNat_natCast,aI (show i<4611686018427387904 by omega)]) (fun o=>by simp only[gX,aK,cond_false]) h
 rw[List.map_id']at hl
 simp only[ck,cond_true,Option.bind_some,Int.toNat_natCast]
 refine(congrArg (fun q=>Option.bind q _) hl).trans ?_
 rfl
theorem law(a:List Int)(ho:a.length≤maxLen∧ ∀x∈a,IntKind.u8.min≤x∧x≤IntKind.u8.max): ∃n,gA n a=some true:=by
 refine⟨3*a.length+4000, ?_⟩
 generalize hN:3*a.length+4000=n
 unfold gA
 by_cases hz:(1048576:Int)<(a.length:Int)
 ·rw[decide_eq_true hz]; rfl
 ·rw[decide_eq_false hz,cond_false]
  have hn:n≤1099511627776:=by omega
  have H:Hy n a:=⟨by omega,by omega,fun x hx=>by
   have:=ho.2 x hx
   have e1:IntKind.u8.min=0:=rfl
   have e2:IntKind.u8.max=255:=rfl
   omega⟩
  obtain⟨g1,gw⟩:=TR H (by omega) hn (by omega)
  have g2:=Bq H (by omega) hn (by omega)
  have t1:=JT n a (by omega) (by omega)
  generalize Mc a=g at*
  obtain⟨fs,ps,ok⟩:=g
  simp only at gw
  have e1:((1:Nat):Int)=1:=rfl
  have hdl: ∀l:List Int,dl (fun _=>0) l=l.length+1:=fun l=>by
   induction l with
   | nil=>rfl
   | cons x l ih=>simp only[dl,ih,List.length_cons]; omega
  have k1:=MU n (a0:=fs) (a1:=ps) (by omega) (by omega) (by omega)
  have k2:=Jt n a (by omega) (by omega)
  have m1:=Je n hn fs 1 (by omega) (by omega) (by omega)
  have h1:=Jm n hn fs 1 (by omega) (by omega) (by omega)
  have l1:=leFnS fs 1
  have r1:=geFnS fs 1
  have m2:=BT n hn ps (oQ fs 1).1 (by omega) (by omega) (by omega)
  have h2:=BZ n hn ps (oQ fs 1).1 (by omega) (by omega) (by omega)
  have r2:=TS ps (oQ fs 1).1
  have m3:=Gi n hn a 1 (by rw[hdl]; omega) (by omega) (by rw[hdl]; omega)
  have hc:gO n (oQ fs 1).2 (fK ps (oQ fs 1).1).2 (1:Int)=some ((fK ps (oQ fs 1).1).1:Int):=by
   unfold gO
   rw[e1]at h1
   simp only[h1,h2,Option.bind_some,decide_eq_false (show ¬ ((oQ fs 1).1:Int)<0 by omega),decide_eq_false (show ¬ ((fK ps (oQ fs 1).1).1:Int)<0 by omega),cond_false]
  rw[e1]at m1 m3
  simp only[t1,g1,g2,k1,k2,m1,m2,m3,hc,Option.bind_some,Bool.not_true,cond_false,beq_self_eq_true,decide_eq_false (show ¬ ((fK ps (oQ fs 1).1).1:Int)<0 by omega),decide_eq_false (show ¬ ((Aa a 1).1:Int)<0 by omega),decide_true]
end Go.Own.Q
