/- Code in bytes: the program's and the reference's, in plain Lean. No conditions. -/
import Derived.Test.YtjfgchodolnmcaaW27PutNum
set_option linter.unusedVariables false
set_option linter.unusedSimpArgs false
set_option linter.unnecessarySimpa false
namespace Go.Own.Q
open Go Go.Proofs

theorem patBoth: ∀(n:Nat),n≤1099511627776→ ∀(a:S_impl_Pat) (b:List Int),wPat a+21<n→b.length+40*wPat a≤400000000000→Both (p_impl_putPat n b a.f0 a.f1 a.f2 a.f3) (p_spec_l11PutPat n b a.f0 a.f1 a.f2 a.f3) b (40*wPat a)
 | 0,_,a,b,h,_=>by omega
 | n+1,hn,a,b,h,hb=>by
  have ih:=patBoth n (by omega)
  have hw:=wPat_e a
  have hl:=dl_len wPat a.f3
  rw[p_impl_putPat_succ,p_spec_l11PutPat_succ]
  unfold s_impl_putPat s_spec_l11PutPat
  refine(numBoth n b a.f0 (by omega) (by omega)).bind (k:=8+(8+a.f2.length+(8+40*dl wPat a.f3))) (fun r1 h1=> ?_) (by omega)
  refine(numBoth n r1 a.f1 (by omega) (by omega)).bind (k:=8+a.f2.length+(8+40*dl wPat a.f3)) (fun r2 h2=> ?_) (by omega)
  refine(textBoth n r2 a.f2 (by omega) (by omega)).bind (k:=8+40*dl wPat a.f3) (fun r3 h3=> ?_) (by omega)
  refine(numBoth n r3 (a.f3.length:Int) (by omega) (by omega)).bind (k:=40*dl wPat a.f3) (fun r4 h4=> ?_) (by omega)
  obtain⟨q,q1,q2,q3⟩:=loop_two (b1:=p_impl_putPat_b1 n (p_impl_putPat n) a.f3) (b2:=p_spec_l11PutPat_b1 n (p_spec_l11PutPat n) a.f3) a.f3 wPat 400000000000 (fun i x t hx ht=>by
   have hi:=lt_len hx
   have hm:=dl_mem wPat (List.mem_of_getElem? hx)
   obtain⟨t',e1,e2,e3⟩:=ih x t (by omega) (by omega)
   exact⟨t',by simp only[p_impl_putPat_b1,lt_int hx,cond_true,ix_nat,hx,Option.bind_some,e1,wrap_succ (show i<4611686018427387904 by omega)],by simp only[p_spec_l11PutPat_b1,lt_int hx,cond_true,ix_nat,hx,Option.bind_some,e2,wrap_succ (show i<4611686018427387904 by omega)],by omega⟩) (fun t=>by simp only[p_impl_putPat_b1,not_lt_int,cond_false]) (fun t=>by simp only[p_spec_l11PutPat_b1,not_lt_int,cond_false]) (n:=n) (by omega) r4 (by omega)
  exact⟨q,by rw[q1]; rfl,by rw[q2]; rfl,q3⟩
theorem patsFit_ok(n:Nat)(hn:n≤1099511627776)(fs:List S_impl_Fn)(ps:List S_impl_Pat)(h:dl wPat ps+400<n):p_impl_patsFit n fs ps=some (ps.all (fitB 400)):=by
 have hl:=dl_len wPat ps
 unfold p_impl_patsFit
 rw[loop_ok ps (fitB 400) (fun i a ha=>by
  have hi:=lt_len ha
  have hm:=dl_mem wPat (List.mem_of_getElem? ha)
  simp only[p_impl_patsFit_b1,lt_int ha,cond_true,ix_nat,ha,Option.bind_some,impl_PatFits_ok n hn a 400 (by omega),wrap_succ (show i<4611686018427387904 by omega)]
  cases fitB 400 a<;>rfl) (by simp only[p_impl_patsFit_b1,not_lt_int,cond_false]) (by omega)]
 cases ps.all (fitB 400)<;>rfl
theorem l11Pats_ok(n:Nat)(hn:n≤1099511627776)(fs:List S_impl_Fn)(ps:List S_impl_Pat)(h:dl wPat ps+400<n):p_spec_l11Pats n fs ps=some (ps.all (fitB 400)):=by
 have hl:=dl_len wPat ps
 unfold p_spec_l11Pats
 rw[loop_ok ps (fitB 400) (fun i a ha=>by
  have hi:=lt_len ha
  have hm:=dl_mem wPat (List.mem_of_getElem? ha)
  simp only[p_spec_l11Pats_b1,lt_int ha,cond_true,ix_nat,ha,Option.bind_some,spec_PatFits_ok n hn a 400 (by omega),wrap_succ (show i<4611686018427387904 by omega)]
  cases fitB 400 a<;>rfl) (by simp only[p_spec_l11Pats_b1,not_lt_int,cond_false]) (by omega)]
 cases ps.all (fitB 400)<;>rfl
theorem insBoth(n:Nat)(hn:n≤1099511627776)(f:S_impl_Fn)(b:List Int)(h:dl wIns f.f3+21<n)(hb:b.length+40*dl wIns f.f3≤400000000000): ∃q,loopN (p_impl_PutCode_b2 n f) n (b,(0:Int))=some (q,(f.f3.length:Int),false)∧loopN (p_spec_PutCode_b2 n f) n (b,(0:Int))=some (q,(f.f3.length:Int),false)∧q.length≤b.length+40*dl wIns f.f3:=by
 have hl:=dl_len wIns f.f3
 refine loop_two f.f3 wIns 400000000000 (fun i x t hx ht=> ?_) (fun t=>by simp only[p_impl_PutCode_b2,not_lt_int,cond_false]) (fun t=>by simp only[p_spec_PutCode_b2,not_lt_int,cond_false]) (n:=n) (by omega) b (by omega)
 have hi:=lt_len hx
 have hm:=dl_mem wIns (List.mem_of_getElem? hx)
 have hw:=wIns_e x
 obtain⟨t1,a1,c1,l1⟩:=numBoth n t x.f0 (by omega) (by omega)
 obtain⟨t2,a2,c2,l2⟩:=numBoth n t1 x.f1 (by omega) (by omega)
 obtain⟨t3,a3,c3,l3⟩:=textBoth n t2 x.f2 (by omega) (by omega)
 obtain⟨t4,a4,c4,l4⟩:=numBoth n t3 x.f3 (by omega) (by omega)
 exact⟨t4,by simp only[p_impl_PutCode_b2,lt_int hx,cond_true,ix_nat,hx,Option.bind_some,a1,a2,a3,a4,wrap_succ (show i<4611686018427387904 by omega)],by simp only[p_spec_PutCode_b2,lt_int hx,cond_true,ix_nat,hx,Option.bind_some,c1,c2,c3,c4,wrap_succ (show i<4611686018427387904 by omega)],by omega⟩
theorem codeBoth(n:Nat)(hn:n≤1099511627776)(fs:List S_impl_Fn)(ps:List S_impl_Pat)(h:dl wFn fs+400<n)(h3:dl wPat ps+400<n)(hs:40*dl wFn fs+40*dl wPat ps≤300000000000):Both (p_impl_PutCode n fs ps) (p_spec_PutCode n fs ps) [] (16+(40*dl wFn fs+40*dl wPat ps)):=by
 have hl:=dl_len wFn fs
 have hl2:=dl_len wPat ps
 have e0:([]:List Int).length=0:=rfl
 unfold p_impl_PutCode p_spec_PutCode
 rw[impl_CodeOk_ok n hn fs ps (by omega) h3,spec_CodeOk_ok n hn fs ps (by omega) h3,patsFit_ok n hn fs ps h3,l11Pats_ok n hn fs ps h3]
 have hg: ∀c:Bool,((some c:Option Bool).bind fun x=>bif !x then some true else(some (ps.all (fitB 400))).bind fun y=>some (!y))=some (!(c&&ps.all (fitB 400))):=fun c=>by cases c<;>rfl
 rw[hg,Option.bind_some,Option.bind_some]
 cases codeB fs ps&&ps.all (fitB 400)with
 | false=>exact⟨[],rfl,rfl,Nat.zero_le _⟩
 | true=>
  simp only[Bool.not_true,cond_false]
  refine(numBoth n [] (fs.length:Int) (by omega) (by omega)).bind (k:=8+(40*dl wFn fs+40*dl wPat ps)) (fun r1 h1=> ?_) (by omega)
  obtain⟨q,q1,q2,q3⟩:=loop_two (b1:=p_impl_PutCode_b1 n fs) (b2:=p_spec_PutCode_b1 n fs) fs wFn 400000000000 (fun i x t hx ht=>by
   have hi:=lt_len hx
   have hm:=dl_mem wFn (List.mem_of_getElem? hx)
   have hw:=wFn_e x
   obtain⟨t1,a1,c1,l1⟩:=textBoth n t x.f0 (by omega) (by omega)
   obtain⟨t2,a2,c2,l2⟩:=numBoth n t1 x.f1 (by omega) (by omega)
   obtain⟨t3,a3,c3,l3⟩:=numBoth n t2 x.f2 (by omega) (by omega)
   obtain⟨t4,a4,c4,l4⟩:=numBoth n t3 (x.f3.length:Int) (by omega) (by omega)
   obtain⟨t5,a5,c5,l5⟩:=insBoth n hn x t4 (by omega) (by omega)
   exact⟨t5,by simp only[p_impl_PutCode_b1,lt_int hx,cond_true,ix_nat,hx,Option.bind_some,a1,a2,a3,a4,a5,wrap_succ (show i<4611686018427387904 by omega)],by simp only[p_spec_PutCode_b1,lt_int hx,cond_true,ix_nat,hx,Option.bind_some,c1,c2,c3,c4,c5,wrap_succ (show i<4611686018427387904 by omega)],by omega⟩) (fun t=>by simp only[p_impl_PutCode_b1,not_lt_int,cond_false]) (fun t=>by simp only[p_spec_PutCode_b1,not_lt_int,cond_false]) (n:=n) (by omega) r1 (by omega)
  rw[q1,q2]
  simp only[Option.bind_some]
  have hq:Both (some q) (some q) r1 (40*dl wFn fs):=⟨q,rfl,rfl,q3⟩
  refine Both.bind (f1:=fun q=>(p_impl_putNum n q (ps.length:Int)).bind fun c=>(loopN (p_impl_PutCode_b3 n ps) n (c,(0:Int))).bind fun(v,_,_)=>some v) (f2:=fun q=>(p_spec_PutNum n q (ps.length:Int)).bind fun c=>(loopN (p_spec_PutCode_b3 n ps) n (c,(0:Int))).bind fun(v,_,_)=>some v) hq (k:=8+40*dl wPat ps) (fun r hr=> ?_) (by omega)
  refine(numBoth n r (ps.length:Int) (by omega) (by omega)).bind (k:=40*dl wPat ps) (fun r4 h4=> ?_) (by omega)
  obtain⟨p,p1,p2,p3⟩:=loop_two (b1:=p_impl_PutCode_b3 n ps) (b2:=p_spec_PutCode_b3 n ps) ps wPat 400000000000 (fun i x t hx ht=>by
   have hi:=lt_len hx
   have hm:=dl_mem wPat (List.mem_of_getElem? hx)
   obtain⟨t',e1,e2,e3⟩:=patBoth n hn x t (by omega) (by omega)
   exact⟨t',by simp only[p_impl_PutCode_b3,lt_int hx,cond_true,ix_nat,hx,Option.bind_some,e1,wrap_succ (show i<4611686018427387904 by omega)],by simp only[p_spec_PutCode_b3,lt_int hx,cond_true,ix_nat,hx,Option.bind_some,e2,wrap_succ (show i<4611686018427387904 by omega)],by omega⟩) (fun t=>by simp only[p_impl_PutCode_b3,not_lt_int,cond_false]) (fun t=>by simp only[p_spec_PutCode_b3,not_lt_int,cond_false]) (n:=n) (by omega) r4 (by omega)
  exact⟨p,by rw[p1]; rfl,by rw[p2]; rfl,p3⟩
theorem eqByteS_ok(n:Nat)(l:List Int)(h:l.length<n)(hn:n≤4611686018427387904):p_laws_eqByteS n l l=some true:=by
 unfold p_laws_eqByteS
 simp only[decide_true,Bool.not_true,cond_false]
 rw[loop_eq l (fun i a ha=>by
  have hi:=lt_len ha
  simp only[p_laws_eqByteS_b1,lt_int ha,cond_true,ix_nat,ha,Option.bind_some,decide_true,Bool.not_true,cond_false,wrap_succ (show i<4611686018427387904 by omega)]) (by simp only[p_laws_eqByteS_b1,not_lt_int,cond_false]) (by omega)]
 rfl
end Go.Own.Q
