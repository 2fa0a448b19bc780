/- When an instruction is right: the program's answer and the reference's, in plain Lean. No conditions. -/
import Derived.Test.YtjfgchodolnmcaaW27PatFits2
set_option linter.unusedVariables false
set_option linter.unusedSimpArgs false
set_option linter.unnecessarySimpa false
namespace Go.Own.Q
open Go Go.Proofs

def fnAtI(m:List S_impl_Fn)(s:List UInt8):Int:=fidx (fun f=>decide (f.f0=s)) 0 m
theorem fnAtI_get(m:List S_impl_Fn)(s:List UInt8):fnAtI m s= -1∨ ∃(k:Nat) (f:S_impl_Fn),fnAtI m s=(k:Int)∧m[k]? =some f:=by
 unfold fnAtI
 rcases fidx_get (fun f:S_impl_Fn=>decide (f.f0=s)) m 0 with⟨h,_⟩ | ⟨k,a,h,h1,_⟩
 ·exact .inl h
 ·exact .inr ⟨k,a,by rw[h]; simp,h1⟩
theorem l9FnAt_ok(n:Nat)(m:List S_impl_Fn)(ps:List S_impl_Pat)(s:List UInt8)(h:m.length<n)(hn:n<4611686018427387904):p_spec_l9FnAt n m ps s=some (fnAtI m s):=by
 unfold p_spec_l9FnAt fnAtI
 have e:=loop_find (body:=p_spec_l9FnAt_b1 n m s) m (fun f=>decide (f.f0=s)) (fun i=>(i:Int)) (fun i=>Sum.inl (i:Int)) (Sum.inr ((m.length:Int),false)) (fun i a ha=>by
  have hi:=lt_len ha
  simp only[p_spec_l9FnAt_b1,lt_int ha,cond_true,ix_nat,ha,Option.bind_some,wrap_succ (show i<4611686018427387904 by omega)]
  cases decide (a.f0=s)<;>rfl) (by simp only[p_spec_l9FnAt_b1,not_lt_int,cond_false]) h
 refine(congrArg (fun q=>Option.bind q _) e).trans ?_
 rcases fidx_get (fun f:S_impl_Fn=>decide (f.f0=s)) m 0 with⟨h,_⟩ | ⟨k,a,h,_⟩
 ·rw[h]; rfl
 ·rw[h,decide_eq_false (by omega)]
  simp only[Option.bind_some,cond_false,Int.toNat_natCast]
theorem fnAt_ok(n:Nat)(m:List S_impl_Fn)(ps:List S_impl_Pat)(s:List UInt8)(h:m.length<n)(hn:n<4611686018427387904):p_impl_fnAt n s m ps=some (fnAtI m s,m,ps):=by
 unfold p_impl_fnAt p_slices_IndexFunc_6c73 fnAtI
 have e:=loop_find (body:=p_slices_IndexFunc_6c73_b1 n m) m (fun f=>decide (f.f0=s)) (fun i=>((i:Int),s)) (fun i=>Sum.inl ((i:Int),s)) (Sum.inr ((m.length:Int),false,s)) (fun i a ha=>by
  have hi:=lt_len ha
  simp only[p_slices_IndexFunc_6c73_b1,p_impl_fnAt_1,lt_int ha,cond_true,ix_nat,ha,Option.bind_some,wrap_succ (show i<4611686018427387904 by omega)]
  cases decide (a.f0=s)<;>rfl) (by simp only[p_slices_IndexFunc_6c73_b1,not_lt_int,cond_false]) h
 have e:loopN (p_slices_IndexFunc_6c73_b1 n m) n ((0:Int),s)=_:=e
 rw[e]
 rcases fidx_get (fun f:S_impl_Fn=>decide (f.f0=s)) m 0 with⟨h,_⟩ | ⟨k,a,h,_⟩
 ·rw[h]; rfl
 ·rw[h,decide_eq_false (by omega)]
  simp only[Option.bind_some,cond_false,Int.toNat_natCast]

def insCall(fs:List S_impl_Fn)(i:S_impl_Ins):Bool:=match fs[(fnAtI fs i.f2).toNat]? with
 | some f=>decide (0≤fnAtI fs i.f2)&&(decide (f.f1=i.f1)&&decide (i.f3=0))
 | none=>false
def insPat(ps:List S_impl_Pat)(sl:Int)(i:S_impl_Ins):Bool:=(decide (0≤i.f1)&&decide (i.f1≤IntKind.wrap .i64 ((ps.length:Int) - 1)))&&(match ps[i.f1.toNat]? with
 | some p=>fitB sl p
 | none=>false)
/-- Is an instruction right? Where it goes to is told by itself. -/
def insB(fs:List S_impl_Fn)(ps:List S_impl_Pat)(sl:Int)(to:Bool)(i:S_impl_Ins):Bool:=
 bif decide (i.f0=1)then(decide (i.f2=[])&&decide (i.f3=0))&&(decide (0≤i.f1)&&decide (i.f1≤1000000000000))
 else bif decide (i.f0=2)then decide (i.f1=0)&&(xatomOk i.f2&&decide (i.f3=0))
 else bif decide (i.f0=3)then(decide (i.f2=[])&&decide (i.f3=0))&&(decide (0≤i.f1)&&decide (i.f1≤IntKind.wrap .i64 (sl - 1)))
 else bif decide (i.f0=4)then(decide (i.f2=[])&&decide (i.f3=0))&&(decide (0≤i.f1)&&decide (i.f1≤20))
 else bif decide (i.f0=5)then(decide (i.f2=[])&&decide (i.f3=0))&&(decide (0≤i.f1)&&decide (i.f1≤20))
 else bif decide (i.f0=6)then(decide (i.f2=[])&&decide (i.f3=0))&&(decide (2≤i.f1)&&decide (i.f1≤6))
 else bif decide (i.f0=7)then decide (i.f1=0)&&(opOk i.f2&&decide (i.f3=0))
 else bif decide (i.f0=8)then insCall fs i
 else bif decide (i.f0=9)then(decide (i.f2=[])&&to)&&insPat ps sl i
 else bif decide (i.f0=10)then(decide (i.f2=[])&&to)&&decide (i.f1=0)
 else(decide (i.f2=[])&&decide (i.f3=0))&&(decide (i.f1=0)&&(decide (11≤i.f0)&&decide (i.f0≤12)))
theorem wIns_e(i:S_impl_Ins):wIns i=4+i.f2.length:=rfl
theorem call_get(fs:List S_impl_Fn)(i:S_impl_Ins):(bif decide ((0:Int)≤fnAtI fs i.f2)then(ix fs (fnAtI fs i.f2)).bind fun e=>bif decide (e.f1=i.f1)then some (decide (i.f3=(0:Int)))else some false else some false)=some (insCall fs i):=by
 unfold insCall
 rcases fnAtI_get fs i.f2 with e | ⟨k,f,e,e2⟩
 ·rw[e]
  cases fs[(-1:Int).toNat]? <;>rfl
 ·rw[e,Int.toNat_natCast,e2,ix_nat,e2,decide_eq_true (by omega)]
  simp only[cond_true,Option.bind_some,Bool.true_and]
  cases decide (f.f1=i.f1)<;>rfl
theorem pat_get(ps:List S_impl_Pat)(x:Int)(h0:0≤x)(h1:x≤IntKind.wrap .i64 ((ps.length:Int) - 1))(hl:ps.length<4611686018427387904): ∃p,ps[x.toNat]? =some p∧ix ps x=some p:=by
 obtain⟨k,rfl⟩: ∃k:Nat,x=k:=⟨x.toNat,by omega⟩
 have hk:k<ps.length:=by
  rcases Nat.eq_zero_or_pos ps.length with h | h
  ·rw[h]at h1
   have:IntKind.wrap .i64 (((0:Nat):Int) - 1)= -1:=by decide
   omega
  ·have:IntKind.wrap .i64 ((ps.length:Int) - 1)=(ps.length:Int) - 1:=by
    obtain⟨m,hm⟩: ∃m,ps.length=m+1:=⟨ps.length - 1,by omega⟩
    rw[hm,wrap_pred (by omega)]; omega
   omega
 exact⟨ps[k],by rw[Int.toNat_natCast]; exact List.getElem?_eq_getElem hk,by rw[ix_nat]; exact List.getElem?_eq_getElem hk⟩
theorem pat_getI(n:Nat)(hn:n≤1099511627776)(ps:List S_impl_Pat)(sl:Int)(i:S_impl_Ins)(h:dl wPat ps+400<n):((p_impl_inRange n i.f1 (0:Int) (IntKind.wrap .i64 ((ps.length:Int) - (1:Int)))).bind fun c=>bif c then(ix ps i.f1).bind fun e=>(p_impl_PatFits n e.f0 e.f1 e.f2 e.f3 sl).bind fun c=>some c else some false)=some (insPat ps sl i):=by
 rw[inRange_ok,Option.bind_some]
 unfold insPat
 have hl:=dl_len wPat ps
 cases h1:decide (0≤i.f1)&&decide (i.f1≤IntKind.wrap .i64 ((ps.length:Int) - 1))with
 | false=>rfl
 | true=>
  simp only[Bool.and_eq_true,decide_eq_true_eq]at h1
  obtain⟨p,e1,e2⟩:=pat_get ps i.f1 h1.1 h1.2 (by omega)
  have hm:=dl_mem wPat (List.mem_of_getElem? e1)
  rw[e1,e2]
  simp only[cond_true,Option.bind_some,Bool.true_and,impl_PatFits_ok n hn p sl (by omega)]
theorem pat_getS(n:Nat)(hn:n≤1099511627776)(ps:List S_impl_Pat)(sl:Int)(i:S_impl_Ins)(h:dl wPat ps+400<n):((p_spec_l1In n i.f1 (0:Int) (IntKind.wrap .i64 ((ps.length:Int) - (1:Int)))).bind fun c=>bif c then(ix ps i.f1).bind fun e=>(p_spec_PatFits n e.f0 e.f1 e.f2 e.f3 sl).bind fun c=>some c else some false)=some (insPat ps sl i):=by
 rw[l1In_ok,Option.bind_some]
 unfold insPat
 have hl:=dl_len wPat ps
 cases h1:decide (0≤i.f1)&&decide (i.f1≤IntKind.wrap .i64 ((ps.length:Int) - 1))with
 | false=>rfl
 | true=>
  simp only[Bool.and_eq_true,decide_eq_true_eq]at h1
  obtain⟨p,e1,e2⟩:=pat_get ps i.f1 h1.1 h1.2 (by omega)
  have hm:=dl_mem wPat (List.mem_of_getElem? e1)
  rw[e1,e2]
  simp only[cond_true,Option.bind_some,Bool.true_and,spec_PatFits_ok n hn p sl (by omega)]
theorem insOk_ok(n:Nat)(hn:n≤1099511627776)(fs:List S_impl_Fn)(ps:List S_impl_Pat)(nm:List UInt8)(ar sl:Int)(is:List S_impl_Ins)(i:S_impl_Ins)(h:dl wPat ps+400<n)(h2:fs.length<n)(h3:wIns i<n):p_impl_insOk n nm ar sl is i.f0 i.f1 i.f2 i.f3 fs ps=some (insB fs ps sl (decide (0≤i.f3)&&decide (i.f3≤IntKind.wrap .i64 ((is.length:Int) - 1))) i,fs,ps):=by
 rw[wIns_e]at h3
 unfold p_impl_insOk insB
 rw[pat_getI n hn ps sl i h,fnAt_ok n fs ps i.f2 h2 (by omega),xAtomOk_ok n i.f2 (by omega) (by omega),isOp_ok]
 simp only[inRange_ok,Option.bind_some,call_get]
 generalize insCall fs i=q1
 generalize insPat ps sl i=q2
 generalize xatomOk i.f2=q3
 generalize opOk i.f2=q4
 generalize (decide (0≤i.f3)&&decide (i.f3≤IntKind.wrap .i64 ((is.length:Int) - 1)))=q5
 generalize (decide (0≤i.f1)&&decide (i.f1≤IntKind.wrap .i64 (sl - 1)))=q6
 generalize (decide (0≤i.f1)&&decide (i.f1≤1000000000000))=q7
 generalize (decide (0≤i.f1)&&decide (i.f1≤20))=q8
 generalize (decide (2≤i.f1)&&decide (i.f1≤6))=q9
 generalize decide (i.f2=[])=b1
 generalize decide (i.f3=0)=b2
 generalize decide (i.f1=0)=b3
 have key: ∀(c:Bool),(bif c then some b2 else some false:Option Bool)=some (c&&b2):=fun c=>by cases c<;>rfl
 cases decide (i.f0=1)with
 | true=>cases b1<;>cases b2<;>rfl
 | false=>
 cases decide (i.f0=2)with
 | true=>cases b1<;>cases b2<;>cases b3<;>cases q3<;>rfl
 | false=>
 cases decide (i.f0=3)with
 | true=>cases b1<;>cases b2<;>rfl
 | false=>
 cases decide (i.f0=4)with
 | true=>cases b1<;>cases b2<;>rfl
 | false=>
 cases decide (i.f0=5)with
 | true=>cases b1<;>cases b2<;>rfl
 | false=>
 cases decide (i.f0=6)with
 | true=>cases b1<;>cases b2<;>rfl
 | false=>
 cases decide (i.f0=7)with
 | true=>cases b1<;>cases b2<;>cases b3<;>cases q4<;>rfl
 | false=>
 cases decide (i.f0=8)with
 | true=>cases b1<;>rfl
 | false=>
 cases decide (i.f0=9)with
 | true=>cases b1<;>cases b2<;>cases q5<;>rfl
 | false=>
 cases decide (i.f0=10)with
 | true=>cases b1<;>cases b2<;>cases q5<;>cases b3<;>rfl
 | false=>
 by_cases h11:i.f0=11
 ·rw[h11]; cases b1<;>cases b2<;>cases b3<;>rfl
 ·rw[decide_eq_false h11]
  by_cases h12:i.f0=12
  ·rw[h12]; cases b1<;>cases b2<;>cases b3<;>rfl
  ·have hx:(decide (11≤i.f0)&&decide (i.f0≤12))=false:=by
    rw[Bool.and_eq_false_iff]
    by_cases h13:11≤i.f0
    ·exact .inr (decide_eq_false (by omega))
    ·exact .inl (decide_eq_false h13)
   rw[decide_eq_false h12,hx]; cases b1<;>cases b2<;>cases b3<;>rfl
theorem l9Ins_ok(n:Nat)(hn:n≤1099511627776)(fs:List S_impl_Fn)(ps:List S_impl_Pat)(nm:List UInt8)(ar sl:Int)(is:List S_impl_Ins)(at':Nat)(i:S_impl_Ins)(hi:is[at']? =some i)(hl:is.length<4611686018427387904)(h:dl wPat ps+400<n)(h2:fs.length<n)(h3:wIns i<n):p_spec_l9Ins n fs ps nm ar sl is (at':Int)=some (insB fs ps sl (decide (((at'+1:Nat):Int)≤i.f3)&&decide (i.f3≤IntKind.wrap .i64 ((is.length:Int) - 1))) i):=by
 rw[wIns_e]at h3
 have hlt:=lt_len hi
 unfold p_spec_l9Ins insB
 rw[ix_nat,hi,Option.bind_some,pat_getS n hn ps sl i h,l9FnAt_ok n fs ps i.f2 h2 (by omega),l4Atom_ok n i.f2 (by omega) (by omega),l4Op_ok]
 simp only[l1In_ok,Option.bind_some,call_get,wrap_succ (show at'<4611686018427387904 by omega)]
 generalize insCall fs i=q1
 generalize insPat ps sl i=q2
 generalize xatomOk i.f2=q3
 generalize opOk i.f2=q4
 generalize (decide (((at'+1:Nat):Int)≤i.f3)&&decide (i.f3≤IntKind.wrap .i64 ((is.length:Int) - 1)))=q5
 generalize (decide (0≤i.f1)&&decide (i.f1≤IntKind.wrap .i64 (sl - 1)))=q6
 generalize (decide (0≤i.f1)&&decide (i.f1≤1000000000000))=q7
 generalize (decide (0≤i.f1)&&decide (i.f1≤20))=q8
 generalize (decide (2≤i.f1)&&decide (i.f1≤6))=q9
 generalize (decide (11≤i.f0)&&decide (i.f0≤12))=q10
 generalize decide (i.f2=[])=b1
 generalize decide (i.f3=0)=b2
 generalize decide (i.f1=0)=b3
 cases decide (i.f0=1)with
 | true=>cases b1<;>cases b2<;>rfl
 | false=>
 cases decide (i.f0=2)with
 | true=>cases b1<;>cases b2<;>cases b3<;>cases q3<;>cases q5<;>rfl
 | false=>
 cases decide (i.f0=3)with
 | true=>cases b1<;>cases b2<;>rfl
 | false=>
 cases decide (i.f0=4)with
 | true=>cases b1<;>cases b2<;>rfl
 | false=>
 cases decide (i.f0=5)with
 | true=>cases b1<;>cases b2<;>rfl
 | false=>
 cases decide (i.f0=6)with
 | true=>cases b1<;>cases b2<;>rfl
 | false=>
 cases decide (i.f0=7)with
 | true=>cases b1<;>cases b2<;>cases b3<;>cases q4<;>rfl
 | false=>
 cases decide (i.f0=8)with
 | true=>cases b1<;>rfl
 | false=>
 cases decide (i.f0=9)with
 | true=>cases b1<;>cases b2<;>cases q5<;>rfl
 | false=>
 cases decide (i.f0=10)with
 | true=>cases b1<;>cases b2<;>cases q5<;>cases b3<;>rfl
 | false=>cases b1<;>cases b2<;>cases b3<;>cases q10<;>rfl
/-- What where it goes to tells. -/
theorem insB_to(fs:List S_impl_Fn)(ps:List S_impl_Pat)(sl:Int)(to:Bool)(i:S_impl_Ins):insB fs ps sl to i=((!(decide (i.f0=9)||decide (i.f0=10))||to)&&insB fs ps sl true i):=by
 unfold insB
 by_cases h9:i.f0=9
 ·rw[h9]
  cases to<;>cases decide (i.f2=[])<;>rfl
 by_cases h10:i.f0=10
 ·rw[h10]
  cases to<;>cases decide (i.f2=[])<;>rfl
 rw[decide_eq_false h9,decide_eq_false h10]; rfl
end Go.Own.Q
