/- When an instruction is right: the program's answer and the reference's, in plain Lean. No conditions. -/
import Derived.Test.YtjfgchodolnmcaaW33PatFits2
set_option linter.unusedVariables false
set_option linter.unusedSimpArgs false
set_option linter.unnecessarySimpa false
namespace Go.Own.Q
open Go Go.Proofs

def nI(m:List aB)(s:List UInt8):Int:=Fr (fun f=>decide (f.f0=s)) 0 m
theorem GW(m:List aB)(s:List UInt8):nI m s= -1∨ ∃(k:Nat) (f:aB),nI m s=(k:Int)∧m[k]? =some f:=by
 unfold nI
 rcases nK (fun f:aB=>decide (f.f0=s)) m 0 with⟨h,_⟩ | ⟨k,a,h,h1,_⟩
 ·exact .inl h
 ·exact .inr ⟨k,a,by rw[h]; simp,h1⟩
theorem GS(n:Nat)(m:List aB)(ps:List aA)(s:List UInt8)(h:m.length<n)(hn:n<4611686018427387904):gL n m ps s=some (nI m s):=by
 unfold gL nI
 have e:=rZ (body:=gY n m s) m (fun f=>decide (f.f0=s)) (fun i=>(i:Int)) (fun i=>Sum.inl (i:Int)) (Sum.inr ((m.length:Int),false)) (fun i a ha=>by
  have hi:=bI ha
  simp only[gY,bT ha,cond_true,bB,ha,Option.bind_some,aN (show i<4611686018427387904 by omega)]
  cases decide (a.f0=s)<;>rfl) (by simp only[gY,aM,cond_false]) h
 refine(congrArg (fun q=>Option.bind q _) e).trans ?_
 rcases nK (fun f:aB=>decide (f.f0=s)) m 0 with⟨h,_⟩ | ⟨k,a,h,_⟩
 ·rw[h]; rfl
 ·rw[h,decide_eq_false (by omega)]
  simp only[Option.bind_some,cond_false,Int.toNat_natCast]
theorem LL(n:Nat)(m:List aB)(ps:List aA)(s:List UInt8)(h:m.length<n)(hn:n<4611686018427387904):mI n s m ps=some (nI m s,m,ps):=by
 unfold mI dT nI
 have e:=rZ (body:=bN n m) m (fun f=>decide (f.f0=s)) (fun i=>((i:Int),s)) (fun i=>Sum.inl ((i:Int),s)) (Sum.inr ((m.length:Int),false,s)) (fun i a ha=>by
  have hi:=bI ha
  simp only[bN,nT,bT ha,cond_true,bB,ha,Option.bind_some,aN (show i<4611686018427387904 by omega)]
  cases decide (a.f0=s)<;>rfl) (by simp only[bN,aM,cond_false]) h
 have e:loopN (bN n m) n ((0:Int),s)=_:=e
 rw[e]
 rcases nK (fun f:aB=>decide (f.f0=s)) m 0 with⟨h,_⟩ | ⟨k,a,h,_⟩
 ·rw[h]; rfl
 ·rw[h,decide_eq_false (by omega)]
  simp only[Option.bind_some,cond_false,Int.toNat_natCast]

def tW(fs:List aB)(i:aD):Bool:=match fs[(nI fs i.f2).toNat]? with
 | some f=>decide (0≤nI fs i.f2)&&(decide (f.f1=i.f1)&&decide (i.f3=0))
 | none=>false
def zU(ps:List aA)(sl:Int)(i:aD):Bool:=(decide (0≤i.f1)&&decide (i.f1≤IntKind.wrap .i64 ((ps.length:Int) - 1)))&&(match ps[i.f1.toNat]? with
 | some p=>Qn sl p
 | none=>false)
/-- Is an instruction right? Where it goes to is told by itself. -/
def pF(fs:List aB)(ps:List aA)(sl:Int)(to:Bool)(i:aD):Bool:=
 bif decide (i.f0=1)then(decide (i.f2=[])&&decide (i.f3=0))&&(decide (0≤i.f1)&&decide (i.f1≤1000000000000))
 else bif decide (i.f0=2)then decide (i.f1=0)&&(fO i.f2&&decide (i.f3=0))
 else bif decide (i.f0=3)then(decide (i.f2=[])&&decide (i.f3=0))&&(decide (0≤i.f1)&&decide (i.f1≤IntKind.wrap .i64 (sl - 1)))
 else bif decide (i.f0=4)then(decide (i.f2=[])&&decide (i.f3=0))&&(decide (0≤i.f1)&&decide (i.f1≤20))
 else bif decide (i.f0=5)then(decide (i.f2=[])&&decide (i.f3=0))&&(decide (0≤i.f1)&&decide (i.f1≤20))
 else bif decide (i.f0=6)then(decide (i.f2=[])&&decide (i.f3=0))&&(decide (2≤i.f1)&&decide (i.f1≤6))
 else bif decide (i.f0=7)then decide (i.f1=0)&&(KJ i.f2&&decide (i.f3=0))
 else bif decide (i.f0=8)then tW fs i
 else bif decide (i.f0=9)then(decide (i.f2=[])&&to)&&zU ps sl i
 else bif decide (i.f0=10)then(decide (i.f2=[])&&to)&&decide (i.f1=0)
 else(decide (i.f2=[])&&decide (i.f3=0))&&(decide (i.f1=0)&&(decide (11≤i.f0)&&decide (i.f0≤12)))
theorem ON(i:aD):mJ i=4+i.f2.length:=rfl
theorem JJ(fs:List aB)(i:aD):(bif decide ((0:Int)≤nI fs i.f2)then(ix fs (nI fs i.f2)).bind fun e=>bif decide (e.f1=i.f1)then some (decide (i.f3=(0:Int)))else some false else some false)=some (tW fs i):=by
 unfold tW
 rcases GW fs i.f2 with e | ⟨k,f,e,e2⟩
 ·rw[e]
  cases fs[(-1:Int).toNat]? <;>rfl
 ·rw[e,Int.toNat_natCast,e2,bB,e2,decide_eq_true (by omega)]
  simp only[cond_true,Option.bind_some,Bool.true_and]
  cases decide (f.f1=i.f1)<;>rfl
theorem Kr(ps:List aA)(x:Int)(h0:0≤x)(h1:x≤IntKind.wrap .i64 ((ps.length:Int) - 1))(hl:ps.length<4611686018427387904): ∃p,ps[x.toNat]? =some p∧ix ps x=some p:=by
 obtain⟨k,rfl⟩: ∃k:Nat,x=k:=⟨x.toNat,by omega⟩
 have hk:k<ps.length:=by
  rcases Nat.eq_zero_or_pos ps.length with h | h
  ·rw[h]at h1
   have:IntKind.wrap .i64 (((0:Nat):Int) - 1)= -1:=by decide
   omega
  ·have:IntKind.wrap .i64 ((ps.length:Int) - 1)=(ps.length:Int) - 1:=by
    obtain⟨m,hm⟩: ∃m,ps.length=m+1:=⟨ps.length - 1,by omega⟩
    rw[hm,vS (by omega)]; omega
   omega
 exact⟨ps[k],by rw[Int.toNat_natCast]; exact List.getElem?_eq_getElem hk,by rw[bB]; exact List.getElem?_eq_getElem hk⟩
theorem NV(n:Nat)(hn:n≤1099511627776)(ps:List aA)(sl:Int)(i:aD)(h:dl cO ps+400<n):((aQ n i.f1 (0:Int) (IntKind.wrap .i64 ((ps.length:Int) - (1:Int)))).bind fun c=>bif c then(ix ps i.f1).bind fun e=>(iE n e.f0 e.f1 e.f2 e.f3 sl).bind fun c=>some c else some false)=some (zU ps sl i):=by
 rw[jA,Option.bind_some]
 unfold zU
 have hl:=bK cO ps
 cases h1:decide (0≤i.f1)&&decide (i.f1≤IntKind.wrap .i64 ((ps.length:Int) - 1))with
 | false=>rfl
 | true=>
  simp only[Bool.and_eq_true,decide_eq_true_eq]at h1
  obtain⟨p,e1,e2⟩:=Kr ps i.f1 h1.1 h1.2 (by omega)
  have hm:=cU cO (List.mem_of_getElem? e1)
  rw[e1,e2]
  simp only[cond_true,Option.bind_some,Bool.true_and,CA n hn p sl (by omega)]
theorem NU(n:Nat)(hn:n≤1099511627776)(ps:List aA)(sl:Int)(i:aD)(h:dl cO ps+400<n):((aW n i.f1 (0:Int) (IntKind.wrap .i64 ((ps.length:Int) - (1:Int)))).bind fun c=>bif c then(ix ps i.f1).bind fun e=>(hU n e.f0 e.f1 e.f2 e.f3 sl).bind fun c=>some c else some false)=some (zU ps sl i):=by
 rw[rU,Option.bind_some]
 unfold zU
 have hl:=bK cO ps
 cases h1:decide (0≤i.f1)&&decide (i.f1≤IntKind.wrap .i64 ((ps.length:Int) - 1))with
 | false=>rfl
 | true=>
  simp only[Bool.and_eq_true,decide_eq_true_eq]at h1
  obtain⟨p,e1,e2⟩:=Kr ps i.f1 h1.1 h1.2 (by omega)
  have hm:=cU cO (List.mem_of_getElem? e1)
  rw[e1,e2]
  simp only[cond_true,Option.bind_some,Bool.true_and,By n hn p sl (by omega)]
theorem Nh(n:Nat)(hn:n≤1099511627776)(fs:List aB)(ps:List aA)(nm:List UInt8)(ar sl:Int)(is:List aD)(i:aD)(h:dl cO ps+400<n)(h2:fs.length<n)(h3:mJ i<n):lD n nm ar sl is i.f0 i.f1 i.f2 i.f3 fs ps=some (pF fs ps sl (decide (0≤i.f3)&&decide (i.f3≤IntKind.wrap .i64 ((is.length:Int) - 1))) i,fs,ps):=by
 rw[ON]at h3
 unfold lD pF
 rw[NV n hn ps sl i h,LL n fs ps i.f2 h2 (by omega),xY n i.f2 (by omega) (by omega),LH]
 simp only[jA,Option.bind_some,JJ]
 generalize tW fs i=q1
 generalize zU ps sl i=q2
 generalize fO i.f2=q3
 generalize KJ i.f2=q4
 generalize (decide (0≤i.f3)&&decide (i.f3≤IntKind.wrap .i64 ((is.length:Int) - 1)))=q5
 generalize (decide (0≤i.f1)&&decide (i.f1≤IntKind.wrap .i64 (sl - 1)))=q6
 generalize (decide (0≤i.f1)&&decide (i.f1≤1000000000000))=q7
 generalize (decide (0≤i.f1)&&decide (i.f1≤20))=q8
 generalize (decide (2≤i.f1)&&decide (i.f1≤6))=q9
 generalize decide (i.f2=[])=b1
 generalize decide (i.f3=0)=b2
 generalize decide (i.f1=0)=b3
 have key: ∀(c:Bool),(bif c then some b2 else some false:Option Bool)=some (c&&b2):=fun c=>by cases c<;>rfl
 cases decide (i.f0=1)with
 | true=>cases b1<;>cases b2<;>rfl
 | false=>
 cases decide (i.f0=2)with
 | true=>cases b1<;>cases b2<;>cases b3<;>cases q3<;>rfl
 | false=>
 cases decide (i.f0=3)with
 | true=>cases b1<;>cases b2<;>rfl
 | false=>
 cases decide (i.f0=4)with
 | true=>cases b1<;>cases b2<;>rfl
 | false=>
 cases decide (i.f0=5)with
 | true=>cases b1<;>cases b2<;>rfl
 | false=>
 cases decide (i.f0=6)with
 | true=>cases b1<;>cases b2<;>rfl
 | false=>
 cases decide (i.f0=7)with
 | true=>cases b1<;>cases b2<;>cases b3<;>cases q4<;>rfl
 | false=>
 cases decide (i.f0=8)with
 | true=>cases b1<;>rfl
 | false=>
 cases decide (i.f0=9)with
 | true=>cases b1<;>cases b2<;>cases q5<;>rfl
 | false=>
 cases decide (i.f0=10)with
 | true=>cases b1<;>cases b2<;>cases q5<;>cases b3<;>rfl
 | false=>
 by_cases h11:i.f0=11
 ·rw[h11]; cases b1<;>cases b2<;>cases b3<;>rfl
 ·rw[decide_eq_false h11]
  by_cases h12:i.f0=12
  ·rw[h12]; cases b1<;>cases b2<;>cases b3<;>rfl
  ·have hx:(decide (11≤i.f0)&&decide (i.f0≤12))=false:=by
    rw[Bool.and_eq_false_iff]
    by_cases h13:11≤i.f0
    ·exact .inr (decide_eq_false (by omega))
    ·exact .inl (decide_eq_false h13)
   rw[decide_eq_false h12,hx]; cases b1<;>cases b2<;>cases b3<;>rfl
theorem Nd(n:Nat)(hn:n≤1099511627776)(fs:List aB)(ps:List aA)(nm:List UInt8)(ar sl:Int)(is:List aD)(at':Nat)(i:aD)(hi:is[at']? =some i)(hl:is.length<4611686018427387904)(h:dl cO ps+400<n)(h2:fs.length<n)(h3:mJ i<n):lC n fs ps nm ar sl is (at':Int)=some (pF fs ps sl (decide (((at'+1:Nat):Int)≤i.f3)&&decide (i.f3≤IntKind.wrap .i64 ((is.length:Int) - 1))) i):=by
 rw[ON]at h3
 have hlt:=bI hi
 unfold lC pF
 rw[bB,hi,Option.bind_some,NU n hn ps sl i h,GS n fs ps i.f2 h2 (by omega),BM n i.f2 (by omega) (by omega),QG]
 simp only[rU,Option.bind_some,JJ,aN (show at'<4611686018427387904 by omega)]
 generalize tW fs i=q1
 generalize zU ps sl i=q2
 generalize fO i.f2=q3
 generalize KJ i.f2=q4
 generalize (decide (((at'+1:Nat):Int)≤i.f3)&&decide (i.f3≤IntKind.wrap .i64 ((is.length:Int) - 1)))=q5
 generalize (decide (0≤i.f1)&&decide (i.f1≤IntKind.wrap .i64 (sl - 1)))=q6
 generalize (decide (0≤i.f1)&&decide (i.f1≤1000000000000))=q7
 generalize (decide (0≤i.f1)&&decide (i.f1≤20))=q8
 generalize (decide (2≤i.f1)&&decide (i.f1≤6))=q9
 generalize (decide (11≤i.f0)&&decide (i.f0≤12))=q10
 generalize decide (i.f2=[])=b1
 generalize decide (i.f3=0)=b2
 generalize decide (i.f1=0)=b3
 cases decide (i.f0=1)with
 | true=>cases b1<;>cases b2<;>rfl
 | false=>
 cases decide (i.f0=2)with
 | true=>cases b1<;>cases b2<;>cases b3<;>cases q3<;>cases q5<;>rfl
 | false=>
 cases decide (i.f0=3)with
 | true=>cases b1<;>cases b2<;>rfl
 | false=>
 cases decide (i.f0=4)with
 | true=>cases b1<;>cases b2<;>rfl
 | false=>
 cases decide (i.f0=5)with
 | true=>cases b1<;>cases b2<;>rfl
 | false=>
 cases decide (i.f0=6)with
 | true=>cases b1<;>cases b2<;>rfl
 | false=>
 cases decide (i.f0=7)with
 | true=>cases b1<;>cases b2<;>cases b3<;>cases q4<;>rfl
 | false=>
 cases decide (i.f0=8)with
 | true=>cases b1<;>rfl
 | false=>
 cases decide (i.f0=9)with
 | true=>cases b1<;>cases b2<;>cases q5<;>rfl
 | false=>
 cases decide (i.f0=10)with
 | true=>cases b1<;>cases b2<;>cases q5<;>cases b3<;>rfl
 | false=>cases b1<;>cases b2<;>cases b3<;>cases q10<;>rfl
/-- What where it goes to tells. -/
theorem ER(fs:List aB)(ps:List aA)(sl:Int)(to:Bool)(i:aD):pF fs ps sl to i=((!(decide (i.f0=9)||decide (i.f0=10))||to)&&pF fs ps sl true i):=by
 unfold pF
 by_cases h9:i.f0=9
 ·rw[h9]
  cases to<;>cases decide (i.f2=[])<;>rfl
 by_cases h10:i.f0=10
 ·rw[h10]
  cases to<;>cases decide (i.f2=[])<;>rfl
 rw[decide_eq_false h9,decide_eq_false h10]; rfl
end Go.Own.Q
