/- When an instruction is right: the program's answer and the reference's, in plain Lean. No conditions. -/
import Derived.Test.YtgeomhdbckjkcaaW24PatFits2
set_option linter.unusedVariables false
set_option linter.unusedSimpArgs false
set_option linter.unnecessarySimpa false
namespace Go.Own.Q
open Go Go.Proofs

def pS(m:List aG)(s:List UInt8):Int:=Ht (fun f=>decide (f.f0=s)) 0 m
theorem Gz(m:List aG)(s:List UInt8):pS m s= -1∨ ∃(k:Nat) (f:aG),pS m s=(k:Int)∧m[k]? =some f:=by
 unfold pS
 rcases tG (fun f:aG=>decide (f.f0=s)) m 0 with⟨h,_⟩ | ⟨k,a,h,h1,_⟩
 ·exact .inl h
 ·exact .inr ⟨k,a,by rw[h]; simp,h1⟩
theorem MX(n:Nat)(m:List aG)(ps:List aB)(s:List UInt8)(h:m.length<n)(hn:n<4611686018427387904):mX n s m ps=some (pS m s,m,ps):=by
 unfold mX eW pS
 have e:=Bn (body:=bS n m) m (fun f=>decide (f.f0=s)) (fun i=>((i:Int),s)) (fun i=>Sum.inl ((i:Int),s)) (Sum.inr ((m.length:Int),false,s)) (fun i a ha=>by
  have hi:=cH ha
  simp only[bS,oG,cW ha,cond_true,cQ,ha,Option.bind_some,aV (show i<4611686018427387904 by omega)]
  cases decide (a.f0=s)<;>rfl) (by simp only[bS,aQ,cond_false]) h
 have e:loopN (bS n m) n ((0:Int),s)=_:=e
 rw[e]
 rcases tG (fun f:aG=>decide (f.f0=s)) m 0 with⟨h,_⟩ | ⟨k,a,h,_⟩
 ·rw[h]; rfl
 ·rw[h,decide_eq_false (by omega)]
  simp only[Option.bind_some,cond_false,Int.toNat_natCast]

def sR(fs:List aG)(i:aF):Bool:=match fs[(pS fs i.f2).toNat]? with
 | some f=>decide (0≤pS fs i.f2)&&(decide (f.f1=i.f1)&&decide (i.f3=0))
 | none=>false
def GJ(ps:List aB)(sl:Int)(i:aF):Bool:=(decide (0≤i.f1)&&decide (i.f1≤IntKind.wrap .i64 ((ps.length:Int) - 1)))&&(match ps[i.f1.toNat]? with
 | some p=>Cd sl p
 | none=>false)
/-- Is an instruction right? Where it goes to is told by itself. -/
def sB(fs:List aG)(ps:List aB)(sl:Int)(to:Bool)(i:aF):Bool:=
 bif decide (i.f0=1)then(decide (i.f2=[])&&decide (i.f3=0))&&(decide (0≤i.f1)&&decide (i.f1≤1000000000000))
 else bif decide (i.f0=2)then decide (i.f1=0)&&(gU i.f2&&decide (i.f3=0))
 else bif decide (i.f0=3)then(decide (i.f2=[])&&decide (i.f3=0))&&(decide (0≤i.f1)&&decide (i.f1≤IntKind.wrap .i64 (sl - 1)))
 else bif decide (i.f0=4)then(decide (i.f2=[])&&decide (i.f3=0))&&(decide (0≤i.f1)&&decide (i.f1≤20))
 else bif decide (i.f0=5)then(decide (i.f2=[])&&decide (i.f3=0))&&(decide (0≤i.f1)&&decide (i.f1≤20))
 else bif decide (i.f0=6)then(decide (i.f2=[])&&decide (i.f3=0))&&(decide (2≤i.f1)&&decide (i.f1≤6))
 else bif decide (i.f0=7)then decide (i.f1=0)&&(LO i.f2&&decide (i.f3=0))
 else bif decide (i.f0=8)then sR fs i
 else bif decide (i.f0=9)then(decide (i.f2=[])&&to)&&GJ ps sl i
 else bif decide (i.f0=10)then(decide (i.f2=[])&&to)&&decide (i.f1=0)
 else(decide (i.f2=[])&&decide (i.f3=0))&&(decide (i.f1=0)&&(decide (11≤i.f0)&&decide (i.f0≤12)))
theorem GA(i:aF):iX i=4+i.f2.length:=rfl
theorem Pr(fs:List aG)(i:aF):(bif decide ((0:Int)≤pS fs i.f2)then(ix fs (pS fs i.f2)).bind fun e=>bif decide (e.f1=i.f1)then some (decide (i.f3=(0:Int)))else some false else some false)=some (sR fs i):=by
 unfold sR
 rcases Gz fs i.f2 with e | ⟨k,f,e,e2⟩
 ·rw[e]
  cases fs[(-1:Int).toNat]? <;>rfl
 ·rw[e,Int.toNat_natCast,e2,cQ,e2,decide_eq_true (by omega)]
  simp only[cond_true,Option.bind_some,Bool.true_and]
  cases decide (f.f1=i.f1)<;>rfl
theorem RU(ps:List aB)(x:Int)(h0:0≤x)(h1:x≤IntKind.wrap .i64 ((ps.length:Int) - 1))(hl:ps.length<4611686018427387904): ∃p,ps[x.toNat]? =some p∧ix ps x=some p:=by
 obtain⟨k,rfl⟩: ∃k:Nat,x=k:=⟨x.toNat,by omega⟩
 have hk:k<ps.length:=by
  rcases Nat.eq_zero_or_pos ps.length with h | h
  ·rw[h]at h1
   have:IntKind.wrap .i64 (((0:Nat):Int) - 1)= -1:=by decide
   omega
  ·have:IntKind.wrap .i64 ((ps.length:Int) - 1)=(ps.length:Int) - 1:=by
    obtain⟨m,hm⟩: ∃m,ps.length=m+1:=⟨ps.length - 1,by omega⟩
    rw[hm,GX (by omega)]; omega
   omega
 exact⟨ps[k],by rw[Int.toNat_natCast]; exact List.getElem?_eq_getElem hk,by rw[cQ]; exact List.getElem?_eq_getElem hk⟩
theorem PB(n:Nat)(hn:n≤1099511627776)(ps:List aB)(sl:Int)(i:aF)(h:dl cS ps+400<n):((aR n i.f1 (0:Int) (IntKind.wrap .i64 ((ps.length:Int) - (1:Int)))).bind fun c=>bif c then(ix ps i.f1).bind fun e=>(gG n e.f0 e.f1 e.f2 e.f3 sl).bind fun c=>some c else some false)=some (GJ ps sl i):=by
 rw[lF,Option.bind_some]
 unfold GJ
 have hl:=bM cS ps
 cases h1:decide (0≤i.f1)&&decide (i.f1≤IntKind.wrap .i64 ((ps.length:Int) - 1))with
 | false=>rfl
 | true=>
  simp only[Bool.and_eq_true,decide_eq_true_eq]at h1
  obtain⟨p,e1,e2⟩:=RU ps i.f1 h1.1 h1.2 (by omega)
  have hm:=eA cS (List.mem_of_getElem? e1)
  rw[e1,e2]
  simp only[cond_true,Option.bind_some,Bool.true_and,tU n hn p sl (by omega)]
theorem PW(n:Nat)(hn:n≤1099511627776)(fs:List aG)(ps:List aB)(nm:List UInt8)(ar sl:Int)(is:List aF)(i:aF)(h:dl cS ps+400<n)(h2:fs.length<n)(h3:iX i<n):lI n nm ar sl is i.f0 i.f1 i.f2 i.f3 fs ps=some (sB fs ps sl (decide (0≤i.f3)&&decide (i.f3≤IntKind.wrap .i64 ((is.length:Int) - 1))) i,fs,ps):=by
 rw[GA]at h3
 unfold lI sB
 rw[PB n hn ps sl i h,MX n fs ps i.f2 h2 (by omega),zB n i.f2 (by omega) (by omega),MT]
 simp only[lF,Option.bind_some,Pr]
 generalize sR fs i=q1
 generalize GJ ps sl i=q2
 generalize gU i.f2=q3
 generalize LO i.f2=q4
 generalize (decide (0≤i.f3)&&decide (i.f3≤IntKind.wrap .i64 ((is.length:Int) - 1)))=q5
 generalize (decide (0≤i.f1)&&decide (i.f1≤IntKind.wrap .i64 (sl - 1)))=q6
 generalize (decide (0≤i.f1)&&decide (i.f1≤1000000000000))=q7
 generalize (decide (0≤i.f1)&&decide (i.f1≤20))=q8
 generalize (decide (2≤i.f1)&&decide (i.f1≤6))=q9
 generalize decide (i.f2=[])=b1
 generalize decide (i.f3=0)=b2
 generalize decide (i.f1=0)=b3
 have key: ∀(c:Bool),(bif c then some b2 else some false:Option Bool)=some (c&&b2):=fun c=>by cases c<;>rfl
 cases decide (i.f0=1)with
 | true=>cases b1<;>cases b2<;>rfl
 | false=>
 cases decide (i.f0=2)with
 | true=>cases b1<;>cases b2<;>cases b3<;>cases q3<;>rfl
 | false=>
 cases decide (i.f0=3)with
 | true=>cases b1<;>cases b2<;>rfl
 | false=>
 cases decide (i.f0=4)with
 | true=>cases b1<;>cases b2<;>rfl
 | false=>
 cases decide (i.f0=5)with
 | true=>cases b1<;>cases b2<;>rfl
 | false=>
 cases decide (i.f0=6)with
 | true=>cases b1<;>cases b2<;>rfl
 | false=>
 cases decide (i.f0=7)with
 | true=>cases b1<;>cases b2<;>cases b3<;>cases q4<;>rfl
 | false=>
 cases decide (i.f0=8)with
 | true=>cases b1<;>rfl
 | false=>
 cases decide (i.f0=9)with
 | true=>cases b1<;>cases b2<;>cases q5<;>rfl
 | false=>
 cases decide (i.f0=10)with
 | true=>cases b1<;>cases b2<;>cases q5<;>cases b3<;>rfl
 | false=>
 by_cases h11:i.f0=11
 ·rw[h11]; cases b1<;>cases b2<;>cases b3<;>rfl
 ·rw[decide_eq_false h11]
  by_cases h12:i.f0=12
  ·rw[h12]; cases b1<;>cases b2<;>cases b3<;>rfl
  ·have hx:(decide (11≤i.f0)&&decide (i.f0≤12))=false:=by
    rw[Bool.and_eq_false_iff]
    by_cases h13:11≤i.f0
    ·exact .inr (decide_eq_false (by omega))
    ·exact .inl (decide_eq_false h13)
   rw[decide_eq_false h12,hx]; cases b1<;>cases b2<;>cases b3<;>rfl
/-- What where it goes to tells. -/
theorem Es(fs:List aG)(ps:List aB)(sl:Int)(to:Bool)(i:aF):sB fs ps sl to i=((!(decide (i.f0=9)||decide (i.f0=10))||to)&&sB fs ps sl true i):=by
 unfold sB
 by_cases h9:i.f0=9
 ·rw[h9]
  cases to<;>cases decide (i.f2=[])<;>rfl
 by_cases h10:i.f0=10
 ·rw[h10]
  cases to<;>cases decide (i.f2=[])<;>rfl
 rw[decide_eq_false h9,decide_eq_false h10]; rfl
end Go.Own.Q
