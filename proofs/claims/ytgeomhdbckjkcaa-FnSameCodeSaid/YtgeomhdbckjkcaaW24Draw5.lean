/- Expressions that are drawn, in plain Lean. No conditions. -/
import Derived.Test.YtgeomhdbckjkcaaW24Draw4b
set_option linter.unusedVariables false
set_option linter.unusedSimpArgs false
set_option linter.unnecessarySimpa false
namespace Go.Own.Q
open Go Go.Proofs
theorem Si(a0 a1:Int)(a2:List UInt8)(a3:List aA)(a4:List aC)(a5 a6:Int)(a7:List UInt8)(a8:List aA)(a9:List aC):cD (.mk a0 a1 a2 a3 a4 a5 a6 a7 a8 a9)=3+bH (.mk a0 a1 a2 a3 a4)+bH (.mk a5 a6 a7 a8 a9):=Ba _
theorem Be{α:Type}{l:List α}{i:Nat}{a:α}(b:Nat)(ha:l[i]? =some a)(hl:l.length≤20000000)(hb:b≤255):fQ b (l.take i) [a]=some (l.take (i+1)):=by
 have hi:=cH ha
 rw[←qS ha]
 refine vA ?_ (by simp only[List.length_take,List.length_singleton,maxLen]; omega)
 have:((l.take i).length+[a].length)*b≤200000000*255:=Nat.mul_le_mul (by simp only[List.length_take,List.length_singleton]; omega) hb
 omega
def eB:Nat→Nat
 | 0=>10
 | d+1=>200+4*eB d
theorem eB_10: ∀d,10≤eB d
 | 0=>Nat.le_refl _
 | d+1=>by simp only[eB]; omega
theorem Sa{d:Nat}(h:d≤3):eB d≤4840:=by
 have:d=0∨d=1∨d=2∨d=3:=by omega
 rcases this with e | e | e | e<;>rw[e]<;>simp [eB]
/-- An expression that was drawn, and the cursor. -/
def DE(B:Nat)(r:Int×Int×List UInt8×List aA×List aC×List Int×Int×Int):Prop:=bH (.mk r.1 r.2.1 r.2.2.1 r.2.2.2.1 r.2.2.2.2.1)≤B∧Cur r.2.2.2.2.2.1 r.2.2.2.2.2.2.1
theorem DE.mk{B:Nat}{k m:Int}{s:List UInt8}{l:List aA}{c:List aC}{b:List Int}{i h:Int}(hw:3+s.length+dl bH l+dl cD c≤B)(hc:Cur b i):DE B (k,m,s,l,c,b,i,h):=⟨by rw[Ig]; exact hw,hc⟩
/-- An expression under way: so many kids are still to come. -/
def ES(X m:Nat)(x:Int×Int×List UInt8×List aA×List aC×List Int×Int×Int):Prop:=x.2.2.1.length≤5∧x.2.2.2.2.1=[]∧dl bH x.2.2.2.1+m*(1+X)≤1+2*(1+X)∧Cur x.2.2.2.2.2.1 x.2.2.2.2.2.2.1
/-- A choice under way. -/
def CS(X m:Nat)(x:Int×Int×List UInt8×List aA×List aC×List Int×Int×Int):Prop:=x.2.2.1=[]∧dl bH x.2.2.2.1≤2+X∧dl cD x.2.2.2.2.1+m*(53+X)≤1+2*(53+X)∧Cur x.2.2.2.2.2.1 x.2.2.2.2.2.2.1
theorem NP(n d K:Nat)(ns:List (List UInt8))(hd:d≤2)(hK:K+10*d≤200)(hm:Nm K ns)(ih: ∀ {K':Nat} {b:List Int} {i h:Int} {ns:List (List UInt8)},K'+10*d≤200→Cur b i→Nm K' ns→Gt (bK n (d:Int) ns b i h) (DE (eB d)))(m:Nat)(hm2:m≤2)(s:Int×Int×Int×List UInt8×List aA×List aC×List Int×Int×Int)(hs:s.1=(m:Int)∧ES (eB d) m s.2):Gt (kV n (bK n) ((d+1:Nat):Int) ns s) (Rnd (fun m s=>m≤2∧s.1=(m:Int)∧ES (eB d) m s.2) (fun r=>ES (eB d) 0 r.2.2) m):=by
 obtain⟨v,w0,w1,w2,w3,w4,w5,w6,w7⟩:=s
 obtain⟨s1,s3,s4,s5,s6⟩:=hs
 simp only at s1 s3 s4 s5 s6
 subst s4
 have hX:=Sa (d:=d) (by omega)
 have hl:=bM bH w3
 unfold kV
 simp only
 by_cases c1:(0:Int)<v
 ·rw[decide_eq_true c1,cond_true]
  obtain⟨m',rfl⟩: ∃m',m=m'+1:=⟨m - 1,by omega⟩
  rw[Nat.succ_mul]at s5
  have e1:IntKind.wrap .i64 (((d+1:Nat):Int) - 1)=(d:Int):=by rw[wrap_i64 (by omega) (by omega)]; omega
  rw[e1]
  refine Gt.bind (ih hK s6 hm) fun r ⟨g1,g2⟩=>Gt.bind (mF (by simp only[List.length_singleton]; omega) (by omega)) fun q e=> ?_
  rw[wrap_i64 (n:=v - 1) (by omega) (by omega)]
  subst e
  have h5:dl bH (w3++[.mk r.1 r.2.1 r.2.2.1 r.2.2.2.1 r.2.2.2.2.1])+m'*(1+eB d)≤1+2*(1+eB d):=by rw[iU]; omega
  refine Gt.pure ⟨m',rfl,by omega,(by show v - 1=(m':Int); omega),s3,rfl,h5,g2⟩
 ·rw[decide_eq_false c1,cond_false]
  have:m=0:=by omega
  subst this
  exact Gt.pure ⟨s3,rfl,s5,s6⟩
theorem NO(n d K:Nat)(ns:List (List UInt8))(hd:d≤2)(hK:K+10*d≤200)(hm:Nm K ns)(ih: ∀ {K':Nat} {b:List Int} {i h:Int} {ns:List (List UInt8)},K'+10*d≤200→Cur b i→Nm K' ns→Gt (bK n (d:Int) ns b i h) (DE (eB d)))(m:Nat)(hm2:m≤2)(s:Int×Int×Int×List UInt8×List aA×List aC×List Int×Int×Int)(hs:(s.1+m=2∧0≤s.1)∧ES (eB d) m s.2):Gt (kU n (bK n) ((d+1:Nat):Int) ns s) (Rnd (fun m s=>m≤2∧(s.1+m=2∧0≤s.1)∧ES (eB d) m s.2) (fun r=>ES (eB d) 0 r.2.2) m):=by
 obtain⟨v,w0,w1,w2,w3,w4,w5,w6,w7⟩:=s
 obtain⟨⟨s1,s0⟩,s3,s4,s5,s6⟩:=hs
 simp only at s1 s3 s4 s5 s6 s0
 subst s4
 have hX:=Sa (d:=d) (by omega)
 have hl:=bM bH w3
 unfold kU
 simp only
 by_cases c1:v<(2:Int)
 ·rw[decide_eq_true c1,cond_true]
  obtain⟨m',rfl⟩: ∃m',m=m'+1:=⟨m - 1,by omega⟩
  rw[Nat.succ_mul]at s5
  have e1:IntKind.wrap .i64 (((d+1:Nat):Int) - 1)=(d:Int):=by rw[wrap_i64 (by omega) (by omega)]; omega
  rw[e1]
  refine Gt.bind (ih hK s6 hm) fun r ⟨g1,g2⟩=>Gt.bind (mF (by simp only[List.length_singleton]; omega) (by omega)) fun q e=> ?_
  rw[wrap_i64 (n:=v+1) (by omega) (by omega)]
  subst e
  have h5:dl bH (w3++[.mk r.1 r.2.1 r.2.2.1 r.2.2.2.1 r.2.2.2.2.1])+m'*(1+eB d)≤1+2*(1+eB d):=by rw[iU]; omega
  refine Gt.pure ⟨m',rfl,by omega,⟨(by show v+1+(m':Int)=2; omega),(by show 0≤v+1; omega)⟩,s3,rfl,h5,g2⟩
 ·rw[decide_eq_false c1,cond_false]
  have:m=0:=by omega
  subst this
  exact Gt.pure ⟨s3,rfl,s5,s6⟩
theorem NN(n d K:Nat)(ns:List (List UInt8))(hd:d≤2)(hK:K+10*d≤200)(hm:Nm K ns)(ih: ∀ {K':Nat} {b:List Int} {i h:Int} {ns:List (List UInt8)},K'+10*d≤200→Cur b i→Nm K' ns→Gt (bK n (d:Int) ns b i h) (DE (eB d)))(m:Nat)(hm2:m≤2)(s:Int×Int×Int×List UInt8×List aA×List aC×List Int×Int×Int)(hs:(s.1+m=1∧0≤s.1)∧ES (eB d) m s.2):Gt (kT n (bK n) ((d+1:Nat):Int) ns s) (Rnd (fun m s=>m≤2∧(s.1+m=1∧0≤s.1)∧ES (eB d) m s.2) (fun r=>ES (eB d) 0 r.2.2) m):=by
 obtain⟨v,w0,w1,w2,w3,w4,w5,w6,w7⟩:=s
 obtain⟨⟨s1,s0⟩,s3,s4,s5,s6⟩:=hs
 simp only at s1 s3 s4 s5 s6 s0
 subst s4
 have hX:=Sa (d:=d) (by omega)
 have hl:=bM bH w3
 unfold kT
 simp only
 by_cases c1:v<(1:Int)
 ·rw[decide_eq_true c1,cond_true]
  obtain⟨m',rfl⟩: ∃m',m=m'+1:=⟨m - 1,by omega⟩
  rw[Nat.succ_mul]at s5
  have e1:IntKind.wrap .i64 (((d+1:Nat):Int) - 1)=(d:Int):=by rw[wrap_i64 (by omega) (by omega)]; omega
  rw[e1]
  refine Gt.bind (ih hK s6 hm) fun r ⟨g1,g2⟩=>Gt.bind (mF (by simp only[List.length_singleton]; omega) (by omega)) fun q e=> ?_
  rw[wrap_i64 (n:=v+1) (by omega) (by omega)]
  subst e
  have h5:dl bH (w3++[.mk r.1 r.2.1 r.2.2.1 r.2.2.2.1 r.2.2.2.2.1])+m'*(1+eB d)≤1+2*(1+eB d):=by rw[iU]; omega
  refine Gt.pure ⟨m',rfl,by omega,⟨(by show v+1+(m':Int)=1; omega),(by show 0≤v+1; omega)⟩,s3,rfl,h5,g2⟩
 ·rw[decide_eq_false c1,cond_false]
  have:m=0:=by omega
  subst this
  exact Gt.pure ⟨s3,rfl,s5,s6⟩
theorem NM(n d K:Nat)(ns:List (List UInt8))(hd:d≤2)(hn:2010<n)(hn2:n≤1099511627776)(hK:K+10*(d+1)≤200)(hm:Nm K ns)(ih: ∀ {K':Nat} {b:List Int} {i h:Int} {ns:List (List UInt8)},K'+10*d≤200→Cur b i→Nm K' ns→Gt (bK n (d:Int) ns b i h) (DE (eB d)))(m:Nat)(hm2:m≤2)(s:Int×Int×Int×List UInt8×List aA×List aC×List Int×Int×Int)(hs:s.1=(m:Int)∧CS (eB d) m s.2):Gt (kR n (bK n) ((d+1:Nat):Int) ns s) (Rnd (fun m s=>m≤2∧s.1=(m:Int)∧CS (eB d) m s.2) (fun r=>CS (eB d) 0 r.2.2) m):=by
 obtain⟨v,w0,w1,w2,w3,w4,w5,w6,w7⟩:=s
 obtain⟨s1,s3,s4,s5,s6⟩:=hs
 simp only at s1 s3 s4 s5 s6
 subst s3
 have hX:=Sa (d:=d) (by omega)
 have hl:=bM cD w4
 have hml:=hm.1
 unfold kR
 simp only
 by_cases c1:(0:Int)<v
 ·rw[decide_eq_true c1,cond_true]
  obtain⟨m',rfl⟩: ∃m',m=m'+1:=⟨m - 1,by omega⟩
  rw[Nat.succ_mul]at s5
  have e1:IntKind.wrap .i64 (((d+1:Nat):Int) - 1)=(d:Int):=by rw[wrap_i64 (by omega) (by omega)]; omega
  rw[e1]
  refine Gt.bind (MP 1 n (by omega) (by omega) hn2 (K:=0) (by omega) s6 ⟨Nat.le_refl _,fun s hs=>by cases hs⟩) fun r ⟨f1,f2,f3⟩=> ?_
  have f3l:=f3.1
  have e2:kY (1+1)=4:=rfl
  have e3:kX (1+1)=49:=rfl
  refine Gt.bind (mF (by simp only[List.length_nil]; omega) (by omega)) fun q1 e=> ?_
  rw[List.nil_append]at e
  subst e
  refine Gt.bind (mF (by omega) (by omega)) fun q2 e=> ?_
  subst e
  refine Gt.bind (ih (K':=K+4) (by omega) f2 ((hm.app f3).up (by omega))) fun r2 ⟨g1,g2⟩=>Gt.bind (mF (by simp only[List.length_singleton]; omega) (by omega)) fun q e=> ?_
  rw[wrap_i64 (n:=v - 1) (by omega) (by omega)]
  subst e
  have h5:dl cD (w4++[.mk r.1 r.2.1 r.2.2.1 r.2.2.2.1 r.2.2.2.2.1 r2.1 r2.2.1 r2.2.2.1 r2.2.2.2.1 r2.2.2.2.2.1])+m'*(53+eB d)≤1+2*(53+eB d):=by rw[iU,Si]; omega
  exact Gt.pure ⟨m',rfl,by omega,(by show v - 1=(m':Int); omega),rfl,s4,h5,g2⟩
 ·rw[decide_eq_false c1,cond_false]
  have:m=0:=by omega
  subst this
  exact Gt.pure ⟨rfl,s4,s5,s6⟩
end Go.Own.Q
