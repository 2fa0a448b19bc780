/- Sizes, copies, equality of the types, in plain Lean. No conditions. -/
import Derived.Test.YtjfgchodolnmcaaW32Kit
set_option linter.unusedVariables false
set_option linter.unusedSimpArgs false
set_option linter.unnecessarySimpa false
namespace Go.Own.Q
open Go Go.Proofs
theorem kK(a:aA):aA.mk a.f0 a.f1 a.f2 a.f3=a:=by cases a; rfl
mutual
def bV:aA→Nat
 | .mk _ _ s l=>3+s.length+wI l
def wI:List aA→Nat
 | []=>1
 | x::r=>1+bV x+wI r
end
theorem qG: ∀l,wI l=dl bV l
 | []=>rfl
 | x::r=>by simp only[wI,dl,qG r]
theorem BI: ∀(n:Nat),n≤4611686018427387904→(∀(a0 a1:Int) (a2:List UInt8) (a3:List aA),bV (.mk a0 a1 a2 a3)<n→jF n a0 a1 a2 a3 a0 a1 a2 a3=some true)∧ ∀(l:List aA),dl bV l<n→fP n l l=some true
 | 0,_=>⟨fun a0 a1 a2 a3 h=>by omega,fun l h=>by omega⟩
 | n+1,hn=>by
  obtain⟨ih1,ih2⟩:=BI n (by omega)
  refine⟨fun a0 a1 a2 a3 h=> ?_,fun l h=> ?_⟩
  ·rw[yD]
   unfold mJ
   simp only[bV,qG]at h
   simp only[ih2 a3 (by omega),Option.bind_some,decide_true,Bool.not_true,cond_false]
  ·rw[wU]
   unfold lE
   have h2:=dC bV l
   simp only[decide_true,Bool.not_true,cond_false]
   rw[EC l (fun i a ha=>by
    have hm:=List.mem_of_getElem? ha
    have hd:=hI bV hm
    have hi:=bL ha
    simp only[kQ,cK ha,cond_true,bI,ha,Option.bind_some,ih1 a.f0 a.f1 a.f2 a.f3 (by rw[kK]; omega),Bool.not_true,cond_false,aI (show i<4611686018427387904 by omega)]) (by simp only[kQ,aK,cond_false]) (by omega)]
   simp only[Option.bind_some]
theorem eqPat_ok(n:Nat){a0 a1:Int}{a2:List UInt8}{a3:List aA}(h:bV (.mk a0 a1 a2 a3)<n)(hn:n≤4611686018427387904):jF n a0 a1 a2 a3 a0 a1 a2 a3=some true:=(BI n hn).1 _ _ _ _ h
theorem MS(n:Nat)(l:List aA)(h:dl bV l<n)(hn:n≤4611686018427387904):fP n l l=some true:=(BI n hn).2 _ h
theorem Cy(a:aC):aC.mk a.f0 a.f1 a.f2 a.f3=a:=rfl
def jE:aC→Nat
 | .mk a0 a1 a2 a3=>4+a2.length
theorem Nx(n:Nat){a0:Int}{a1:Int}{a2:List UInt8}{a3:Int}(h:jE (.mk a0 a1 a2 a3)<n)(hn:n≤4611686018427387904):mN n a0 a1 a2 a3 a0 a1 a2 a3=some true:=by
 unfold mN
 simp only[jE]at h
 try simp only[decide_true,beq_self_eq_true,Bool.not_true,cond_false]
theorem MT(n:Nat)(l:List aC)(h:dl jE l<n)(hn:n≤4611686018427387904):lI n l l=some true:=by
 unfold lI
 have h2:=dC jE l
 simp only[decide_true,Bool.not_true,cond_false]
 rw[EC l (fun i a ha=>by
  have hm:=List.mem_of_getElem? ha
  have hd:=hI jE hm
  have hi:=bL ha
  simp only[kR,cK ha,cond_true,bI,ha,Option.bind_some,aI (show i<4611686018427387904 by omega)]
  rw[Nx n (h:=by rw[Cy]; omega) (hn:=hn)]
  rfl) (by simp only[kR,aK,cond_false]) (by omega)]
 rfl

theorem qS(a:aB):aB.mk a.f0 a.f1 a.f2 a.f3=a:=rfl
def wFn:aB→Nat
 | .mk a0 a1 a2 a3=>3+a0.length+dl jE a3
theorem QZ(n:Nat){a0:List UInt8}{a1:Int}{a2:Int}{a3:List aC}(h:wFn (.mk a0 a1 a2 a3)<n)(hn:n≤4611686018427387904):oB n a0 a1 a2 a3 a0 a1 a2 a3=some true:=by
 unfold oB
 simp only[wFn]at h
 try simp only[decide_true,beq_self_eq_true,Bool.not_true,cond_false]
 rw[MT n _ (by omega) hn]
 simp only[Option.bind_some,decide_true,beq_self_eq_true,Bool.not_true,cond_false]
theorem Ny(n:Nat)(l:List aB)(h:dl wFn l<n)(hn:n≤4611686018427387904):mO n l l=some true:=by
 unfold mO
 have h2:=dC wFn l
 simp only[decide_true,Bool.not_true,cond_false]
 rw[EC l (fun i a ha=>by
  have hm:=List.mem_of_getElem? ha
  have hd:=hI wFn hm
  have hi:=bL ha
  simp only[lN,cK ha,cond_true,bI,ha,Option.bind_some,aI (show i<4611686018427387904 by omega)]
  rw[QZ n (h:=by rw[qS]; omega) (hn:=hn)]
  rfl) (by simp only[lN,aK,cond_false]) (by omega)]
 rfl

theorem MU(n:Nat){a0:List aB}{a1:List aA}(h:dl wFn a0<n)(h1:dl bV a1<n)(hn:n≤4611686018427387904):iB n a0 a1 a0 a1=some true:=by
 unfold iB
 rw[Ny n _ h hn]
 simp only[Option.bind_some,Bool.not_true,cond_false]
 rw[MS n _ h1 hn]
 simp only[Option.bind_some,Bool.not_true,cond_false]
end Go.Own.Q
