/- Sizes, copies, equality of the types, in plain Lean. No conditions. -/
import Derived.Test.YtjfgchodolnmcaaW33Kit
set_option linter.unusedVariables false
set_option linter.unusedSimpArgs false
set_option linter.unnecessarySimpa false
namespace Go.Own.Q
open Go Go.Proofs
theorem iH(a:aI):aI.mk a.f0 a.f1 a.f2 a.f3=a:=by cases a; rfl
theorem dD(a:aA):aA.mk a.f0 a.f1 a.f2 a.f3=a:=by cases a; rfl
mutual
def pS:aI→Nat
 | .mk _ _ s l=>s.length+Hr l
def Hr:List aI→Nat
 | []=>0
 | x::r=>1+pS x+Hr r
end
mutual
def cO:aA→Nat
 | .mk _ _ s l=>3+s.length+zE l
def zE:List aA→Nat
 | []=>1
 | x::r=>1+cO x+zE r
end
mutual
def Ii:aI→aA
 | .mk a b s l=> .mk a b s (wR l)
def wR:List aI→List aA
 | []=> []
 | x::r=>Ii x::wR r
end
mutual
def vA:aI→Nat
 | .mk _ _ s l=>3+s.length+Ci l
def Ci:List aI→Nat
 | []=>1
 | x::r=>1+vA x+Ci r
end
mutual
def okPat:aI→Prop
 | .mk a b s l=>(IntKind.i64.min≤a∧a≤IntKind.i64.max)∧(IntKind.i64.min≤b∧b≤IntKind.i64.max)∧s.length≤maxLen∧l.length≤maxLen∧Fg l
def Fg:List aI→Prop
 | []=>True
 | x::r=>okPat x∧Fg r
end
theorem LW{a0 a1:Int}{a2:List UInt8}{a3:List aI}:Ii (.mk a0 a1 a2 a3)= .mk a0 a1 a2 (wR a3):=by simp only[Ii]
theorem ET: ∀l,Hr l=zl pS l
 | []=>rfl
 | x::r=>by simp only[Hr,zl,mK,ET r,List.length_cons]; omega
theorem AH: ∀l,Ci l=dl vA l
 | []=>rfl
 | x::r=>by simp only[Ci,dl,AH r]
theorem mD: ∀l,zE l=dl cO l
 | []=>rfl
 | x::r=>by simp only[zE,dl,mD r]
theorem Gc: ∀l,wR l=l.map Ii
 | []=>rfl
 | x::r=>by simp only[wR,Gc r,List.map_cons]
theorem okPats_iff: ∀l,Fg l↔ ∀a∈l,okPat a
 | []=>by simp [Fg]
 | x::r=>by simp [Fg,okPats_iff r]
mutual
theorem Sr: ∀x,cO (Ii x)=vA x
 | .mk a b s l=>by simp only[Ii,cO,vA,HN l]
theorem HN: ∀l,zE (wR l)=Ci l
 | []=>rfl
 | x::r=>by simp only[wR,zE,Ci,Sr x,HN r]
end
theorem QR(l:List aI):dl cO (wR l)=dl vA l:=by rw[←mD, ←AH,HN]
mutual
theorem Ok: ∀x,vA x≤5*pS x+4
 | .mk a b s l=>by have:=LP l; simp only[vA,pS]; omega
theorem LP: ∀l,Ci l≤5*Hr l+1
 | []=>by simp [Ci]
 | x::r=>by have:=Ok x; have:=LP r; simp only[Ci,Hr]; omega
end
theorem BD: ∀(n:Nat),(∀(a0 a1:Int) (a2:List UInt8) (a3:List aI) (left:Int),vA (.mk a0 a1 a2 a3)<n→okPat (.mk a0 a1 a2 a3)→0≤left→left≤1048576→iT n a0 a1 a2 a3 left=some (if(pS (.mk a0 a1 a2 a3):Int)≤left then left - pS (.mk a0 a1 a2 a3)else -1))∧ ∀(l:List aI) (left:Int),dl vA l<n→l.length≤maxLen→(∀a∈l,okPat a)→0≤left→left≤1048576→eQ n l left=some (if(zl pS l:Int)≤left then left - zl pS l else -1)
 | 0=>⟨fun a0 a1 a2 a3 left h=>by omega,fun l left h=>by omega⟩
 | n+1=>by
  obtain⟨ih1,ih2⟩:=BD n
  refine⟨fun a0 a1 a2 a3 left h ho h0 h1=> ?_,fun l left h hl ho h0 h1=> ?_⟩
  ·rw[yR]
   unfold mR
   simp only[vA,okPat,pS,ET,AH]at h ho ⊢
   obtain⟨_,_,o3,o4,o5⟩:=ho
   rw[xS o3 h0 h1]
   by_cases c:left - (a2.length:Int)<0
   ·rw[decide_eq_true c,cond_true,if_neg (by omega)]
   rw[decide_eq_false c,cond_false]
   rw[ih2 a3 _ (by omega) o4 ((okPats_iff _).1 o5) (by omega) (by omega)]
   by_cases c2:(zl pS a3:Int)≤left - a2.length
   ·rw[if_pos c2,if_pos (by omega),Option.bind_some,decide_eq_false (by omega)]
    simp only[cond_false,Option.some.injEq]; omega
   ·rw[if_neg c2,if_neg (by omega)]; rfl
  ·rw[xC]
   unfold lJ
   have h2:=bK vA l
   have ez:zl pS l=l.length+mK pS l:=rfl
   rw[ez,xS hl h0 h1]
   by_cases c:left - (l.length:Int)<0
   ·rw[decide_eq_true c,cond_true,if_neg (by omega)]
   rw[decide_eq_false c,cond_false]
   rw[EN l pS (fun i a t ha t0 t1=>by
    have hm:=List.mem_of_getElem? ha
    have hd:=cU vA hm
    have hi:=bI ha
    have e:=ih1 a.f0 a.f1 a.f2 a.f3 t (by rw[iH]; omega) (by rw[iH]; exact ho a hm) t0 t1
    rw[iH]at e
    simp only[kT,bT ha,cond_true,bB,ha,Option.bind_some,e,aN (show i<4611686018427387904 by simp only[maxLen]at hl; omega)]
    by_cases c2:(pS a:Int)≤t
    ·rw[if_pos c2,if_pos c2,decide_eq_false (by omega)]; rfl
    ·rw[if_neg c2,if_neg c2]; rfl) (fun t=>by simp only[kT,aM,cond_false]) (by omega) (by omega) (by omega)]
   by_cases c2:(mK pS l:Int)≤left - l.length
   ·rw[if_pos c2,if_pos (by omega)]
    simp only[Option.bind_some,Option.some.injEq]; omega
   ·rw[if_neg c2,if_neg (by omega)]; rfl
theorem szPat_ok(n:Nat){a0 a1:Int}{a2:List UInt8}{a3:List aI}{left:Int}(h:vA (.mk a0 a1 a2 a3)<n)(ho:okPat (.mk a0 a1 a2 a3))(h0:0≤left)(h1:left≤1048576):iT n a0 a1 a2 a3 left=some (if(pS (.mk a0 a1 a2 a3):Int)≤left then left - pS (.mk a0 a1 a2 a3)else -1):=(BD n).1 _ _ _ _ _ h ho h0 h1
theorem Le(n:Nat)(l:List aI)(left:Int)(h:dl vA l<n)(hl:l.length≤maxLen)(ho: ∀a∈l,okPat a)(h0:0≤left)(h1:left≤1048576):eQ n l left=some (if(zl pS l:Int)≤left then left - zl pS l else -1):=(BD n).2 _ _ h hl ho h0 h1
theorem BC: ∀(n:Nat),(∀(a0 a1:Int) (a2:List UInt8) (a3:List aI),vA (.mk a0 a1 a2 a3)<n→pS (.mk a0 a1 a2 a3)≤1048576→iS n a0 a1 a2 a3=some (a0,a1,a2,wR a3))∧ ∀(l:List aI),dl vA l<n→zl pS l≤1048576→eP n l=some (wR l)
 | 0=>⟨fun a0 a1 a2 a3 h=>by omega,fun l h=>by omega⟩
 | n+1=>by
  obtain⟨ih1,ih2⟩:=BC n
  refine⟨fun a0 a1 a2 a3 h hz=> ?_,fun l h hz=> ?_⟩
  ·rw[yQ]
   unfold mQ
   simp only[vA,pS,ET,AH]at h hz
   simp only[ih2 a3 (by omega) (by omega),Option.bind_some]
  ·rw[xB]
   unfold lI
   have h2:=bK vA l
   have ez:zl pS l=l.length+mK pS l:=rfl
   have hc:decide (0≤(l.length:Int)∧(l.length:Int)≤maxLen∧56*(l.length:Int)≤281474976710656)=true:=decide_eq_true ⟨by omega,by simp only[maxLen]; omega,by omega⟩
   rw[hc]
   simp only[ck,cond_true,Option.bind_some,Int.toNat_natCast]
   rw[EM l Ii _ (fun i a o b ha hb=>by
    have hm:=List.mem_of_getElem? ha
    have hd:=cU vA hm
    have hi:=bI ha
    have hs:=vL pS hm
    simp only[kQ,bT ha,cond_true,bB,ha,hb,Option.bind_some,ih1 a.f0 a.f1 a.f2 a.f3 (by rw[iH]; omega) (by rw[iH]; omega),aN (show i<4611686018427387904 by omega),Int.toNat_natCast, ←LW,iH]) (fun o=>by simp only[kQ,aM,cond_false]) (by omega)]
   simp only[Option.bind_some,Gc]
theorem toPat_ok(n:Nat){a0 a1:Int}{a2:List UInt8}{a3:List aI}(h:vA (.mk a0 a1 a2 a3)<n)(hz:pS (.mk a0 a1 a2 a3)≤1048576):iS n a0 a1 a2 a3=some ((Ii (.mk a0 a1 a2 a3)).f0,(Ii (.mk a0 a1 a2 a3)).f1,(Ii (.mk a0 a1 a2 a3)).f2,(Ii (.mk a0 a1 a2 a3)).f3):=by
 rw[(BC n).1 _ _ _ _ h hz,LW]; rfl
theorem Lc(n:Nat)(l:List aI)(h:dl vA l<n)(hz:zl pS l≤1048576):eP n l=some (wR l):=(BC n).2 _ h hz
theorem BS: ∀(n:Nat),n≤4611686018427387904→(∀(a0 a1:Int) (a2:List UInt8) (a3:List aA),cO (.mk a0 a1 a2 a3)<n→iU n a0 a1 a2 a3 a0 a1 a2 a3=some true)∧ ∀(l:List aA),dl cO l<n→eS n l l=some true
 | 0,_=>⟨fun a0 a1 a2 a3 h=>by omega,fun l h=>by omega⟩
 | n+1,hn=>by
  obtain⟨ih1,ih2⟩:=BS n (by omega)
  refine⟨fun a0 a1 a2 a3 h=> ?_,fun l h=> ?_⟩
  ·rw[yS]
   unfold mS
   simp only[cO,mD]at h
   simp only[ih2 a3 (by omega),Option.bind_some,decide_true,Bool.not_true,cond_false]
  ·rw[xD]
   unfold lK
   have h2:=bK cO l
   simp only[decide_true,Bool.not_true,cond_false]
   rw[EO l (fun i a ha=>by
    have hm:=List.mem_of_getElem? ha
    have hd:=cU cO hm
    have hi:=bI ha
    simp only[kV,bT ha,cond_true,bB,ha,Option.bind_some,ih1 a.f0 a.f1 a.f2 a.f3 (by rw[dD]; omega),Bool.not_true,cond_false,aN (show i<4611686018427387904 by omega)]) (by simp only[kV,aM,cond_false]) (by omega)]
   simp only[Option.bind_some]
theorem eqPat_ok(n:Nat){a0 a1:Int}{a2:List UInt8}{a3:List aA}(h:cO (.mk a0 a1 a2 a3)<n)(hn:n≤4611686018427387904):iU n a0 a1 a2 a3 a0 a1 a2 a3=some true:=(BS n hn).1 _ _ _ _ h
theorem MA(n:Nat)(l:List aA)(h:dl cO l<n)(hn:n≤4611686018427387904):eS n l l=some true:=(BS n hn).2 _ h
theorem dQ(a:aD):aD.mk a.f0 a.f1 a.f2 a.f3=a:=rfl
def xN:aD→Nat
 | .mk a0 a1 a2 a3=>a2.length
def Dl:aD→Nat
 | .mk a0 a1 a2 a3=>4+a2.length
def mJ:aD→Nat
 | .mk a0 a1 a2 a3=>4+a2.length
def okIns:aD→Prop
 | .mk a0 a1 a2 a3=>(IntKind.i64.min≤a0∧a0≤IntKind.i64.max)∧(IntKind.i64.min≤a1∧a1≤IntKind.i64.max)∧(a2.length≤maxLen)∧(IntKind.i64.min≤a3∧a3≤IntKind.i64.max)
def MO:aD→aD
 | .mk a0 a1 a2 a3=> .mk a0 a1 a2 a3
theorem NC(n:Nat){a0:Int}{a1:Int}{a2:List UInt8}{a3:Int}{left:Int}(h:Dl (.mk a0 a1 a2 a3)<n)(ho:okIns (.mk a0 a1 a2 a3))(h0:0≤left)(h1:left≤1048576):mY n a0 a1 a2 a3 left=some (if(xN (.mk a0 a1 a2 a3):Int)≤left then left - xN (.mk a0 a1 a2 a3)else -1):=by
 unfold mY
 simp only[Dl,okIns]at h ho
 have ez:xN (.mk a0 a1 a2 a3)=a2.length:=rfl
 generalize xN (.mk a0 a1 a2 a3)=zz at ez ⊢
 obtain⟨o0,o1,o2,o3⟩:=ho
 rw[xS o2 (by omega) (by omega)]
 by_cases q1:left - ((a2.length:Nat):Int)<0
 ·rw[decide_eq_true q1,cond_true,if_neg (by omega)]
 rw[decide_eq_false q1,cond_false]
 rw[if_pos (by omega)]
 congr 1; omega
theorem NA(n:Nat){a0:Int}{a1:Int}{a2:List UInt8}{a3:Int}(h:Dl (.mk a0 a1 a2 a3)<n)(hz:xN (.mk a0 a1 a2 a3)≤1048576):pA n a0 a1 a2 a3=some ((MO (.mk a0 a1 a2 a3)).f0,(MO (.mk a0 a1 a2 a3)).f1,(MO (.mk a0 a1 a2 a3)).f2,(MO (.mk a0 a1 a2 a3)).f3):=by
 rfl
theorem Nv(n:Nat){a0:Int}{a1:Int}{a2:List UInt8}{a3:Int}(h:mJ (.mk a0 a1 a2 a3)<n)(hn:n≤4611686018427387904):nA n a0 a1 a2 a3 a0 a1 a2 a3=some true:=by
 unfold nA
 simp only[mJ]at h
 try simp only[decide_true,beq_self_eq_true,Bool.not_true,cond_false]
theorem Ss(a:aD):mJ (MO a)=Dl a:=by
 cases a
 simp only[MO,mJ,Dl]
theorem TV(a:aD):Dl a≤1*xN a+4:=by
 obtain⟨a0,a1,a2,a3⟩:=a
 show 4+a2.length≤1*(a2.length)+4
 omega
def Md(l:List aD):List aD:=l.map MO
theorem Lf(n:Nat)(l:List aD)(left:Int)(h:dl Dl l<n)(hl:l.length≤maxLen)(ho: ∀a∈l,okIns a)(h0:0≤left)(h1:left≤1048576):lN n l left=some (if(zl xN l:Int)≤left then left - zl xN l else -1):=by
 unfold lN
 have h2:=bK Dl l
 have ez:zl xN l=l.length+mK xN l:=rfl
 rw[ez,xS hl h0 h1]
 by_cases c:left - (l.length:Int)<0
 ·rw[decide_eq_true c,cond_true,if_neg (by omega)]
 rw[decide_eq_false c,cond_false]
 rw[EN l xN (fun i a t ha t0 t1=>by
  have hm:=List.mem_of_getElem? ha
  have hd:=cU Dl hm
  have hi:=bI ha
  simp only[kU,bT ha,cond_true,bB,ha,Option.bind_some,aN (show i<4611686018427387904 by simp only[maxLen]at hl; omega)]
  rw[NC n (h:=by rw[dQ]; omega) (ho:=by rw[dQ]; exact ho a hm) (h0:=t0) (h1:=t1),dQ]
  by_cases c2:(xN a:Int)≤t
  ·rw[if_pos c2,if_pos c2,Option.bind_some,decide_eq_false (by omega),cond_false]
  ·rw[if_neg c2,if_neg c2]; rfl) (fun t=>by simp only[kU,aM,cond_false]) (by omega) (by omega) (by omega)]
 by_cases c2:(mK xN l:Int)≤left - l.length
 ·rw[if_pos c2,if_pos (by omega)]
  simp only[Option.bind_some,Option.some.injEq]; omega
 ·rw[if_neg c2,if_neg (by omega)]; rfl
theorem Ld(n:Nat)(l:List aD)(h:dl Dl l<n)(hz:zl xN l≤1048576):lM n l=some (Md l):=by
 unfold lM
 have h2:=bK Dl l
 have ez:zl xN l=l.length+mK xN l:=rfl
 have hc:decide (0≤(l.length:Int)∧(l.length:Int)≤maxLen∧40*(l.length:Int)≤281474976710656)=true:=decide_eq_true ⟨by omega,by simp only[maxLen]; omega,by omega⟩
 rw[hc]
 simp only[ck,cond_true,Option.bind_some,Int.toNat_natCast]
 rw[EM l MO _ (fun i a o b ha hb=>by
  have hm:=List.mem_of_getElem? ha
  have hd:=cU Dl hm
  have hi:=bI ha
  have hs:=vL xN hm
  simp only[kR,bT ha,cond_true,bB,ha,hb,Option.bind_some,aN (show i<4611686018427387904 by omega),Int.toNat_natCast]
  rw[NA n (h:=by rw[dQ]; omega) (hz:=by rw[dQ]; omega)]
  simp only[Option.bind_some,dQ,dQ]) (fun o=>by simp only[kR,aM,cond_false]) (by omega)]
 rfl
theorem MB(n:Nat)(l:List aD)(h:dl mJ l<n)(hn:n≤4611686018427387904):lO n l l=some true:=by
 unfold lO
 have h2:=bK mJ l
 simp only[decide_true,Bool.not_true,cond_false]
 rw[EO l (fun i a ha=>by
  have hm:=List.mem_of_getElem? ha
  have hd:=cU mJ hm
  have hi:=bI ha
  simp only[kW,bT ha,cond_true,bB,ha,Option.bind_some,aN (show i<4611686018427387904 by omega)]
  rw[Nv n (h:=by rw[dQ]; omega) (hn:=hn)]
  rfl) (by simp only[kW,aM,cond_false]) (by omega)]
 rfl
theorem QS(l:List aD):dl mJ (Md l)=dl Dl l:=by
 unfold Md
 rw[Ho]
 exact AG fun a _=>Ss a
theorem jL(a:aO):aO.mk a.f0 a.f1 a.f2 a.f3=a:=rfl
theorem nU(a:aB):aB.mk a.f0 a.f1 a.f2 a.f3=a:=rfl
def zFn:aO→Nat
 | .mk a0 a1 a2 a3=>a0.length+zl xN a3
def dFn:aO→Nat
 | .mk a0 a1 a2 a3=>3+a0.length+dl Dl a3
def wFn:aB→Nat
 | .mk a0 a1 a2 a3=>3+a0.length+dl mJ a3
def okFn:aO→Prop
 | .mk a0 a1 a2 a3=>(a0.length≤maxLen)∧(IntKind.i64.min≤a1∧a1≤IntKind.i64.max)∧(IntKind.i64.min≤a2∧a2≤IntKind.i64.max)∧(a3.length≤maxLen∧ ∀x∈a3,okIns x)
def cFn:aO→aB
 | .mk a0 a1 a2 a3=> .mk a0 a1 a2 (Md a3)
theorem Pd(n:Nat){a0:List UInt8}{a1:Int}{a2:Int}{a3:List aD}{left:Int}(h:dFn (.mk a0 a1 a2 a3)<n)(ho:okFn (.mk a0 a1 a2 a3))(h0:0≤left)(h1:left≤1048576):oD n a0 a1 a2 a3 left=some (if(zFn (.mk a0 a1 a2 a3):Int)≤left then left - zFn (.mk a0 a1 a2 a3)else -1):=by
 unfold oD
 simp only[dFn,okFn]at h ho
 have ez:zFn (.mk a0 a1 a2 a3)=a0.length+zl xN a3:=rfl
 generalize zFn (.mk a0 a1 a2 a3)=zz at ez ⊢
 obtain⟨o0,o1,o2,o3⟩:=ho
 rw[xS o0 (by omega) (by omega)]
 by_cases q1:left - ((a0.length:Nat):Int)<0
 ·rw[decide_eq_true q1,cond_true,if_neg (by omega)]
 rw[decide_eq_false q1,cond_false]
 rw[Lf n _ _ (by omega) o3.1 o3.2 (by omega) (by omega)]
 by_cases q2:((zl xN a3:Nat):Int)≤left - (a0.length:Nat)
 rotate_left
 ·rw[if_neg q2,if_neg (by omega)]; rfl
 rw[if_pos q2,Option.bind_some,decide_eq_false (by omega),cond_false]
 rw[if_pos (by omega)]
 congr 1; omega
theorem Pb(n:Nat){a0:List UInt8}{a1:Int}{a2:Int}{a3:List aD}(h:dFn (.mk a0 a1 a2 a3)<n)(hz:zFn (.mk a0 a1 a2 a3)≤1048576):oC n a0 a1 a2 a3=some ((cFn (.mk a0 a1 a2 a3)).f0,(cFn (.mk a0 a1 a2 a3)).f1,(cFn (.mk a0 a1 a2 a3)).f2,(cFn (.mk a0 a1 a2 a3)).f3):=by
 unfold oC
 simp only[dFn,zFn]at h hz
 rw[Ld n _ (by omega) (by omega)]
 try simp only[Option.bind_some]
 rfl
theorem QQ(n:Nat){a0:List UInt8}{a1:Int}{a2:Int}{a3:List aD}(h:wFn (.mk a0 a1 a2 a3)<n)(hn:n≤4611686018427387904):oE n a0 a1 a2 a3 a0 a1 a2 a3=some true:=by
 unfold oE
 simp only[wFn]at h
 try simp only[decide_true,beq_self_eq_true,Bool.not_true,cond_false]
 rw[MB n _ (by omega) hn]
 simp only[Option.bind_some,decide_true,beq_self_eq_true,Bool.not_true,cond_false]
theorem wFn_c(a:aO):wFn (cFn a)=dFn a:=by
 cases a
 simp only[cFn,wFn,dFn,QS]
theorem dFn_z(a:aO):dFn a≤5*zFn a+4:=by
 obtain⟨a0,a1,a2,a3⟩:=a
 have:=KA (A:=1) (B:=4) (C:=5) TV (by omega) (by omega) a3
 show 3+a0.length+dl Dl a3≤5*(a0.length+zl xN a3)+4
 omega
def Sn(l:List aO):List aB:=l.map cFn
theorem ND(n:Nat)(l:List aO)(left:Int)(h:dl dFn l<n)(hl:l.length≤maxLen)(ho: ∀a∈l,okFn a)(h0:0≤left)(h1:left≤1048576):mZ n l left=some (if(zl zFn l:Int)≤left then left - zl zFn l else -1):=by
 unfold mZ
 have h2:=bK dFn l
 have ez:zl zFn l=l.length+mK zFn l:=rfl
 rw[ez,xS hl h0 h1]
 by_cases c:left - (l.length:Int)<0
 ·rw[decide_eq_true c,cond_true,if_neg (by omega)]
 rw[decide_eq_false c,cond_false]
 rw[EN l zFn (fun i a t ha t0 t1=>by
  have hm:=List.mem_of_getElem? ha
  have hd:=cU dFn hm
  have hi:=bI ha
  simp only[lT,bT ha,cond_true,bB,ha,Option.bind_some,aN (show i<4611686018427387904 by simp only[maxLen]at hl; omega)]
  rw[Pd n (h:=by rw[jL]; omega) (ho:=by rw[jL]; exact ho a hm) (h0:=t0) (h1:=t1),jL]
  by_cases c2:(zFn a:Int)≤t
  ·rw[if_pos c2,if_pos c2,Option.bind_some,decide_eq_false (by omega),cond_false]
  ·rw[if_neg c2,if_neg c2]; rfl) (fun t=>by simp only[lT,aM,cond_false]) (by omega) (by omega) (by omega)]
 by_cases c2:(mK zFn l:Int)≤left - l.length
 ·rw[if_pos c2,if_pos (by omega)]
  simp only[Option.bind_some,Option.some.injEq]; omega
 ·rw[if_neg c2,if_neg (by omega)]; rfl
theorem NB(n:Nat)(l:List aO)(h:dl dFn l<n)(hz:zl zFn l≤1048576):mX n l=some (Sn l):=by
 unfold mX
 have h2:=bK dFn l
 have ez:zl zFn l=l.length+mK zFn l:=rfl
 have hc:decide (0≤(l.length:Int)∧(l.length:Int)≤maxLen∧56*(l.length:Int)≤281474976710656)=true:=decide_eq_true ⟨by omega,by simp only[maxLen]; omega,by omega⟩
 rw[hc]
 simp only[ck,cond_true,Option.bind_some,Int.toNat_natCast]
 rw[EM l cFn _ (fun i a o b ha hb=>by
  have hm:=List.mem_of_getElem? ha
  have hd:=cU dFn hm
  have hi:=bI ha
  have hs:=vL zFn hm
  simp only[lS,bT ha,cond_true,bB,ha,hb,Option.bind_some,aN (show i<4611686018427387904 by omega),Int.toNat_natCast]
  rw[Pb n (h:=by rw[jL]; omega) (hz:=by rw[jL]; omega)]
  simp only[Option.bind_some,jL,nU]) (fun o=>by simp only[lS,aM,cond_false]) (by omega)]
 rfl
theorem Nw(n:Nat)(l:List aB)(h:dl wFn l<n)(hn:n≤4611686018427387904):nB n l l=some true:=by
 unfold nB
 have h2:=bK wFn l
 simp only[decide_true,Bool.not_true,cond_false]
 rw[EO l (fun i a ha=>by
  have hm:=List.mem_of_getElem? ha
  have hd:=cU wFn hm
  have hi:=bI ha
  simp only[lU,bT ha,cond_true,bB,ha,Option.bind_some,aN (show i<4611686018427387904 by omega)]
  rw[QQ n (h:=by rw[nU]; omega) (hn:=hn)]
  rfl) (by simp only[lU,aM,cond_false]) (by omega)]
 rfl
theorem TT(l:List aO):dl wFn (Sn l)=dl dFn l:=by
 unfold Sn
 rw[Ho]
 exact AG fun a _=>wFn_c a
structure _root_.Go.Own.S_laws_Code where
 f0:List aO
 f1:List aI
theorem S_laws_Code_eta(a:S_laws_Code):S_laws_Code.mk a.f0 a.f1=a:=rfl
structure _root_.Go.Own.S_impl_Code where
 f0:List aB
 f1:List aA
theorem CP(a:S_impl_Code):S_impl_Code.mk a.f0 a.f1=a:=rfl
def qX:S_laws_Code→Nat
 | .mk a0 a1=>zl zFn a0+zl pS a1
def zJ:S_laws_Code→Nat
 | .mk a0 a1=>3+dl dFn a0+dl vA a1
def Hs:S_impl_Code→Nat
 | .mk a0 a1=>3+dl wFn a0+dl cO a1
def okCode:S_laws_Code→Prop
 | .mk a0 a1=>(a0.length≤maxLen∧ ∀x∈a0,okFn x)∧(a1.length≤maxLen∧ ∀x∈a1,okPat x)
def Et:S_laws_Code→S_impl_Code
 | .mk a0 a1=> .mk (Sn a0) (wR a1)
theorem Fv(n:Nat){a0:List aO}{a1:List aI}{left:Int}(h:zJ (.mk a0 a1)<n)(ho:okCode (.mk a0 a1))(h0:0≤left)(h1:left≤1048576):jH n a0 a1 left=some (if(qX (.mk a0 a1):Int)≤left then left - qX (.mk a0 a1)else -1):=by
 unfold jH
 simp only[zJ,okCode]at h ho
 have ez:qX (.mk a0 a1)=zl zFn a0+zl pS a1:=rfl
 generalize qX (.mk a0 a1)=zz at ez ⊢
 obtain⟨o0,o1⟩:=ho
 rw[ND n _ _ (by omega) o0.1 o0.2 (by omega) (by omega)]
 by_cases q1:((zl zFn a0:Nat):Int)≤left
 rotate_left
 ·rw[if_neg q1,if_neg (by omega)]; rfl
 rw[if_pos q1,Option.bind_some,decide_eq_false (by omega),cond_false]
 rw[Le n _ _ (by omega) o1.1 o1.2 (by omega) (by omega)]
 by_cases q2:((zl pS a1:Nat):Int)≤left - (zl zFn a0:Nat)
 rotate_left
 ·rw[if_neg q2,if_neg (by omega)]; rfl
 rw[if_pos q2,Option.bind_some,decide_eq_false (by omega),cond_false]
 rw[if_pos (by omega)]
 congr 1; omega
theorem Ft(n:Nat){a0:List aO}{a1:List aI}(h:zJ (.mk a0 a1)<n)(hz:qX (.mk a0 a1)≤1048576):jG n a0 a1=some ((Et (.mk a0 a1)).f0,(Et (.mk a0 a1)).f1):=by
 unfold jG
 simp only[zJ,qX]at h hz
 rw[NB n _ (by omega) (by omega)]
 try simp only[Option.bind_some]
 rw[Lc n _ (by omega) (by omega)]
 try simp only[Option.bind_some]
 rfl
theorem Ga(n:Nat){a0:List aB}{a1:List aA}(h:Hs (.mk a0 a1)<n)(hn:n≤4611686018427387904):jI n a0 a1 a0 a1=some true:=by
 unfold jI
 simp only[Hs]at h
 try simp only[decide_true,beq_self_eq_true,Bool.not_true,cond_false]
 rw[Nw n _ (by omega) hn]
 simp only[Option.bind_some,decide_true,beq_self_eq_true,Bool.not_true,cond_false]
 rw[MA n _ (by omega) hn]
 simp only[Option.bind_some,decide_true,beq_self_eq_true,Bool.not_true,cond_false]
theorem Kg(a:S_laws_Code):Hs (Et a)=zJ a:=by
 cases a
 simp only[Et,Hs,zJ,TT,QR]
theorem LR(a:S_laws_Code):zJ a≤5*qX a+5:=by
 obtain⟨a0,a1⟩:=a
 have:=KA (A:=5) (B:=4) (C:=5) dFn_z (by omega) (by omega) a0
 have:=KA (A:=5) (B:=4) (C:=5) Ok (by omega) (by omega) a1
 show 3+dl dFn a0+dl vA a1≤5*(zl zFn a0+zl pS a1)+5
 omega
theorem eM(a:S_laws_Entry):S_laws_Entry.mk a.f0 a.f1 a.f2 a.f3 a.f4 a.f5 a.f6=a:=rfl
theorem lA(a:aC):aC.mk a.f0 a.f1 a.f2 a.f3 a.f4 a.f5 a.f6=a:=rfl
def kK:S_laws_Entry→Nat
 | .mk a0 a1 a2 a3 a4 a5 a6=>a0.length+qX (.mk a2 a3)+qX (.mk a5 a6)
def mB:S_laws_Entry→Nat
 | .mk a0 a1 a2 a3 a4 a5 a6=>3+a0.length+zJ (.mk a2 a3)+zJ (.mk a5 a6)
def bQ:aC→Nat
 | .mk a0 a1 a2 a3 a4 a5 a6=>3+a0.length+Hs (.mk a2 a3)+Hs (.mk a5 a6)
def okEntry:S_laws_Entry→Prop
 | .mk a0 a1 a2 a3 a4 a5 a6=>(a0.length≤maxLen)∧(IntKind.i64.min≤a1∧a1≤IntKind.i64.max)∧(okCode (.mk a2 a3))∧(okCode (.mk a5 a6))
def rD:S_laws_Entry→aC
 | .mk a0 a1 a2 a3 a4 a5 a6=> .mk a0 a1 (Et (.mk a2 a3)).f0 (Et (.mk a2 a3)).f1 a4 (Et (.mk a5 a6)).f0 (Et (.mk a5 a6)).f1
theorem JW(n:Nat){a0:List UInt8}{a1:Int}{a2:List aO}{a3:List aI}{a4:Bool}{a5:List aO}{a6:List aI}{left:Int}(h:mB (.mk a0 a1 a2 a3 a4 a5 a6)<n)(ho:okEntry (.mk a0 a1 a2 a3 a4 a5 a6))(h0:0≤left)(h1:left≤1048576):kE n a0 a1 a2 a3 a4 a5 a6 left=some (if(kK (.mk a0 a1 a2 a3 a4 a5 a6):Int)≤left then left - kK (.mk a0 a1 a2 a3 a4 a5 a6)else -1):=by
 unfold kE
 simp only[mB,okEntry]at h ho
 have ez:kK (.mk a0 a1 a2 a3 a4 a5 a6)=a0.length+qX (.mk a2 a3)+qX (.mk a5 a6):=rfl
 generalize kK (.mk a0 a1 a2 a3 a4 a5 a6)=zz at ez ⊢
 obtain⟨o0,o1,o2,o4⟩:=ho
 rw[xS o0 (by omega) (by omega)]
 by_cases q1:left - ((a0.length:Nat):Int)<0
 ·rw[decide_eq_true q1,cond_true,if_neg (by omega)]
 rw[decide_eq_false q1,cond_false]
 rw[Fv n (h:=by omega) (ho:=o2) (h0:=by omega) (h1:=by omega)]
 by_cases q2:((qX (.mk a2 a3):Nat):Int)≤left - (a0.length:Nat)
 rotate_left
 ·rw[if_neg q2,if_neg (by omega)]; rfl
 rw[if_pos q2,Option.bind_some,decide_eq_false (by omega),cond_false]
 rw[Fv n (h:=by omega) (ho:=o4) (h0:=by omega) (h1:=by omega)]
 by_cases q3:((qX (.mk a5 a6):Nat):Int)≤left - (a0.length:Nat) - (qX (.mk a2 a3):Nat)
 rotate_left
 ·rw[if_neg q3,if_neg (by omega)]; rfl
 rw[if_pos q3,Option.bind_some,decide_eq_false (by omega),cond_false]
 rw[if_pos (by omega)]
 congr 1; omega
theorem JU(n:Nat){a0:List UInt8}{a1:Int}{a2:List aO}{a3:List aI}{a4:Bool}{a5:List aO}{a6:List aI}(h:mB (.mk a0 a1 a2 a3 a4 a5 a6)<n)(hz:kK (.mk a0 a1 a2 a3 a4 a5 a6)≤1048576):kD n a0 a1 a2 a3 a4 a5 a6=some ((rD (.mk a0 a1 a2 a3 a4 a5 a6)).f0,(rD (.mk a0 a1 a2 a3 a4 a5 a6)).f1,(rD (.mk a0 a1 a2 a3 a4 a5 a6)).f2,(rD (.mk a0 a1 a2 a3 a4 a5 a6)).f3,(rD (.mk a0 a1 a2 a3 a4 a5 a6)).f4,(rD (.mk a0 a1 a2 a3 a4 a5 a6)).f5,(rD (.mk a0 a1 a2 a3 a4 a5 a6)).f6):=by
 unfold kD
 simp only[mB,kK]at h hz
 rw[Ft n (h:=by omega) (hz:=by omega)]
 try simp only[Option.bind_some]
 rw[Ft n (h:=by omega) (hz:=by omega)]
 try simp only[Option.bind_some]
 rfl
theorem Jr(n:Nat){a0:List UInt8}{a1:Int}{a2:List aB}{a3:List aA}{a4:Bool}{a5:List aB}{a6:List aA}(h:bQ (.mk a0 a1 a2 a3 a4 a5 a6)<n)(hn:n≤4611686018427387904):kF n a0 a1 a2 a3 a4 a5 a6 a0 a1 a2 a3 a4 a5 a6=some true:=by
 unfold kF
 simp only[bQ]at h
 try simp only[decide_true,beq_self_eq_true,Bool.not_true,cond_false]
 rw[Ga n (h:=by omega) (hn:=hn)]
 simp only[Option.bind_some,decide_true,beq_self_eq_true,Bool.not_true,cond_false]
 rw[Ga n (h:=by omega) (hn:=hn)]
 simp only[Option.bind_some,decide_true,beq_self_eq_true,Bool.not_true,cond_false]
theorem Mu(a:S_laws_Entry):bQ (rD a)=mB a:=by
 cases a
 simp only[rD,bQ,mB,CP,Kg,Kg]
theorem Ny(a:S_laws_Entry):mB a≤5*kK a+13:=by
 obtain⟨a0,a1,a2,a3,a4,a5,a6⟩:=a
 have:=LR (.mk a2 a3)
 have:=LR (.mk a5 a6)
 show 3+a0.length+zJ (.mk a2 a3)+zJ (.mk a5 a6)≤5*(a0.length+qX (.mk a2 a3)+qX (.mk a5 a6))+13
 omega
def Av(l:List S_laws_Entry):List aC:=l.map rD
theorem Hv(n:Nat)(l:List S_laws_Entry)(left:Int)(h:dl mB l<n)(hl:l.length≤maxLen)(ho: ∀a∈l,okEntry a)(h0:0≤left)(h1:left≤1048576):iW n l left=some (if(zl kK l:Int)≤left then left - zl kK l else -1):=by
 unfold iW
 have h2:=bK mB l
 have ez:zl kK l=l.length+mK kK l:=rfl
 rw[ez,xS hl h0 h1]
 by_cases c:left - (l.length:Int)<0
 ·rw[decide_eq_true c,cond_true,if_neg (by omega)]
 rw[decide_eq_false c,cond_false]
 rw[EN l kK (fun i a t ha t0 t1=>by
  have hm:=List.mem_of_getElem? ha
  have hd:=cU mB hm
  have hi:=bI ha
  simp only[iJ,bT ha,cond_true,bB,ha,Option.bind_some,aN (show i<4611686018427387904 by simp only[maxLen]at hl; omega)]
  rw[JW n (h:=by rw[eM]; omega) (ho:=by rw[eM]; exact ho a hm) (h0:=t0) (h1:=t1),eM]
  by_cases c2:(kK a:Int)≤t
  ·rw[if_pos c2,if_pos c2,Option.bind_some,decide_eq_false (by omega),cond_false]
  ·rw[if_neg c2,if_neg c2]; rfl) (fun t=>by simp only[iJ,aM,cond_false]) (by omega) (by omega) (by omega)]
 by_cases c2:(mK kK l:Int)≤left - l.length
 ·rw[if_pos c2,if_pos (by omega)]
  simp only[Option.bind_some,Option.some.injEq]; omega
 ·rw[if_neg c2,if_neg (by omega)]; rfl
theorem Hu(n:Nat)(l:List S_laws_Entry)(h:dl mB l<n)(hz:zl kK l≤1048576):dE n l=some (Av l):=by
 unfold dE
 have h2:=bK mB l
 have ez:zl kK l=l.length+mK kK l:=rfl
 have hc:decide (0≤(l.length:Int)∧(l.length:Int)≤maxLen∧128*(l.length:Int)≤281474976710656)=true:=decide_eq_true ⟨by omega,by simp only[maxLen]; omega,by omega⟩
 rw[hc]
 simp only[ck,cond_true,Option.bind_some,Int.toNat_natCast]
 rw[EM l rD _ (fun i a o b ha hb=>by
  have hm:=List.mem_of_getElem? ha
  have hd:=cU mB hm
  have hi:=bI ha
  have hs:=vL kK hm
  simp only[iI,bT ha,cond_true,bB,ha,hb,Option.bind_some,aN (show i<4611686018427387904 by omega),Int.toNat_natCast]
  rw[JU n (h:=by rw[eM]; omega) (hz:=by rw[eM]; omega)]
  simp only[Option.bind_some,eM,lA]) (fun o=>by simp only[iI,aM,cond_false]) (by omega)]
 rfl
theorem Bj(n:Nat)(l:List aC)(h:dl bQ l<n)(hn:n≤4611686018427387904):dF n l l=some true:=by
 unfold dF
 have h2:=bK bQ l
 simp only[decide_true,Bool.not_true,cond_false]
 rw[EO l (fun i a ha=>by
  have hm:=List.mem_of_getElem? ha
  have hd:=cU bQ hm
  have hi:=bI ha
  simp only[iL,bT ha,cond_true,bB,ha,Option.bind_some,aN (show i<4611686018427387904 by omega)]
  rw[Jr n (h:=by rw[lA]; omega) (hn:=hn)]
  rfl) (by simp only[iL,aM,cond_false]) (by omega)]
 rfl
theorem MC(l:List S_laws_Entry):dl bQ (Av l)=dl mB l:=by
 unfold Av
 rw[Ho]
 exact AG fun a _=>Mu a
end Go.Own.Q
