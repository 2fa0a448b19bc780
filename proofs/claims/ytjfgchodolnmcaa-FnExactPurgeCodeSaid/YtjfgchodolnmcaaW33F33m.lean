/- What is written into slices in place, type by type, in plain Lean. No conditions. -/
import Derived.Test.YtjfgchodolnmcaaW33Marks
set_option linter.unusedVariables false
set_option linter.unusedSimpArgs false
set_option linter.unnecessarySimpa false
namespace Go.Own.Q
open Go Go.Proofs

def GJ(l:List (List UInt8))(k:Nat):Nat×List (List UInt8):=cP (fun k _=>(k+1,HM k)) k l
def Oe(l:List Int)(k:Nat):Nat×List Int:=cP (fun k _=>(k+1,(k:Int))) k l
def Kx(l:List Int)(k:Nat):Nat×List Int:=cP (fun k _=>(k+1,IntKind.wrap .u8 (k:Int))) k l
theorem VG(l:List (List UInt8))(k:Nat):(GJ l k).1≤k+dl List.length l:=tC (fun a _ k=>by simp only; omega) k
theorem VH(l:List (List UInt8))(k:Nat):k≤(GJ l k).1:=nZ (fun a _ k=>by simp only; omega) k
theorem leIntS(l:List Int)(k:Nat):(Oe l k).1≤k+dl (fun _=>0) l:=tC (fun a _ k=>by simp only; omega) k
theorem geIntS(l:List Int)(k:Nat):k≤(Oe l k).1:=nZ (fun a _ k=>by simp only; omega) k
theorem leByteS(l:List Int)(k:Nat):(Kx l k).1≤k+dl (fun _=>0) l:=tC (fun a _ k=>by simp only; omega) k
theorem geByteS(l:List Int)(k:Nat):k≤(Kx l k).1:=nZ (fun a _ k=>by simp only; omega) k

def Ep(k:Nat):aD→Nat×aD
 | .mk a0 a1 a2 a3=>(k+1+1+1+1, .mk (((k:Nat):Int)) (((k+1:Nat):Int)) (HM (k+1+1)) (((k+1+1+1:Nat):Int)))
theorem EZ(a:aD)(k:Nat):(Ep k a).1≤k+mJ a:=by
 obtain⟨a0,a1,a2,a3⟩:=a
 have e:mJ (.mk a0 a1 a2 a3)=(4+a2.length):=rfl
 show k+1+1+1+1≤k+mJ (.mk a0 a1 a2 a3)
 omega
theorem Ea(a:aD)(k:Nat):k≤(Ep k a).1:=by
 obtain⟨a0,a1,a2,a3⟩:=a
 show k≤k+1+1+1+1
 omega
def jS(l:List aD)(k:Nat):Nat×List aD:=cP Ep k l
theorem KT(l:List aD)(k:Nat):(jS l k).1≤k+dl mJ l:=vX (fun a _ k=>EZ a k) k
theorem KW(l:List aD)(k:Nat):k≤(jS l k).1:=nZ (fun a _ k=>Ea a k) k
theorem IG(n:Nat)(hn:n≤1099511627776)(l:List aD)(k:Nat)(h:20+dl mJ l<n)(hk:0<k)(hB:k+dl mJ l≤1099511627776):iX n l (k:Int)=some (((jS l k).1:Int),(jS l k).2):=by
 unfold iX
 have h2:=bK mJ l
 have hl:=vY (body:=eZ n) Ep mJ (B:=1099511627776) (C:=dl mJ l) (fun a k=>EZ a k) (len:=l.length) (fun L s i a hL ha hs hb hc=>by
  have hi:=bI ha
  obtain⟨a0,a1,a2,a3⟩:=a
  have e:mJ (.mk a0 a1 a2 a3)=(4+a2.length):=rfl
  rw[e]at hb hc
  have g:Ep s (.mk a0 a1 a2 a3)=(s+1+1+1+1, .mk (((s:Nat):Int)) (((s+1:Nat):Int)) (HM (s+1+1)) (((s+1+1+1:Nat):Int))):=rfl
  rw[g]
  simp only[eZ,decide_eq_true (show(i:Int)<(L.length:Int)by omega),cond_true,bB,ha,Option.bind_some,Int.toNat_natCast,List.set_set,List.getElem?_set_self hi,aN (show i<4611686018427387904 by omega),bX (show s<4611686018427387904 by omega),bX (show s+1<4611686018427387904 by omega),bX (show s+1+1<4611686018427387904 by omega),bX (show s+1+1+1<4611686018427387904 by omega),iP n (s+1+1) (by omega) (by omega) (by omega)]) (fun L s hL=>by rw[←hL]; simp only[eZ,aM,cond_false]) (fun a k=>Ea a k) l [] k n rfl hk hB (Nat.le_refl _) (by omega)
 refine(congrArg (fun q=>Option.bind q _) hl).trans ?_
 simp only[Option.bind_some,List.nil_append]
 rfl
theorem IP(n:Nat)(hn:n≤1099511627776)(l:List aD)(k:Nat)(h:20+dl mJ l<n)(hk:0<k)(hB:k+dl mJ l≤1099511627776):iY n (jS l k).2 (k:Int)=some ((jS l k).1:Int):=by
 unfold iY
 have h2:=bK mJ l
 have hl:=vZ (body:=fC n (jS l k).2) Ep mJ (B:=1099511627776) (C:=dl mJ l) (fun a k=>EZ a k) (fun a k=>Ea a k) (L:=(jS l k).2) (out:=fun s=> .inr ((s:Int),((jS l k).2.length:Int),false)) (fun s i a ha hs hb hc=>by
  have hi:=bI ha
  have hll:(jS l k).2.length=l.length:=qB Ep l k
  obtain⟨a0,a1,a2,a3⟩:=a
  have e:mJ (.mk a0 a1 a2 a3)=(4+a2.length):=rfl
  rw[e]at hb hc
  have g:Ep s (.mk a0 a1 a2 a3)=(s+1+1+1+1, .mk (((s:Nat):Int)) (((s+1:Nat):Int)) (HM (s+1+1)) (((s+1+1+1:Nat):Int))):=rfl
  rw[g]at ha ⊢
  simp only[fC,bT ha,cond_true,bB,ha,Option.bind_some,decide_true,beq_self_eq_true,Bool.not_true,cond_false,aN (show i<4611686018427387904 by omega),bX (show s<4611686018427387904 by omega),bX (show s+1<4611686018427387904 by omega),bX (show s+1+1<4611686018427387904 by omega),bX (show s+1+1+1<4611686018427387904 by omega),iP n (s+1+1) (by omega) (by omega) (by omega)]) (fun s=>by simp only[fC,aM,cond_false]) l [] k n rfl hk hB (Nat.le_refl _) (by omega)
 refine(congrArg (fun q=>Option.bind q _) hl).trans ?_
 simp only[Option.bind_some]
 rfl
mutual
def uQ:aA→Nat→Nat×aA
 | .mk _ _ _ l,k=>((bD l (k+3)).1, .mk (k:Int) ((k+1:Nat):Int) (HM (k+2)) (bD l (k+3)).2)
def bD:List aA→Nat→Nat×List aA
 | [],k=>(k,[])
 | a::r,k=>((bD r (uQ a k).1).1,(uQ a k).2::(bD r (uQ a k).1).2)
end
theorem qA: ∀(l:List aA) (k:Nat),bD l k=cP (fun k a=>uQ a k) k l
 | [],k=>rfl
 | a::r,k=>by simp only[bD,cP,qA r]
mutual
theorem EX: ∀(a:aA) (k:Nat),(uQ a k).1≤k+cO a
 | .mk _ _ s l,k=>by have:=BJ l (k+3); simp only[uQ,cO]; omega
theorem BJ: ∀(l:List aA) (k:Nat),(bD l k).1≤k+zE l
 | [],k=>by simp [bD]
 | a::r,k=>by have:=EX a k; have:=BJ r (uQ a k).1; simp only[bD,zE]; omega
end
mutual
theorem EY: ∀(a:aA) (k:Nat),k≤(uQ a k).1
 | .mk _ _ s l,k=>by have:=vV l (k+3); simp only[uQ]; omega
theorem vV: ∀(l:List aA) (k:Nat),k≤(bD l k).1
 | [],k=>by simp [bD]
 | a::r,k=>by have:=EY a k; have:=vV r (uQ a k).1; simp only[bD]; omega
end
theorem p_laws_markPatS_succ(n:Nat):cB (n+1)=fP n (cB n):=rfl
theorem p_laws_heldPatS_succ(n:Nat):cC (n+1)=fQ n (cC n):=rfl
theorem uR: ∀(n:Nat),n≤1099511627776→ ∀(l:List aA) (k:Nat),20+dl cO l<n→0<k→k+dl cO l≤1099511627776→cB n l (k:Int)=some (((bD l k).1:Int),(bD l k).2)
 | 0,_=>fun l k h=>by omega
 | n+1,hn=>fun l k h hk hB=>by
  have ih:=uR n (by omega)
  rw[p_laws_markPatS_succ]
  unfold fP
  have h2:=bK cO l
  have hl:=vY (body:=eY n (cB n)) (fun k a=>uQ a k) cO (B:=1099511627776) (C:=dl cO l) (fun a k=>EX a k) (len:=l.length) (fun L s i a hL ha hs hb hc=>by
   have hi:=bI ha
   obtain⟨a0,a1,a2,a3⟩:=a
   simp only[cO,mD]at hb hc
   have hw:=bK cO a3
   simp only[eY,decide_eq_true (show(i:Int)<(L.length:Int)by omega),cond_true,bB,ha,Option.bind_some,Int.toNat_natCast,List.set_set,List.getElem?_set_self hi,aA.f0,aA.f1,aA.f2,aA.f3,
    bX (show s<4611686018427387904 by omega),bX (show s+1<4611686018427387904 by omega),bX (show s+1+1<4611686018427387904 by omega),aN (show i<4611686018427387904 by omega),iP n (s+1+1) (by omega) (by omega) (by omega),ih a3 (s+1+1+1) (by omega) (by omega) (by omega)]
   rfl) (fun L s hL=>by rw[←hL]; simp only[eY,aM,cond_false]) (fun a k=>EY a k) l [] k n rfl hk hB (Nat.le_refl _) (by omega)
  refine(congrArg (fun q=>Option.bind q _) hl).trans ?_
  simp only[Option.bind_some,List.nil_append,qA]
theorem uV: ∀(n:Nat),n≤1099511627776→ ∀(l:List aA) (k:Nat),20+dl cO l<n→0<k→k+dl cO l≤1099511627776→cC n (bD l k).2 (k:Int)=some ((bD l k).1:Int)
 | 0,_=>fun l k h=>by omega
 | n+1,hn=>fun l k h hk hB=>by
  have ih:=uV n (by omega)
  rw[p_laws_heldPatS_succ]
  unfold fQ
  have h2:=bK cO l
  have hlen:(bD l k).2.length=l.length:=by rw[qA,qB]
  have hl:=vZ (body:=fA n (cC n) (bD l k).2) (fun k a=>uQ a k) cO (B:=1099511627776) (C:=dl cO l) (fun a k=>EX a k) (fun a k=>EY a k) (L:=(bD l k).2) (out:=fun s=> .inr ((s:Int),((bD l k).2.length:Int),false)) (fun s i a ha hs hb hc=>by
   have hi:=bI ha
   obtain⟨a0,a1,a2,a3⟩:=a
   simp only[cO,mD]at hb hc
   have hw:=bK cO a3
   have hg:=vV a3 (s+3)
   simp only[uQ]at ha ⊢
   simp only[fA,bT ha,cond_true,bB,ha,Option.bind_some,aA.f0,aA.f1,aA.f2,aA.f3,decide_true,Bool.not_true,cond_false,
    bX (show s<4611686018427387904 by omega),bX (show s+1<4611686018427387904 by omega),bX (show s+1+1<4611686018427387904 by omega),aN (show i<4611686018427387904 by omega),iP n (s+1+1) (by omega) (by omega) (by omega),ih a3 (s+3) (by omega) (by omega) (by omega),
    decide_eq_false (show ¬ ((bD a3 (s+3)).1:Int)<0 by omega)]) (fun s=>by simp only[fA,aM,cond_false]) l [] k n (by rw[List.nil_append,qA]) hk hB (Nat.le_refl _) (by omega)
  refine(congrArg (fun q=>Option.bind q _) hl).trans ?_
  simp only[Option.bind_some,qA]
theorem Cs(l:List aA)(k:Nat):(bD l k).1≤k+dl cO l:=by have:=BJ l k; rw[mD]at this; exact this
theorem Cw(l:List aA)(k:Nat):k≤(bD l k).1:=vV l k

def ML(k:Nat):aB→Nat×aB
 | .mk a0 a1 a2 a3=>((jS a3 (k+1+1+1)).1, .mk (HM (k)) (((k+1:Nat):Int)) (((k+1+1:Nat):Int)) ((jS a3 (k+1+1+1)).2))
theorem HW(a:aB)(k:Nat):(ML k a).1≤k+wFn a:=by
 obtain⟨a0,a1,a2,a3⟩:=a
 have:=KT a3 (k+1+1+1)
 have e:wFn (.mk a0 a1 a2 a3)=(3+a0.length+dl mJ a3):=rfl
 show(jS a3 (k+1+1+1)).1≤k+wFn (.mk a0 a1 a2 a3)
 omega
theorem HX(a:aB)(k:Nat):k≤(ML k a).1:=by
 obtain⟨a0,a1,a2,a3⟩:=a
 have:=KW a3 (k+1+1+1)
 show k≤(jS a3 (k+1+1+1)).1
 omega
def cH(l:List aB)(k:Nat):Nat×List aB:=cP ML k l
theorem IK(l:List aB)(k:Nat):(cH l k).1≤k+dl wFn l:=vX (fun a _ k=>HW a k) k
theorem IR(l:List aB)(k:Nat):k≤(cH l k).1:=nZ (fun a _ k=>HX a k) k
theorem Dt(n:Nat)(hn:n≤1099511627776)(l:List aB)(k:Nat)(h:20+dl wFn l<n)(hk:0<k)(hB:k+dl wFn l≤1099511627776):hY n l (k:Int)=some (((cH l k).1:Int),(cH l k).2):=by
 unfold hY
 have h2:=bK wFn l
 have hl:=vY (body:=gA n) ML wFn (B:=1099511627776) (C:=dl wFn l) (fun a k=>HW a k) (len:=l.length) (fun L s i a hL ha hs hb hc=>by
  have hi:=bI ha
  obtain⟨a0,a1,a2,a3⟩:=a
  have e:wFn (.mk a0 a1 a2 a3)=(3+a0.length+dl mJ a3):=rfl
  rw[e]at hb hc
  have g:ML s (.mk a0 a1 a2 a3)=((jS a3 (s+1+1+1)).1, .mk (HM (s)) (((s+1:Nat):Int)) (((s+1+1:Nat):Int)) ((jS a3 (s+1+1+1)).2)):=rfl
  rw[g]
  have q1:=KT a3 (s+1+1+1)
  have r1:=KW a3 (s+1+1+1)
  have m1:=IG n hn a3 (s+1+1+1) (by omega) (by omega) (by omega)
  generalize jS a3 (s+1+1+1)=t1 at*
  obtain⟨u1,b1⟩:=t1
  simp only at q1 r1 m1 ⊢
  simp only[gA,decide_eq_true (show(i:Int)<(L.length:Int)by omega),cond_true,bB,ha,Option.bind_some,Int.toNat_natCast,List.set_set,List.getElem?_set_self hi,aN (show i<4611686018427387904 by omega),bX (show s<4611686018427387904 by omega),bX (show s+1<4611686018427387904 by omega),bX (show s+1+1<4611686018427387904 by omega),iP n (s) (by omega) (by omega) (by omega),m1]) (fun L s hL=>by rw[←hL]; simp only[gA,aM,cond_false]) (fun a k=>HX a k) l [] k n rfl hk hB (Nat.le_refl _) (by omega)
 refine(congrArg (fun q=>Option.bind q _) hl).trans ?_
 simp only[Option.bind_some,List.nil_append]
 rfl
theorem EC(n:Nat)(hn:n≤1099511627776)(l:List aB)(k:Nat)(h:20+dl wFn l<n)(hk:0<k)(hB:k+dl wFn l≤1099511627776):iA n (cH l k).2 (k:Int)=some ((cH l k).1:Int):=by
 unfold iA
 have h2:=bK wFn l
 have hl:=vZ (body:=gB n (cH l k).2) ML wFn (B:=1099511627776) (C:=dl wFn l) (fun a k=>HW a k) (fun a k=>HX a k) (L:=(cH l k).2) (out:=fun s=> .inr ((s:Int),((cH l k).2.length:Int),false)) (fun s i a ha hs hb hc=>by
  have hi:=bI ha
  have hll:(cH l k).2.length=l.length:=qB ML l k
  obtain⟨a0,a1,a2,a3⟩:=a
  have e:wFn (.mk a0 a1 a2 a3)=(3+a0.length+dl mJ a3):=rfl
  rw[e]at hb hc
  have g:ML s (.mk a0 a1 a2 a3)=((jS a3 (s+1+1+1)).1, .mk (HM (s)) (((s+1:Nat):Int)) (((s+1+1:Nat):Int)) ((jS a3 (s+1+1+1)).2)):=rfl
  rw[g]at ha ⊢
  have q1:=KT a3 (s+1+1+1)
  have r1:=KW a3 (s+1+1+1)
  have m1:=IP n hn a3 (s+1+1+1) (by omega) (by omega) (by omega)
  generalize jS a3 (s+1+1+1)=t1 at*
  obtain⟨u1,b1⟩:=t1
  simp only at q1 r1 m1 ha ⊢
  simp only[gB,bT ha,cond_true,bB,ha,Option.bind_some,decide_true,beq_self_eq_true,Bool.not_true,cond_false,aN (show i<4611686018427387904 by omega),bX (show s<4611686018427387904 by omega),bX (show s+1<4611686018427387904 by omega),bX (show s+1+1<4611686018427387904 by omega),iP n (s) (by omega) (by omega) (by omega),m1,decide_eq_false (show ¬ (u1:Int)<0 by omega)]) (fun s=>by simp only[gB,aM,cond_false]) l [] k n rfl hk hB (Nat.le_refl _) (by omega)
 refine(congrArg (fun q=>Option.bind q _) hl).trans ?_
 simp only[Option.bind_some]
 rfl
def rT(k:Nat):aC→Nat×aC
 | .mk a0 a1 a2 a3 a4 a5 a6=>((bD a6 ((cH a5 ((bD a3 ((cH a2 (k+1+1)).1)).1+1)).1)).1, .mk (HM (k)) (((k+1:Nat):Int)) ((cH a2 (k+1+1)).2) ((bD a3 ((cH a2 (k+1+1)).1)).2) (decide (Int.tmod (((bD a3 ((cH a2 (k+1+1)).1)).1:Nat):Int) 3=0)) ((cH a5 ((bD a3 ((cH a2 (k+1+1)).1)).1+1)).2) ((bD a6 ((cH a5 ((bD a3 ((cH a2 (k+1+1)).1)).1+1)).1)).2))
theorem yB(a:aC)(k:Nat):(rT k a).1≤k+bQ a:=by
 obtain⟨a0,a1,a2,a3,a4,a5,a6⟩:=a
 have:=IK a2 (k+1+1)
 have:=Cs a3 ((cH a2 (k+1+1)).1)
 have:=IK a5 ((bD a3 ((cH a2 (k+1+1)).1)).1+1)
 have:=Cs a6 ((cH a5 ((bD a3 ((cH a2 (k+1+1)).1)).1+1)).1)
 have e:bQ (.mk a0 a1 a2 a3 a4 a5 a6)=(3+a0.length+(3+dl wFn a2+dl cO a3)+(3+dl wFn a5+dl cO a6)):=rfl
 show(bD a6 ((cH a5 ((bD a3 ((cH a2 (k+1+1)).1)).1+1)).1)).1≤k+bQ (.mk a0 a1 a2 a3 a4 a5 a6)
 omega
theorem yC(a:aC)(k:Nat):k≤(rT k a).1:=by
 obtain⟨a0,a1,a2,a3,a4,a5,a6⟩:=a
 have:=IR a2 (k+1+1)
 have:=Cw a3 ((cH a2 (k+1+1)).1)
 have:=IR a5 ((bD a3 ((cH a2 (k+1+1)).1)).1+1)
 have:=Cw a6 ((cH a5 ((bD a3 ((cH a2 (k+1+1)).1)).1+1)).1)
 show k≤(bD a6 ((cH a5 ((bD a3 ((cH a2 (k+1+1)).1)).1+1)).1)).1
 omega
def jV(l:List aC)(k:Nat):Nat×List aC:=cP rT k l
theorem leEntryS(l:List aC)(k:Nat):(jV l k).1≤k+dl bQ l:=vX (fun a _ k=>yB a k) k
theorem geEntryS(l:List aC)(k:Nat):k≤(jV l k).1:=nZ (fun a _ k=>yC a k) k
theorem wJ(n:Nat)(hn:n≤1099511627776)(l:List aC)(k:Nat)(h:20+dl bQ l<n)(hk:0<k)(hB:k+dl bQ l≤1099511627776):dV n l (k:Int)=some (((jV l k).1:Int),(jV l k).2):=by
 unfold dV
 have h2:=bK bQ l
 have hl:=vY (body:=dM n) rT bQ (B:=1099511627776) (C:=dl bQ l) (fun a k=>yB a k) (len:=l.length) (fun L s i a hL ha hs hb hc=>by
  have hi:=bI ha
  obtain⟨a0,a1,a2,a3,a4,a5,a6⟩:=a
  have e:bQ (.mk a0 a1 a2 a3 a4 a5 a6)=(3+a0.length+(3+dl wFn a2+dl cO a3)+(3+dl wFn a5+dl cO a6)):=rfl
  rw[e]at hb hc
  have g:rT s (.mk a0 a1 a2 a3 a4 a5 a6)=((bD a6 ((cH a5 ((bD a3 ((cH a2 (s+1+1)).1)).1+1)).1)).1, .mk (HM (s)) (((s+1:Nat):Int)) ((cH a2 (s+1+1)).2) ((bD a3 ((cH a2 (s+1+1)).1)).2) (decide (Int.tmod (((bD a3 ((cH a2 (s+1+1)).1)).1:Nat):Int) 3=0)) ((cH a5 ((bD a3 ((cH a2 (s+1+1)).1)).1+1)).2) ((bD a6 ((cH a5 ((bD a3 ((cH a2 (s+1+1)).1)).1+1)).1)).2)):=rfl
  rw[g]
  have q1:=IK a2 (s+1+1)
  have r1:=IR a2 (s+1+1)
  have m1:=Dt n hn a2 (s+1+1) (by omega) (by omega) (by omega)
  generalize cH a2 (s+1+1)=t1 at*
  obtain⟨u1,b1⟩:=t1
  simp only at q1 r1 m1 ⊢
  have q2:=Cs a3 (u1)
  have r2:=Cw a3 (u1)
  have m2:=uR n hn a3 (u1) (by omega) (by omega) (by omega)
  generalize bD a3 (u1)=t2 at*
  obtain⟨u2,b2⟩:=t2
  simp only at q2 r2 m2 ⊢
  have q3:=IK a5 (u2+1)
  have r3:=IR a5 (u2+1)
  have m3:=Dt n hn a5 (u2+1) (by omega) (by omega) (by omega)
  generalize cH a5 (u2+1)=t3 at*
  obtain⟨u3,b3⟩:=t3
  simp only at q3 r3 m3 ⊢
  have q4:=Cs a6 (u3)
  have r4:=Cw a6 (u3)
  have m4:=uR n hn a6 (u3) (by omega) (by omega) (by omega)
  generalize bD a6 (u3)=t4 at*
  obtain⟨u4,b4⟩:=t4
  simp only at q4 r4 m4 ⊢
  simp only[dM,decide_eq_true (show(i:Int)<(L.length:Int)by omega),cond_true,bB,ha,Option.bind_some,Int.toNat_natCast,List.set_set,List.getElem?_set_self hi,aN (show i<4611686018427387904 by omega),bX (show s<4611686018427387904 by omega),bX (show s+1<4611686018427387904 by omega),bX (show u2<4611686018427387904 by omega),iP n (s) (by omega) (by omega) (by omega),m1,m2,m3,m4]) (fun L s hL=>by rw[←hL]; simp only[dM,aM,cond_false]) (fun a k=>yC a k) l [] k n rfl hk hB (Nat.le_refl _) (by omega)
 refine(congrArg (fun q=>Option.bind q _) hl).trans ?_
 simp only[Option.bind_some,List.nil_append]
 rfl
theorem FD(n:Nat)(hn:n≤1099511627776)(l:List aC)(k:Nat)(h:20+dl bQ l<n)(hk:0<k)(hB:k+dl bQ l≤1099511627776):dW n (jV l k).2 (k:Int)=some ((jV l k).1:Int):=by
 unfold dW
 have h2:=bK bQ l
 have hl:=vZ (body:=dN n (jV l k).2) rT bQ (B:=1099511627776) (C:=dl bQ l) (fun a k=>yB a k) (fun a k=>yC a k) (L:=(jV l k).2) (out:=fun s=> .inr ((s:Int),((jV l k).2.length:Int),false)) (fun s i a ha hs hb hc=>by
  have hi:=bI ha
  have hll:(jV l k).2.length=l.length:=qB rT l k
  obtain⟨a0,a1,a2,a3,a4,a5,a6⟩:=a
  have e:bQ (.mk a0 a1 a2 a3 a4 a5 a6)=(3+a0.length+(3+dl wFn a2+dl cO a3)+(3+dl wFn a5+dl cO a6)):=rfl
  rw[e]at hb hc
  have g:rT s (.mk a0 a1 a2 a3 a4 a5 a6)=((bD a6 ((cH a5 ((bD a3 ((cH a2 (s+1+1)).1)).1+1)).1)).1, .mk (HM (s)) (((s+1:Nat):Int)) ((cH a2 (s+1+1)).2) ((bD a3 ((cH a2 (s+1+1)).1)).2) (decide (Int.tmod (((bD a3 ((cH a2 (s+1+1)).1)).1:Nat):Int) 3=0)) ((cH a5 ((bD a3 ((cH a2 (s+1+1)).1)).1+1)).2) ((bD a6 ((cH a5 ((bD a3 ((cH a2 (s+1+1)).1)).1+1)).1)).2)):=rfl
  rw[g]at ha ⊢
  have q1:=IK a2 (s+1+1)
  have r1:=IR a2 (s+1+1)
  have m1:=EC n hn a2 (s+1+1) (by omega) (by omega) (by omega)
  generalize cH a2 (s+1+1)=t1 at*
  obtain⟨u1,b1⟩:=t1
  simp only at q1 r1 m1 ha ⊢
  have q2:=Cs a3 (u1)
  have r2:=Cw a3 (u1)
  have m2:=uV n hn a3 (u1) (by omega) (by omega) (by omega)
  generalize bD a3 (u1)=t2 at*
  obtain⟨u2,b2⟩:=t2
  simp only at q2 r2 m2 ha ⊢
  have q3:=IK a5 (u2+1)
  have r3:=IR a5 (u2+1)
  have m3:=EC n hn a5 (u2+1) (by omega) (by omega) (by omega)
  generalize cH a5 (u2+1)=t3 at*
  obtain⟨u3,b3⟩:=t3
  simp only at q3 r3 m3 ha ⊢
  have q4:=Cs a6 (u3)
  have r4:=Cw a6 (u3)
  have m4:=uV n hn a6 (u3) (by omega) (by omega) (by omega)
  generalize bD a6 (u3)=t4 at*
  obtain⟨u4,b4⟩:=t4
  simp only at q4 r4 m4 ha ⊢
  simp only[dN,bT ha,cond_true,bB,ha,Option.bind_some,decide_true,beq_self_eq_true,Bool.not_true,cond_false,aN (show i<4611686018427387904 by omega),bX (show s<4611686018427387904 by omega),bX (show s+1<4611686018427387904 by omega),bX (show u2<4611686018427387904 by omega),iP n (s) (by omega) (by omega) (by omega),m1,decide_eq_false (show ¬ (u1:Int)<0 by omega),m2,decide_eq_false (show ¬ (u2:Int)<0 by omega),m3,decide_eq_false (show ¬ (u3:Int)<0 by omega),m4,decide_eq_false (show ¬ (u4:Int)<0 by omega)]) (fun s=>by simp only[dN,aM,cond_false]) l [] k n rfl hk hB (Nat.le_refl _) (by omega)
 refine(congrArg (fun q=>Option.bind q _) hl).trans ?_
 simp only[Option.bind_some]
 rfl
end Go.Own.Q
