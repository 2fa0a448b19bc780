/- What is written into slices in place, type by type, in plain Lean. No conditions. -/
import Derived.Test.YtjfgchodolnmcaaW32Marks
set_option linter.unusedVariables false
set_option linter.unusedSimpArgs false
set_option linter.unnecessarySimpa false
namespace Go.Own.Q
open Go Go.Proofs

def GA(l:List (List UInt8))(k:Nat):Nat×List (List UInt8):=dH (fun k _=>(k+1,KK k)) k l
def Oe(l:List Int)(k:Nat):Nat×List Int:=dH (fun k _=>(k+1,(k:Int))) k l
def Aa(l:List Int)(k:Nat):Nat×List Int:=dH (fun k _=>(k+1,IntKind.wrap .u8 (k:Int))) k l
theorem VF(l:List (List UInt8))(k:Nat):(GA l k).1≤k+dl List.length l:=sW (fun a _ k=>by simp only; omega) k
theorem VG(l:List (List UInt8))(k:Nat):k≤(GA l k).1:=pH (fun a _ k=>by simp only; omega) k
theorem leIntS(l:List Int)(k:Nat):(Oe l k).1≤k+dl (fun _=>0) l:=sW (fun a _ k=>by simp only; omega) k
theorem geIntS(l:List Int)(k:Nat):k≤(Oe l k).1:=pH (fun a _ k=>by simp only; omega) k
theorem leByteS(l:List Int)(k:Nat):(Aa l k).1≤k+dl (fun _=>0) l:=sW (fun a _ k=>by simp only; omega) k
theorem geByteS(l:List Int)(k:Nat):k≤(Aa l k).1:=pH (fun a _ k=>by simp only; omega) k

theorem Gi(n:Nat)(hn:n≤1099511627776)(l:List Int)(k:Nat)(h:20+dl (fun _=>0) l<n)(hk:0<k)(hB:k+dl (fun _=>0) l≤1099511627776):iN n l (k:Int)=some (((Aa l k).1:Int),(Aa l k).2):=by
 unfold iN
 have h2:=dC (fun _=>0) l
 have hl:=xS (body:=eZ n) (fun(k:Nat) (_:Int)=>(k+1,IntKind.wrap .u8 (k:Int))) (fun _=>0) (B:=1099511627776) (C:=dl (fun _=>0) l) (fun a k=>by simp only; omega) (len:=l.length) (fun L s i a hL ha hs hb hc=>by
  have hi:=bL ha
  simp only[eZ,decide_eq_true (show(i:Int)<(L.length:Int)by omega),cond_true,bI,ha,Option.bind_some,Int.toNat_natCast,List.set_set,List.getElem?_set_self hi,dD (show s<4611686018427387904 by omega),aI (show i<4611686018427387904 by omega)]) (fun L s hL=>by rw[←hL]; simp only[eZ,aK,cond_false]) (fun a k=>by simp only; omega) l [] k n rfl hk hB (Nat.le_refl _) (by omega)
 refine(congrArg (fun q=>Option.bind q _) hl).trans ?_
 simp only[Option.bind_some,List.nil_append]
 rfl

def Ei(k:Nat):aC→Nat×aC
 | .mk a0 a1 a2 a3=>(k+1+1+1+1, .mk (((k:Nat):Int)) (((k+1:Nat):Int)) (KK (k+1+1)) (((k+1+1+1:Nat):Int)))
theorem EQ(a:aC)(k:Nat):(Ei k a).1≤k+jE a:=by
 obtain⟨a0,a1,a2,a3⟩:=a
 have e:jE (.mk a0 a1 a2 a3)=(4+a2.length):=rfl
 show k+1+1+1+1≤k+jE (.mk a0 a1 a2 a3)
 omega
theorem ER(a:aC)(k:Nat):k≤(Ei k a).1:=by
 obtain⟨a0,a1,a2,a3⟩:=a
 show k≤k+1+1+1+1
 omega
def jV(l:List aC)(k:Nat):Nat×List aC:=dH Ei k l
theorem KZ(l:List aC)(k:Nat):(jV l k).1≤k+dl jE l:=Av (fun a _ k=>EQ a k) k
theorem Kc(l:List aC)(k:Nat):k≤(jV l k).1:=pH (fun a _ k=>ER a k) k
theorem Hs(n:Nat)(hn:n≤1099511627776)(l:List aC)(k:Nat)(h:20+dl jE l<n)(hk:0<k)(hB:k+dl jE l≤1099511627776):jG n l (k:Int)=some (((jV l k).1:Int),(jV l k).2):=by
 unfold jG
 have h2:=dC jE l
 have hl:=Ax (body:=fX n) Ei jE (B:=1099511627776) (C:=dl jE l) (fun a k=>EQ a k) (len:=l.length) (fun L s i a hL ha hs hb hc=>by
  have hi:=bL ha
  obtain⟨a0,a1,a2,a3⟩:=a
  have e:jE (.mk a0 a1 a2 a3)=(4+a2.length):=rfl
  rw[e]at hb hc
  have g:Ei s (.mk a0 a1 a2 a3)=(s+1+1+1+1, .mk (((s:Nat):Int)) (((s+1:Nat):Int)) (KK (s+1+1)) (((s+1+1+1:Nat):Int))):=rfl
  rw[g]
  simp only[fX,decide_eq_true (show(i:Int)<(L.length:Int)by omega),cond_true,bI,ha,Option.bind_some,Int.toNat_natCast,List.set_set,List.getElem?_set_self hi,aI (show i<4611686018427387904 by omega),dD (show s<4611686018427387904 by omega),dD (show s+1<4611686018427387904 by omega),dD (show s+1+1<4611686018427387904 by omega),dD (show s+1+1+1<4611686018427387904 by omega),mA n (s+1+1) (by omega) (by omega) (by omega)]) (fun L s hL=>by rw[←hL]; simp only[fX,aK,cond_false]) (fun a k=>ER a k) l [] k n rfl hk hB (Nat.le_refl _) (by omega)
 refine(congrArg (fun q=>Option.bind q _) hl).trans ?_
 simp only[Option.bind_some,List.nil_append]
 rfl
theorem IA(n:Nat)(hn:n≤1099511627776)(l:List aC)(k:Nat)(h:20+dl jE l<n)(hk:0<k)(hB:k+dl jE l≤1099511627776):jH n (jV l k).2 (k:Int)=some ((jV l k).1:Int):=by
 unfold jH
 have h2:=dC jE l
 have hl:=Az (body:=fZ n (jV l k).2) Ei jE (B:=1099511627776) (C:=dl jE l) (fun a k=>EQ a k) (fun a k=>ER a k) (L:=(jV l k).2) (out:=fun s=> .inr ((s:Int),((jV l k).2.length:Int),false)) (fun s i a ha hs hb hc=>by
  have hi:=bL ha
  have hll:(jV l k).2.length=l.length:=sV Ei l k
  obtain⟨a0,a1,a2,a3⟩:=a
  have e:jE (.mk a0 a1 a2 a3)=(4+a2.length):=rfl
  rw[e]at hb hc
  have g:Ei s (.mk a0 a1 a2 a3)=(s+1+1+1+1, .mk (((s:Nat):Int)) (((s+1:Nat):Int)) (KK (s+1+1)) (((s+1+1+1:Nat):Int))):=rfl
  rw[g]at ha ⊢
  simp only[fZ,cK ha,cond_true,bI,ha,Option.bind_some,decide_true,Bool.not_true,cond_false,aI (show i<4611686018427387904 by omega),dD (show s<4611686018427387904 by omega),dD (show s+1<4611686018427387904 by omega),dD (show s+1+1<4611686018427387904 by omega),dD (show s+1+1+1<4611686018427387904 by omega),mA n (s+1+1) (by omega) (by omega) (by omega)]) (fun s=>by simp only[fZ,aK,cond_false]) l [] k n rfl hk hB (Nat.le_refl _) (by omega)
 refine(congrArg (fun q=>Option.bind q _) hl).trans ?_
 simp only[Option.bind_some]
 rfl
mutual
def uL:aA→Nat→Nat×aA
 | .mk _ _ _ l,k=>((fK l (k+3)).1, .mk (k:Int) ((k+1:Nat):Int) (KK (k+2)) (fK l (k+3)).2)
def fK:List aA→Nat→Nat×List aA
 | [],k=>(k,[])
 | a::r,k=>((fK r (uL a k).1).1,(uL a k).2::(fK r (uL a k).1).2)
end
theorem pR: ∀(l:List aA) (k:Nat),fK l k=dH (fun k a=>uL a k) k l
 | [],k=>rfl
 | a::r,k=>by simp only[fK,dH,pR r]
mutual
theorem EO: ∀(a:aA) (k:Nat),(uL a k).1≤k+bV a
 | .mk _ _ s l,k=>by have:=Au l (k+3); simp only[uL,bV]; omega
theorem Au: ∀(l:List aA) (k:Nat),(fK l k).1≤k+wI l
 | [],k=>by simp [fK]
 | a::r,k=>by have:=EO a k; have:=Au r (uL a k).1; simp only[fK,wI]; omega
end
mutual
theorem EP: ∀(a:aA) (k:Nat),k≤(uL a k).1
 | .mk _ _ s l,k=>by have:=vS l (k+3); simp only[uL]; omega
theorem vS: ∀(l:List aA) (k:Nat),k≤(fK l k).1
 | [],k=>by simp [fK]
 | a::r,k=>by have:=EP a k; have:=vS r (uL a k).1; simp only[fK]; omega
end
theorem p_laws_markPatS_succ(n:Nat):cY (n+1)=gM n (cY n):=rfl
theorem p_laws_heldPatS_succ(n:Nat):cZ (n+1)=gN n (cZ n):=rfl
theorem BT: ∀(n:Nat),n≤1099511627776→ ∀(l:List aA) (k:Nat),20+dl bV l<n→0<k→k+dl bV l≤1099511627776→cY n l (k:Int)=some (((fK l k).1:Int),(fK l k).2)
 | 0,_=>fun l k h=>by omega
 | n+1,hn=>fun l k h hk hB=>by
  have ih:=BT n (by omega)
  rw[p_laws_markPatS_succ]
  unfold gM
  have h2:=dC bV l
  have hl:=Ax (body:=fW n (cY n)) (fun k a=>uL a k) bV (B:=1099511627776) (C:=dl bV l) (fun a k=>EO a k) (len:=l.length) (fun L s i a hL ha hs hb hc=>by
   have hi:=bL ha
   obtain⟨a0,a1,a2,a3⟩:=a
   simp only[bV,qG]at hb hc
   have hw:=dC bV a3
   simp only[fW,decide_eq_true (show(i:Int)<(L.length:Int)by omega),cond_true,bI,ha,Option.bind_some,Int.toNat_natCast,List.set_set,List.getElem?_set_self hi,aA.f0,aA.f1,aA.f2,aA.f3,
    dD (show s<4611686018427387904 by omega),dD (show s+1<4611686018427387904 by omega),dD (show s+1+1<4611686018427387904 by omega),aI (show i<4611686018427387904 by omega),mA n (s+1+1) (by omega) (by omega) (by omega),ih a3 (s+1+1+1) (by omega) (by omega) (by omega)]
   rfl) (fun L s hL=>by rw[←hL]; simp only[fW,aK,cond_false]) (fun a k=>EP a k) l [] k n rfl hk hB (Nat.le_refl _) (by omega)
  refine(congrArg (fun q=>Option.bind q _) hl).trans ?_
  simp only[Option.bind_some,List.nil_append,pR]
theorem BZ: ∀(n:Nat),n≤1099511627776→ ∀(l:List aA) (k:Nat),20+dl bV l<n→0<k→k+dl bV l≤1099511627776→cZ n (fK l k).2 (k:Int)=some ((fK l k).1:Int)
 | 0,_=>fun l k h=>by omega
 | n+1,hn=>fun l k h hk hB=>by
  have ih:=BZ n (by omega)
  rw[p_laws_heldPatS_succ]
  unfold gN
  have h2:=dC bV l
  have hlen:(fK l k).2.length=l.length:=by rw[pR,sV]
  have hl:=Az (body:=fY n (cZ n) (fK l k).2) (fun k a=>uL a k) bV (B:=1099511627776) (C:=dl bV l) (fun a k=>EO a k) (fun a k=>EP a k) (L:=(fK l k).2) (out:=fun s=> .inr ((s:Int),((fK l k).2.length:Int),false)) (fun s i a ha hs hb hc=>by
   have hi:=bL ha
   obtain⟨a0,a1,a2,a3⟩:=a
   simp only[bV,qG]at hb hc
   have hw:=dC bV a3
   have hg:=vS a3 (s+3)
   simp only[uL]at ha ⊢
   simp only[fY,cK ha,cond_true,bI,ha,Option.bind_some,aA.f0,aA.f1,aA.f2,aA.f3,decide_true,Bool.not_true,cond_false,
    dD (show s<4611686018427387904 by omega),dD (show s+1<4611686018427387904 by omega),dD (show s+1+1<4611686018427387904 by omega),aI (show i<4611686018427387904 by omega),mA n (s+1+1) (by omega) (by omega) (by omega),ih a3 (s+3) (by omega) (by omega) (by omega),
    decide_eq_false (show ¬ ((fK a3 (s+3)).1:Int)<0 by omega)]) (fun s=>by simp only[fY,aK,cond_false]) l [] k n (by rw[List.nil_append,pR]) hk hB (Nat.le_refl _) (by omega)
  refine(congrArg (fun q=>Option.bind q _) hl).trans ?_
  simp only[Option.bind_some,pR]
theorem lePatS(l:List aA)(k:Nat):(fK l k).1≤k+dl bV l:=by have:=Au l k; rw[qG]at this; exact this
theorem TS(l:List aA)(k:Nat):k≤(fK l k).1:=vS l k

def Mb(k:Nat):aB→Nat×aB
 | .mk a0 a1 a2 a3=>((jV a3 (k+1+1+1)).1, .mk (KK (k)) (((k+1:Nat):Int)) (((k+1+1:Nat):Int)) ((jV a3 (k+1+1+1)).2))
theorem HN(a:aB)(k:Nat):(Mb k a).1≤k+wFn a:=by
 obtain⟨a0,a1,a2,a3⟩:=a
 have:=KZ a3 (k+1+1+1)
 have e:wFn (.mk a0 a1 a2 a3)=(3+a0.length+dl jE a3):=rfl
 show(jV a3 (k+1+1+1)).1≤k+wFn (.mk a0 a1 a2 a3)
 omega
theorem HO(a:aB)(k:Nat):k≤(Mb k a).1:=by
 obtain⟨a0,a1,a2,a3⟩:=a
 have:=Kc a3 (k+1+1+1)
 show k≤(jV a3 (k+1+1+1)).1
 omega
def oQ(l:List aB)(k:Nat):Nat×List aB:=dH Mb k l
theorem leFnS(l:List aB)(k:Nat):(oQ l k).1≤k+dl wFn l:=Av (fun a _ k=>HN a k) k
theorem geFnS(l:List aB)(k:Nat):k≤(oQ l k).1:=pH (fun a _ k=>HO a k) k
theorem Je(n:Nat)(hn:n≤1099511627776)(l:List aB)(k:Nat)(h:20+dl wFn l<n)(hk:0<k)(hB:k+dl wFn l≤1099511627776):kF n l (k:Int)=some (((oQ l k).1:Int),(oQ l k).2):=by
 unfold kF
 have h2:=dC wFn l
 have hl:=Ax (body:=gY n) Mb wFn (B:=1099511627776) (C:=dl wFn l) (fun a k=>HN a k) (len:=l.length) (fun L s i a hL ha hs hb hc=>by
  have hi:=bL ha
  obtain⟨a0,a1,a2,a3⟩:=a
  have e:wFn (.mk a0 a1 a2 a3)=(3+a0.length+dl jE a3):=rfl
  rw[e]at hb hc
  have g:Mb s (.mk a0 a1 a2 a3)=((jV a3 (s+1+1+1)).1, .mk (KK (s)) (((s+1:Nat):Int)) (((s+1+1:Nat):Int)) ((jV a3 (s+1+1+1)).2)):=rfl
  rw[g]
  have q1:=KZ a3 (s+1+1+1)
  have r1:=Kc a3 (s+1+1+1)
  have m1:=Hs n hn a3 (s+1+1+1) (by omega) (by omega) (by omega)
  generalize jV a3 (s+1+1+1)=t1 at*
  obtain⟨u1,b1⟩:=t1
  simp only at q1 r1 m1 ⊢
  simp only[gY,decide_eq_true (show(i:Int)<(L.length:Int)by omega),cond_true,bI,ha,Option.bind_some,Int.toNat_natCast,List.set_set,List.getElem?_set_self hi,aI (show i<4611686018427387904 by omega),dD (show s<4611686018427387904 by omega),dD (show s+1<4611686018427387904 by omega),dD (show s+1+1<4611686018427387904 by omega),mA n (s) (by omega) (by omega) (by omega),m1]) (fun L s hL=>by rw[←hL]; simp only[gY,aK,cond_false]) (fun a k=>HO a k) l [] k n rfl hk hB (Nat.le_refl _) (by omega)
 refine(congrArg (fun q=>Option.bind q _) hl).trans ?_
 simp only[Option.bind_some,List.nil_append]
 rfl
theorem Jm(n:Nat)(hn:n≤1099511627776)(l:List aB)(k:Nat)(h:20+dl wFn l<n)(hk:0<k)(hB:k+dl wFn l≤1099511627776):kG n (oQ l k).2 (k:Int)=some ((oQ l k).1:Int):=by
 unfold kG
 have h2:=dC wFn l
 have hl:=Az (body:=gZ n (oQ l k).2) Mb wFn (B:=1099511627776) (C:=dl wFn l) (fun a k=>HN a k) (fun a k=>HO a k) (L:=(oQ l k).2) (out:=fun s=> .inr ((s:Int),((oQ l k).2.length:Int),false)) (fun s i a ha hs hb hc=>by
  have hi:=bL ha
  have hll:(oQ l k).2.length=l.length:=sV Mb l k
  obtain⟨a0,a1,a2,a3⟩:=a
  have e:wFn (.mk a0 a1 a2 a3)=(3+a0.length+dl jE a3):=rfl
  rw[e]at hb hc
  have g:Mb s (.mk a0 a1 a2 a3)=((jV a3 (s+1+1+1)).1, .mk (KK (s)) (((s+1:Nat):Int)) (((s+1+1:Nat):Int)) ((jV a3 (s+1+1+1)).2)):=rfl
  rw[g]at ha ⊢
  have q1:=KZ a3 (s+1+1+1)
  have r1:=Kc a3 (s+1+1+1)
  have m1:=IA n hn a3 (s+1+1+1) (by omega) (by omega) (by omega)
  generalize jV a3 (s+1+1+1)=t1 at*
  obtain⟨u1,b1⟩:=t1
  simp only at q1 r1 m1 ha ⊢
  simp only[gZ,cK ha,cond_true,bI,ha,Option.bind_some,decide_true,Bool.not_true,cond_false,aI (show i<4611686018427387904 by omega),dD (show s<4611686018427387904 by omega),dD (show s+1<4611686018427387904 by omega),dD (show s+1+1<4611686018427387904 by omega),mA n (s) (by omega) (by omega) (by omega),m1,decide_eq_false (show ¬ (u1:Int)<0 by omega)]) (fun s=>by simp only[gZ,aK,cond_false]) l [] k n rfl hk hB (Nat.le_refl _) (by omega)
 refine(congrArg (fun q=>Option.bind q _) hl).trans ?_
 simp only[Option.bind_some]
 rfl
end Go.Own.Q
