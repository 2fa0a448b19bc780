/- Words and lists of them: the program's answers and the reference's, in plain Lean. No conditions. -/
import Derived.Test.YtgeomhdbckjkcaaW24Atom
set_option linter.unusedVariables false
set_option linter.unusedSimpArgs false
set_option linter.unnecessarySimpa false
namespace Go.Own.Q
open Go Go.Proofs

def mZ(c:Int):Bool:=(decide (65≤c)&&decide (c≤90))||decide (c=95)
theorem EU(n:Nat)(x:Int):iQ n x=some (mZ x):=by
 unfold iQ mZ
 cases decide (65≤x)<;>cases decide (x≤90)<;>rfl
theorem Kb(n:Nat)(c:UInt8):kJ n (c.toNat:Int)=some (mZ c.toNat):=by
 unfold kJ mZ
 rw[Ec,uW]
 cases decide (65≤(c.toNat:Int))<;>cases decide ((c.toNat:Int)≤90)<;>rfl
theorem Ka(n:Nat)(c:UInt8):kI n (c.toNat:Int)=some (oU c.toNat):=by
 unfold kI oU
 rw[Ec,uW]; rfl
theorem Kc(n:Nat)(c:UInt8):kK n (c.toNat:Int)=some (GT c.toNat):=by
 unfold kK GT
 rw[Ec,uW]; rfl
theorem Iv(n:Nat)(x:Int):gF n x=some (oU x):=ET n x
theorem NS(n:Nat)(x:Int):fD n x=some (GT x):=CO n x
def vV(c:UInt8):Bool:=oU c.toNat||(mZ c.toNat||GT c.toNat)
theorem Fd(n:Nat)(x:Int):gN n x=some (oU x||(mZ x||GT x)):=by
 unfold gN
 rw[Iv,EU,NS]
 cases oU x<;>cases mZ x<;>cases GT x<;>rfl
def LL(i:Nat)(c:UInt8):Bool:=mZ c.toNat||(!decide (i=0)&&(oU c.toNat||GT c.toNat))
def HL(s:List UInt8):Bool:=sU LL 0 s&&(decide (1≤(s.length:Int))&&decide ((s.length:Int)≤20))
theorem Fc(n:Nat)(s:List UInt8)(h:s.length<n)(hn:s.length<4611686018427387904):kH n s=some (HL s):=by
 unfold kH
 rw[Aa s LL (fun i c hc=>by
  have hi:=cH hc
  simp only[jU,cW hc,cond_true,Er,hc,Option.map_some,Option.bind_some,Kb,Ka,Kc,aV (show i<4611686018427387904 by omega),Ld]
  unfold LL
  cases mZ (c.toNat:Int)<;>cases decide (i=0)<;>cases oU (c.toNat:Int)<;>cases GT (c.toNat:Int)<;>rfl) (by simp only[jU,aQ,cond_false]) h]
 unfold HL
 by_cases c:sU LL 0 s=true
 ·rw[if_pos c,c]; simp only[Option.bind_some,uW,Bool.true_and]
 ·rw[if_neg c]; simp only[Bool.not_eq_true]at c; rw[c]; rfl
theorem HK: ∀(r:List UInt8) (i:Nat),0<i→sU LL i r=r.all vV
 | [],i,h=>rfl
 | c::r,i,h=>by
  have e:LL i c=vV c:=by
   unfold LL vV
   rw[decide_eq_false (by omega)]
   cases mZ (c.toNat:Int)<;>cases oU (c.toNat:Int)<;>cases GT (c.toNat:Int)<;>rfl
  simp only[sU,List.all_cons,HK r (i+1) (by omega),e]
theorem Ff(n:Nat)(s:List UInt8)(h:s.length<n)(hn:s.length<4611686018427387904):nP n s=some (HL s):=by
 unfold nP
 rw[ML s vV (fun i c hc=>by
  have hi:=cH hc
  simp only[mI,cW hc,cond_true,Er,hc,Option.map_some,Option.bind_some,Fd,aV (show i<4611686018427387904 by omega)]
  unfold vV
  cases oU (c.toNat:Int)<;>cases mZ (c.toNat:Int)<;>cases GT (c.toNat:Int)<;>rfl) (by simp only[mI,aQ,cond_false]) h]
 unfold HL
 cases s with
 | nil=>rfl
 | cons c r=>
  have e:sU LL 0 (c::r)=(mZ c.toNat&&r.all vV):=by
   simp only[sU,Nat.zero_add,HK r 1 (by omega)]
   unfold LL
   rw[decide_eq_true rfl]
   cases mZ (c.toNat:Int)<;>rfl
  have e2:(c::r).all vV=(vV c&&r.all vV):=List.all_cons
  have i0:ixs (c::r) (0:Int)=some (c.toNat:Int):=rfl
  have hw:mZ c.toNat=true→vV c=true:=fun h=>by unfold vV; rw[h]; cases oU (c.toNat:Int)<;>rfl
  rw[e,e2]
  generalize r.all vV=q
  by_cases hq:(vV c&&q)=true
  ·rw[if_pos hq]
   simp only[Option.bind_some,lF,i0,EU]
   have hq2:q=true:=by cases q with | true=>rfl | false=>simp at hq
   subst hq2
   cases decide (1≤((c::r).length:Int))<;>cases decide (((c::r).length:Int)≤20)<;>cases mZ (c.toNat:Int)<;>rfl
  ·rw[if_neg hq]
   cases hl:mZ (c.toNat:Int)with
   | false=>rfl
   | true=>
    rw[hw hl]at hq
    cases q with
    | true=>simp at hq
    | false=>rfl
def gU(s:List UInt8):Bool:=zA s&&(!decide (s=[99,97,115,101])&&(!decide (s=[111,102])&& !decide (s=[101,110,100])))
theorem zB(n:Nat)(s:List UInt8)(h:s.length<n)(hn:s.length<4611686018427387904):dZ n s=some (gU s):=by
 unfold dZ gU
 rw[Dj n s h hn,Option.bind_some]
 generalize decide (s=[99,97,115,101])=a
 generalize decide (s=[111,102])=b
 generalize decide (s=[101,110,100])=c
 cases zA s<;>cases a<;>cases b<;>cases c<;>rfl
theorem NQ(n:Nat)(s:List UInt8)(h:s.length<n)(hn:s.length<4611686018427387904):jN n s=some (gU s):=by
 unfold jN gU jT
 rw[Df n s h hn,Option.bind_some]
 generalize decide (s=[99,97,115,101])=a
 generalize decide (s=[111,102])=b
 generalize decide (s=[101,110,100])=c
 cases zA s<;>cases a<;>cases b<;>cases c<;>rfl
def LO(s:List UInt8):Bool:=decide (s=[43])||(decide (s=[45])||(decide (s=[42])||(decide (s=[61,61])||decide (s=[60]))))
theorem MT(n:Nat)(s:List UInt8):mW n s=some (LO s):=by
 unfold mW LO
 generalize decide (s=[43])=a
 generalize decide (s=[45])=b
 generalize decide (s=[42])=c
 generalize decide (s=[61,61])=d
 generalize decide (s=[60])=e
 cases a<;>cases b<;>cases c<;>cases d<;>cases e<;>rfl
theorem Rn(n:Nat)(s:List UInt8):oY n s=some (LO s):=by
 unfold oY LO
 generalize decide (s=[43])=a
 generalize decide (s=[45])=b
 generalize decide (s=[42])=c
 generalize decide (s=[61,61])=d
 generalize decide (s=[60])=e
 cases a<;>cases b<;>cases c<;>cases d<;>cases e<;>rfl

/-! lists of words -/
def LP(l:List (List UInt8)):Bool:=sU (fun i a=> !(decide (a∈l.take i))) 0 l
theorem PC(l:List (List UInt8)):LP l=true↔l.Nodup:=by
 unfold LP
 rw[lL,List.Nodup,List.pairwise_iff_getElem]
 constructor
 ·intro h i j hi hj hij e
  have:=h j l[j] (List.getElem?_eq_getElem hj)
  simp only[Nat.zero_add,Bool.not_eq_true',decide_eq_false_iff_not]at this
  exact this (by rw[←e]; exact List.mem_take_iff_getElem.2 ⟨i,by omega,rfl⟩)
 ·intro h j a ha
  simp only[Nat.zero_add,Bool.not_eq_true',decide_eq_false_iff_not]
  intro hm
  obtain⟨i,hi,e⟩:=List.mem_take_iff_getElem.1 hm
  obtain⟨hj,rfl⟩:=List.getElem?_eq_some_iff.1 ha
  exact h i j (by omega) hj (by omega) e
theorem QE{α:Type}{l:List α}{i:Nat}(h:i≤l.length):sub l none (some (i:Int))=some (l.take i):=by
 unfold sub bnd
 rw[if_pos ⟨by simp,by simp only[Option.getD_none,Option.getD_some]; omega,by simp only[Option.getD_some]; omega⟩]
 simp
theorem Jn(n:Nat)(l:List (List UInt8))(s:List UInt8)(hn:l.length<n)(h2:n<4611686018427387904):fR n l s=some (decide (s∈l)):=by
 unfold fR
 have e:=Bn (body:=jH n l s) l (fun a=>decide (a=s)) (fun i=>(i:Int)) (fun i=>Sum.inl true) (Sum.inr ((l.length:Int),false)) (fun i a ha=>by
  have hi:=cH ha
  simp only[jH,cW ha,cond_true,cQ,ha,Option.bind_some,aV (show i<4611686018427387904 by omega)]
  cases decide (a=s)<;>rfl) (by simp only[jH,aQ,cond_false]) hn
 refine(congrArg (fun q=>Option.bind q _) e).trans ?_
 rcases tG (fun a=>decide (a=s)) l 0 with⟨h,h1⟩ | ⟨k,a,h,h1,h3,_⟩
 ·rw[h,decide_eq_true (show(-1:Int)<0 by omega),decide_eq_false (show ¬ s∈l from fun hm=>by have:=h1 s hm; simp at this)]; rfl
 ·simp only[decide_eq_true_eq]at h3
  subst h3
  rw[h,decide_eq_false (by omega),decide_eq_true (List.mem_of_getElem? h1)]
  rfl
theorem NL(n:Nat)(l:List (List UInt8))(hn:l.length<n)(h2:n<4611686018427387904):lY n l=some (LP l):=by
 unfold lY
 rw[Aa l (fun i a=> !(decide (a∈l.take i))) (fun i a ha=>by
  have hi:=cH ha
  simp only[kQ,cW ha,cond_true,cQ,ha,Option.bind_some,aV (show i<4611686018427387904 by omega),QE (show i≤l.length by omega),Jn n (l.take i) a (by rw[List.length_take]; omega) h2]
  cases decide (a∈l.take i)<;>rfl) (by simp only[kQ,aQ,cond_false]) hn]
 unfold LP
 cases sU (fun i a=> !(decide (a∈l.take i))) 0 l<;>rfl
end Go.Own.Q
