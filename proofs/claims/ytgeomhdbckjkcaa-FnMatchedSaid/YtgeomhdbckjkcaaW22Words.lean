/- Lemmas. No conditions. -/
import Derived.Test.YtgeomhdbckjkcaaW22Atom
set_option linter.unusedVariables false
set_option linter.unusedSimpArgs false
namespace Go.Own.Q
open Go Go.Proofs
def nA(c:Int):Bool:=(decide (65≤c)&&decide (c≤90))||decide (c=95)
theorem Er(n:Nat)(x:Int):iL n x=some (nA x):=by
 unfold iL nA
 cases decide (65≤x)<;>cases decide (x≤90)<;>rfl
theorem Lb(n:Nat)(c:UInt8):kF n (c.toNat:Int)=some (nA c.toNat):=by
 unfold kF nA
 rw[Ey,tF]
 cases decide (65≤(c.toNat:Int))<;>cases decide ((c.toNat:Int)≤90)<;>rfl
theorem La(n:Nat)(c:UInt8):kE n (c.toNat:Int)=some (oY c.toNat):=by
 unfold kE oY
 rw[Ey,tF]; rfl
theorem Lc(n:Nat)(c:UInt8):kG n (c.toNat:Int)=some (Gq c.toNat):=by
 unfold kG Gq
 rw[Ey,tF]; rfl
theorem Jx(n:Nat)(x:Int):gD n x=some (oY x):=Ep n x
theorem OD(n:Nat)(x:Int):eT n x=some (Gq x):=Ch n x
def wI(c:UInt8):Bool:=oY c.toNat||(nA c.toNat||Gq c.toNat)
theorem GD(n:Nat)(x:Int):gI n x=some (oY x||(nA x||Gq x)):=by
 unfold gI
 rw[Jx,Er,OD]
 cases oY x<;>cases nA x<;>cases Gq x<;>rfl
def MV(i:Nat)(c:UInt8):Bool:=nA c.toNat||(!decide (i=0)&&(oY c.toNat||Gq c.toNat))
def Fu(s:List UInt8):Bool:=AI MV 0 s&&(decide (1≤(s.length:Int))&&decide ((s.length:Int)≤20))
theorem GA(n:Nat)(s:List UInt8)(h:s.length<n)(hn:s.length<4611686018427387904):kD n s=some (Fu s):=by
 unfold kD
 rw[Ax s MV (fun i c hc=>by
  have hi:=gY hc
  simp only[jW,fJ hc,cond_true,FL,hc,Option.map_some,Option.bind_some,Lb,La,Lc,bE (show i<4611686018427387904 by omega),Mm]
  unfold MV
  cases nA (c.toNat:Int)<;>cases decide (i=0)<;>cases oY (c.toNat:Int)<;>cases Gq (c.toNat:Int)<;>rfl) (by simp only[jW,bB,cond_false]) h]
 unfold Fu
 by_cases c:AI MV 0 s=true
 ·rw[if_pos c,c]; simp only[Option.bind_some,tF,Bool.true_and]
 ·rw[if_neg c]; simp only[Bool.not_eq_true]at c; rw[c]; rfl
theorem Hg: ∀(r:List UInt8) (i:Nat),0<i→AI MV i r=r.all wI
 | [],i,h=>rfl
 | c::r,i,h=>by
  have e:MV i c=wI c:=by
   unfold MV wI
   rw[decide_eq_false (by omega)]
   cases nA (c.toNat:Int)<;>cases oY (c.toNat:Int)<;>cases Gq (c.toNat:Int)<;>rfl
  simp only[AI,List.all_cons,Hg r (i+1) (by omega),e]
theorem GF(n:Nat)(s:List UInt8)(h:s.length<n)(hn:s.length<4611686018427387904):nQ n s=some (Fu s):=by
 unfold nQ
 rw[Tr s wI (fun i c hc=>by
  have hi:=gY hc
  simp only[mM,fJ hc,cond_true,FL,hc,Option.map_some,Option.bind_some,GD,bE (show i<4611686018427387904 by omega)]
  unfold wI
  cases oY (c.toNat:Int)<;>cases nA (c.toNat:Int)<;>cases Gq (c.toNat:Int)<;>rfl) (by simp only[mM,bB,cond_false]) h]
 unfold Fu
 cases s with
 | nil=>rfl
 | cons c r=>
  have e:AI MV 0 (c::r)=(nA c.toNat&&r.all wI):=by
   simp only[AI,Nat.zero_add,Hg r 1 (by omega)]
   unfold MV
   rw[decide_eq_true rfl]
   cases nA (c.toNat:Int)<;>rfl
  have e2:(c::r).all wI=(wI c&&r.all wI):=List.all_cons
  have i0:ixs (c::r) (0:Int)=some (c.toNat:Int):=rfl
  have hw:nA c.toNat=true→wI c=true:=fun h=>by unfold wI; rw[h]; cases oY (c.toNat:Int)<;>rfl
  rw[e,e2]
  generalize r.all wI=q
  by_cases hq:(wI c&&q)=true
  ·rw[if_pos hq]
   simp only[Option.bind_some,uT,i0,Er]
   have hq2:q=true:=by cases q with | true=>rfl | false=>simp at hq
   subst hq2
   cases decide (1≤((c::r).length:Int))<;>cases decide (((c::r).length:Int)≤20)<;>cases nA (c.toNat:Int)<;>rfl
  ·rw[if_neg hq]
   cases hl:nA (c.toNat:Int)with
   | false=>rfl
   | true=>
    rw[hw hl]at hq
    cases q with
    | true=>simp at hq
    | false=>rfl
def pX(s:List UInt8):Bool:=uB s&&(!decide (s=[99,97,115,101])&&(!decide (s=[111,102])&& !decide (s=[101,110,100])))
theorem LM(n:Nat)(s:List UInt8)(h:s.length<n)(hn:s.length<4611686018427387904):iK n s=some (pX s):=by
 unfold iK pX
 rw[vW n s h hn,Option.bind_some]
 generalize decide (s=[99,97,115,101])=a
 generalize decide (s=[111,102])=b
 generalize decide (s=[101,110,100])=c
 cases uB s<;>cases a<;>cases b<;>cases c<;>rfl
theorem OC(n:Nat)(s:List UInt8)(h:s.length<n)(hn:s.length<4611686018427387904):jM n s=some (pX s):=by
 unfold jM pX jV
 rw[vS n s h hn,Option.bind_some]
 generalize decide (s=[99,97,115,101])=a
 generalize decide (s=[111,102])=b
 generalize decide (s=[101,110,100])=c
 cases uB s<;>cases a<;>cases b<;>cases c<;>rfl
def Pa(s:List UInt8):Bool:=decide (s=[43])||(decide (s=[45])||(decide (s=[42])||(decide (s=[61,61])||decide (s=[60]))))
theorem UD(n:Nat)(s:List UInt8):pE n s=some (Pa s):=by
 unfold pE Pa
 generalize decide (s=[43])=a
 generalize decide (s=[45])=b
 generalize decide (s=[42])=c
 generalize decide (s=[61,61])=d
 generalize decide (s=[60])=e
 cases a<;>cases b<;>cases c<;>cases d<;>cases e<;>rfl
theorem Ty(n:Nat)(s:List UInt8):pD n s=some (Pa s):=by
 unfold pD Pa
 generalize decide (s=[43])=a
 generalize decide (s=[45])=b
 generalize decide (s=[42])=c
 generalize decide (s=[61,61])=d
 generalize decide (s=[60])=e
 cases a<;>cases b<;>cases c<;>cases d<;>cases e<;>rfl
/-! lists of words -/
theorem QQ(n:Nat)(l:List (List UInt8))(s:List UInt8)(hn:l.length<n)(h2:n<4611686018427387904):eW n l s=some (KQ (fun a=>decide (s=a)) 0 l):=by
 unfold eW
 have e:=CI (body:=dJ n l s) l (fun a=>decide (s=a)) (fun i=>(i:Int)) (fun i=>Sum.inl (i:Int)) (Sum.inr ((l.length:Int),false)) (fun i a ha=>by
  have hi:=gY ha
  simp only[dJ,fJ ha,cond_true,eC,ha,Option.bind_some,bE (show i<4611686018427387904 by omega)]
  cases decide (s=a)<;>rfl) (by simp only[dJ,bB,cond_false]) hn
 refine(congrArg (fun q=>Option.bind q _) e).trans ?_
 rcases xI (fun a=>decide (s=a)) l 0 with⟨h,_⟩ | ⟨k,a,h,_⟩
 ·rw[h]; rfl
 ·rw[h,decide_eq_false (by omega)]
  simp only[Option.bind_some,cond_false,Int.toNat_natCast]
theorem KD(n:Nat)(l:List (List UInt8))(s:List UInt8)(hn:l.length<n)(h2:n<4611686018427387904):dK n l s=some (decide (s∈l)):=by
 unfold dK
 rw[QQ n l s hn h2]
 simp only[Option.bind_some,Option.some.injEq]
 rcases xI (fun a=>decide (s=a)) l 0 with⟨h,h1⟩ | ⟨k,a,h,h1,h3,_⟩
 ·rw[h,decide_eq_false (by omega),decide_eq_false (fun hm=>by have:=h1 s hm; simp at this)]
 ·simp only[decide_eq_true_eq]at h3
  subst h3
  rw[h,decide_eq_true (by omega),decide_eq_true (List.mem_of_getElem? h1)]
def MY(l:List (List UInt8)):Bool:=AI (fun i a=> !(decide (a∈l.take i))) 0 l
theorem Kg(l:List (List UInt8)):MY l=true↔l.Nodup:=by
 unfold MY
 rw[LD,List.Nodup,List.pairwise_iff_getElem]
 constructor
 ·intro h i j hi hj hij e
  have:=h j l[j] (List.getElem?_eq_getElem hj)
  simp only[Nat.zero_add,Bool.not_eq_true',decide_eq_false_iff_not]at this
  exact this (by rw[←e]; exact List.mem_take_iff_getElem.2 ⟨i,by omega,rfl⟩)
 ·intro h j a ha
  simp only[Nat.zero_add,Bool.not_eq_true',decide_eq_false_iff_not]
  intro hm
  obtain⟨i,hi,e⟩:=List.mem_take_iff_getElem.1 hm
  obtain⟨hj,rfl⟩:=List.getElem?_eq_some_iff.1 ha
  exact h i j (by omega) hj (by omega) e
theorem Gb{α:Type}{l:List α}{i:Nat}(h:i≤l.length):sub l none (some (i:Int))=some (l.take i):=by
 unfold sub bnd
 rw[if_pos ⟨by simp,by simp only[Option.getD_none,Option.getD_some]; omega,by simp only[Option.getD_some]; omega⟩]
 simp
theorem Kr(n:Nat)(l:List (List UInt8))(s:List UInt8)(hn:l.length<n)(h2:n<4611686018427387904):fM n l s=some (decide (s∈l)):=by
 unfold fM
 have e:=CI (body:=jD n l s) l (fun a=>decide (a=s)) (fun i=>(i:Int)) (fun i=>Sum.inl true) (Sum.inr ((l.length:Int),false)) (fun i a ha=>by
  have hi:=gY ha
  simp only[jD,fJ ha,cond_true,eC,ha,Option.bind_some,bE (show i<4611686018427387904 by omega)]
  cases decide (a=s)<;>rfl) (by simp only[jD,bB,cond_false]) hn
 refine(congrArg (fun q=>Option.bind q _) e).trans ?_
 rcases xI (fun a=>decide (a=s)) l 0 with⟨h,h1⟩ | ⟨k,a,h,h1,h3,_⟩
 ·rw[h,decide_eq_true (show(-1:Int)<0 by omega),decide_eq_false (show ¬ s∈l from fun hm=>by have:=h1 s hm; simp at this)]; rfl
 ·simp only[decide_eq_true_eq]at h3
  subst h3
  rw[h,decide_eq_false (by omega),decide_eq_true (List.mem_of_getElem? h1)]
  rfl
theorem HR(n:Nat)(l:List (List UInt8))(hn:l.length<n)(h2:n<4611686018427387904):jK n l=some (MY l):=by
 unfold jK
 rw[Ax l (fun i a=> !(decide (a∈l.take i))) (fun i a ha=>by
  have hi:=gY ha
  simp only[kQ,fJ ha,cond_true,eC,ha,Option.bind_some,bE (show i<4611686018427387904 by omega),Gb (show i≤l.length by omega),Kr n (l.take i) a (by rw[List.length_take]; omega) h2]
  cases decide (a∈l.take i)<;>rfl) (by simp only[kQ,bB,cond_false]) hn]
 unfold MY
 cases AI (fun i a=> !(decide (a∈l.take i))) 0 l<;>rfl
end Go.Own.Q
