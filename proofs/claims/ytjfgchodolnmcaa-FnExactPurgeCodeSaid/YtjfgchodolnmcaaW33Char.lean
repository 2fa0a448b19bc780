/- Words: the program's answers and the reference's, in plain Lean. No conditions. -/
import Derived.Test.YtjfgchodolnmcaaW33Atom
set_option linter.unusedVariables false
set_option linter.unusedSimpArgs false
set_option linter.unnecessarySimpa false
namespace Go.Own.Q
open Go Go.Proofs

def oV(c:Int):Bool:=(decide (65≤c)&&decide (c≤90))||decide (c=95)
theorem EB(n:Nat)(x:Int):iC n x=some (oV x):=by
 unfold iC oV
 cases decide (65≤x)<;>cases decide (x≤90)<;>rfl
theorem IL(n:Nat)(x:Int):fH n x=some (qY x):=EA n x
theorem Lu(n:Nat)(x:Int):dY n x=some (JO x):=Bf n x
def uO(c:UInt8):Bool:=qY c.toNat||(oV c.toNat||JO c.toNat)
theorem Ey(n:Nat)(x:Int):gC n x=some (qY x||(oV x||JO x)):=by
 unfold gC
 rw[IL,EB,Lu]
 cases qY x<;>cases oV x<;>cases JO x<;>rfl
def Oq(i:Nat)(c:UInt8):Bool:=oV c.toNat||(!decide (i=0)&&(qY c.toNat||JO c.toNat))
def MS(s:List UInt8):Bool:=qK Oq 0 s&&(decide (1≤(s.length:Int))&&decide ((s.length:Int)≤20))
theorem Gh: ∀(r:List UInt8) (i:Nat),0<i→qK Oq i r=r.all uO
 | [],i,h=>rfl
 | c::r,i,h=>by
  have e:Oq i c=uO c:=by
   unfold Oq uO
   rw[decide_eq_false (by omega)]
   cases oV (c.toNat:Int)<;>cases qY (c.toNat:Int)<;>cases JO (c.toNat:Int)<;>rfl
  simp only[qK,List.all_cons,Gh r (i+1) (by omega),e]
theorem FB(n:Nat)(s:List UInt8)(h:s.length<n)(hn:s.length<4611686018427387904):nC n s=some (MS s):=by
 unfold nC
 rw[LB s uO (fun i c hc=>by
  have hi:=bI hc
  simp only[lV,bT hc,cond_true,Hc,hc,Option.map_some,Option.bind_some,Ey,aN (show i<4611686018427387904 by omega)]
  unfold uO
  cases qY (c.toNat:Int)<;>cases oV (c.toNat:Int)<;>cases JO (c.toNat:Int)<;>rfl) (by simp only[lV,aM,cond_false]) h]
 unfold MS
 cases s with
 | nil=>rfl
 | cons c r=>
  have e:qK Oq 0 (c::r)=(oV c.toNat&&r.all uO):=by
   simp only[qK,Nat.zero_add,Gh r 1 (by omega)]
   unfold Oq
   rw[decide_eq_true rfl]
   cases oV (c.toNat:Int)<;>rfl
  have e2:(c::r).all uO=(uO c&&r.all uO):=List.all_cons
  have i0:ixs (c::r) (0:Int)=some (c.toNat:Int):=rfl
  have hw:oV c.toNat=true→uO c=true:=fun h=>by unfold uO; rw[h]; cases qY (c.toNat:Int)<;>rfl
  rw[e,e2]
  generalize r.all uO=q
  by_cases hq:(uO c&&q)=true
  ·rw[if_pos hq]
   simp only[Option.bind_some,jA,i0,EB]
   have hq2:q=true:=by cases q with | true=>rfl | false=>simp at hq
   subst hq2
   cases decide (1≤((c::r).length:Int))<;>cases decide (((c::r).length:Int)≤20)<;>cases oV (c.toNat:Int)<;>rfl
  ·rw[if_neg hq]
   cases hl:oV (c.toNat:Int)with
   | false=>rfl
   | true=>
    rw[hw hl]at hq
    cases q with
    | true=>simp at hq
    | false=>rfl
def fO(s:List UInt8):Bool:=kL s&&(!decide (s=[99,97,115,101])&&(!decide (s=[111,102])&& !decide (s=[101,110,100])))
theorem xY(n:Nat)(s:List UInt8)(h:s.length<n)(hn:s.length<4611686018427387904):dC n s=some (fO s):=by
 unfold dC fO
 rw[pL n s h hn,Option.bind_some]
 generalize decide (s=[99,97,115,101])=a
 generalize decide (s=[111,102])=b
 generalize decide (s=[101,110,100])=c
 cases kL s<;>cases a<;>cases b<;>cases c<;>rfl
theorem BM(n:Nat)(s:List UInt8)(h:s.length<n)(hn:s.length<4611686018427387904):eO n s=some (fO s):=by
 unfold eO fO jM
 rw[pH n s h hn,Option.bind_some]
 generalize decide (s=[99,97,115,101])=a
 generalize decide (s=[111,102])=b
 generalize decide (s=[101,110,100])=c
 cases kL s<;>cases a<;>cases b<;>cases c<;>rfl
def KJ(s:List UInt8):Bool:=decide (s=[43])||(decide (s=[45])||(decide (s=[42])||(decide (s=[61,61])||decide (s=[60]))))
theorem LH(n:Nat)(s:List UInt8):mH n s=some (KJ s):=by
 unfold mH KJ
 generalize decide (s=[43])=a
 generalize decide (s=[45])=b
 generalize decide (s=[42])=c
 generalize decide (s=[61,61])=d
 generalize decide (s=[60])=e
 cases a<;>cases b<;>cases c<;>cases d<;>cases e<;>rfl
theorem QG(n:Nat)(s:List UInt8):oB n s=some (KJ s):=by
 unfold oB KJ
 generalize decide (s=[43])=a
 generalize decide (s=[45])=b
 generalize decide (s=[42])=c
 generalize decide (s=[61,61])=d
 generalize decide (s=[60])=e
 cases a<;>cases b<;>cases c<;>cases d<;>cases e<;>rfl

end Go.Own.Q
