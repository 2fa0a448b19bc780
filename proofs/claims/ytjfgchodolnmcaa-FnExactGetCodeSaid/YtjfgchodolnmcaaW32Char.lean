/- Words: the program's answers and the reference's, in plain Lean. No conditions. -/
import Derived.Test.YtjfgchodolnmcaaW32Atom
set_option linter.unusedVariables false
set_option linter.unusedSimpArgs false
set_option linter.unnecessarySimpa false
namespace Go.Own.Q
open Go Go.Proofs

def oU(c:Int):Bool:=(decide (65≤c)&&decide (c≤90))||decide (c=95)
theorem Dp(n:Nat)(x:Int):iS n x=some (oU x):=by
 unfold iS oU
 cases decide (65≤x)<;>cases decide (x≤90)<;>rfl
theorem Hv(n:Nat)(x:Int):gF n x=some (qU x):=Do n x
theorem MJ(n:Nat)(x:Int):eU n x=some (JM x):=BY n x
def uI(c:UInt8):Bool:=qU c.toNat||(oU c.toNat||JM c.toNat)
theorem Ep(n:Nat)(x:Int):hG n x=some (qU x||(oU x||JM x)):=by
 unfold hG
 rw[Hv,Dp,MJ]
 cases qU x<;>cases oU x<;>cases JM x<;>rfl
def Ov(i:Nat)(c:UInt8):Bool:=oU c.toNat||(!decide (i=0)&&(qU c.toNat||JM c.toNat))
def Mf(s:List UInt8):Bool:=rE Ov 0 s&&(decide (1≤(s.length:Int))&&decide ((s.length:Int)≤20))
theorem GY: ∀(r:List UInt8) (i:Nat),0<i→rE Ov i r=r.all uI
 | [],i,h=>rfl
 | c::r,i,h=>by
  have e:Ov i c=uI c:=by
   unfold Ov uI
   rw[decide_eq_false (by omega)]
   cases oU (c.toNat:Int)<;>cases qU (c.toNat:Int)<;>cases JM (c.toNat:Int)<;>rfl
  simp only[rE,List.all_cons,GY r (i+1) (by omega),e]
theorem Es(n:Nat)(s:List UInt8)(h:s.length<n)(hn:s.length<4611686018427387904):mP n s=some (Mf s):=by
 unfold mP
 rw[EB s uI (fun i c hc=>by
  have hi:=bL hc
  simp only[lO,cK hc,cond_true,HT,hc,Option.map_some,Option.bind_some,Ep,aI (show i<4611686018427387904 by omega)]
  unfold uI
  cases qU (c.toNat:Int)<;>cases oU (c.toNat:Int)<;>cases JM (c.toNat:Int)<;>rfl) (by simp only[lO,aK,cond_false]) h]
 unfold Mf
 cases s with
 | nil=>rfl
 | cons c r=>
  have e:rE Ov 0 (c::r)=(oU c.toNat&&r.all uI):=by
   simp only[rE,Nat.zero_add,GY r 1 (by omega)]
   unfold Ov
   rw[decide_eq_true rfl]
   cases oU (c.toNat:Int)<;>rfl
  have e2:(c::r).all uI=(uI c&&r.all uI):=List.all_cons
  have i0:ixs (c::r) (0:Int)=some (c.toNat:Int):=rfl
  have hw:oU c.toNat=true→uI c=true:=fun h=>by unfold uI; rw[h]; cases qU (c.toNat:Int)<;>rfl
  rw[e,e2]
  generalize r.all uI=q
  by_cases hq:(uI c&&q)=true
  ·rw[if_pos hq]
   simp only[Option.bind_some,gI,i0,Dp]
   have hq2:q=true:=by cases q with | true=>rfl | false=>simp at hq
   subst hq2
   cases decide (1≤((c::r).length:Int))<;>cases decide (((c::r).length:Int)≤20)<;>cases oU (c.toNat:Int)<;>rfl
  ·rw[if_neg hq]
   cases hl:oU (c.toNat:Int)with
   | false=>rfl
   | true=>
    rw[hw hl]at hq
    cases q with
    | true=>simp at hq
    | false=>rfl
def gL(s:List UInt8):Bool:=zL s&&(!decide (s=[99,97,115,101])&&(!decide (s=[111,102])&& !decide (s=[101,110,100])))
theorem xN(n:Nat)(s:List UInt8)(h:s.length<n)(hn:s.length<4611686018427387904):dS n s=some (gL s):=by
 unfold dS gL
 rw[Cp n s h hn,Option.bind_some]
 generalize decide (s=[99,97,115,101])=a
 generalize decide (s=[111,102])=b
 generalize decide (s=[101,110,100])=c
 cases zL s<;>cases a<;>cases b<;>cases c<;>rfl
theorem BC(n:Nat)(s:List UInt8)(h:s.length<n)(hn:s.length<4611686018427387904):fO n s=some (gL s):=by
 unfold fO gL jP
 rw[Co n s h hn,Option.bind_some]
 generalize decide (s=[99,97,115,101])=a
 generalize decide (s=[111,102])=b
 generalize decide (s=[101,110,100])=c
 cases zL s<;>cases a<;>cases b<;>cases c<;>rfl
def KJ(s:List UInt8):Bool:=decide (s=[43])||(decide (s=[45])||(decide (s=[42])||(decide (s=[61,61])||decide (s=[60]))))
theorem LT(n:Nat)(s:List UInt8):lY n s=some (KJ s):=by
 unfold lY KJ
 generalize decide (s=[43])=a
 generalize decide (s=[45])=b
 generalize decide (s=[42])=c
 generalize decide (s=[61,61])=d
 generalize decide (s=[60])=e
 cases a<;>cases b<;>cases c<;>cases d<;>cases e<;>rfl
theorem QJ(n:Nat)(s:List UInt8):oA n s=some (KJ s):=by
 unfold oA KJ
 generalize decide (s=[43])=a
 generalize decide (s=[45])=b
 generalize decide (s=[42])=c
 generalize decide (s=[61,61])=d
 generalize decide (s=[60])=e
 cases a<;>cases b<;>cases c<;>cases d<;>cases e<;>rfl

end Go.Own.Q
