/- Code's bytes, one behind the other. No conditions. -/
import Derived.Test.YtjfgchodolnmcaaW32GetRd
set_option linter.unusedVariables false
set_option linter.unusedSimpArgs false
set_option linter.unnecessarySimpa false
namespace Go.Own.Q
open Go Go.Proofs

theorem JC: ∀(k x:Nat),0<(AU k x).length∧(AU k x).length≤k+1
 | 0,_=>⟨Nat.one_pos,Nat.le_refl _⟩
 | k+1,x=>by
  unfold AU
  by_cases h:x<128
  ·rw[if_pos h]; simp only[List.length_singleton]; omega
  ·rw[if_neg h]
   have:=JC k (x / 128)
   simp only[List.length_cons]; omega
theorem cX(v:Int):0<(qE v).length∧(qE v).length≤8:=by
 have:=JC 6 (zig (iZ v)).toNat
 unfold qE; omega
def yN(s:List UInt8):List Int:=qE (s.length:Int)++s.map fun c=>((c.toNat:Nat):Int)
theorem nX(s:List UInt8):s.length<(yN s).length∧(yN s).length≤s.length+8:=by
 have:=cX (s.length:Int)
 simp only[yN,List.length_append,List.length_map]; omega
theorem EI(n:Nat)(b:List Int)(s:List UInt8)(hn:20<n)(hb:b.length+s.length+8<549755813888):dT n b s=some (b++yN s):=by
 unfold dT
 have hl:=cX (s.length:Int)
 have ha:iI 1 (b++qE (s.length:Int)) (s.map fun c=>((c.toNat:Nat):Int))=some (b++qE (s.length:Int)++s.map fun c=>((c.toNat:Nat):Int)):=rQ (by simp only[List.length_append,List.length_map]; omega) (by simp only[List.length_append,List.length_map,maxLen]; omega)
 rw[cL n b _ hn (by omega),Option.bind_some,ha,Option.bind_some,List.append_assoc]; rfl
/-- A loop over a list that appends. -/
theorem zR{α:Type}{b1:List Int×Int→Option ((List Int×Int)⊕(List Int×Int×Bool))}(l:List α)(w:α→Nat)(e:α→List Int)(B:Nat)(hs: ∀(i:Nat) a t,l[i]? =some a→t.length+40*(1+w a)≤B→b1 (t,(i:Int))=some (.inl (t++e a,((i+1:Nat):Int))))
  (hl: ∀a,(e a).length≤40*(1+w a))(he1: ∀t,b1 (t,(l.length:Int))=some (.inr (t,(l.length:Int),false))){n:Nat}(hn:l.length<n)(b:List Int)(hB:b.length+40*dl w l≤B):
  loopN b1 n (b,(0:Int))=some (b++l.flatMap e,(l.length:Int),false):=by
 have key: ∀(r:List α) (i:Nat) (t:List Int) (n:Nat),l.drop i=r→i≤l.length→r.length<n→t.length+40*dl w r≤B→loopN b1 n (t,(i:Int))=some (t++r.flatMap e,(l.length:Int),false):=by
  intro r
  induction r with
  | nil=>
   intro i t n hr hi hn ht
   obtain⟨n,rfl⟩: ∃k,n=k+1:=⟨n - 1,by simp at hn; omega⟩
   have:i=l.length:=by
    have:=congrArg List.length hr
    simp at this; omega
   subst this
   simp only[loopN,he1,List.flatMap_nil,List.append_nil]
  | cons a r ih=>
   intro i t n hr hi hn ht
   obtain⟨n,rfl⟩: ∃k,n=k+1:=⟨n - 1,by simp at hn; omega⟩
   have ha:l[i]? =some a:=by
    have:=congrArg (fun l=>l[0]?) hr
    simpa [List.getElem?_drop]using this
   have hr2:l.drop (i+1)=r:=by
    have:=congrArg (List.drop 1) hr
    simpa [List.drop_drop]using this
   have hlt:=bL ha
   have hd:dl w (a::r)=1+w a+dl w r:=rfl
   have h1:=hs i a t ha (by omega)
   have h2:=hl a
   have:=ih (i+1) (t++e a) n hr2 (by omega) (by simp at hn; omega) (by rw[List.length_append]; omega)
   simp only[loopN,h1,this,List.flatMap_cons,List.append_assoc]
 exact key l 0 b n rfl (Nat.zero_le _) hn hB
theorem He{α:Type}(w:α→Nat)(e:α→List Int)(h: ∀a,(e a).length≤40*(1+w a)): ∀l:List α,(l.flatMap e).length+40≤40*dl w l
 | []=>by simp [dl]
 | a::r=>by
  have:=h a
  have:=He w e h r
  simp only[List.flatMap_cons,List.length_append,dl]; omega
def xK(x:aC):List Int:=qE x.f0++(qE x.f1++(yN x.f2++qE x.f3))
theorem Ds(x:aC):(xK x).length≤40*(1+jE x):=by
 have:=zA x
 have:=cX x.f0
 have:=cX x.f1
 have:=cX x.f3
 have:=nX x.f2
 simp only[xK,List.length_append]; omega
def Gc(f:aB):List Int:=yN f.f0++(qE f.f1++(qE f.f2++(qE (f.f3.length:Int)++f.f3.flatMap xK)))
theorem GS(x:aB):(Gc x).length≤40*(1+wFn x):=by
 have:=Eh x
 have:=cX x.f1
 have:=cX x.f2
 have:=cX (x.f3.length:Int)
 have:=nX x.f0
 have:=He jE xK Ds x.f3
 simp only[Gc,List.length_append]; omega
mutual
def nZ:aA→List Int
 | .mk a b s l=>qE a++(qE b++(yN s++(qE (l.length:Int)++qA l)))
def qA:List aA→List Int
 | []=> []
 | x::r=>nZ x++qA r
end
theorem Be: ∀l,qA l=l.flatMap nZ
 | []=>by simp [qA]
 | x::r=>by simp only[qA,Be r,List.flatMap_cons]
theorem JB(a:aA):nZ a=qE a.f0++(qE a.f1++(yN a.f2++(qE (a.f3.length:Int)++a.f3.flatMap nZ))):=by
 cases a; simp only[nZ,Be]; rfl
mutual
theorem sY: ∀a:aA,(nZ a).length≤40*(1+bV a)
 | .mk a b s l=>by
  have:=Bf l
  have:=cX a
  have:=cX b
  have:=cX (l.length:Int)
  have:=nX s
  simp only[nZ,bV,List.length_append]; omega
theorem Bf: ∀l:List aA,(qA l).length+40≤40*wI l
 | []=>by simp [qA,wI]
 | x::r=>by
  have:=sY x
  have:=Bf r
  simp only[qA,wI,List.length_append]; omega
end
def Ab(fs:List aB)(ps:List aA):List Int:=qE (fs.length:Int)++(fs.flatMap Gc++(qE (ps.length:Int)++ps.flatMap nZ))
theorem LC: ∀(n:Nat),n≤1099511627776→ ∀(a:aA) (b:List Int),bV a+21<n→b.length+40*(1+bV a)≤400000000000→fQ n b a.f0 a.f1 a.f2 a.f3=some (b++nZ a)
 | 0,_,a,b,h,_=>by omega
 | n+1,hn,a,b,h,hb=>by
  have ih:=LC n (by omega)
  have hw:=Cc a
  have hl:=dC bV a.f3
  have l0:=cX a.f0
  have l1:=cX a.f1
  have l3:=cX (a.f3.length:Int)
  have l2:=nX a.f2
  rw[oZ,JB]
  unfold jJ
  rw[cL n b a.f0 (by omega) (by omega),Option.bind_some,cL n _ a.f1 (by omega) (by simp only[List.length_append]; omega),Option.bind_some,EI n _ a.f2 (by omega) (by simp only[List.length_append]; omega),Option.bind_some,cL n _ (a.f3.length:Int) (by omega) (by simp only[List.length_append]; omega),Option.bind_some]
  rw[zR a.f3 bV nZ 400000000000 (fun i x t hx ht=>by
   have hi:=bL hx
   have hm:=hI bV (List.mem_of_getElem? hx)
   simp only[eD,cK hx,cond_true,bI,hx,Option.bind_some,ih x t (by omega) (by omega),aI (show i<4611686018427387904 by omega)]) sY (fun t=>by simp only[eD,aK,cond_false]) (by omega) _ (by simp only[List.length_append]; omega)]
  simp only[Option.bind_some,List.append_assoc]
theorem QN(n:Nat)(hn:n≤1099511627776)(f:aB)(b:List Int)(h:dl jE f.f3+21<n)(hb:b.length+40*dl jE f.f3≤400000000000):loopN (cQ n f) n (b,(0:Int))=some (b++f.f3.flatMap xK,(f.f3.length:Int),false):=by
 have hl:=dC jE f.f3
 refine zR f.f3 jE xK 400000000000 (fun i x t hx ht=> ?_) Ds (fun t=>by simp only[cQ,aK,cond_false]) (by omega) b hb
 have hi:=bL hx
 have hm:=hI jE (List.mem_of_getElem? hx)
 have hw:=zA x
 have l0:=cX x.f0
 have l1:=cX x.f1
 have l2:=nX x.f2
 simp only[cQ,cK hx,cond_true,bI,hx,Option.bind_some]
 rw[cL n t x.f0 (by omega) (by omega),Option.bind_some,cL n _ x.f1 (by omega) (by simp only[List.length_append]; omega),Option.bind_some,EI n _ x.f2 (by omega) (by simp only[List.length_append]; omega),Option.bind_some,cL n _ x.f3 (by omega) (by simp only[List.length_append]; omega),Option.bind_some]
 simp only[aI (show i<4611686018427387904 by omega),xK,List.append_assoc]
theorem JE(n:Nat)(hn:n≤1099511627776)(fs:List aB)(ps:List aA)(h:dl wFn fs+400<n)(h3:dl bV ps+400<n)(hs:40*dl wFn fs+40*dl bV ps≤300000000000):dU n fs ps=some (bif wK fs ps&&ps.all (uV 400)then Ab fs ps else []):=by
 have hl:=dC wFn fs
 have hl2:=dC bV ps
 unfold dU
 rw[tZ n hn fs ps (by omega) h3,Dg n hn fs ps h3]
 have hg: ∀c:Bool,((some c:Option Bool).bind fun x=>bif !x then some true else(some (ps.all (uV 400))).bind fun y=>some (!y))=some (!(c&&ps.all (uV 400))):=fun c=>by cases c<;>rfl
 rw[hg,Option.bind_some]
 cases wK fs ps&&ps.all (uV 400)with
 | false=>rfl
 | true=>
  have l0:=cX (fs.length:Int)
  have l1:=cX (ps.length:Int)
  have e0:([]:List Int).length=0:=rfl
  have lf:=He wFn Gc GS fs
  have lp:=He bV nZ sY ps
  simp only[Bool.not_true,cond_false,cond_true]
  rw[cL n [] _ (by omega) (by omega),Option.bind_some,List.nil_append]
  rw[zR fs wFn Gc 400000000000 (fun i x t hx ht=>by
   have hi:=bL hx
   have hm:=hI wFn (List.mem_of_getElem? hx)
   have hw:=Eh x
   have k0:=nX x.f0
   have k1:=cX x.f1
   have k2:=cX x.f2
   have k3:=cX (x.f3.length:Int)
   simp only[dK,cK hx,cond_true,bI,hx,Option.bind_some]
   rw[EI n t x.f0 (by omega) (by omega),Option.bind_some,cL n _ x.f1 (by omega) (by simp only[List.length_append]; omega),Option.bind_some,cL n _ x.f2 (by omega) (by simp only[List.length_append]; omega),Option.bind_some,cL n _ (x.f3.length:Int) (by omega) (by simp only[List.length_append]; omega),Option.bind_some,QN n hn x _ (by omega) (by simp only[List.length_append]; omega),Option.bind_some]
   simp only[aI (show i<4611686018427387904 by omega),Gc,List.append_assoc]) GS (fun t=>by simp only[dK,aK,cond_false]) (by omega) _ (by omega)]
  simp only[Option.bind_some]
  rw[cL n _ (ps.length:Int) (by omega) (by simp only[List.length_append]; omega),Option.bind_some]
  rw[zR ps bV nZ 400000000000 (fun i x t hx ht=>by
   have hi:=bL hx
   have hm:=hI bV (List.mem_of_getElem? hx)
   simp only[cP,cK hx,cond_true,bI,hx,Option.bind_some,LC n hn x t (by omega) (by omega),aI (show i<4611686018427387904 by omega)]) sY (fun t=>by simp only[cP,aK,cond_false]) (by omega) _ (by simp only[List.length_append]; omega)]
  simp only[Option.bind_some,Ab,List.append_assoc]
end Go.Own.Q
