/- Code in bytes: the program's and the reference's, in plain Lean. No conditions. -/
import Derived.Test.YtjfgchodolnmcaaW32PutNum
set_option linter.unusedVariables false
set_option linter.unusedSimpArgs false
set_option linter.unnecessarySimpa false
namespace Go.Own.Q
open Go Go.Proofs

theorem LE: ∀(n:Nat),n≤1099511627776→ ∀(a:aA) (b:List Int),bV a+21<n→b.length+40*bV a≤400000000000→JS (fQ n b a.f0 a.f1 a.f2 a.f3) (eB n b a.f0 a.f1 a.f2 a.f3) b (40*bV a)
 | 0,_,a,b,h,_=>by omega
 | n+1,hn,a,b,h,hb=>by
  have ih:=LE n (by omega)
  have hw:=Cc a
  have hl:=dC bV a.f3
  rw[oZ,tC]
  unfold jJ iK
  refine(mF n b a.f0 (by omega) (by omega)).bind (k:=8+(8+a.f2.length+(8+40*dl bV a.f3))) (fun r1 h1=> ?_) (by omega)
  refine(mF n r1 a.f1 (by omega) (by omega)).bind (k:=8+a.f2.length+(8+40*dl bV a.f3)) (fun r2 h2=> ?_) (by omega)
  refine(EJ n r2 a.f2 (by omega) (by omega)).bind (k:=8+40*dl bV a.f3) (fun r3 h3=> ?_) (by omega)
  refine(mF n r3 (a.f3.length:Int) (by omega) (by omega)).bind (k:=40*dl bV a.f3) (fun r4 h4=> ?_) (by omega)
  obtain⟨q,q1,q2,q3⟩:=zQ (b1:=eD n (fQ n) a.f3) (b2:=eW n (eB n) a.f3) a.f3 bV 400000000000 (fun i x t hx ht=>by
   have hi:=bL hx
   have hm:=hI bV (List.mem_of_getElem? hx)
   obtain⟨t',e1,e2,e3⟩:=ih x t (by omega) (by omega)
   exact⟨t',by simp only[eD,cK hx,cond_true,bI,hx,Option.bind_some,e1,aI (show i<4611686018427387904 by omega)],by simp only[eW,cK hx,cond_true,bI,hx,Option.bind_some,e2,aI (show i<4611686018427387904 by omega)],by omega⟩) (fun t=>by simp only[eD,aK,cond_false]) (fun t=>by simp only[eW,aK,cond_false]) (n:=n) (by omega) r4 (by omega)
  exact⟨q,by rw[q1]; rfl,by rw[q2]; rfl,q3⟩
theorem Dg(n:Nat)(hn:n≤1099511627776)(fs:List aB)(ps:List aA)(h:dl bV ps+400<n):kJ n fs ps=some (ps.all (uV 400)):=by
 have hl:=dC bV ps
 unfold kJ
 rw[EB ps (uV 400) (fun i a ha=>by
  have hi:=bL ha
  have hm:=hI bV (List.mem_of_getElem? ha)
  simp only[jT,cK ha,cond_true,bI,ha,Option.bind_some,sP n hn a 400 (by omega),aI (show i<4611686018427387904 by omega)]
  cases uV 400 a<;>rfl) (by simp only[jT,aK,cond_false]) (by omega)]
 cases ps.all (uV 400)<;>rfl
theorem Ji(n:Nat)(hn:n≤1099511627776)(fs:List aB)(ps:List aA)(h:dl bV ps+400<n):kD n fs ps=some (ps.all (uV 400)):=by
 have hl:=dC bV ps
 unfold kD
 rw[EB ps (uV 400) (fun i a ha=>by
  have hi:=bL ha
  have hm:=hI bV (List.mem_of_getElem? ha)
  simp only[jQ,cK ha,cond_true,bI,ha,Option.bind_some,sM n hn a 400 (by omega),aI (show i<4611686018427387904 by omega)]
  cases uV 400 a<;>rfl) (by simp only[jQ,aK,cond_false]) (by omega)]
 cases ps.all (uV 400)<;>rfl
theorem QO(n:Nat)(hn:n≤1099511627776)(f:aB)(b:List Int)(h:dl jE f.f3+21<n)(hb:b.length+40*dl jE f.f3≤400000000000): ∃q,loopN (cQ n f) n (b,(0:Int))=some (q,(f.f3.length:Int),false)∧loopN (gU n f) n (b,(0:Int))=some (q,(f.f3.length:Int),false)∧q.length≤b.length+40*dl jE f.f3:=by
 have hl:=dC jE f.f3
 refine zQ f.f3 jE 400000000000 (fun i x t hx ht=> ?_) (fun t=>by simp only[cQ,aK,cond_false]) (fun t=>by simp only[gU,aK,cond_false]) (n:=n) (by omega) b (by omega)
 have hi:=bL hx
 have hm:=hI jE (List.mem_of_getElem? hx)
 have hw:=zA x
 obtain⟨t1,a1,c1,l1⟩:=mF n t x.f0 (by omega) (by omega)
 obtain⟨t2,a2,c2,l2⟩:=mF n t1 x.f1 (by omega) (by omega)
 obtain⟨t3,a3,c3,l3⟩:=EJ n t2 x.f2 (by omega) (by omega)
 obtain⟨t4,a4,c4,l4⟩:=mF n t3 x.f3 (by omega) (by omega)
 exact⟨t4,by simp only[cQ,cK hx,cond_true,bI,hx,Option.bind_some,a1,a2,a3,a4,aI (show i<4611686018427387904 by omega)],by simp only[gU,cK hx,cond_true,bI,hx,Option.bind_some,c1,c2,c3,c4,aI (show i<4611686018427387904 by omega)],by omega⟩
theorem OC(n:Nat)(hn:n≤1099511627776)(fs:List aB)(ps:List aA)(h:dl wFn fs+400<n)(h3:dl bV ps+400<n)(hs:40*dl wFn fs+40*dl bV ps≤300000000000):JS (dU n fs ps) (iQ n fs ps) [] (16+(40*dl wFn fs+40*dl bV ps)):=by
 have hl:=dC wFn fs
 have hl2:=dC bV ps
 have e0:([]:List Int).length=0:=rfl
 unfold dU iQ
 rw[tZ n hn fs ps (by omega) h3,Cn n hn fs ps (by omega) h3,Dg n hn fs ps h3,Ji n hn fs ps h3]
 have hg: ∀c:Bool,((some c:Option Bool).bind fun x=>bif !x then some true else(some (ps.all (uV 400))).bind fun y=>some (!y))=some (!(c&&ps.all (uV 400))):=fun c=>by cases c<;>rfl
 rw[hg,Option.bind_some,Option.bind_some]
 cases wK fs ps&&ps.all (uV 400)with
 | false=>exact⟨[],rfl,rfl,Nat.zero_le _⟩
 | true=>
  simp only[Bool.not_true,cond_false]
  refine(mF n [] (fs.length:Int) (by omega) (by omega)).bind (k:=8+(40*dl wFn fs+40*dl bV ps)) (fun r1 h1=> ?_) (by omega)
  obtain⟨q,q1,q2,q3⟩:=zQ (b1:=dK n fs) (b2:=gV n fs) fs wFn 400000000000 (fun i x t hx ht=>by
   have hi:=bL hx
   have hm:=hI wFn (List.mem_of_getElem? hx)
   have hw:=Eh x
   obtain⟨t1,a1,c1,l1⟩:=EJ n t x.f0 (by omega) (by omega)
   obtain⟨t2,a2,c2,l2⟩:=mF n t1 x.f1 (by omega) (by omega)
   obtain⟨t3,a3,c3,l3⟩:=mF n t2 x.f2 (by omega) (by omega)
   obtain⟨t4,a4,c4,l4⟩:=mF n t3 (x.f3.length:Int) (by omega) (by omega)
   obtain⟨t5,a5,c5,l5⟩:=QO n hn x t4 (by omega) (by omega)
   exact⟨t5,by simp only[dK,cK hx,cond_true,bI,hx,Option.bind_some,a1,a2,a3,a4,a5,aI (show i<4611686018427387904 by omega)],by simp only[gV,cK hx,cond_true,bI,hx,Option.bind_some,c1,c2,c3,c4,c5,aI (show i<4611686018427387904 by omega)],by omega⟩) (fun t=>by simp only[dK,aK,cond_false]) (fun t=>by simp only[gV,aK,cond_false]) (n:=n) (by omega) r1 (by omega)
  rw[q1,q2]
  simp only[Option.bind_some]
  have hq:JS (some q) (some q) r1 (40*dl wFn fs):=⟨q,rfl,rfl,q3⟩
  refine JS.bind (f1:=fun q=>(bA n q (ps.length:Int)).bind fun c=>(loopN (cP n ps) n (c,(0:Int))).bind fun(v,_,_)=>some v) (f2:=fun q=>(aZ n q (ps.length:Int)).bind fun c=>(loopN (eQ n ps) n (c,(0:Int))).bind fun(v,_,_)=>some v) hq (k:=8+40*dl bV ps) (fun r hr=> ?_) (by omega)
  refine(mF n r (ps.length:Int) (by omega) (by omega)).bind (k:=40*dl bV ps) (fun r4 h4=> ?_) (by omega)
  obtain⟨p,p1,p2,p3⟩:=zQ (b1:=cP n ps) (b2:=eQ n ps) ps bV 400000000000 (fun i x t hx ht=>by
   have hi:=bL hx
   have hm:=hI bV (List.mem_of_getElem? hx)
   obtain⟨t',e1,e2,e3⟩:=LE n hn x t (by omega) (by omega)
   exact⟨t',by simp only[cP,cK hx,cond_true,bI,hx,Option.bind_some,e1,aI (show i<4611686018427387904 by omega)],by simp only[eQ,cK hx,cond_true,bI,hx,Option.bind_some,e2,aI (show i<4611686018427387904 by omega)],by omega⟩) (fun t=>by simp only[cP,aK,cond_false]) (fun t=>by simp only[eQ,aK,cond_false]) (n:=n) (by omega) r4 (by omega)
  exact⟨p,by rw[p1]; rfl,by rw[p2]; rfl,p3⟩
theorem Jt(n:Nat)(l:List Int)(h:l.length<n)(hn:n≤4611686018427387904):kH n l l=some true:=by
 unfold kH
 simp only[decide_true,Bool.not_true,cond_false]
 rw[EC l (fun i a ha=>by
  have hi:=bL ha
  simp only[jS,cK ha,cond_true,bI,ha,Option.bind_some,decide_true,Bool.not_true,cond_false,aI (show i<4611686018427387904 by omega)]) (by simp only[jS,aK,cond_false]) (by omega)]
 rfl
end Go.Own.Q
