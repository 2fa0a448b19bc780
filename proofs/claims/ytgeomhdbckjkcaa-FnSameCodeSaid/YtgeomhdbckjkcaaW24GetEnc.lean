/- Code's bytes, one behind the other. No conditions. -/
import Derived.Test.YtgeomhdbckjkcaaW24Enc
set_option linter.unusedVariables false
set_option linter.unusedSimpArgs false
set_option linter.unnecessarySimpa false
namespace Go.Own.Q
open Go Go.Proofs

theorem Jy: ∀(k x:Nat),0<(GU k x).length∧(GU k x).length≤k+1
 | 0,_=>⟨Nat.one_pos,Nat.le_refl _⟩
 | k+1,x=>by
  unfold GU
  by_cases h:x<128
  ·rw[if_pos h]; simp only[List.length_singleton]; omega
  ·rw[if_neg h]
   have:=Jy k (x / 128)
   simp only[List.length_cons]; omega
theorem cR(v:Int):0<(uQ v).length∧(uQ v).length≤8:=by
 have:=Jy 6 (zig (oV v)).toNat
 unfold uQ; omega
def zZ(s:List UInt8):List Int:=uQ (s.length:Int)++s.map fun c=>((c.toNat:Nat):Int)
theorem qI(s:List UInt8):s.length<(zZ s).length∧(zZ s).length≤s.length+8:=by
 have:=cR (s.length:Int)
 simp only[zZ,List.length_append,List.length_map]; omega
theorem Ex(n:Nat)(b:List Int)(s:List UInt8)(hn:20<n)(hb:b.length+s.length+8<549755813888):gE n b s=some (b++zZ s):=by
 unfold gE
 have hl:=cR (s.length:Int)
 have ha:fQ 1 (b++uQ (s.length:Int)) (s.map fun c=>((c.toNat:Nat):Int))=some (b++uQ (s.length:Int)++s.map fun c=>((c.toNat:Nat):Int)):=vA (by simp only[List.length_append,List.length_map]; omega) (by simp only[List.length_append,List.length_map,maxLen]; omega)
 rw[dK n b _ hn (by omega),Option.bind_some,ha,Option.bind_some,List.append_assoc]; rfl
/-- A loop over a list that appends. -/
theorem Ac{α:Type}{b1:List Int×Int→Option ((List Int×Int)⊕(List Int×Int×Bool))}(l:List α)(w:α→Nat)(e:α→List Int)(B:Nat)(hs: ∀(i:Nat) a t,l[i]? =some a→t.length+40*(1+w a)≤B→b1 (t,(i:Int))=some (.inl (t++e a,((i+1:Nat):Int))))
  (hl: ∀a,(e a).length≤40*(1+w a))(he1: ∀t,b1 (t,(l.length:Int))=some (.inr (t,(l.length:Int),false))){n:Nat}(hn:l.length<n)(b:List Int)(hB:b.length+40*dl w l≤B):
  loopN b1 n (b,(0:Int))=some (b++l.flatMap e,(l.length:Int),false):=by
 have key: ∀(r:List α) (i:Nat) (t:List Int) (n:Nat),l.drop i=r→i≤l.length→r.length<n→t.length+40*dl w r≤B→loopN b1 n (t,(i:Int))=some (t++r.flatMap e,(l.length:Int),false):=by
  intro r
  induction r with
  | nil=>
   intro i t n hr hi hn ht
   obtain⟨n,rfl⟩: ∃k,n=k+1:=⟨n - 1,by simp at hn; omega⟩
   have:i=l.length:=by
    have:=congrArg List.length hr
    simp at this; omega
   subst this
   simp only[loopN,he1,List.flatMap_nil,List.append_nil]
  | cons a r ih=>
   intro i t n hr hi hn ht
   obtain⟨n,rfl⟩: ∃k,n=k+1:=⟨n - 1,by simp at hn; omega⟩
   have ha:l[i]? =some a:=by
    have:=congrArg (fun l=>l[0]?) hr
    simpa [List.getElem?_drop]using this
   have hr2:l.drop (i+1)=r:=by
    have:=congrArg (List.drop 1) hr
    simpa [List.drop_drop]using this
   have hlt:=cH ha
   have hd:dl w (a::r)=1+w a+dl w r:=rfl
   have h1:=hs i a t ha (by omega)
   have h2:=hl a
   have:=ih (i+1) (t++e a) n hr2 (by omega) (by simp at hn; omega) (by rw[List.length_append]; omega)
   simp only[loopN,h1,this,List.flatMap_cons,List.append_assoc]
 exact key l 0 b n rfl (Nat.zero_le _) hn hB
theorem Da{α:Type}(w:α→Nat)(e:α→List Int)(h: ∀a,(e a).length≤40*(1+w a)): ∀l:List α,(l.flatMap e).length+40≤40*dl w l
 | []=>by simp [dl]
 | a::r=>by
  have:=h a
  have:=Da w e h r
  simp only[List.flatMap_cons,List.length_append,dl]; omega
def tO(x:aF):List Int:=uQ x.f0++(uQ x.f1++(zZ x.f2++uQ x.f3))
theorem EZ(x:aF):(tO x).length≤40*(1+iX x):=by
 have:=GA x
 have:=cR x.f0
 have:=cR x.f1
 have:=cR x.f3
 have:=qI x.f2
 simp only[tO,List.length_append]; omega
def BW(f:aG):List Int:=zZ f.f0++(uQ f.f1++(uQ f.f2++(uQ (f.f3.length:Int)++f.f3.flatMap tO)))
theorem Bv(x:aG):(BW x).length≤40*(1+wFn x):=by
 have:=FU x
 have:=cR x.f1
 have:=cR x.f2
 have:=cR (x.f3.length:Int)
 have:=qI x.f0
 have:=Da iX tO EZ x.f3
 simp only[BW,List.length_append]; omega
mutual
def mQ:aB→List Int
 | .mk a b s l=>uQ a++(uQ b++(zZ s++(uQ (l.length:Int)++sS l)))
def sS:List aB→List Int
 | []=> []
 | x::r=>mQ x++sS r
end
theorem CU: ∀l,sS l=l.flatMap mQ
 | []=>by simp [sS]
 | x::r=>by simp only[sS,CU r,List.flatMap_cons]
theorem FO(a:aB):mQ a=uQ a.f0++(uQ a.f1++(zZ a.f2++(uQ (a.f3.length:Int)++a.f3.flatMap mQ))):=by
 cases a; simp only[mQ,CU]; rfl
mutual
theorem qU: ∀a:aB,(mQ a).length≤40*(1+cS a)
 | .mk a b s l=>by
  have:=CV l
  have:=cR a
  have:=cR b
  have:=cR (l.length:Int)
  have:=qI s
  simp only[mQ,cS,List.length_append]; omega
theorem CV: ∀l:List aB,(sS l).length+40≤40*DK l
 | []=>by simp [sS,DK]
 | x::r=>by
  have:=qU x
  have:=CV r
  simp only[sS,DK,List.length_append]; omega
end
def lG(fs:List aG)(ps:List aB):List Int:=uQ (fs.length:Int)++(fs.flatMap BW++(uQ (ps.length:Int)++ps.flatMap mQ))
theorem MD: ∀(n:Nat),n≤1099511627776→ ∀(a:aB) (b:List Int),cS a+21<n→b.length+40*(1+cS a)≤400000000000→jO n b a.f0 a.f1 a.f2 a.f3=some (b++mQ a)
 | 0,_,a,b,h,_=>by omega
 | n+1,hn,a,b,h,hb=>by
  have ih:=MD n (by omega)
  have hw:=AQ a
  have hl:=bM cS a.f3
  have l0:=cR a.f0
  have l1:=cR a.f1
  have l3:=cR (a.f3.length:Int)
  have l2:=qI a.f2
  rw[yL,FO]
  unfold lU
  rw[dK n b a.f0 (by omega) (by omega),Option.bind_some,dK n _ a.f1 (by omega) (by simp only[List.length_append]; omega),Option.bind_some,Ex n _ a.f2 (by omega) (by simp only[List.length_append]; omega),Option.bind_some,dK n _ (a.f3.length:Int) (by omega) (by simp only[List.length_append]; omega),Option.bind_some]
  rw[Ac a.f3 cS mQ 400000000000 (fun i x t hx ht=>by
   have hi:=cH hx
   have hm:=eA cS (List.mem_of_getElem? hx)
   simp only[kZ,cW hx,cond_true,cQ,hx,Option.bind_some,ih x t (by omega) (by omega),aV (show i<4611686018427387904 by omega)]) qU (fun t=>by simp only[kZ,aQ,cond_false]) (by omega) _ (by simp only[List.length_append]; omega)]
  simp only[Option.bind_some,List.append_assoc]
theorem Rr(n:Nat)(hn:n≤1099511627776)(f:aG)(b:List Int)(h:dl iX f.f3+21<n)(hb:b.length+40*dl iX f.f3≤400000000000):loopN (gP n f) n (b,(0:Int))=some (b++f.f3.flatMap tO,(f.f3.length:Int),false):=by
 have hl:=bM iX f.f3
 refine Ac f.f3 iX tO 400000000000 (fun i x t hx ht=> ?_) EZ (fun t=>by simp only[gP,aQ,cond_false]) (by omega) b hb
 have hi:=cH hx
 have hm:=eA iX (List.mem_of_getElem? hx)
 have hw:=GA x
 have l0:=cR x.f0
 have l1:=cR x.f1
 have l2:=qI x.f2
 simp only[gP,cW hx,cond_true,cQ,hx,Option.bind_some]
 rw[dK n t x.f0 (by omega) (by omega),Option.bind_some,dK n _ x.f1 (by omega) (by simp only[List.length_append]; omega),Option.bind_some,Ex n _ x.f2 (by omega) (by simp only[List.length_append]; omega),Option.bind_some,dK n _ x.f3 (by omega) (by simp only[List.length_append]; omega),Option.bind_some]
 simp only[aV (show i<4611686018427387904 by omega),tO,List.append_assoc]
theorem KA(n:Nat)(hn:n≤1099511627776)(fs:List aG)(ps:List aB)(h:dl wFn fs+400<n)(h3:dl cS ps+400<n)(hs:40*dl wFn fs+40*dl cS ps≤300000000000):iS n fs ps=some (bif BZ fs ps&&ps.all (Cd 400)then lG fs ps else []):=by
 have hl:=bM wFn fs
 have hl2:=bM cS ps
 unfold iS
 rw[Di n hn fs ps (by omega) h3,KU n hn fs ps h3]
 have hg: ∀c:Bool,((some c:Option Bool).bind fun x=>bif !x then some true else(some (ps.all (Cd 400))).bind fun y=>some (!y))=some (!(c&&ps.all (Cd 400))):=fun c=>by cases c<;>rfl
 rw[hg,Option.bind_some]
 cases BZ fs ps&&ps.all (Cd 400)with
 | false=>rfl
 | true=>
  have l0:=cR (fs.length:Int)
  have l1:=cR (ps.length:Int)
  have e0:([]:List Int).length=0:=rfl
  have lf:=Da wFn BW Bv fs
  have lp:=Da cS mQ qU ps
  simp only[Bool.not_true,cond_false,cond_true]
  rw[dK n [] _ (by omega) (by omega),Option.bind_some,List.nil_append]
  rw[Ac fs wFn BW 400000000000 (fun i x t hx ht=>by
   have hi:=cH hx
   have hm:=eA wFn (List.mem_of_getElem? hx)
   have hw:=FU x
   have k0:=qI x.f0
   have k1:=cR x.f1
   have k2:=cR x.f2
   have k3:=cR (x.f3.length:Int)
   simp only[jY,cW hx,cond_true,cQ,hx,Option.bind_some]
   rw[Ex n t x.f0 (by omega) (by omega),Option.bind_some,dK n _ x.f1 (by omega) (by simp only[List.length_append]; omega),Option.bind_some,dK n _ x.f2 (by omega) (by simp only[List.length_append]; omega),Option.bind_some,dK n _ (x.f3.length:Int) (by omega) (by simp only[List.length_append]; omega),Option.bind_some,Rr n hn x _ (by omega) (by simp only[List.length_append]; omega),Option.bind_some]
   simp only[aV (show i<4611686018427387904 by omega),BW,List.append_assoc]) Bv (fun t=>by simp only[jY,aQ,cond_false]) (by omega) _ (by omega)]
  simp only[Option.bind_some]
  rw[dK n _ (ps.length:Int) (by omega) (by simp only[List.length_append]; omega),Option.bind_some]
  rw[Ac ps cS mQ 400000000000 (fun i x t hx ht=>by
   have hi:=cH hx
   have hm:=eA cS (List.mem_of_getElem? hx)
   simp only[jX,cW hx,cond_true,cQ,hx,Option.bind_some,MD n hn x t (by omega) (by omega),aV (show i<4611686018427387904 by omega)]) qU (fun t=>by simp only[jX,aQ,cond_false]) (by omega) _ (by simp only[List.length_append]; omega)]
  simp only[Option.bind_some,lG,List.append_assoc]
end Go.Own.Q
