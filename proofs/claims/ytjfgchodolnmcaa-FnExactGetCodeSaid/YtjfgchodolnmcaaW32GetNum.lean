/- A group of bits. No conditions. -/
import Derived.Test.YtjfgchodolnmcaaW32Enc
set_option linter.unusedVariables false
set_option linter.unusedSimpArgs false
set_option linter.unnecessarySimpa false
namespace Go.Own.Q
open Go Go.Proofs
theorem HE(n:Nat)(h:n<2 ^ 62):IntKind.wrap .u64 (n:Int)=n:=by
 have e:IntKind.wrap .u64 (n:Int)=(n:Int) % 18446744073709551616:=rfl
 rw[e]; omega
theorem Ky{i:Nat}(hi:i<6):2 ^ (7*i)≤2 ^ 35:=Nat.pow_le_pow_right (by omega) (by omega)
theorem grp(acc i e:Nat)(hi:i<6)(he:e<256)(ha:acc<2 ^ (7*i)):bits .or .i64 (acc:Int) (IntKind.wrap .i64 ((bits .and .i64 (IntKind.wrap .i64 (e:Int)) (127:Int))*2 ^ min (Int.toNat (IntKind.wrap .u64 (IntKind.wrap .i64 ((7:Int)*(i:Int))))) 64))=((acc+(e % 128)*2 ^ (7*i):Nat):Int):=by
 have hp:=Ky hi
 have h1:IntKind.wrap .i64 ((7:Int)*(i:Int))=((7*i:Nat):Int):=by
  rw[wrap_i64 (by omega) (by omega)]; omega
 have h2:IntKind.wrap .i64 (e:Int)=(e:Int):=wrap_i64 (by omega) (by omega)
 have hm:e % 128<128:=Nat.mod_lt _ (by omega)
 have hmul:(e % 128)*2 ^ (7*i)≤128*2 ^ 35:=Nat.mul_le_mul (by omega) hp
 rw[h1,HE _ (by omega),Int.toNat_natCast,Nat.min_eq_left (by omega),h2,Oo e (by omega)]
 have h3:((e % 128:Nat):Int)*2 ^ (7*i)=(((e % 128)*2 ^ (7*i):Nat):Int):=by
  rw[Int.natCast_mul,Int.natCast_pow]; rfl
 rw[h3,wrap_i64 (by omega) (by omega)]
 exact SZ acc (e % 128) (7*i) ha (by omega)
def fA(x:Nat):Int:=if x % 2=1 then -(((x+1) / 2:Nat):Int)else((x / 2:Nat):Int)
def okR(v:Int):Bool:=decide (-1000000000000≤v)&&decide (v≤1000000000000)
/-- The value of the groups that are left, and how many bytes they are. -/
def IR:Nat→Nat→Nat→List Int→Option (Nat×Nat)
 | 0,_,_,_=>none
 | _+1,_,_,[]=>none
 | k+1,i,acc,e::r=>bif decide (128≤e)then(IR k (i+1) (acc+(e.toNat % 128)*2 ^ (7*i)) r).map fun p=>(p.1,p.2+1)
  else bif decide (e=0)&&decide (0<i)then none else some (acc+(e.toNat % 128)*2 ^ (7*i),1)
def IN(at':Nat):Option (Nat×Nat)→Int×Int×Bool
 | some (x,c)=>bif okR (fA x)then(fA x,((at'+c:Nat):Int),true)else(0,0,false)
 | none=>(0,0,false)
theorem If(at':Nat)(o:Option (Nat×Nat)):IN at' (o.map fun p=>(p.1,p.2+1))=IN (at'+1) o:=by
 cases o with
 | none=>rfl
 | some p=>
  obtain⟨x,c⟩:=p
  simp only[Option.map_some,IN]
  rw[show at'+(c+1)=at'+1+c by omega]
theorem odd_i{x:Nat}(h:x<2 ^ 50)(ho:x % 2=1):IntKind.wrap .i64 (Int.tdiv (IntKind.wrap .i64 (0 - (IntKind.wrap .i64 ((x:Int)+(1:Int))))) (2:Int))=fA x:=by
 rw[wrap_i64 (n:=(x:Int)+1) (by omega) (by omega),wrap_i64 (n:=0 - ((x:Int)+1)) (by omega) (by omega)]
 have e:Int.tdiv (0 - ((x:Int)+1)) 2=fA x:=by
  unfold fA
  rw[if_pos ho,show(0:Int) - ((x:Int)+1)= -(((x+1:Nat)):Int)by omega,Int.neg_tdiv,Int.tdiv_eq_ediv_of_nonneg (by omega)]
  omega
 rw[e]
 refine wrap_i64 ?_ ?_<;>(unfold fA; rw[if_pos ho]; omega)
theorem TY{x:Nat}(h:x<2 ^ 50)(ho: ¬ x % 2=1):IntKind.wrap .i64 (Int.tdiv (x:Int) (2:Int))=fA x:=by
 have e:Int.tdiv (x:Int) 2=fA x:=by
  unfold fA
  rw[if_neg ho,Int.tdiv_eq_ediv_of_nonneg (by omega)]
  omega
 rw[e]
 refine wrap_i64 ?_ ?_<;>(unfold fA; rw[if_neg ho]; omega)
theorem tmod2(x:Nat):decide (Int.tmod (x:Int) 2=1)=decide (x % 2=1):=decide_eq_decide.2 (by rw[Int.tmod_eq_emod_of_nonneg (by omega)]; omega)
theorem Ot{acc i e k:Nat}(hk:k+1+i=6)(ha:acc<2 ^ (7*i)):acc+(e % 128)*2 ^ (7*i)<2 ^ (7*(i+1))∧acc+(e % 128)*2 ^ (7*i)<2 ^ 50:=by
 have hp:=Ky (i:=i) (by omega)
 have e1:2 ^ (7*(i+1))=128*2 ^ (7*i):=by rw[show 7*(i+1)=7*i+7 by omega,Nat.pow_add]; omega
 have hm:e % 128<128:=Nat.mod_lt _ (by omega)
 have hmul:(e % 128)*2 ^ (7*i)≤127*2 ^ (7*i):=Nat.mul_le_mul_right _ (by omega)
 omega
def finG:(Int×Int×Bool)⊕(Int×Int×Int×Bool)→Int×Int×Bool
 | .inl t=>t
 | .inr _=>(0,0,false)
theorem LW(n:Nat)(l:List Int)(hl:l.length<1099511627776)(hb: ∀x∈l,0≤x∧x<256): ∀(k i acc at' m:Nat),k+i=6→acc<2 ^ (7*i)→at'≤l.length→k<m→ ∃q,loopN (eE n l) m ((at':Int),(acc:Int),(i:Int))=some q∧finG q=IN at' (IR k i acc (l.drop at'))
 | 0,i,acc,at',m,hk,ha,hat,hm=>by
  obtain⟨m,rfl⟩: ∃q,m=q+1:=⟨m - 1,by omega⟩
  refine⟨.inr ((at':Int),(acc:Int),(i:Int),false), ?_,rfl⟩
  simp only[loopN,eE,decide_eq_false (show ¬ (i:Int)<6 by omega),cond_false,Option.bind_some]
 | k+1,i,acc,at',m,hk,ha,hat,hm=>by
  obtain⟨m,rfl⟩: ∃q,m=q+1:=⟨m - 1,by omega⟩
  by_cases hlt:at'<l.length
  ·have hx:l[at']? =some l[at']:=List.getElem?_eq_getElem hlt
   have hmem:=hb l[at'] (List.getElem_mem hlt)
   have hd:l.drop at'=l[at']::l.drop (at'+1):=List.drop_eq_getElem_cons hlt
   rw[hd]
   generalize l[at']=e at hx hmem
   obtain⟨e,rfl⟩: ∃e':Nat,e=e':=⟨e.toNat,by omega⟩
   have hg:=grp acc i e (by omega) (by omega) ha
   have hw:IntKind.wrap .i64 (e:Int)=(e:Int):=wrap_i64 (by omega) (by omega)
   rw[hw]at hg
   have h7:IntKind.wrap .i64 ((7:Int)*(i:Int))=((7*i:Nat):Int):=by
    rw[wrap_i64 (by omega) (by omega)]; omega
   obtain⟨q1,q2⟩:=Ot (e:=e) hk ha
   have ih:=LW n l hl hb k (i+1) (acc+(e % 128)*2 ^ (7*i)) (at'+1) m (by omega) q1 hlt (by omega)
   have hnn:decide ((0:Int)≤IntKind.wrap .u64 (IntKind.wrap .i64 ((7:Int)*(i:Int))))=true:=by
    rw[h7,HE _ (by omega)]; exact decide_eq_true (by omega)
   simp only[loopN,eE,decide_eq_true (show(i:Int)<6 by omega),decide_eq_true (show(at':Int)<(l.length:Int)by omega),cond_true,Option.bind_some,bI,hx,hnn,ck,hg,hw,IR,Int.toNat_natCast]
   generalize hX:acc+(e % 128)*2 ^ (7*i)=X at*
   by_cases h128:(128:Int)≤(e:Int)
   ·rw[decide_eq_true h128]
    simp only[cond_true,aI (show at'<4611686018427387904 by omega),aI (show i<4611686018427387904 by omega)]
    rw[If]
    exact ih
   ·rw[decide_eq_false h128,tmod2,show decide ((0:Int)<(i:Int))=decide (0<i)from decide_eq_decide.2 (by omega)]
    simp only[cond_false,gI,Option.bind_some,aI (show at'<4611686018427387904 by omega)]
    by_cases ho:X % 2=1
    ·rw[decide_eq_true ho,odd_i q2 ho]
     have hr:(decide (-1000000000000≤fA X)&&decide (fA X≤1000000000000))=okR (fA X):=rfl
     rw[hr]
     simp only[cond_true]
     cases decide ((e:Int)=0)<;>cases decide (0<i)<;>simp only[cond_true,cond_false,Bool.and_true,Bool.and_false,Bool.true_and,Bool.false_and,Option.bind_some,IN]<;>cases okR (fA X)<;>exact⟨_,rfl,rfl⟩
    ·rw[decide_eq_false ho,TY q2 ho]
     have hr:(decide (-1000000000000≤fA X)&&decide (fA X≤1000000000000))=okR (fA X):=rfl
     rw[hr]
     simp only[cond_false]
     cases decide ((e:Int)=0)<;>cases decide (0<i)<;>simp only[cond_true,cond_false,Bool.and_true,Bool.and_false,Bool.true_and,Bool.false_and,Option.bind_some,IN]<;>cases okR (fA X)<;>exact⟨_,rfl,rfl⟩
  ·have:at'=l.length:=by omega
   subst this
   refine⟨.inr ((l.length:Int),(acc:Int),(i:Int),false), ?_, ?_⟩
   ·simp only[loopN,eE,decide_eq_true (show(i:Int)<6 by omega),aK,cond_true,cond_false,Option.bind_some]
   ·rw[List.drop_length]; rfl
theorem Sd(x:Nat):Int.fdiv (x:Int) (2 ^ 1)=((x / 2:Nat):Int):=by
 have e:(2:Int) ^ 1=2:=by decide
 rw[e,Int.fdiv_eq_ediv_of_nonneg _ (by omega)]; omega
theorem odd_s{x:Nat}(h:x<2 ^ 50)(ho:x % 2=1):IntKind.wrap .i64 (IntKind.wrap .i64 (0 - (Int.fdiv (x:Int) (2 ^ 1))) - (1:Int))=fA x:=by
 rw[Sd,wrap_i64 (n:=0 - ((x / 2:Nat):Int)) (by omega) (by omega),wrap_i64 (by omega) (by omega)]
 unfold fA
 rw[if_pos ho]; omega
theorem TX{x:Nat}(ho: ¬ x % 2=1):Int.fdiv (x:Int) (2 ^ 1)=fA x:=by
 rw[Sd]; unfold fA; rw[if_neg ho]
def finH:(Int×Int×Bool)⊕(Int×Int×Bool)→Int×Int×Bool
 | .inl t=>t
 | .inr _=>(0,0,false)
theorem Kn(n:Nat)(l:List Int)(hl:l.length<1099511627776)(hb: ∀x∈l,0≤x∧x<256)(a0:Nat): ∀(k i acc m:Nat),k+i=6→acc<2 ^ (7*i)→a0+i≤l.length→k<m→ ∃q,loopN (eC n l (a0:Int)) m ((acc:Int),(i:Int))=some q∧finH q=IN (a0+i) (IR k i acc (l.drop (a0+i)))
 | 0,i,acc,m,hk,ha,hat,hm=>by
  obtain⟨m,rfl⟩: ∃q,m=q+1:=⟨m - 1,by omega⟩
  refine⟨.inr ((acc:Int),(i:Int),false), ?_,rfl⟩
  simp only[loopN,eC,decide_eq_false (show ¬ (i:Int)<6 by omega),cond_false,Option.bind_some]
 | k+1,i,acc,m,hk,ha,hat,hm=>by
  obtain⟨m,rfl⟩: ∃q,m=q+1:=⟨m - 1,by omega⟩
  have hai:IntKind.wrap .i64 ((a0:Int)+(i:Int))=((a0+i:Nat):Int):=by
   rw[wrap_i64 (by omega) (by omega)]; omega
  by_cases hlt:a0+i<l.length
  ·have hx:l[a0+i]? =some l[a0+i]:=List.getElem?_eq_getElem hlt
   have hmem:=hb l[a0+i] (List.getElem_mem hlt)
   have hd:l.drop (a0+i)=l[a0+i]::l.drop (a0+i+1):=List.drop_eq_getElem_cons hlt
   rw[hd]
   generalize l[a0+i]=e at hx hmem
   obtain⟨e,rfl⟩: ∃e':Nat,e=e':=⟨e.toNat,by omega⟩
   have hg:=grp acc i e (by omega) (by omega) ha
   have hw:IntKind.wrap .i64 (e:Int)=(e:Int):=wrap_i64 (by omega) (by omega)
   rw[hw]at hg
   have h7:IntKind.wrap .i64 ((7:Int)*(i:Int))=((7*i:Nat):Int):=by
    rw[wrap_i64 (by omega) (by omega)]; omega
   obtain⟨q1,q2⟩:=Ot (e:=e) hk ha
   have ih:=Kn n l hl hb a0 k (i+1) (acc+(e % 128)*2 ^ (7*i)) m (by omega) q1 (by omega) (by omega)
   have hnn:decide ((0:Int)≤IntKind.wrap .u64 (IntKind.wrap .i64 ((7:Int)*(i:Int))))=true:=by
    rw[h7,HE _ (by omega)]; exact decide_eq_true (by omega)
   simp only[loopN,eC,decide_eq_true (show(i:Int)<6 by omega),decide_eq_true (show(0:Int)≤(a0:Int)by omega),decide_eq_true (show(a0:Int)<(l.length:Int)by omega),hai,decide_eq_true (show((a0+i:Nat):Int)<(l.length:Int)by omega),cond_true,Option.bind_some,bI,hx,hnn,ck,hg,hw,IR,Int.toNat_natCast]
   generalize hX:acc+(e % 128)*2 ^ (7*i)=X at*
   by_cases h128:(128:Int)≤(e:Int)
   ·rw[decide_eq_true h128,decide_eq_true (show(127:Int)<(e:Int)by omega)]
    simp only[cond_true,aI (show i<4611686018427387904 by omega)]
    rw[If]
    exact ih
   ·rw[decide_eq_false h128,decide_eq_false (show ¬ (127:Int)<(e:Int)by omega),and1 X (by omega),show decide (((X % 2:Nat):Int)=1)=decide (X % 2=1)from decide_eq_decide.2 (by omega),show decide ((0:Int)<(i:Int))=decide (0<i)from decide_eq_decide.2 (by omega)]
    simp only[cond_false,pZ,Option.bind_some,aI (show a0+i<4611686018427387904 by omega)]
    by_cases ho:X % 2=1
    ·rw[decide_eq_true ho,odd_s q2 ho]
     have hr:(decide (-1000000000000≤fA X)&&decide (fA X≤1000000000000))=okR (fA X):=rfl
     rw[hr]
     simp only[cond_true]
     cases decide ((e:Int)=0)<;>cases decide (0<i)<;>simp only[cond_true,cond_false,Bool.and_true,Bool.and_false,Bool.true_and,Bool.false_and,Option.bind_some,IN]<;>cases okR (fA X)<;>exact⟨_,rfl,rfl⟩
    ·rw[decide_eq_false ho,TX ho]
     have hr:(decide (-1000000000000≤fA X)&&decide (fA X≤1000000000000))=okR (fA X):=rfl
     rw[hr]
     simp only[cond_false]
     cases decide ((e:Int)=0)<;>cases decide (0<i)<;>simp only[cond_true,cond_false,Bool.and_true,Bool.and_false,Bool.true_and,Bool.false_and,Option.bind_some,IN]<;>cases okR (fA X)<;>exact⟨_,rfl,rfl⟩
  ·have hal:a0+i=l.length:=by omega
   refine⟨.inr ((acc:Int),(i:Int),false), ?_, ?_⟩
   ·simp only[loopN,eC,decide_eq_true (show(i:Int)<6 by omega),decide_eq_true (show(0:Int)≤(a0:Int)by omega),hai,decide_eq_false (show ¬ ((a0+i:Nat):Int)<(l.length:Int)by omega),cond_true,Option.bind_some]
    cases decide ((a0:Int)<(l.length:Int))<;>rfl
   ·rw[hal,List.drop_length]; rfl
/-- A number out of bytes. -/
def Bn(l:List Int)(at':Nat):Int×Int×Bool:=IN at' (IR 6 0 0 (l.drop at'))
theorem iW(n:Nat)(l:List Int)(hn:10<n)(hl:l.length<1099511627776)(hb: ∀x∈l,0≤x∧x<256)(at':Nat)(hat:at'≤l.length):jM n l (at':Int)=some (Bn l at'):=by
 unfold jM Bn
 rw[gI,Option.bind_some]
 by_cases h:at'<l.length
 ·have hw:IntKind.wrap .i64 ((l.length:Int) - 1)=(l.length:Int) - 1:=wrap_i64 (by omega) (by omega)
  rw[hw,decide_eq_true (show(0:Int)≤(at':Int)by omega),decide_eq_true (show(at':Int)≤(l.length:Int) - 1 by omega)]
  obtain⟨q,q1,q2⟩:=LW n l hl hb 6 0 0 at' n rfl (by omega) hat (by omega)
  have q1:loopN (eE n l) n ((at':Int),(0:Int),(0:Int))=some q:=q1
  simp only[Bool.and_self,Bool.not_true,cond_false,q1,Option.bind_some]
  rw[←q2]
  cases q<;>rfl
 ·have hal:at'=l.length:=by omega
  have hf:(decide ((0:Int)≤(at':Int))&&decide ((at':Int)≤IntKind.wrap .i64 ((l.length:Int) - 1)))=false:=by
   rw[wrap_i64 (by omega) (by omega),decide_eq_false (show ¬ (at':Int)≤(l.length:Int) - 1 by omega),Bool.and_false]
  rw[hf,hal,List.drop_length]; rfl
theorem tX(n:Nat)(l:List Int)(hn:10<n)(hl:l.length<1099511627776)(hb: ∀x∈l,0≤x∧x<256)(at':Nat)(hat:at'≤l.length):jL n l (at':Int)=some (Bn l at'):=by
 unfold jL Bn
 obtain⟨q,q1,q2⟩:=Kn n l hl hb at' 6 0 0 n rfl (by omega) (by omega) (by omega)
 have q1:loopN (eC n l (at':Int)) n ((0:Int),(0:Int))=some q:=q1
 rw[q1,Option.bind_some]
 rw[Nat.add_zero]at q2
 rw[←q2]
 cases q<;>rfl
end Go.Own.Q
