/- When a pattern by slots fits: the program's answer, in plain Lean. No conditions. -/
import Derived.Test.YtgeomhdbckjkcaaW24PatFits
set_option linter.unusedVariables false
set_option linter.unusedSimpArgs false
set_option linter.unnecessarySimpa false
namespace Go.Own.Q
open Go Go.Proofs

def frI:List Int→List Int→Bool
 | _,[]=>true
 | P,v::r=> !(decide (0≤v)&&decide (v∈P))&&frI (P++[v]) r
theorem MV: ∀(V W P:List Int),frI P (V++W)=(frI P V&&frI (P++V) W)
 | [],W,P=>by simp [frI]
 | v::V,W,P=>by
  simp only[List.cons_append,frI,MV V W (P++[v]),List.append_assoc,Bool.and_assoc,List.nil_append]
def Dd(l:List Int):List Int:=l.filter fun v=>decide (0≤v)
theorem wV(a b:List Int):Dd (a++b)=Dd a++Dd b:=List.filter_append ..
theorem IN: ∀(V P:List Int),(Dd P).Nodup→(frI P V=true↔(Dd (P++V)).Nodup)
 | [],P,h=>by simp [frI,h]
 | v::V,P,h=>by
  have e:P++v::V=(P++[v])++V:=by simp
  rw[e]
  unfold frI
  by_cases hv:0≤v
  ·have ep:Dd [v]=[v]:=by simp [Dd,hv]
   rw[decide_eq_true hv,Bool.true_and]
   have hm:v∈Dd P↔v∈P:=by simp [Dd,hv]
   by_cases hin:v∈P
   ·rw[decide_eq_true hin]
    refine⟨fun h=>by simp at h,fun h2=> ?_⟩
    rw[wV,wV,ep]at h2
    have:=(List.nodup_append.1 (List.nodup_append.1 h2).1).2.2 v (hm.2 hin) v (by simp)
    exact absurd rfl this
   ·rw[decide_eq_false hin,Bool.not_false,Bool.true_and]
    refine IN V _ ?_
    rw[wV,ep,List.nodup_append]
    exact⟨h,by simp,fun a ha b hb=>by simp only[List.mem_singleton]at hb; subst hb; exact fun e=>hin (hm.1 (e ▸ ha))⟩
  ·have ep:Dd [v]=[]:=by simp [Dd,hv]
   rw[decide_eq_false hv,Bool.false_and,Bool.not_false,Bool.true_and]
   refine IN V _ ?_
   rw[wV,ep,List.append_nil]; exact h
theorem RQ: ∀(a b:List aB),pvs (a++b)=pvs a++pvs b
 | [],b=>rfl
 | x::r,b=>by simp only[List.cons_append,pvs,RQ r b,List.append_assoc]
/-- Slots of a pattern that is right: those of its names that have one. -/
theorem QH: ∀(d:Nat) (sl:Int) (a:aB),pok d sl a=true→s9 a=Dd (pv a)
 | 0,sl,a,h=>by cases h
 | d+1,sl,a,h=>by
  have ih:=QH d sl
  have hx:pok (d+1) sl a=(Nl sl a.f0 a.f1 a.f2 a.f3.length&&a.f3.all (pok d sl)):=rfl
  rw[hx,Bool.and_eq_true]at h
  obtain⟨h1,h2⟩:=h
  rw[s9_e,pv_e]
  have hk: ∀l:List aB,l.all (pok d sl)=true→s9s l=Dd (pvs l):=by
   intro l
   induction l with
   | nil=>intro _; rfl
   | cons x r ihr=>
    intro h
    simp only[List.all_cons,Bool.and_eq_true]at h
    simp only[s9s,pvs,ih x h.1,ihr h.2,wV]
  unfold Nl at h1
  by_cases h3:a.f0=3
  ·rw[decide_eq_true h3]at h1 ⊢
   simp only[cond_true,Bool.and_eq_true,decide_eq_true_eq]at h1
   have hne:a.f3=[]:=by
    cases hx:a.f3 with
    | nil=>rfl
    | cons x r=>have:=h1.2.1; rw[hx]at this; simp only[List.length_cons]at this; omega
   rw[hne]
   by_cases hm:a.f1= -1
   ·rw[decide_eq_true hm]; simp [s9s,Dd,hm]
   ·rw[decide_eq_false hm]
    have:0≤a.f1:=by have:=h1.2.2.1; omega
    simp [s9s,Dd,this]
  ·rw[decide_eq_false h3]
   simp only[Bool.false_and,cond_false,List.nil_append]
   exact hk _ h2
abbrev PS:=Int×List Int
def OZ(d:Nat)(sl:Int)(t:PS)(a:aB):PS⊕Unit:=bif pok d sl a&&(decide (t.1+wG a≤300)&&frI t.2 (pv a))then .inl (t.1+wG a,t.2++pv a)else .inr ()
theorem Jv(d:Nat)(sl:Int): ∀(l:List aB) (t:PS),t.1≤300→vC (OZ d sl) l t=bif l.all (pok d sl)&&(decide (t.1+pQ l≤300)&&frI t.2 (pvs l))then .inl (t.1+pQ l,t.2++pvs l)else .inr ()
 | [],t,h=>by
  have e:decide (t.1+((pQ []:Nat):Int)≤300)=true:=decide_eq_true (by simp only[pQ]; omega)
  rw[e]
  simp [vC,pvs,frI,pQ]
 | a::r,t,h=>by
  simp only[vC]
  have e1:pQ (a::r)=wG a+pQ r:=by simp only[pQ]
  have e2:pvs (a::r)=pv a++pvs r:=by simp only[pvs]
  rw[e1,e2,MV,List.all_cons]
  by_cases q:(pok d sl a&&(decide (t.1+wG a≤300)&&frI t.2 (pv a)))=true
  ·have e3:OZ d sl t a= .inl (t.1+wG a,t.2++pv a):=by unfold OZ; rw[q]; rfl
   simp only[Bool.and_eq_true,decide_eq_true_eq]at q
   obtain⟨q1,q2,q3⟩:=q
   rw[e3,q1,q3,Bool.true_and,Bool.true_and]
   simp only
   rw[Jv d sl r _ q2]
   simp only
   rw[show t.1+((wG a+pQ r:Nat):Int)=t.1+wG a+pQ r by omega,List.append_assoc]
  ·have e3:OZ d sl t a= .inr ():=by unfold OZ; rw[Bool.not_eq_true]at q; rw[q]; rfl
   rw[e3]
   simp only
   cases h1:pok d sl a with
   | false=>rfl
   | true=>
    rw[h1,Bool.true_and]at q
    cases h3:frI t.2 (pv a)with
    | false=>cases r.all (pok d sl)<;>simp
    | true=>
     rw[h3,Bool.and_true,decide_eq_true_eq]at q
     rw[decide_eq_false (show ¬ t.1+((wG a+pQ r:Nat):Int)≤300 by omega)]
     cases r.all (pok d sl)<;>rfl
theorem NX(n:Nat)(l:List Int)(s:Int)(hn:l.length<n)(h2:n<4611686018427387904):fG n l s=some (Ht (fun a=>decide (s=a)) 0 l):=by
 unfold fG
 have e:=Bn (body:=dQ n l s) l (fun a=>decide (s=a)) (fun i=>(i:Int)) (fun i=>Sum.inl (i:Int)) (Sum.inr ((l.length:Int),false)) (fun i a ha=>by
  have hi:=cH ha
  simp only[dQ,cW ha,cond_true,cQ,ha,Option.bind_some,aV (show i<4611686018427387904 by omega)]
  cases decide (s=a)<;>rfl) (by simp only[dQ,aQ,cond_false]) hn
 refine(congrArg (fun q=>Option.bind q _) e).trans ?_
 rcases tG (fun a=>decide (s=a)) l 0 with⟨h,_⟩ | ⟨k,a,h,_⟩
 ·rw[h]; rfl
 ·rw[h,decide_eq_false (by omega)]
  simp only[Option.bind_some,cond_false,Int.toNat_natCast]
theorem Hd(n:Nat)(l:List Int)(s:Int)(hn:l.length<n)(h2:n<4611686018427387904):dR n l s=some (decide (s∈l)):=by
 unfold dR
 rw[NX n l s hn h2]
 simp only[Option.bind_some,Option.some.injEq]
 rcases tG (fun a=>decide (s=a)) l 0 with⟨h,h1⟩ | ⟨k,a,h,h1,h3,_⟩
 ·rw[h,decide_eq_false (by omega),decide_eq_false (fun hm=>by have:=h1 s hm; simp at this)]
 ·simp only[decide_eq_true_eq]at h3
  subst h3
  rw[h,decide_eq_true (by omega),decide_eq_true (List.mem_of_getElem? h1)]
def fJ(b:Bool)(sl c:Int)(ns:List Int)(r:Bool×Int×Int×List Int):Prop:=r.1=b∧(b=true→r.2=(sl,c,ns))
theorem MY: ∀(n:Nat),n≤1099511627776→ ∀(a:aB) (d:Nat) (sl c:Int) (ns:List Int),0≤sl→sl≤400→d≤10→0≤c→c≤300→(ns.length:Int)≤c→cS a+400<n→ ∃r,cE n a.f0 a.f1 a.f2 a.f3 (11 - (d:Int)) sl c ns=some r∧fJ (pok d sl a&&(decide (c+wG a≤300)&&frI ns (pv a))) sl (c+wG a) (ns++pv a) r
 | 0,_,a,d,sl,c,ns,s0,s1,hd,c0,c1,hns,h=>by omega
 | n+1,hn,a,d,sl,c,ns,s0,s1,hd,c0,c1,hns,h=>by
  have ih:=MY n (by omega)
  rw[rV]
  unfold fZ
  rw[AQ]at h
  have hl:=bM cS a.f3
  have hp:=Ux a
  have hv:=pv_e a
  rw[KO n _ _ _ _ (by omega) (by omega),wrap_i64 (n:=c+1) (by omega) (by omega),wrap_i64 (n:=sl - 1) (by omega) (by omega),lF]
  cases d with
  | zero=>
   rw[decide_eq_true (show(10:Int)<11 - ((0:Nat):Int)by omega)]
   exact⟨_,rfl,rfl,fun h=>by cases h⟩
  | succ d=>
   rw[decide_eq_false (show ¬ (10:Int)<11 - ((d+1:Nat):Int)by omega)]
   have hx:pok (d+1) sl a=(Nl sl a.f0 a.f1 a.f2 a.f3.length&&a.f3.all (pok d sl)):=rfl
   rw[hx]
   by_cases ht:300<c+1
   ·rw[decide_eq_true ht,decide_eq_false (show ¬ c+(wG a:Int)≤300 by omega)]
    refine⟨_,rfl, ?_, ?_⟩<;>cases Nl sl a.f0 a.f1 a.f2 a.f3.length<;>cases a.f3.all (pok d sl)<;>simp
   rw[decide_eq_false ht]
   simp only[cond_false,Option.bind_some]
   unfold Nl
   by_cases h3:a.f0=3
   ·rw[decide_eq_true h3]at hv ⊢
    simp only[cond_true]at hv ⊢
    rw[hv]
    have hz: ∀r,r∈a.f3→ ¬ (a.f3.length:Int)=0:=fun r hr h0=>by
     have:a.f3=[]:=List.length_eq_zero_iff.1 (by omega)
     rw[this]at hr; simp at hr
    generalize hs1:decide (a.f2=[])=z1
    cases hr1:(decide (-1≤a.f1)&&decide (a.f1≤sl - 1))with
    | false=>
     refine⟨_,rfl, ?_,fun h=> ?_⟩
     ·cases z1<;>cases decide ((a.f3.length:Int)=0)<;>rfl
     ·revert h; cases z1<;>cases decide ((a.f3.length:Int)=0)<;>simp
    | true=>
    cases z1 with
    | false=>exact⟨_,rfl,rfl,fun h=>by cases h⟩
    | true=>
    by_cases h0:(a.f3.length:Int)=0
    ·have hne:a.f3=[]:=List.length_eq_zero_iff.1 (by omega)
     rw[decide_eq_true h0,decide_eq_false (show ¬ (0:Int)<(a.f3.length:Int)by omega)]
     simp only[Bool.not_true,cond_false,Bool.true_and,hne,List.all_nil,Option.bind_some,Bool.not_false]
     have hpc:wG a=1:=by rw[hp,hne]; rfl
     rw[hpc]
     have hcnt:decide (c+((1:Nat):Int)≤300)=true:=decide_eq_true (by omega)
     rw[hcnt,Bool.true_and]
     rw[Hd n ns a.f1 (by omega) (by omega)]
     have hap:fQ 8 ns [a.f1]=some (ns++[a.f1]):=vA (by simp only[List.length_singleton]; omega) (by simp only[List.length_singleton,maxLen]; omega)
     rw[hap]
     have ef:frI ns [a.f1]= !(decide (0≤a.f1)&&decide (a.f1∈ns)):=by simp [frI]
     rw[ef]
     cases decide (0≤a.f1)<;>cases decide (a.f1∈ns)<;>first | exact⟨_,rfl,rfl,fun _=>rfl⟩ | exact⟨_,rfl,rfl,fun h=>by cases h⟩
    ·rw[decide_eq_false h0,decide_eq_true (show(0:Int)<(a.f3.length:Int)by omega)]
     exact⟨_,rfl,rfl,fun h=>by cases h⟩
   ·rw[decide_eq_false h3]at hv ⊢
    simp only[cond_false]at hv ⊢
    rw[hv]
    cases h6:decide (6<a.f0)with
    | true=>exact⟨_,rfl,rfl,fun h=>by cases h⟩
    | false=>
    cases hs:BG a.f0 a.f1 a.f2 a.f3.length with
    | false=>exact⟨_,rfl,rfl,fun h=>by cases h⟩
    | true=>
    simp only[cond_false,Option.bind_some,Bool.not_true,Bool.not_false,Bool.true_and]
    generalize wG a=q at hp ⊢
    generalize a.f3=l at h hl hp ⊢
    have e1:IntKind.wrap .i64 (11 - ((d+1:Nat):Int)+1)=11 - (d:Int):=by rw[wrap_i64 (by omega) (by omega)]; omega
    obtain⟨x,x1,x2⟩:=KW (body:=cX n (cE n) (11 - ((d+1:Nat):Int)) l) l (OZ d sl) (fun t i=>((i:Int),sl,t.1,t.2)) (fun t=> .inr ((l.length:Int),false,sl,t.1,t.2)) (fun _ x=> ∃u,x= .inl (false,u)) (fun t=>0≤t.1∧t.1≤300∧(t.2.length:Int)≤t.1) (fun i b t hb ht=>by
     have hi:=cH hb
     have hm:=eA cS (List.mem_of_getElem? hb)
     obtain⟨⟨rb,rs,rc,rn⟩,r1,r2,r3⟩:=ih b d sl t.1 t.2 s0 s1 (by omega) ht.1 ht.2.1 ht.2.2 (by omega)
     simp only at r2 r3
     simp only[cX,cW hb,cond_true,cQ,hb,Option.bind_some,e1,r1,aV (show i<4611686018427387904 by omega)]
     rw[r2]
     unfold OZ
     by_cases hz:(pok d sl b&&(decide (t.1+wG b≤300)&&frI t.2 (pv b)))=true
     ·left
      have r4:=r3 hz
      simp only[Prod.mk.injEq]at r4
      obtain⟨rfl,rfl,rfl⟩:=r4
      rw[hz]
      simp only[Bool.and_eq_true,decide_eq_true_eq]at hz
      have hvc:=QJ b
      refine⟨_,rfl,⟨?_,hz.2.1, ?_⟩,rfl⟩
      ·show 0≤t.1+(wG b:Int); omega
      ·show((t.2++pv b).length:Int)≤t.1+(wG b:Int)
       rw[List.length_append]; omega
     ·right
      rw[Bool.not_eq_true]at hz
      rw[hz]
      exact⟨(),_,rfl,rfl,_,rfl⟩) (fun t _=>by simp only[cX,aQ,cond_false]) (n:=n) (by omega) (t0:=(c+1,ns)) ⟨by show 0≤c+1; omega,by show c+1≤300; omega,by show(ns.length:Int)≤c+1; omega⟩
    have x1:loopN (cX n (cE n) (11 - ((d+1:Nat):Int)) l) n ((0:Int),sl,c+1,ns)=some x:=x1
    rw[x1]
    rw[Jv d sl l (c+1,ns) (by show c+1≤300; omega)]at x2
    simp only at x2
    rw[show c+1+((pQ l:Nat):Int)=c+(q:Int)by omega]at x2
    cases hz:(l.all (pok d sl)&&(decide (c+(q:Int)≤300)&&frI ns (pvs l)))with
    | true=>
     rw[hz]at x2
     simp only[cond_true]at x2
     subst x2
     exact⟨_,rfl,rfl,fun _=>rfl⟩
    | false=>
     rw[hz]at x2
     simp only[cond_false]at x2
     obtain⟨⟨u,v,w⟩,rfl⟩:=x2
     exact⟨_,rfl,rfl,fun h=>by cases h⟩
theorem tU(n:Nat)(hn:n≤1099511627776)(a:aB)(sl:Int)(h:cS a+400<n):gG n a.f0 a.f1 a.f2 a.f3 sl=some (Cd sl a):=by
 unfold gG Cd
 rw[lF,Option.bind_some]
 by_cases hr:0≤sl∧sl≤400
 ·obtain⟨r,r1,r2,r3⟩:=MY n hn a 10 sl 0 [] hr.1 hr.2 (by omega) (by omega) (by omega) (by simp) h
  have r1:cE n a.f0 a.f1 a.f2 a.f3 (1:Int) sl 0 []=some r:=r1
  rw[decide_eq_true hr.1,decide_eq_true hr.2,r1]
  simp only[Bool.and_self,cond_true,Option.bind_some,Option.some.injEq,Bool.true_and]
  rw[r2,Int.zero_add,Bool.and_assoc]
  cases hp:pok 10 sl a with
  | false=>rfl
  | true=>
   congr 2
   rw[Bool.eq_iff_iff,IN _ _ (by simp [Dd]),My,List.nil_append,QH 10 sl a hp]
 ·have e:(decide (0≤sl)&&decide (sl≤400))=false:=by
   by_cases a:0≤sl
   ·rw[decide_eq_false (show ¬ sl≤400 from fun b=>hr ⟨a,b⟩),Bool.and_false]
   ·rw[decide_eq_false a]; rfl
  rw[e]; rfl
end Go.Own.Q
