/- Lemmas. No conditions. -/
import Derived.Test.YtgeomhdbckjkcaaW22ExprOk2
set_option linter.unusedVariables false
set_option linter.unusedSimpArgs false
namespace Go.Own.Q
open Go Go.Proofs
def fr:List (List UInt8)→List (List UInt8)→Bool
 | _,[]=>true
 | P,v::r=> !decide (v∈P)&&fr (P++[v]) r
theorem RF: ∀(V W P:List (List UInt8)),fr P (V++W)=(fr P V&&fr (P++V) W)
 | [],W,P=>by simp [fr]
 | v::V,W,P=>by
  simp only[List.cons_append,fr,RF V W (P++[v]),List.append_assoc,Bool.and_assoc,List.nil_append]
theorem Mo: ∀(V P:List (List UInt8)),P.Nodup→(fr P V=true↔(P++V).Nodup)
 | [],P,h=>by simp [fr,h]
 | v::V,P,h=>by
  simp only[fr,Bool.and_eq_true,Bool.not_eq_true',decide_eq_false_iff_not]
  have e:P++v::V=(P++[v])++V:=by simp
  constructor
  ·rintro ⟨h1,h2⟩
   have hn:(P++[v]).Nodup:=by
    rw[List.nodup_append]
    exact⟨h,by simp,fun a ha b hb=>by simp only[List.mem_singleton]at hb; subst hb; exact fun e=>h1 (e ▸ ha)⟩
   rw[e]; exact(Mo V _ hn).1 h2
  ·intro h2
   rw[e]at h2
   have hn:=(List.nodup_append.1 h2).1
   refine⟨fun hm=> ?_,(Mo V _ hn).2 h2⟩
   exact(List.nodup_append.1 hn).2.2 v hm v (by simp) rfl
theorem aAV(V:List (List UInt8)):fr [] V=MY V:=by
 rw[Bool.eq_iff_iff,Mo V [] List.nodup_nil,Kg]; simp
mutual
theorem KV: ∀e,(jJ e).length≤lO e
 | .mk k m s l c=>by
  have:=Gs l
  simp only[jJ,lO]
  cases decide (k=3)<;>cases decide (s=[95])<;>simp<;>omega
theorem Gs: ∀l,(eS l).length≤kN l
 | []=>by simp [eS]
 | x::r=>by have:=KV x; have:=Gs r; simp only[eS,kN,List.length_append]; omega
end
abbrev JS:=Int×List (List UInt8)
def LJ(d:Nat)(t:JS)(a:aA):JS⊕Unit:=bif xok d true a&&(decide (t.1+lO a≤300)&&fr t.2 (jJ a))then .inl (t.1+lO a,t.2++jJ a)else .inr ()
theorem HT(d:Nat): ∀(l:List aA) (t:JS),t.1≤300→mZ (LJ d) l t=bif l.all (xok d true)&&(decide (t.1+kN l≤300)&&fr t.2 (eS l))then .inl (t.1+kN l,t.2++eS l)else .inr ()
 | [],t,h=>by
  have e:decide (t.1+((kN []:Nat):Int)≤300)=true:=decide_eq_true (by simp only[kN]; omega)
  rw[e]
  simp [mZ,eS,fr,kN]
 | a::r,t,h=>by
  simp only[mZ]
  have e1:kN (a::r)=lO a+kN r:=by simp only[kN]
  have e2:eS (a::r)=jJ a++eS r:=by simp only[eS]
  rw[e1,e2,RF,List.all_cons]
  by_cases q:(xok d true a&&(decide (t.1+lO a≤300)&&fr t.2 (jJ a)))=true
  ·have e3:LJ d t a= .inl (t.1+lO a,t.2++jJ a):=by unfold LJ; rw[q]; rfl
   simp only[Bool.and_eq_true,decide_eq_true_eq]at q
   obtain⟨q1,q2,q3⟩:=q
   rw[e3,q1,q3,Bool.true_and,Bool.true_and]
   simp only
   rw[HT d r _ q2]
   simp only
   rw[show t.1+((lO a+kN r:Nat):Int)=t.1+lO a+kN r by omega,List.append_assoc]
  ·have e3:LJ d t a= .inr ():=by unfold LJ; rw[Bool.not_eq_true]at q; rw[q]; rfl
   rw[e3]
   simp only
   cases h1:xok d true a with
   | false=>rfl
   | true=>
    rw[h1,Bool.true_and]at q
    cases h3:fr t.2 (jJ a)with
    | false=>cases r.all (xok d true)<;>simp
    | true=>
     rw[h3,Bool.and_true,decide_eq_true_eq]at q
     rw[decide_eq_false (show ¬ t.1+((lO a+kN r:Nat):Int)≤300 by omega)]
     cases r.all (xok d true)<;>rfl
def jv:(Bool×Int×List (List UInt8))⊕(Int×Bool×Int×List (List UInt8))→Option (Bool×Int×List (List UInt8))
 | .inl (v,w,z)=>some (v,w,z)
 | .inr (_,_,w,z)=>some (true,w,z)
def pJ(b:Bool)(c:Int)(ns:List (List UInt8))(r:Bool×Int×List (List UInt8)):Prop:=r.1=b∧(b=true→r.2=(c,ns))
theorem Ae: ∀(n:Nat),n≤1099511627776→ ∀(a:aA) (d:Nat) (c:Int) (ns:List (List UInt8)),d≤10→0≤c→c≤300→(ns.length:Int)≤c→aN a+400<n→ ∃r,bT n a.f0 a.f1 a.f2 a.f3 a.f4 (11 - (d:Int)) c ns=some r∧pJ (xok d true a&&(decide (c+lO a≤300)&&fr ns (jJ a))) (c+lO a) (ns++jJ a) r
 | 0,_,a,d,c,ns,hd,c0,c1,hns,h=>by omega
 | n+1,hn,a,d,c,ns,hd,c0,c1,hns,h=>by
  have ih:=Ae n (by omega)
  rw[uW]
  unfold iA
  rw[nF,eO,dH]at h
  have hl:=aX aN a.f3
  have hp:=Mc a
  have hv:=Iy a
  rw[LR n _ _ _ _ (by omega) (by omega),wrap_i64 (n:=c+1) (by omega) (by omega)]
  cases d with
  | zero=>
   rw[decide_eq_true (show(10:Int)<11 - ((0:Nat):Int)by omega)]
   exact⟨_,rfl,rfl,fun h=>by cases h⟩
  | succ d=>
   rw[decide_eq_false (show ¬ (10:Int)<11 - ((d+1:Nat):Int)by omega),FP]
   by_cases ht:300<c+1
   ·rw[decide_eq_true ht,decide_eq_false (show ¬ c+(lO a:Int)≤300 by omega)]
    refine⟨_,rfl, ?_, ?_⟩<;>cases shp true a.f0 a.f1 a.f2 a.f3.length a.f4.length<;>cases (a.f3.all (xok d true)&&a.f4.all (cok d))<;>simp
   rw[decide_eq_false ht]
   have hsp:=Ig a.f0 a.f1 a.f2 a.f3.length a.f4.length
   cases hs:shp true a.f0 a.f1 a.f2 a.f3.length a.f4.length with
   | false=>
    rw[hs]at hsp
    refine⟨(false,c+1,ns), ?_,rfl,fun h=>by cases h⟩
    revert hsp
    cases decide (6<a.f0)<;>cases decide ((0:Int)<a.f4.length)<;>cases AH a.f0 a.f1 a.f2 a.f3.length<;>intro hsp<;>first | rfl | cases hsp
   | true=>
    rw[hs]at hsp
    simp only[Bool.and_eq_true,Bool.not_eq_true']at hsp
    obtain⟨p1,p2,p3⟩:=hsp
    have hc0:a.f4=[]:=by
     rw[decide_eq_false_iff_not]at p2
     cases hx:a.f4 with
     | nil=>rfl
     | cons x r=>rw[hx]at p2; simp only[List.length_cons]at p2; omega
    rw[p1,p2,p3]
    have hcc:a.f4.all (cok d)=true:=by rw[hc0]; rfl
    have hcn:Hr a.f4=0:=by rw[hc0]; rfl
    rw[hcc,Bool.and_true]
    simp only[cond_false,Option.bind_some,Bool.not_true,Bool.true_and]
    generalize lO a=q at hp ⊢
    have e1:IntKind.wrap .i64 (11 - ((d+1:Nat):Int)+1)=11 - (d:Int):=by rw[wrap_i64 (by omega) (by omega)]; omega
    have loop: ∀(l:List aA),dl aN l+401≤n→ ∀(body:Int×Int×List (List UInt8)→Option ((Int×Int×List (List UInt8))⊕((Bool×Int×List (List UInt8))⊕(Int×Bool×Int×List (List UInt8))))),(∀(i:Nat) b (t:JS),l[i]? =some b→body ((i:Int),t.1,t.2)=(bT n b.f0 b.f1 b.f2 b.f3 b.f4 (11 - (d:Int)) t.1 t.2).bind fun r=>bif !r.1 then some (.inr (.inl (false,r.2.1,r.2.2)))else some (.inl (((i+1:Nat):Int),r.2.1,r.2.2)))→(∀t:JS,body ((l.length:Int),t.1,t.2)=some (.inr (.inr ((l.length:Int),false,t.1,t.2))))→
      ∀t0:JS,0≤t0.1→t0.1≤300→(t0.2.length:Int)≤t0.1→ ∃x,loopN body n ((0:Int),t0.1,t0.2)=some x∧(match mZ (LJ d) l t0 with | .inl t=>x= .inr ((l.length:Int),false,t.1,t.2) | .inr _=> ∃u v,x= .inl (false,u,v)):=by
     intro l hw body hs he t0 g0 g1 g2
     have hll:=aX aN l
     obtain⟨x,x1,x2⟩:=Ei (body:=body) l (LJ d) (fun t i=>((i:Int),t.1,t.2)) (fun t=> .inr ((l.length:Int),false,t.1,t.2)) (fun _ x=> ∃u v,x= .inl (false,u,v)) (fun t=>0≤t.1∧t.1≤300∧(t.2.length:Int)≤t.1) (fun i b t hb ht=>by
      have hm:=fK aN (List.mem_of_getElem? hb)
      obtain⟨r,r1,r2,r3⟩:=ih b d t.1 t.2 (by omega) ht.1 ht.2.1 ht.2.2 (by omega)
      rw[hs i b t hb,r1]
      unfold LJ
      obtain⟨rb,rc,rn⟩:=r
      simp only at r2 r3
      simp only[Option.bind_some]
      rw[r2]
      by_cases hz:(xok d true b&&(decide (t.1+lO b≤300)&&fr t.2 (jJ b)))=true
      ·left
       have r4:=r3 hz
       simp only[Prod.mk.injEq]at r4
       obtain⟨rfl,rfl⟩:=r4
       rw[hz]
       simp only[Bool.and_eq_true,decide_eq_true_eq]at hz
       have hvc:=KV b
       refine⟨_,rfl,⟨?_,hz.2.1, ?_⟩,rfl⟩
       ·show 0≤t.1+(lO b:Int); omega
       ·show((t.2++jJ b).length:Int)≤t.1+(lO b:Int)
        rw[List.length_append]; omega
      ·right
       rw[Bool.not_eq_true]at hz
       rw[hz]
       exact⟨(),_,rfl,rfl,_,_,rfl⟩) (fun t _=>he t) (n:=n) (by omega) (t0:=t0) ⟨g0,g1,g2⟩
     refine⟨x,x1, ?_⟩
     revert x2
     cases mZ (LJ d) l t0<;>exact id
    have fin: ∀(t0:JS) (x:(Bool×Int×List (List UInt8))⊕(Int×Bool×Int×List (List UInt8))),t0.1=c+1→(match mZ (LJ d) a.f3 t0 with | .inl t=>x= .inr ((a.f3.length:Int),false,t.1,t.2) | .inr _=> ∃u v,x= .inl (false,u,v))→
      ∃r,jv x=some r∧pJ (a.f3.all (xok d true)&&(decide (c+(q:Int)≤300)&&fr t0.2 (eS a.f3))) (c+q) (t0.2++eS a.f3) r:=by
     intro t0 x e0 hx
     rw[HT d a.f3 t0 (by omega),e0,show c+1+(kN a.f3:Int)=c+q by omega]at hx
     cases hz:(a.f3.all (xok d true)&&(decide (c+(q:Int)≤300)&&fr t0.2 (eS a.f3)))with
     | true=>
      rw[hz]at hx
      simp only[cond_true]at hx
      subst hx
      exact⟨_,rfl,rfl,fun _=>rfl⟩
     | false=>
      rw[hz]at hx
      simp only[cond_false]at hx
      obtain⟨u,v,rfl⟩:=hx
      exact⟨_,rfl,rfl,fun h=>by cases h⟩
    by_cases h3:a.f0=3
    ·have hne:a.f3=[]:=by
      rw[h3]at p3
      have e:AH 3 a.f1 a.f2 a.f3.length=(decide (a.f1=0)&&(Fu a.f2&&decide ((a.f3.length:Int)=0))):=rfl
      rw[e]at p3
      simp only[Bool.and_eq_true,decide_eq_true_eq]at p3
      have:=p3.2.2
      cases hx:a.f3 with
      | nil=>rfl
      | cons x r=>rw[hx]at this; simp only[List.length_cons]at this; omega
     rw[decide_eq_true h3]
     rw[decide_eq_true h3]at hv
     simp only[cond_true]at hv
     rw[hv]
     have hvs:eS a.f3=[]:=by rw[hne]; rfl
     cases hu:decide (a.f2=[95])with
     | true=>
      simp only[Bool.not_true,cond_true,Option.bind_some,cond_false]
      obtain⟨x,x1,x2⟩:=loop a.f3 (by omega) (cB n (bT n) (11 - ((d+1:Nat):Int)) a.f3) (fun i b t hb=>by
       have hi:=gY hb
       simp only[cB,fJ hb,cond_true,eC,hb,Option.bind_some,e1,bE (show i<4611686018427387904 by omega)]) (fun t=>by simp only[cB,bB,cond_false]) (c+1,ns) (by show 0≤c+1; omega) (by show c+1≤300; omega) (by show(ns.length:Int)≤c+1; omega)
      have f:=fin (c+1,ns) x rfl x2
      rw[hvs]at f
      rw[x1]
      obtain⟨r,f1,f2⟩:=f
      exact⟨r,by rcases x with⟨u,v,w⟩ | ⟨u,v,w,z⟩<;>exact f1,f2⟩
     | false=>
      simp only[Bool.not_false,cond_true,Option.bind_some]
      rw[KD n ns a.f2 (by omega) (by omega)]
      simp only[Option.bind_some]
      cases hm:decide (a.f2∈ns)with
      | true=>
       have e6:fr ns [a.f2]=false:=by simp only[fr,hm]; rfl
       have e7:(a.f3.all (xok d true)&&(decide (c+(q:Int)≤300)&&fr ns [a.f2]))=false:=by rw[e6]; cases a.f3.all (xok d true)<;>simp
       rw[cond_false,e7]
       exact⟨_,rfl,rfl,fun h=>by cases h⟩
      | false=>
       have hap:gA 16 ns [a.f2]=some (ns++[a.f2]):=mQ (by simp only[List.length_singleton]; omega) (by simp only[List.length_singleton,maxLen]; omega)
       rw[hap]
       simp only[cond_false,Option.bind_some]
       obtain⟨x,x1,x2⟩:=loop a.f3 (by omega) (eZ n (bT n) (11 - ((d+1:Nat):Int)) a.f3) (fun i b t hb=>by
        have hi:=gY hb
        simp only[eZ,fJ hb,cond_true,eC,hb,Option.bind_some,e1,bE (show i<4611686018427387904 by omega)]) (fun t=>by simp only[eZ,bB,cond_false]) (c+1,ns++[a.f2]) (by show 0≤c+1; omega) (by show c+1≤300; omega) (by show((ns++[a.f2]).length:Int)≤c+1; rw[List.length_append,List.length_singleton]; omega)
       have f:=fin (c+1,ns++[a.f2]) x rfl x2
       rw[hvs,List.append_nil]at f
       have e5:fr ns [a.f2]=fr (ns++[a.f2]) []:=by simp only[fr,hm]; rfl
       rw[e5,x1]
       obtain⟨r,f1,f2⟩:=f
       exact⟨r,by rcases x with⟨u,v,w⟩ | ⟨u,v,w,z⟩<;>exact f1,f2⟩
    ·rw[decide_eq_false h3]at hv ⊢
     simp only[cond_false]at hv
     rw[hv]
     simp only[cond_false,Option.bind_some]
     obtain⟨x,x1,x2⟩:=loop a.f3 (by omega) (cB n (bT n) (11 - ((d+1:Nat):Int)) a.f3) (fun i b t hb=>by
      have hi:=gY hb
      simp only[cB,fJ hb,cond_true,eC,hb,Option.bind_some,e1,bE (show i<4611686018427387904 by omega)]) (fun t=>by simp only[cB,bB,cond_false]) (c+1,ns) (by show 0≤c+1; omega) (by show c+1≤300; omega) (by show(ns.length:Int)≤c+1; omega)
     have f:=fin (c+1,ns) x rfl x2
     rw[x1]
     obtain⟨r,f1,f2⟩:=f
     exact⟨r,by rcases x with⟨u,v,w⟩ | ⟨u,v,w,z⟩<;>exact f1,f2⟩
end Go.Own.Q
