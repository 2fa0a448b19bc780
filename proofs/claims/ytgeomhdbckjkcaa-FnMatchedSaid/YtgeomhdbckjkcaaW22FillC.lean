/- Lemmas. No conditions. -/
import Derived.Test.YtgeomhdbckjkcaaW22FillB
set_option linter.unusedVariables false
set_option linter.unusedSimpArgs false
namespace Go.Own.Q
open Go Go.Proofs
theorem Ev{α:Type}(w:α→Nat){a:α}: ∀ {l:List α},a∈l→l.length+w a≤dl w l
 | x::r,h=>by
  have hl:=aX w r
  rcases List.mem_cons.1 h with rfl | h
  ·simp only[List.length_cons,dl]; omega
  ·have:=Ev w h
   simp only[List.length_cons,dl]; omega
theorem Iv{g:Ft}: ∀ {l:List aA} {L:List aB},flL g l=some L→L.length=l.length∧ ∀x∈L, ∃y∈l,g y=some x
 | [],L,h=>by cases h; exact⟨rfl,fun x hx=>by cases hx⟩
 | y::r,L,h=>by
  obtain⟨t,h1,h⟩:=Option.bind_eq_some_iff.1 h
  obtain⟨L',h2,e⟩:=Option.map_eq_some_iff.1 h
  subst e
  obtain⟨k1,k2⟩:=Iv h2
  refine⟨by simp only[List.length_cons,k1],fun x hx=> ?_⟩
  rcases List.mem_cons.1 hx with rfl | hx
  ·exact⟨y,List.mem_cons_self ..,h1⟩
  ·obtain⟨z,z1,z2⟩:=k2 x hx
   exact⟨z,List.mem_cons_of_mem _ z1,z2⟩
theorem RH(f:List UInt8→Option aB)(W:Nat)(hf: ∀s t,f s=some t→t.f3.length≤W): ∀(d:Nat) (p:aA) (t:aB),fl f d p=some t→t.f3.length≤W+aN p
 | 0,p,t,h=>by cases h
 | d+1,p,t,h=>by
  have hw:=nF p
  rw[eO,dH]at hw
  have g1:=aX aN p.f3
  unfold fl at h
  cases h1:decide (p.f0=1)with
  | true=>rw[h1]at h; cases h; simp [aB.f3]
  | false=>
  cases h2:decide (p.f0=2)with
  | true=>rw[h1,h2]at h; cases h; simp [aB.f3]
  | false=>
  cases h3:decide (p.f0=3)with
  | true=>rw[h1,h2,h3]at h; have:=hf _ _ h; omega
  | false=>
  rw[h1,h2,h3]at h
  simp only[cond_false]at h
  obtain⟨L,hL,h⟩:=Option.bind_eq_some_iff.1 h
  obtain⟨k1,k2⟩:=Iv hL
  cases h4:decide (p.f0=4)with
  | true=>rw[h4]at h; cases h; show L.length≤_; omega
  | false=>
  cases h5:decide (p.f0=5)with
  | true=>rw[h4,h5]at h; cases h; show L.length≤_; omega
  | false=>
  rw[h4,h5]at h
  simp only[cond_false]at h
  unfold ML at h
  cases hx:L[L.length - 1]? with
  | none=>rw[hx]at h; cases h
  | some x=>
   rw[hx]at h
   cases hq:decide (x.f0=5)with
   | false=>simp only[hq,cond_false]at h; cases h
   | true=>
    simp only[hq,cond_true]at h
    cases h
    obtain⟨y,y1,y2⟩:=k2 x (List.mem_of_getElem? hx)
    have q1:=RH f W hf d y x y2
    have q2:=Ev aN y1
    show(L.take (L.length - 1)++x.f3).length≤_
    rw[List.length_append,List.length_take]
    omega
theorem OL(n:Nat)(L:List aB)(hn:5<n)(h2:2≤L.length)(h3:L.length≤200000)(hx: ∀x∈L,x.f3.length≤500000):mC n L=some (OX (ML L)):=by
 have hp:L.length - 1<L.length:=by omega
 have hxl:L[L.length - 1]? =some L[L.length - 1]:=List.getElem?_eq_getElem hp
 generalize L[L.length - 1]=x at hxl
 have e1:IntKind.wrap .i64 ((L.length:Int) - 1)=((L.length - 1:Nat):Int):=by rw[wrap_i64 (by omega) (by omega)]; omega
 have h4:=hx x (List.mem_of_getElem? hxl)
 have hc:=OM n (L.take (L.length - 1)) x.f3 hn (by rw[List.length_take]; omega)
 unfold mC ML
 rw[e1,eC,hxl]
 simp only[Option.bind_some]
 cases decide (x.f0=5)with
 | false=>rfl
 | true=>
  rw[Gb (by omega)]
  simp only[Bool.not_true,cond_false,Option.bind_some,hc]
  rfl
def stF(g:Ft)(t:List aB)(a:aA):List aB⊕Unit:=match g a with
 | some x=> .inl (t++[x])
 | none=> .inr ()
theorem KY(g:Ft): ∀(l:List aA) (t:List aB),mZ (stF g) l t=match flL g l with | some L=> .inl (t++L) | none=> .inr ()
 | [],t=>by simp [mZ,flL]
 | x::r,t=>by
  have e:stF g t x=match g x with | some y=> .inl (t++[y]) | none=> .inr ():=rfl
  simp only[mZ,flL,e]
  cases g x with
  | none=>rfl
  | some y=>
   simp only[Option.bind_some]
   rw[KY g r (t++[y])]
   cases flL g r with
   | none=>rfl
   | some L=>simp only[Option.map_some,List.append_assoc,List.singleton_append]
theorem UJ(l:List aG)(s:List UInt8)(t:aB)(h:fnd l s=some t):t.f3.length≤dl mU l:=by
 unfold fnd at h
 obtain⟨b,hb,e⟩:=Option.map_eq_some_iff.1 h
 have hd:=fK mU (List.mem_of_find?_eq_some hb)
 rw[If]at hd
 have hw:=rJ (sP b)
 rw[fF]at hw
 have:=aX aT (sP b).f3
 subst e
 omega
theorem LB(l:List aG)(hB:dl mU l≤100000): ∀(n:Nat),n≤1099511627776→ ∀(d:Nat) (p:aA),xok d true p=true→aN p+dl mU l+10<n→aN p≤100000→fY n p.f0 p.f1 p.f2 p.f3 p.f4 l=some (OX (fl (fnd l) d p))
 | 0,_,d,p,hx,h,_=>by omega
 | n+1,hn,0,p,hx,h,hb=>by cases hx
 | n+1,hn,d+1,p,hx,h,hb=>by
  obtain⟨hk,hs⟩:=rR hx
  have hw:=nF p
  rw[eO,dH]at hw
  have g1:=aX aN p.f3
  have ih: ∀x∈p.f3,fY n x.f0 x.f1 x.f2 x.f3 x.f4 l=some (OX (fl (fnd l) d x)):=fun x hm=>by
   have:=fK aN hm
   exact LB l hB n (by omega) d x (List.all_eq_true.1 hk x hm) (by omega) (by omega)
  rw[BL]
  unfold pC fl
  by_cases h1:p.f0=1
  ·rw[decide_eq_true h1]; rfl
  rw[decide_eq_false h1]
  by_cases h2:p.f0=2
  ·rw[decide_eq_true h2]; rfl
  rw[decide_eq_false h2]
  by_cases h3:p.f0=3
  ·rw[decide_eq_true h3,Hh n l p.f2 (by omega) (by omega)]; rfl
  rw[decide_eq_false h3]
  simp only[cond_false]
  obtain⟨x,x1,x2⟩:=wL (body:=gE n (fY n) l p.f3) p.f3 (stF (fl (fnd l) d)) (fun t i=>(t,(i:Int),(0:Int),(0:Int),([]:List UInt8),([]:List aB))) (fun t=> .inr (t,(p.f3.length:Int),false,0,0,[],[])) (fun _ x=>x= .inl (false,0,0,[],[])) (fun i t=>t.length=i) (fun i a t ha hI=>by
   have hi:=gY ha
   have e:=ih a (List.mem_of_getElem? ha)
   have es:stF (fl (fnd l) d) t a=match fl (fnd l) d a with | some y=> .inl (t++[y]) | none=> .inr ():=rfl
   rw[es]
   cases hf:fl (fnd l) d a with
   | none=>
    rw[hf]at e
    right
    refine⟨(),_,rfl, ?_,rfl⟩
    simp only[gE,fJ ha,cond_true,eC,ha,Option.bind_some,e,OX,Bool.not_false]
   | some y=>
    rw[hf]at e
    left
    have hap:gA 56 t [y]=some (t++[y]):=mQ (by simp only[List.length_singleton]; omega) (by simp only[List.length_singleton,maxLen]; omega)
    refine⟨_,rfl,by simp only[List.length_append,List.length_singleton]; omega, ?_⟩
    simp only[gE,fJ ha,cond_true,eC,ha,Option.bind_some,e,OX,Bool.not_true,cond_false,aU,hap,bE (show i<4611686018427387904 by omega)]) (fun t _=>by simp only[gE,bB,cond_false]) (n:=n) (by omega) (t0:=[]) rfl
  have x1:loopN (gE n (fY n) l p.f3) n (([]:List aB),(0:Int),(0:Int),(0:Int),([]:List UInt8),([]:List aB))=some x:=x1
  rw[x1]
  rw[KY]at x2
  cases hL:flL (fl (fnd l) d) p.f3 with
  | none=>
   rw[hL]at x2
   have x2:x= .inl (false,0,0,[],[]):=x2
   subst x2
   rfl
  | some L=>
   rw[hL]at x2
   obtain⟨rfl,_⟩:=x2
   simp only[Option.bind_some,List.nil_append]
   by_cases h4:p.f0=4
   ·rw[decide_eq_true h4]; rfl
   rw[decide_eq_false h4]
   by_cases h5:p.f0=5
   ·rw[decide_eq_true h5]; rfl
   rw[decide_eq_false h5]
   obtain⟨_,hne⟩:=Av hs h1 h2 h3 h4 h5
   obtain⟨k1,k2⟩:=Iv hL
   simp only[cond_false]
   rw[OL n L (by omega) (by omega) (by omega) (fun x hx=>by
    obtain⟨y,y1,y2⟩:=k2 x hx
    have:=RH (fnd l) (dl mU l) (UJ l) d y x y2
    have:=fK aN y1
    omega)]
   rfl
end Go.Own.Q
