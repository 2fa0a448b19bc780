/- Lemmas. No conditions. -/
import Derived.Test.YtgeomhdbckjkcaaW22Match2
set_option linter.unusedVariables false
set_option linter.unusedSimpArgs false
namespace Go.Own.Q
open Go Go.Proofs
theorem vR: ∀(n:Nat),n≤1099511627776→(∀(d:Nat) (a:aA) (t:aB) (b:List aG),xok d true a=true→aN a+aT t+2<n→b.length+aN a+aT t≤1099511627776→ ∃L ok,cZ n a.f0 a.f1 a.f2 a.f3 a.f4 t.f0 t.f1 t.f2 t.f3 b=some (ok,L)∧Res (mt d a t) b L ok)∧
  (∀(d:Nat) (l:List aA) (ts:List aB) (b:List aG),l.all (xok d true)=true→l.length≤ts.length→dl aN l+dl aT ts+2<n→b.length+dl aN l+dl aT ts≤1099511627776→ ∃L ok,fT n l ts b=some (ok,L)∧Res (mtL (mt d) l ts) b L ok)
 | 0,_=>⟨fun d a t b hx h=>by omega,fun d l ts b hx hl h=>by omega⟩
 | n+1,hn=>by
  obtain⟨ih1,ih2⟩:=vR n (by omega)
  refine⟨fun d a t b hx h hB=> ?_,fun d l ts b hx hl h hB=> ?_⟩
  ·rw[wV]
   unfold kA
   cases d with
   | zero=>cases hx
   | succ d=>
    obtain⟨hk,hs⟩:=rR hx
    have hw:=nF a
    have hv:=rJ t
    rw[eO,dH]at hw
    rw[fF]at hv
    have g1:=aX aN a.f3
    have g2:=aX dP a.f4
    have g3:=aX aT t.f3
    unfold mt
    by_cases h1:a.f0=1
    ·rw[decide_eq_true h1]
     refine⟨b,decide (t.f0=1)&&decide (t.f1=a.f1), ?_, ?_⟩
     ·cases decide (t.f0=1)<;>rfl
     ·cases decide (t.f0=1)<;>cases decide (t.f1=a.f1)<;>simp [Res]
    rw[decide_eq_false h1]
    by_cases h2:a.f0=2
    ·rw[decide_eq_true h2]
     generalize decide (t.f2=a.f2)=z
     refine⟨b,decide (t.f0=2)&&z, ?_, ?_⟩
     ·cases decide (t.f0=2)<;>rfl
     ·cases decide (t.f0=2)<;>cases z<;>simp [Res]
    rw[decide_eq_false h2]
    by_cases h3:a.f0=3
    ·rw[decide_eq_true h3]
     simp only[cond_false,cond_true]
     rw[HS n (a:=t) (by omega) (by omega)]
     have hap:gA 72 b [aG.mk a.f2 t.f0 t.f1 t.f2 t.f3]=some (b++[.mk a.f2 t.f0 t.f1 t.f2 t.f3]):=mQ (by simp only[List.length_singleton]; omega) (by simp only[List.length_singleton,maxLen]; omega)
     simp only[Option.bind_some,hap]
     generalize decide (a.f2=[95])=z
     cases z with
     | true=>exact⟨b,true,rfl,by simp [Res]⟩
     | false=>exact⟨_,true,rfl,rfl,rfl⟩
    rw[decide_eq_false h3]
    have tl: ∀(c:Bool),((t.f3.length:Int)=(a.f3.length:Int)→ ∃L ok,fT n a.f3 t.f3 b=some (ok,L)∧Res (mtL (mt d) a.f3 t.f3) b L ok)→ ∃L ok,((bif c then bif decide ((t.f3.length:Int)=(a.f3.length:Int))then(fT n a.f3 t.f3 b).bind fun c=>some (c.1,c.2)else some (false,b)else some (false,b)).bind fun(x,y)=>some (x,y))=some (ok,L)∧Res (bif c&&decide ((t.f3.length:Int)=(a.f3.length:Int))then mtL (mt d) a.f3 t.f3 else none) b L ok:=by
     intro c hc
     cases c with
     | false=>exact⟨b,false,rfl,rfl⟩
     | true=>
      by_cases hq:(t.f3.length:Int)=(a.f3.length:Int)
      ·obtain⟨L,ok,e1,e2⟩:=hc hq
       rw[decide_eq_true hq,e1]
       exact⟨L,ok,rfl,e2⟩
      ·rw[decide_eq_false hq]
       exact⟨b,false,rfl,rfl⟩
    by_cases h4:a.f0=4
    ·rw[decide_eq_true h4]
     exact tl _ fun hq=>ih2 d a.f3 t.f3 b hk (by omega) (by omega) (by omega)
    rw[decide_eq_false h4]
    by_cases h5:a.f0=5
    ·rw[decide_eq_true h5]
     exact tl _ fun hq=>ih2 d a.f3 t.f3 b hk (by omega) (by omega) (by omega)
    rw[decide_eq_false h5]
    obtain⟨_,hne⟩:=Av hs h1 h2 h3 h4 h5
    have ew:IntKind.wrap .i64 ((a.f3.length:Int) - 1)=((a.f3.length - 1:Nat):Int):=by rw[wrap_i64 (by omega) (by omega)]; omega
    have em:(a.f3.length:Int) - 1=((a.f3.length - 1:Nat):Int):=by omega
    rw[ew,em]
    simp only[cond_false]
    cases h6:decide (t.f0=5)with
    | false=>exact⟨b,false,rfl,rfl⟩
    | true=>
     by_cases h7:(t.f3.length:Int)<((a.f3.length - 1:Nat):Int)
     ·rw[decide_eq_true h7]; exact⟨b,false,rfl,rfl⟩
     ·rw[decide_eq_false h7]
      have hp:a.f3.length - 1<a.f3.length:=by omega
      have hxl:a.f3[a.f3.length - 1]? =some a.f3[a.f3.length - 1]:=List.getElem?_eq_getElem hp
      generalize a.f3[a.f3.length - 1]=x at hxl
      have k8:=mV aN hxl
      have k9:=iX aN a.f3 (a.f3.length - 1+1)
      have k7:=qB aT (t.f3.take (a.f3.length - 1)) (t.f3.drop (a.f3.length - 1))
      rw[List.take_append_drop]at k7
      have k10:aT (sG (t.f3.drop (a.f3.length - 1)))=3+dl aT (t.f3.drop (a.f3.length - 1)):=by
       unfold sG; rw[rJ, ←fF]; rfl
      have g4:=aX aT (t.f3.drop (a.f3.length - 1))
      rw[Gb (by omega),KW (by omega),eC,hxl]
      simp only[Bool.not_true,cond_false,Bool.not_false,Bool.and_true,cond_true,Option.bind_some]
      have hlt:(a.f3.take (a.f3.length - 1)).length=a.f3.length - 1:=by rw[List.length_take]; omega
      have htk:=Kl (mt d) (a.f3.take (a.f3.length - 1)) t.f3
      rw[hlt]at htk
      rw[htk]
      have hk1:(a.f3.take (a.f3.length - 1)).all (xok d true)=true:=by
       rw[List.all_eq_true]at hk ⊢
       exact fun y hy=>hk y (List.mem_of_mem_take hy)
      obtain⟨L,ok,e1,e2⟩:=ih2 d (a.f3.take (a.f3.length - 1)) t.f3 b hk1 (by omega) (by omega) (by omega)
      rw[e1]
      simp only[Option.bind_some]
      cases hM:mtL (mt d) (a.f3.take (a.f3.length - 1)) t.f3 with
      | none=>
       rw[hM]at e2
       have e2:ok=false:=e2
       subst e2
       exact⟨L,false,rfl,rfl⟩
      | some M=>
       rw[hM]at e2
       obtain⟨rfl,rfl⟩:L=b++M∧ok=true:=e2
       have kM:=MH (Pe d) _ _ _ (htk.trans hM)
       have kM2:=aX mU M
       have hxx:xok d true x=true:=List.all_eq_true.1 hk x (List.mem_of_getElem? hxl)
       obtain⟨L2,ok2,f1,f2⟩:=ih1 d x (sG (t.f3.drop (a.f3.length - 1))) (b++M) hxx (by omega) (by rw[List.length_append]; omega)
       have f1:cZ n x.f0 x.f1 x.f2 x.f3 x.f4 5 0 [] (t.f3.drop (a.f3.length - 1)) (b++M)=some (ok2,L2):=f1
       simp only[Bool.not_true,cond_false,f1,Option.bind_some]
       refine⟨L2,ok2,rfl, ?_⟩
       cases hN:mt d x (sG (t.f3.drop (a.f3.length - 1)))with
       | none=>rw[hN]at f2; exact f2
       | some N=>
        rw[hN]at f2
        obtain⟨rfl,rfl⟩:L2=b++M++N∧ok2=true:=f2
        exact⟨by rw[List.append_assoc],rfl⟩
  ·rw[yZ]
   unfold lP
   have g1:=aX aN l
   have g3:=aX aT ts
   have hz:(l.zip ts).length=l.length:=by rw[List.length_zip]; omega
   obtain⟨x,x1,x2⟩:=wL (body:=fO n (cZ n) l ts) (l.zip ts) (stp d) (fun t i=>((i:Int),t)) (fun t=> .inr ((l.length:Int),false,t)) (fun _ x=> ∃u,x= .inl (false,u)) (fun i t=>t.length+2≤b.length+dl aN (l.take i)+dl aT (ts.take i)) (fun i p t hp hI=>by
    obtain⟨ha,ht⟩:=List.getElem?_zip_eq_some.1 hp
    have hi:=gY ha
    have m1:=fK aN (List.mem_of_getElem? ha)
    have m2:=fK aT (List.mem_of_getElem? ht)
    have q1:=mV aN ha
    have q2:=mV aT ht
    have q3:=iX aN l (i+1)
    have q4:=iX aT ts (i+1)
    obtain⟨L,ok,e1,e2⟩:=ih1 d p.1 p.2 t (List.all_eq_true.1 hx _ (List.mem_of_getElem? ha)) (by omega) (by omega)
    simp only[fO,fJ ha,cond_true,eC,ha,ht,Option.bind_some,e1,bE (show i<4611686018427387904 by omega)]
    unfold stp
    cases hM:mt d p.1 p.2 with
    | none=>
     rw[hM]at e2
     have e2:ok=false:=e2
     subst e2
     right; exact⟨(),_,rfl,rfl,_,rfl⟩
    | some M=>
     rw[hM]at e2
     obtain⟨rfl,rfl⟩:L=t++M∧ok=true:=e2
     have kM:=Pe d _ _ _ hM
     have kM2:=aX mU M
     left; exact⟨_,rfl,by rw[List.length_append]; omega,rfl⟩) (fun t _=>by rw[hz]; simp only[fO,bB,cond_false]) (n:=n) (by omega) (t0:=b) (by simp only[List.take_zero,dl]; omega)
   have x1:loopN (fO n (cZ n) l ts) n ((0:Int),b)=some x:=x1
   rw[x1]
   rw[FU d l ts b hl]at x2
   cases hM:mtL (mt d) l ts with
   | none=>
    rw[hM]at x2
    obtain⟨u,rfl⟩: ∃u,x= .inl (false,u):=x2
    exact⟨u,false,rfl,rfl⟩
   | some M=>
    rw[hM]at x2
    obtain⟨rfl,_⟩:=x2
    exact⟨b++M,true,rfl,rfl,rfl⟩
end Go.Own.Q
