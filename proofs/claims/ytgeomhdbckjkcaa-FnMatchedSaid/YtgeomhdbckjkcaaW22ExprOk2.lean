/- Lemmas. No conditions. -/
import Derived.Test.YtgeomhdbckjkcaaW22ExprOk
set_option linter.unusedVariables false
set_option linter.unusedSimpArgs false
namespace Go.Own.Q
open Go Go.Proofs
theorem iX{α:Type}(w:α→Nat): ∀(l:List α) (i:Nat),dl w (l.take i)≤dl w l
 | [],i=>by simp
 | a::r,0=>by simp only[List.take_zero,dl]; omega
 | a::r,i+1=>by have:=iX w r i; simp only[List.take_succ_cons,dl]; omega
theorem mV{α:Type}(w:α→Nat){l:List α}{i:Nat}{a:α}(h:l[i]? =some a):dl w (l.take (i+1))=dl w (l.take i)+1+w a:=by
 rw[←lC h]
 generalize l.take i=p
 induction p with
 | nil=>simp only[List.nil_append,dl]; omega
 | cons b r ih=>simp only[List.cons_append,dl,ih]; omega
theorem qV: ∀(n:Nat),n≤1099511627776→ ∀(a:aA),aN a<n→eG n a.f0 a.f1 a.f2 a.f3 a.f4=some (jJ a)
 | 0,_,a,h=>by omega
 | n+1,hn,a,h=>by
  have ih:=qV n (by omega)
  rw[zG,Iy]
  unfold lW
  rw[nF,eO,dH]at h
  have h2:=aX aN a.f3
  cases decide (a.f0=3)with
  | true=>
   simp only[cond_true]
   have hap:gA 16 ([]:List (List UInt8)) [a.f2]=some [a.f2]:=mQ (by simp) (by simp [maxLen])
   rw[hap]
   cases decide (a.f2=[95])<;>rfl
  | false=>
   simp only[cond_false]
   generalize a.f3=l at h h2
   have hl:=pV (body:=iF n (eG n) l) (fun i=>(eS (l.take i),(i:Int))) (len:=l.length) (r:=(eS l,(l.length:Int),false)) (fun i hi=>by
    have ha:l[i]? =some l[i]:=List.getElem?_eq_getElem hi
    generalize l[i]=b at ha
    have hd:=fK aN (List.mem_of_getElem? ha)
    have e:eS (l.take (i+1))=eS (l.take i)++jJ b:=by rw[←lC ha,xO,By]
    have hb:=xN (l.take (i+1))
    have hb2:vY (l.take (i+1))≤dl aN l:=by
     rw[eO]; exact iX aN l (i+1)
    rw[e,List.length_append]at hb
    have hap:gA 16 (eS (l.take i)) (jJ b)=some (eS (l.take (i+1))):=by
     rw[e]
     exact mQ (by omega) (by simp only[maxLen]; omega)
    simp only[iF,fJ ha,cond_true,eC,ha,Option.bind_some,ih b (by omega),hap,bE (show i<4611686018427387904 by omega)]) (by simp only[iF,bB,cond_false,List.take_length]) (n:=n) (by omega)
   refine(congrArg (fun q=>Option.bind q _) hl).trans ?_
   rfl
def val2:Int⊕(Int×Int×Bool)→Int
 | .inl v=>v
 | .inr (v,_,_)=>v
theorem FR: ∀(n:Nat),n≤1099511627776→ ∀(a:aA) (pat:Bool) (d:Nat) (t:Int),d≤10→ -1≤t→t≤300→aN a<n→bP n a.f0 a.f1 a.f2 a.f3 a.f4 pat (d:Int) t=some (tk (xok d pat a) (lO a) t)
 | 0,_,a,pat,d,t,hd,t0,t1,h=>by omega
 | n+1,hn,a,pat,d,t,hd,t0,t1,h=>by
  have ih:=FR n (by omega)
  rw[zA]
  unfold lQ
  rw[nF,eO,dH]at h
  have hl:=aX aN a.f3
  have hl2:=aX dP a.f4
  rw[LY n a.f0 a.f1 a.f2 a.f3 a.f4 pat (by omega) (by omega)]
  have hp:=Mc a
  cases d with
  | zero=>
   rw[decide_eq_true (show((0:Nat):Int)<1 by omega)]
   have e:tk (xok 0 pat a) (lO a) t= -1:=rfl
   rw[e]; rfl
  | succ d=>
   rw[decide_eq_false (show ¬ ((d+1:Nat):Int)<1 by omega)]
   by_cases ht:t<1
   ·rw[decide_eq_true ht,Zy _ _ (by omega)]; rfl
   rw[decide_eq_false ht,FP]
   generalize lO a=q at hp ⊢
   simp only[cond_false,Option.bind_some]
   cases hs:shp pat a.f0 a.f1 a.f2 a.f3.length a.f4.length with
   | false=>rfl
   | true=>
    simp only[Bool.not_true,cond_false,Bool.true_and]
    generalize a.f3=l at h hl hp ⊢
    generalize a.f4=c at h hl2 hp ⊢
    have e1:IntKind.wrap .i64 (((d+1:Nat):Int) - 1)=(d:Int):=by rw[wrap_i64 (by omega) (by omega)]; omega
    rw[wrap_i64 (n:=t - 1) (by omega) (by omega)]
    obtain⟨x,h1,h2⟩:=CH (body:=dY n (bP n) pat ((d+1:Nat):Int) l) l (xok d pat) lO (fun t r=>r.1=t) (fun i b t hb q0 q1=>by
     have hm:=fK aN (List.mem_of_getElem? hb)
     have hi:=gY hb
     left
     simp only[dY,fJ hb,cond_true,eC,hb,Option.bind_some,decide_eq_true q0,e1,ih b pat d t (by omega) (by omega) q1 (by omega),bE (show i<4611686018427387904 by omega)]) (fun i t ht hi=>⟨(t,(i:Int),false),by
      simp only[dY,decide_eq_true (show(i:Int)<(l.length:Int)by omega),cond_true,Option.bind_some,decide_eq_false (show ¬ 0≤t by omega),cond_false],rfl⟩) (fun t=>⟨(t,(l.length:Int),false),by simp only[dY,bB,cond_false,Option.bind_some],rfl⟩) l 0 (t - 1) n rfl (by omega) (by omega) (by omega) (by omega)
    have h1:loopN (dY n (bP n) pat ((d+1:Nat):Int) l) n (t - 1,(0:Int))=some x:=h1
    rw[h1]
    obtain⟨x1,x2,x3⟩:=x
    simp only at h2
    subst h2
    simp only[Option.bind_some]
    rw[Ij (xok d pat) lO l (by omega), ←Gr]
    have hb:=TD (l.all (xok d pat)) (kN l) (t - 1) (by omega)
    obtain⟨y,h3,h4⟩:=CH (body:=dX n (bP n) ((d+1:Nat):Int) c) c (cok d) Mb (fun t r=>val2 r=t) (fun i b t hc q0 q1=>by
     have hm:=fK dP (List.mem_of_getElem? hc)
     have hi:=gY hc
     have hw:=xM b
     have v1:eG n b.f0 b.f1 b.f2 b.f3 b.f4=some (jJ b.p):=qV n (by omega) b.p (by omega)
     have hvl:=FT b.p
     have v2:bP n b.f0 b.f1 b.f2 b.f3 b.f4 true (d:Int) t=some (tk (xok d true b.p) (lO b.p) t):=ih b.p true d t (by omega) (by omega) q1 (by omega)
     have hb1:=TD (xok d true b.p) (lO b.p) t (by omega)
     have v3:bP n b.f5 b.f6 b.f7 b.f8 b.f9 false (d:Int) (tk (xok d true b.p) (lO b.p) t)=some (tk (xok d false b.x) (lO b.x) (tk (xok d true b.p) (lO b.p) t)):=ih b.x false d _ (by omega) hb1.1 (by omega) (by omega)
     have hcc:=aBb b
     have hpp:=Mc b.p
     unfold cok
     simp only[dX,fJ hc,cond_true,eC,hc,Option.bind_some,decide_eq_true q0,v1,HR n (jJ b.p) (by omega) (by omega),e1,v2,v3,bE (show i<4611686018427387904 by omega)]
     cases ho:MY (jJ b.p)with
     | false=>
      right
      exact⟨.inl (-1),rfl,rfl,by unfold tk; rfl⟩
     | true=>
      left
      simp only[Bool.not_true,cond_false,Bool.true_and]
      by_cases g:0≤tk (xok d true b.p) (lO b.p) t
      ·rw[decide_eq_true g]
       simp only[cond_true,Option.bind_some,Option.some.injEq,Sum.inl.injEq,Prod.mk.injEq,and_true]
       unfold tk at g ⊢
       cases hx:xok d true b.p with
       | false=>rw[hx]at g; simp at g
       | true=>
        rw[hx,Bool.true_and]at g
        simp only[Bool.true_and]
        by_cases z:(lO b.p:Int)≤t
        ·rw[decide_eq_true z,cond_true]
         by_cases z2:(lO b.x:Int)≤t - lO b.p
         ·rw[decide_eq_true z2,decide_eq_true (show(Mb b:Int)≤t by omega)]
          cases xok d false b.x
          ·rfl
          ·simp only[Bool.and_true,cond_true]; omega
         ·rw[decide_eq_false z2,decide_eq_false (show ¬ (Mb b:Int)≤t by omega)]
          cases xok d false b.x<;>rfl
        ·rw[decide_eq_false z]at g; simp at g
      ·rw[decide_eq_false g]
       have g1:tk (xok d true b.p) (lO b.p) t= -1:=by omega
       simp only[cond_false,Option.bind_some,Option.some.injEq,Sum.inl.injEq,Prod.mk.injEq,and_true]
       rw[g1]
       unfold tk at g ⊢
       cases hx:xok d true b.p with
       | false=>rfl
       | true=>
        rw[hx,Bool.true_and]at g
        by_cases z:(lO b.p:Int)≤t
        ·rw[decide_eq_true z,cond_true]at g; omega
        ·rw[decide_eq_false (show ¬ (Mb b:Int)≤t by omega),Bool.and_false]; rfl) (fun i t ht hi=>⟨.inr (t,(i:Int),false),by
      simp only[dX,decide_eq_true (show(i:Int)<(c.length:Int)by omega),cond_true,Option.bind_some,decide_eq_false (show ¬ 0≤t by omega),cond_false],rfl⟩) (fun t=>⟨.inr (t,(c.length:Int),false),by simp only[dX,bB,cond_false,Option.bind_some],rfl⟩) c 0 (tk (l.all (xok d pat)) (kN l) (t - 1)) n rfl hb.1 (by omega) (by omega) (by omega)
    have h3:loopN (dX n (bP n) ((d+1:Nat):Int) c) n (tk (l.all (xok d pat)) (kN l) (t - 1),(0:Int))=some y:=h3
    rw[h3]
    simp only[Option.bind_some]
    have h5:some (val2 y)=some (tk (l.all (xok d pat)&&c.all (cok d)) q t):=by
     rw[h4]
     congr 1
     by_cases g:0≤tk (l.all (xok d pat)) (kN l) (t - 1)
     ·rw[Ij (cok d) Mb c g, ←Hb]
      unfold tk at g ⊢
      cases hx:l.all (xok d pat)with
      | false=>rw[hx]at g; simp at g
      | true=>
       rw[hx,Bool.true_and]at g
       simp only[Bool.true_and]
       by_cases z:(kN l:Int)≤t - 1
       ·rw[decide_eq_true z,cond_true]
        by_cases z2:(Hr c:Int)≤t - 1 - kN l
        ·rw[decide_eq_true z2,decide_eq_true (show(q:Int)≤t by omega)]
         cases c.all (cok d)
         ·rfl
         ·simp only[Bool.and_true,cond_true]; omega
        ·rw[decide_eq_false z2,decide_eq_false (show ¬ (q:Int)≤t by omega)]
         cases c.all (cok d)<;>rfl
       ·rw[decide_eq_false z]at g; simp at g
     ·have g1:tk (l.all (xok d pat)) (kN l) (t - 1)= -1:=by omega
      rw[g1,FX _ _ _ (by omega)]
      unfold tk at g ⊢
      cases hx:l.all (xok d pat)with
      | false=>rfl
      | true=>
       rw[hx,Bool.true_and]at g
       by_cases z:(kN l:Int)≤t - 1
       ·rw[decide_eq_true z,cond_true]at g; omega
       ·rw[decide_eq_false (show ¬ (q:Int)≤t by omega),Bool.and_false]; rfl
    rw[←h5]
    rcases y with v | ⟨v,i,b⟩<;>rfl
end Go.Own.Q
