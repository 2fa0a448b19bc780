/- The reference's answer: an expression's names, and whether it is right; in plain Lean. No conditions. -/
import Derived.Test.YtgeomhdbckjkcaaW24ExprOk
set_option linter.unusedVariables false
set_option linter.unusedSimpArgs false
set_option linter.unnecessarySimpa false
namespace Go.Own.Q
open Go Go.Proofs

theorem Mc{α:Type}(w:α→Nat): ∀(l:List α) (i:Nat),dl w (l.take i)≤dl w l
 | [],i=>by simp
 | a::r,0=>by simp only[List.take_zero,dl]; omega
 | a::r,i+1=>by have:=Mc w r i; simp only[List.take_succ_cons,dl]; omega
theorem dl_take1{α:Type}(w:α→Nat){l:List α}{i:Nat}{a:α}(h:l[i]? =some a):dl w (l.take (i+1))=dl w (l.take i)+1+w a:=by
 rw[←qS h]
 generalize l.take i=p
 induction p with
 | nil=>simp only[List.nil_append,dl]; omega
 | cons b r ih=>simp only[List.cons_append,dl,ih]; omega
theorem vJ: ∀(n:Nat),n≤1099511627776→ ∀(a:aA),bH a<n→fY n a.f0 a.f1 a.f2 a.f3 a.f4=some (pW a)
 | 0,_,a,h=>by omega
 | n+1,hn,a,h=>by
  have ih:=vJ n (by omega)
  rw[yK,Uh]
  unfold lT
  rw[Ed,qH,oX]at h
  have h2:=bM bH a.f3
  cases decide (a.f0=3)with
  | true=>
   simp only[cond_true]
   have hap:fQ 16 ([]:List (List UInt8)) [a.f2]=some [a.f2]:=vA (by simp) (by simp [maxLen])
   rw[hap]
   cases decide (a.f2=[95])<;>rfl
  | false=>
   simp only[cond_false]
   generalize a.f3=l at h h2
   have hl:=Ab (body:=iK n (fY n) l) (fun i=>(kO (l.take i),(i:Int))) (len:=l.length) (r:=(kO l,(l.length:Int),false)) (fun i hi=>by
    have ha:l[i]? =some l[i]:=List.getElem?_eq_getElem hi
    generalize l[i]=b at ha
    have hd:=eA bH (List.mem_of_getElem? ha)
    have e:kO (l.take (i+1))=kO (l.take i)++pW b:=by rw[←qS ha,GZ,Mo]
    have hb:=Bb (l.take (i+1))
    have hb2:yR (l.take (i+1))≤dl bH l:=by
     rw[qH]; exact Mc bH l (i+1)
    rw[e,List.length_append]at hb
    have hap:fQ 16 (kO (l.take i)) (pW b)=some (kO (l.take (i+1))):=by
     rw[e]
     exact vA (by omega) (by simp only[maxLen]; omega)
    simp only[iK,cW ha,cond_true,cQ,ha,Option.bind_some,ih b (by omega),hap,aV (show i<4611686018427387904 by omega)]) (by simp only[iK,aQ,cond_false,List.take_length]) (n:=n) (by omega)
   refine(congrArg (fun q=>Option.bind q _) hl).trans ?_
   rfl
def val2:Int⊕(Int×Int×Bool)→Int
 | .inl v=>v
 | .inr (v,_,_)=>v
theorem JV: ∀(n:Nat),n≤1099511627776→ ∀(a:aA) (pat:Bool) (d:Nat) (t:Int),d≤10→ -1≤t→t≤300→bH a<n→cN n a.f0 a.f1 a.f2 a.f3 a.f4 pat (d:Int) t=some (tk (xok d pat a) (oR a) t)
 | 0,_,a,pat,d,t,hd,t0,t1,h=>by omega
 | n+1,hn,a,pat,d,t,hd,t0,t1,h=>by
  have ih:=JV n (by omega)
  rw[yI]
  unfold lR
  rw[Ed,qH,oX]at h
  have hl:=bM bH a.f3
  have hl2:=bM cD a.f4
  rw[KZ n a.f0 a.f1 a.f2 a.f3 a.f4 pat (by omega) (by omega)]
  have hp:=QA a
  cases d with
  | zero=>
   rw[decide_eq_true (show((0:Nat):Int)<1 by omega)]
   have e:tk (xok 0 pat a) (oR a) t= -1:=rfl
   rw[e]; rfl
  | succ d=>
   rw[decide_eq_false (show ¬ ((d+1:Nat):Int)<1 by omega)]
   by_cases ht:t<1
   ·rw[decide_eq_true ht,Ui _ _ (by omega)]; rfl
   rw[decide_eq_false ht,Oc]
   generalize oR a=q at hp ⊢
   simp only[cond_false,Option.bind_some]
   cases hs:shp pat a.f0 a.f1 a.f2 a.f3.length a.f4.length with
   | false=>rfl
   | true=>
    simp only[Bool.not_true,cond_false,Bool.true_and]
    generalize a.f3=l at h hl hp ⊢
    generalize a.f4=c at h hl2 hp ⊢
    have e1:IntKind.wrap .i64 (((d+1:Nat):Int) - 1)=(d:Int):=by rw[wrap_i64 (by omega) (by omega)]; omega
    rw[wrap_i64 (n:=t - 1) (by omega) (by omega)]
    obtain⟨x,h1,h2⟩:=Bm (body:=eM n (cN n) pat ((d+1:Nat):Int) l) l (xok d pat) oR (fun t r=>r.1=t) (fun i b t hb q0 q1=>by
     have hm:=eA bH (List.mem_of_getElem? hb)
     have hi:=cH hb
     left
     simp only[eM,cW hb,cond_true,cQ,hb,Option.bind_some,decide_eq_true q0,e1,ih b pat d t (by omega) (by omega) q1 (by omega),aV (show i<4611686018427387904 by omega)]) (fun i t ht hi=>⟨(t,(i:Int),false),by
      simp only[eM,decide_eq_true (show(i:Int)<(l.length:Int)by omega),cond_true,Option.bind_some,decide_eq_false (show ¬ 0≤t by omega),cond_false],rfl⟩) (fun t=>⟨(t,(l.length:Int),false),by simp only[eM,aQ,cond_false,Option.bind_some],rfl⟩) l 0 (t - 1) n rfl (by omega) (by omega) (by omega) (by omega)
    have h1:loopN (eM n (cN n) pat ((d+1:Nat):Int) l) n (t - 1,(0:Int))=some x:=h1
    rw[h1]
    obtain⟨x1,x2,x3⟩:=x
    simp only at h2
    subst h2
    simp only[Option.bind_some]
    rw[Hz (xok d pat) oR l (by omega), ←GW]
    have hb:=Qd (l.all (xok d pat)) (lM l) (t - 1) (by omega)
    obtain⟨y,h3,h4⟩:=Bm (body:=eK n (cN n) ((d+1:Nat):Int) c) c (cok d) LT (fun t r=>val2 r=t) (fun i b t hc q0 q1=>by
     have hm:=eA cD (List.mem_of_getElem? hc)
     have hi:=cH hc
     have hw:=Ba b
     have v1:fY n b.f0 b.f1 b.f2 b.f3 b.f4=some (pW b.p):=vJ n (by omega) b.p (by omega)
     have hvl:=JX b.p
     have v2:cN n b.f0 b.f1 b.f2 b.f3 b.f4 true (d:Int) t=some (tk (xok d true b.p) (oR b.p) t):=ih b.p true d t (by omega) (by omega) q1 (by omega)
     have hb1:=Qd (xok d true b.p) (oR b.p) t (by omega)
     have v3:cN n b.f5 b.f6 b.f7 b.f8 b.f9 false (d:Int) (tk (xok d true b.p) (oR b.p) t)=some (tk (xok d false b.x) (oR b.x) (tk (xok d true b.p) (oR b.p) t)):=ih b.x false d _ (by omega) hb1.1 (by omega) (by omega)
     have hcc:=Wk b
     have hpp:=QA b.p
     unfold cok
     simp only[eK,cW hc,cond_true,cQ,hc,Option.bind_some,decide_eq_true q0,v1,NL n (pW b.p) (by omega) (by omega),e1,v2,v3,aV (show i<4611686018427387904 by omega)]
     cases ho:LP (pW b.p)with
     | false=>
      right
      exact⟨.inl (-1),rfl,rfl,by unfold tk; rfl⟩
     | true=>
      left
      simp only[Bool.not_true,cond_false,Bool.true_and]
      by_cases g:0≤tk (xok d true b.p) (oR b.p) t
      ·rw[decide_eq_true g]
       simp only[cond_true,Option.bind_some,Option.some.injEq,Sum.inl.injEq,Prod.mk.injEq,and_true]
       unfold tk at g ⊢
       cases hx:xok d true b.p with
       | false=>rw[hx]at g; simp at g
       | true=>
        rw[hx,Bool.true_and]at g
        simp only[Bool.true_and]
        by_cases z:(oR b.p:Int)≤t
        ·rw[decide_eq_true z,cond_true]
         by_cases z2:(oR b.x:Int)≤t - oR b.p
         ·rw[decide_eq_true z2,decide_eq_true (show(LT b:Int)≤t by omega)]
          cases xok d false b.x
          ·rfl
          ·simp only[Bool.and_true,cond_true]; omega
         ·rw[decide_eq_false z2,decide_eq_false (show ¬ (LT b:Int)≤t by omega)]
          cases xok d false b.x<;>rfl
        ·rw[decide_eq_false z]at g; simp at g
      ·rw[decide_eq_false g]
       have g1:tk (xok d true b.p) (oR b.p) t= -1:=by omega
       simp only[cond_false,Option.bind_some,Option.some.injEq,Sum.inl.injEq,Prod.mk.injEq,and_true]
       rw[g1]
       unfold tk at g ⊢
       cases hx:xok d true b.p with
       | false=>rfl
       | true=>
        rw[hx,Bool.true_and]at g
        by_cases z:(oR b.p:Int)≤t
        ·rw[decide_eq_true z,cond_true]at g; omega
        ·rw[decide_eq_false (show ¬ (LT b:Int)≤t by omega),Bool.and_false]; rfl) (fun i t ht hi=>⟨.inr (t,(i:Int),false),by
      simp only[eK,decide_eq_true (show(i:Int)<(c.length:Int)by omega),cond_true,Option.bind_some,decide_eq_false (show ¬ 0≤t by omega),cond_false],rfl⟩) (fun t=>⟨.inr (t,(c.length:Int),false),by simp only[eK,aQ,cond_false,Option.bind_some],rfl⟩) c 0 (tk (l.all (xok d pat)) (lM l) (t - 1)) n rfl hb.1 (by omega) (by omega) (by omega)
    have h3:loopN (eK n (cN n) ((d+1:Nat):Int) c) n (tk (l.all (xok d pat)) (lM l) (t - 1),(0:Int))=some y:=h3
    rw[h3]
    simp only[Option.bind_some]
    have h5:some (val2 y)=some (tk (l.all (xok d pat)&&c.all (cok d)) q t):=by
     rw[h4]
     congr 1
     by_cases g:0≤tk (l.all (xok d pat)) (lM l) (t - 1)
     ·rw[Hz (cok d) LT c g, ←HF]
      unfold tk at g ⊢
      cases hx:l.all (xok d pat)with
      | false=>rw[hx]at g; simp at g
      | true=>
       rw[hx,Bool.true_and]at g
       simp only[Bool.true_and]
       by_cases z:(lM l:Int)≤t - 1
       ·rw[decide_eq_true z,cond_true]
        by_cases z2:(JD c:Int)≤t - 1 - lM l
        ·rw[decide_eq_true z2,decide_eq_true (show(q:Int)≤t by omega)]
         cases c.all (cok d)
         ·rfl
         ·simp only[Bool.and_true,cond_true]; omega
        ·rw[decide_eq_false z2,decide_eq_false (show ¬ (q:Int)≤t by omega)]
         cases c.all (cok d)<;>rfl
       ·rw[decide_eq_false z]at g; simp at g
     ·have g1:tk (l.all (xok d pat)) (lM l) (t - 1)= -1:=by omega
      rw[g1,FC _ _ _ (by omega)]
      unfold tk at g ⊢
      cases hx:l.all (xok d pat)with
      | false=>rfl
      | true=>
       rw[hx,Bool.true_and]at g
       by_cases z:(lM l:Int)≤t - 1
       ·rw[decide_eq_true z,cond_true]at g; omega
       ·rw[decide_eq_false (show ¬ (q:Int)≤t by omega),Bool.and_false]; rfl
    rw[←h5]
    rcases y with v | ⟨v,i,b⟩<;>rfl
end Go.Own.Q
