/- Lemmas. No conditions. -/
import Derived.Test.YtgeomhdbckjkcaaW22TermOkB
set_option linter.unusedVariables false
set_option linter.unusedSimpArgs false
namespace Go.Own.Q
open Go Go.Proofs
mutual
def cnt:aB→Nat
 | .mk _ _ _ l=>1+rG l
def rG:List aB→Nat
 | []=>0
 | x::r=>cnt x+rG r
end
theorem FO(x:aB):1≤cnt x:=by cases x; simp only[cnt]; omega
theorem nC(x:aB)(r:List aB):rG (x::r)=cnt x+rG r:=by simp only[rG]
def okD:Nat→aB→Bool
 | 0,_=>false
 | d+1,x=>pH x.f0 x.f1 x.f2 x.f3.length&&x.f3.all (okD d)
def okN(d:Nat)(m:Int)(x:aB):Bool:=okD d x&&decide ((cnt x:Int)≤m)
def qM(x:aB):Bool:=okN 8 300 x
def Gm(d:Nat)(m:Int)(l:List aB):Bool:=l.all (okD d)&&decide ((rG l:Int)≤m)
theorem Kh(d:Nat){m:Int}(h:0≤m):Gm d m []=true:=by
 simp [Gm,rG,h]
theorem HG(d:Nat)(m:Int)(x:aB)(r:List aB)(h:0≤m):Gm d m (x::r)=(okN d m x&&Gm d (m - cnt x) r):=by
 unfold Gm okN
 rw[nC,List.all_cons]
 by_cases h1:(rG r:Int)≤m - cnt x
 ·rw[decide_eq_true h1,decide_eq_true (show(cnt x:Int)≤m by omega),decide_eq_true (by omega)]
  cases okD d x<;>cases r.all (okD d)<;>rfl
 ·rw[decide_eq_false h1,decide_eq_false (show ¬ ((cnt x+rG r:Nat):Int)≤m by omega)]
  cases okD d x<;>cases r.all (okD d)<;>simp
theorem Qx(d:Nat)(m:Int)(a0 a1:Int)(a2:List UInt8)(a3:List aB):okN (d+1) m (.mk a0 a1 a2 a3)=(pH a0 a1 a2 a3.length&&Gm d (m - 1) a3):=by
 unfold okN Gm
 have e:cnt (.mk a0 a1 a2 a3)=1+rG a3:=by simp only[cnt]
 rw[e]
 have e2:okD (d+1) (.mk a0 a1 a2 a3)=(pH a0 a1 a2 a3.length&&a3.all (okD d)):=rfl
 rw[e2,Bool.and_assoc]
 congr 2
 by_cases h:(rG a3:Int)≤m - 1
 ·rw[decide_eq_true h,decide_eq_true (by omega)]
 ·rw[decide_eq_false h,decide_eq_false (by omega)]
theorem okN_zero(m:Int)(x:aB):okN 0 m x=false:=rfl
theorem De{d:Nat}{m:Int}{x:aB}(h:okN d m x=true):(cnt x:Int)≤m:=by
 unfold okN at h
 simp only[Bool.and_eq_true,decide_eq_true_eq]at h
 exact h.2
theorem oksN_le{d:Nat}{m:Int}{x:List aB}(h:Gm d m x=true):(rG x:Int)≤m:=by
 unfold Gm at h
 simp only[Bool.and_eq_true,decide_eq_true_eq]at h
 exact h.2
def mv(d:Nat)(x:aB):Int:=bif okN d 300 x then cnt x else 301
theorem mv_le(d:Nat)(x:aB):1≤mv d x∧mv d x≤301:=by
 unfold mv
 cases h:okN d 300 x with
 | true=>have:=De h; have:=FO x; simp only[cond_true]; omega
 | false=>simp only[cond_false]; omega
def MI(d:Nat)(t:Int)(a:aB):Int⊕Unit:=bif decide (300<t+mv d a)then .inr ()else .inl (t+mv d a)
theorem Ab(d:Nat): ∀(l:List aB) (t:Int),0≤t→t≤300→mZ (MI d) l t=bif Gm d (300 - t) l then .inl (t+rG l)else .inr ()
 | [],t,h0,h1=>by rw[Kh d (by omega)]; simp [mZ,rG]
 | a::r,t,h0,h1=>by
  rw[HG d _ _ _ (by omega)]
  have ec:=nC a r
  generalize rG (a::r)=q at ec ⊢
  have hp:=FO a
  simp only[mZ]
  have key:okN d (300 - t) a=(okN d 300 a&&decide (t+cnt a≤300)):=by
   unfold okN
   rw[Bool.and_assoc]
   congr 1
   by_cases h:(cnt a:Int)≤300 - t
   ·rw[decide_eq_true h,decide_eq_true (show(cnt a:Int)≤300 by omega),decide_eq_true (by omega)]; rfl
   ·rw[decide_eq_false h,decide_eq_false (show ¬ t+(cnt a:Int)≤300 by omega),Bool.and_false]
  rw[key]
  unfold MI mv
  cases h:okN d 300 a with
  | false=>
   rw[cond_false,decide_eq_true (by omega)]; rfl
  | true=>
   rw[cond_true,Bool.true_and]
   by_cases h2:t+(cnt a:Int)≤300
   ·rw[decide_eq_true h2,decide_eq_false (by omega),cond_false,Bool.true_and]
    have ih:=Ab d r (t+cnt a) (by omega) h2
    unfold MI mv at ih
    simp only
    rw[ih,show(300 - t - (cnt a:Int))=300 - (t+cnt a)by omega,show t+(q:Int)=t+cnt a+rG r by omega]
   ·rw[decide_eq_false h2,decide_eq_true (by omega)]; rfl
theorem Eh: ∀(n:Nat) (a0 a1:Int) (a2:List UInt8) (a3:List aB) (d:Nat),d≤8→aT (.mk a0 a1 a2 a3)<n→n<4611686018427387904→bR n a0 a1 a2 a3 (9 - (d:Int))=some (mv d (.mk a0 a1 a2 a3))
 | 0,a0,a1,a2,a3,d,hd,h,_=>by omega
 | n+1,a0,a1,a2,a3,d,hd,h,hn=>by
  rw[sH]
  unfold eV
  simp only[aT,fF]at h
  have hl:=aX aT a3
  rw[LW n a0 a1 a2 a3 (by omega) (by omega)]
  cases d with
  | zero=>
   rw[decide_eq_true (show(8:Int)<9 - ((0:Nat):Int)by omega)]
   rfl
  | succ d=>
   rw[decide_eq_false (show ¬ (8:Int)<9 - ((d+1:Nat):Int)by omega)]
   have ec:cnt (.mk a0 a1 a2 a3)=1+rG a3:=by simp only[cnt]
   unfold mv
   rw[Qx]
   generalize cnt (.mk a0 a1 a2 a3)=q at ec ⊢
   simp only[cond_false,Option.bind_some]
   cases hs:pH a0 a1 a2 a3.length with
   | false=>rfl
   | true=>
    simp only[Bool.not_true,cond_false,Bool.true_and]
    have h1:=CG (body:=cN n (bR n) (9 - ((d+1:Nat):Int)) a3) a3 (MI d) (fun t i=>(t,(i:Int))) (fun t=> .inr (t,(a3.length:Int),false)) (fun _=> .inl 301) (fun t=>1≤t∧t≤300) (fun i a t ha ht=>by
     have hm:=fK aT (List.mem_of_getElem? ha)
     have hi:=gY ha
     have e:IntKind.wrap .i64 (9 - ((d+1:Nat):Int)+1)=9 - (d:Int):=by rw[wrap_i64 (by omega) (by omega)]; omega
     have ih:=Eh n a.f0 a.f1 a.f2 a.f3 d (by omega) (by rw[aU]; omega) (by omega)
     rw[aU]at ih
     simp only[cN,fJ ha,cond_true,eC,ha,Option.bind_some,e,ih,bE (show i<4611686018427387904 by omega)]
     have hb:=mv_le d a
     rw[wrap_i64 (n:=t+mv d a) (by omega) (by omega)]
     unfold MI
     generalize mv d a=g at hb
     by_cases q:300<t+g
     ·right; exact⟨(),by rw[decide_eq_true q]; rfl,by rw[decide_eq_true q,cond_true]⟩
     ·left; exact⟨t+g,by rw[decide_eq_false q]; rfl,by omega,by rw[decide_eq_false q,cond_false]⟩) (fun t _=>by simp only[cN,bB,cond_false]) (n:=n) (by omega) (t0:=1) ⟨by omega,by omega⟩
    rw[Ab d a3 1 (by omega) (by omega)]at h1
    have h1:loopN (cN n (bR n) (9 - ((d+1:Nat):Int)) a3) n ((1:Int),(0:Int))=_:=h1
    rw[h1]
    cases Gm d (300 - 1) a3 with
    | true=>simp only[cond_true,Option.bind_some,Option.some.injEq]; omega
    | false=>rfl
theorem qZ(n:Nat)(a0 a1:Int)(a2:List UInt8)(a3:List aB)(h:aT (.mk a0 a1 a2 a3)<n)(hn:n<4611686018427387904):eH n a0 a1 a2 a3=some (qM (.mk a0 a1 a2 a3)):=by
 unfold eH qM
 have h1:=Eh n a0 a1 a2 a3 8 (by omega) h hn
 have h1:bR n a0 a1 a2 a3 (1:Int)=_:=h1
 rw[h1]
 unfold mv
 simp only[Option.bind_some,Option.some.injEq]
 cases q:okN 8 300 (.mk a0 a1 a2 a3)with
 | true=>have:=De q; rw[cond_true]; exact decide_eq_true this
 | false=>rfl
def lk(d:Nat)(x:aB)(t:Int):Int:=bif okN d t x then t - cnt x else -1
def lks(d:Nat)(l:List aB)(t:Int):Int:=bif Gm d t l then t - rG l else -1
def DX(d:Nat)(t:Int)(a:aB):Int⊕Int:=bif decide (0≤t)then .inl (lk d a t)else .inr t
def Mq{α:Type}:α⊕α→α
 | .inl a=>a
 | .inr a=>a
theorem CJ(d:Nat): ∀(l:List aB) (t:Int), -1≤t→Mq (mZ (DX d) l t)=bif decide (0≤t)then lks d l t else t
 | [],t,h0=>by
  by_cases h:0≤t
  ·rw[decide_eq_true h]; unfold lks; rw[Kh d h]; simp [mZ,Mq,rG]
  ·rw[decide_eq_false h]; rfl
 | a::r,t,h0=>by
  simp only[mZ]
  by_cases h:0≤t
  ·have e:DX d t a= .inl (lk d a t):=by unfold DX; rw[decide_eq_true h]; rfl
   rw[e,decide_eq_true h,cond_true]
   simp only
   unfold lks
   rw[HG d t a r h]
   have ec:=nC a r
   generalize rG (a::r)=q at ec ⊢
   unfold lk
   cases ha:okN d t a with
   | false=>
    rw[cond_false,CJ d r _ (by omega)]; rfl
   | true=>
    have:=De ha
    rw[cond_true,CJ d r _ (by omega),decide_eq_true (by omega),cond_true,Bool.true_and]
    unfold lks
    rw[show t - (q:Int)=t - cnt a - rG r by omega]
  ·have e:DX d t a= .inr t:=by unfold DX; rw[decide_eq_false h]; rfl
   rw[e,decide_eq_false h]; rfl
theorem NN: ∀(n:Nat) (a0 a1:Int) (a2:List UInt8) (a3:List aB) (d:Nat) (t:Int),d≤8→ -1≤t→t≤300→aT (.mk a0 a1 a2 a3)<n→n<4611686018427387904→eE n a0 a1 a2 a3 (d:Int) t=some (lk d (.mk a0 a1 a2 a3) t)
 | 0,a0,a1,a2,a3,d,t,hd,_,_,h,_=>by omega
 | n+1,a0,a1,a2,a3,d,t,hd,t0,t1,h,hn=>by
  rw[zD]
  unfold lT
  simp only[aT,fF]at h
  have hl:=aX aT a3
  rw[Ld n a0 a1 a2 a3 (by omega) (by omega)]
  have hp:=FO (.mk a0 a1 a2 a3)
  cases d with
  | zero=>
   rw[decide_eq_true (show((0:Nat):Int)<1 by omega)]
   rfl
  | succ d=>
   rw[decide_eq_false (show ¬ ((d+1:Nat):Int)<1 by omega)]
   by_cases ht:t<1
   ·rw[decide_eq_true ht]
    unfold lk
    have:okN (d+1) t (.mk a0 a1 a2 a3)=false:=by
     cases q:okN (d+1) t (.mk a0 a1 a2 a3)with
     | false=>rfl
     | true=>have:=De q; omega
    rw[this]; rfl
   rw[decide_eq_false ht]
   have ec:cnt (.mk a0 a1 a2 a3)=1+rG a3:=by simp only[cnt]
   unfold lk
   rw[Qx]
   generalize cnt (.mk a0 a1 a2 a3)=q at ec hp ⊢
   simp only[cond_false,Option.bind_some]
   cases hs:pH a0 a1 a2 a3.length with
   | false=>rfl
   | true=>
    simp only[Bool.not_true,cond_false,Bool.true_and]
    obtain⟨x,h1,h2⟩:=Ei (body:=fP n (eE n) ((d+1:Nat):Int) a3) a3 (DX d) (fun t i=>(t,(i:Int))) (fun t=>(t,(a3.length:Int),false)) (fun q r=>r.1=q) (fun t=> -1≤t∧t≤300) (fun i a t ha ht=>by
     have hm:=fK aT (List.mem_of_getElem? ha)
     have hi:=gY ha
     have e:IntKind.wrap .i64 (((d+1:Nat):Int) - 1)=(d:Int):=by rw[wrap_i64 (by omega) (by omega)]; omega
     have ih:=NN n a.f0 a.f1 a.f2 a.f3 d t (by omega) ht.1 ht.2 (by rw[aU]; omega) (by omega)
     rw[aU]at ih
     simp only[fP,fJ ha,cond_true,eC,ha,Option.bind_some,e,ih,bE (show i<4611686018427387904 by omega)]
     unfold DX
     by_cases q:0≤t
     ·left
      refine⟨lk d a t,by rw[decide_eq_true q]; rfl, ?_,by rw[decide_eq_true q,cond_true]⟩
      unfold lk
      have:=FO a
      cases q2:okN d t a with
      | false=>rw[cond_false]; omega
      | true=>have:=De q2; rw[cond_true]; omega
     ·right
      exact⟨t,_,by rw[decide_eq_false q]; rfl,by rw[decide_eq_false q,cond_false],rfl⟩) (fun t _=>by simp only[fP,bB,cond_false,Option.bind_some]) (n:=n) (by omega) (t0:=t - 1) ⟨by omega,by omega⟩
    have h1:loopN (fP n (eE n) ((d+1:Nat):Int) a3) n (t - 1,(0:Int))=_:=h1
    rw[wrap_i64 (n:=t - 1) (by omega) (by omega),h1]
    have h3:x.1=Mq (mZ (DX d) a3 (t - 1)):=by
     revert h2
     cases mZ (DX d) a3 (t - 1)with
     | inl t'=>intro h2; rw[h2]; rfl
     | inr q=>exact id
    rw[CJ d a3 _ (by omega),decide_eq_true (by omega),cond_true]at h3
    obtain⟨x1,x2,x3⟩:=x
    simp only at h3
    subst h3
    simp only[Option.bind_some,Option.some.injEq]
    unfold lks
    cases Gm d (t - 1) a3 with
    | true=>simp only[cond_true]; omega
    | false=>rfl
theorem Dl(n:Nat)(a0 a1:Int)(a2:List UInt8)(a3:List aB)(h:aT (.mk a0 a1 a2 a3)<n)(hn:n<4611686018427387904):mB n a0 a1 a2 a3=some (qM (.mk a0 a1 a2 a3)):=by
 unfold mB qM
 have h1:=NN n a0 a1 a2 a3 8 300 (by omega) (by omega) (by omega) h hn
 have h1:eE n a0 a1 a2 a3 (8:Int) 300=_:=h1
 rw[h1]
 unfold lk
 simp only[Option.bind_some,Option.some.injEq]
 cases q:okN 8 300 (.mk a0 a1 a2 a3)with
 | true=>have:=De q; rw[cond_true]; exact decide_eq_true (by omega)
 | false=>rfl
end Go.Own.Q
