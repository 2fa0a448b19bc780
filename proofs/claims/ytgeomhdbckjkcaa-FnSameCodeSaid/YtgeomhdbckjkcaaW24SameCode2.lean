/- Two codes: are they the same? The patterns, the whole; a copy is the same. No conditions. -/
import Derived.Test.YtgeomhdbckjkcaaW24SameCode
set_option linter.unusedVariables false
set_option linter.unusedSimpArgs false
set_option linter.unnecessarySimpa false
namespace Go.Own.Q
open Go Go.Proofs
theorem MB(x y:aB):x.f0=y.f0∧x.f1=y.f1∧x.f2=y.f2∧x.f3=y.f3↔x=y:=by
 cases x; cases y
 simp only[aB.mk.injEq]
 rfl
theorem CJ: ∀(n:Nat),n≤1099511627776→(∀x y:aB,2*cS x<n→gQ (iP n x.f0 x.f1 x.f2 x.f3 y.f0 y.f1 y.f2 y.f3) (x=y))∧(∀L M:List aB,2*dl cS L<n→gQ (bT n L M) (L=M))
 | 0,_=>⟨fun x y h=>by omega,fun x y h=>by omega⟩
 | n+1,hn=>by
  obtain⟨i1,i2⟩:=CJ n (by omega)
  refine⟨fun x y h=> ?_,fun L M h=> ?_⟩
  ·rw[AQ]at h
   rw[wJ]
   unfold kF
   exact(oN (rF (fun _=>rF (fun _=>rF (fun _=>oN (i2 _ _ (by omega)) fun _=>rfl) decide_eq_true_iff) decide_eq_true_iff) decide_eq_true_iff) fun _=>rfl).iff (MB x y)
  ·have hl:=bM cS L
   rw[oW]
   unfold dF
   refine(xE fun hl=>lD L M hl (fun i x y hx hy=> ?_) ?_ (by omega) rfl rfl mV).iff (by simp)
   ·have:=cH hx
    have hd:=eA cS (List.mem_of_getElem? hx)
    obtain⟨s,h1,h2⟩:=i1 x y (by omega)
    refine⟨s, ?_,h2⟩
    simp only[dP,cW hx,cond_true,cQ,hx,hy,Option.bind_some,h1,aV (show i<4611686018427387904 by omega)]
    exact(nV _ _ _)
   ·simp only[dP,aQ,cond_false]
theorem tT: ∀(n:Nat),n≤1099511627776→ ∀x y:aB,cS x<n→gQ (fA n x.f0 x.f1 x.f2 x.f3 y.f0 y.f1 y.f2 y.f3) (x=y)
 | 0,_=>fun x y h=>by omega
 | n+1,hn=>fun x y h=>by
  have ih:=tT n (by omega)
  rw[AQ]at h
  have hl:=bM cS x.f3
  rw[sV]
  unfold gM
  have e: ∀ {a b c d:Int} {e f:List UInt8} {g h:List aB} {o:Option Bool},(g.length=h.length→gQ o (g=h))→gQ ((bif !decide (a=b)then some true else bif !decide (c=d)then some true else bif !decide (e=f)then some true else some (!decide ((g.length:Int)=(h.length:Int)))).bind fun v=>bif v then some false else o) (a=b∧c=d∧e=f∧g=h):=fun {a b c d e f g h o} ho=>by
   by_cases h1:a=b
   ·rw[decide_eq_true h1]
    by_cases h2:c=d
    ·rw[decide_eq_true h2]
     by_cases h3:e=f
     ·rw[decide_eq_true h3]
      by_cases h4:g.length=h.length
      ·rw[BN.2 h4]
       exact(ho h4).iff (by simp [h1,h2,h3])
      ·rw[decide_eq_false (by omega)]
       exact⟨false,rfl,by simp; intro _ _ _ h; exact h4 (congrArg List.length h)⟩
     ·rw[decide_eq_false h3]; exact⟨false,rfl,by simp [h3]⟩
    ·rw[decide_eq_false h2]; exact⟨false,rfl,by simp [h2]⟩
   ·rw[decide_eq_false h1]; exact⟨false,rfl,by simp [h1]⟩
  refine(e fun hl2=>(lD x.f3 y.f3 hl2 (fun i a b hx hy=> ?_) ?_ (by omega) rfl rfl mV).iff (by simp)).iff (MB x y)
  ·have:=cH hx
   have hd:=eA cS (List.mem_of_getElem? hx)
   obtain⟨s,h1,h2⟩:=ih a b (by omega)
   refine⟨s, ?_,h2⟩
   simp only[gK,cW hx,cond_true,cQ,hx,hy,Option.bind_some,h1,aV (show i<4611686018427387904 by omega)]
   exact(nV _ _ _)
  ·simp only[gK,aQ,cond_false]
theorem sH{n:Nat}(hn:n≤1099511627776){fs gs:List aG}{ps qs:List aB}(h1:dl wFn fs<n)(h2:2*dl cS ps<n):gQ (gL n fs ps gs qs) (fs=gs∧ps=qs):=by
 unfold gL
 have hl:=bM wFn fs
 have hf:gQ (dG n fs gs) (fs=gs):=by
  unfold dG
  refine(xE fun hl2=>lD fs gs hl2 (fun i x y hx hy=> ?_) ?_ (by omega) rfl rfl mV).iff (by simp)
  ·have:=cH hx
   have hd:=eA wFn (List.mem_of_getElem? hx)
   rw[FU]at hd
   have hd2:=bM iX x.f3
   obtain⟨s,h1,h2⟩:=Mu (n:=n) x y (by omega) hn
   refine⟨s, ?_,h2⟩
   simp only[dO,cW hx,cond_true,cQ,hx,hy,Option.bind_some,h1,aV (show i<4611686018427387904 by omega)]
   exact(nV _ _ _)
  ·simp only[dO,aQ,cond_false]
 obtain⟨s,e,e2⟩:=hf
 rw[e,Option.bind_some]
 exact oN (rF (fun _=>oN ((CJ n hn).2 ps qs h2) fun _=>rfl) e2) fun _=>rfl
theorem Aq{n:Nat}(hn:n≤1099511627776){fs gs:List aG}{ps qs:List aB}(h1:dl wFn fs<n)(h2:2*dl cS ps<n):gQ (jI n fs ps gs qs) (fs=gs∧ps=qs):=by
 unfold jI
 have hl:=bM wFn fs
 have hp:=bM cS ps
 have pre: ∀ {o:Option Bool},(fs.length=gs.length→ps.length=qs.length→gQ o (fs=gs∧ps=qs))→gQ ((bif !decide ((fs.length:Int)=(gs.length:Int))then some true else some (!decide ((ps.length:Int)=(qs.length:Int)))).bind fun v=>bif v then some false else o) (fs=gs∧ps=qs):=fun ho=>by
  by_cases c1:fs.length=gs.length
  ·rw[BN.2 c1]
   by_cases c2:ps.length=qs.length
   ·rw[BN.2 c2]; exact ho c1 c2
   ·rw[decide_eq_false (by omega)]; exact⟨false,rfl,(fun h=>nomatch h),fun h=>absurd (congrArg List.length h.2) c2⟩
  ·rw[decide_eq_false (by omega)]; exact⟨false,rfl,(fun h=>nomatch h),fun h=>absurd (congrArg List.length h.1) c1⟩
 refine pre fun c1 c2=>lD fs gs c1 (fun i x y hx hy=> ?_) ?_ (by omega) rfl rfl ((lD ps qs c2 (fun i x y hx hy=> ?_) ?_ (by omega) rfl rfl mV).iff (by simp))
 ·have:=cH hx
  have hd:=eA wFn (List.mem_of_getElem? hx)
  rw[FU]at hd
  have hd2:=bM iX x.f3
  obtain⟨s,h1,h2⟩:=De (n:=n) x y (by omega) hn
  refine⟨s, ?_,h2⟩
  simp only[iZ,cW hx,cond_true,cQ,hx,hy,Option.bind_some,h1,aV (show i<4611686018427387904 by omega)]
  exact(nV _ _ _)
 ·simp only[iZ,aQ,cond_false]
 ·have:=cH hx
  have hd:=eA cS (List.mem_of_getElem? hx)
  obtain⟨s,h1,h2⟩:=tT n hn x y (by omega)
  refine⟨s, ?_,h2⟩
  simp only[iY,cW hx,cond_true,cQ,hx,hy,Option.bind_some,h1,aV (show i<4611686018427387904 by omega)]
  exact(nV _ _ _)
 ·simp only[iY,aQ,cond_false]
theorem HU{n:Nat}(hn:n≤1099511627776){a b:List Int}(h:a.length<n):gQ (iL n a b) (a=b):=by
 unfold iL
 refine(xE fun hl=>lD a b hl (fun i x y hx hy=>⟨_, ?_,decide_eq_true_iff⟩) ?_ h rfl rfl mV).iff (by simp)
 ·have:=cH hx
  simp only[hG,cW hx,cond_true,cQ,hx,hy,Option.bind_some,aV (show i<4611686018427387904 by omega)]
  exact(nV _ _ _)
 ·simp only[hG,aQ,cond_false]
theorem MC(a:aB):aB.mk a.f0 a.f1 a.f2 a.f3=a:=by cases a; rfl
theorem VL(a:aG):aG.mk a.f0 a.f1 a.f2 a.f3=a:=by cases a; rfl
theorem AK: ∀(n:Nat),n≤1099511627776→ ∀a:aB,cS a<n→cS a≤20000000→dL n a.f0 a.f1 a.f2 a.f3=some (a.f0,a.f1,a.f2,a.f3)
 | 0,_=>fun a h=>by omega
 | n+1,hn=>fun a h hb=>by
  have ih:=AK n (by omega)
  rw[AQ]at h hb
  have hl:=bM cS a.f3
  rw[uK]
  unfold iE
  obtain⟨r,e,hr⟩:=Gt.list (body:=dU n (dL n) a.f3) a.f3 (fun i s=>s=((i:Int),a.f0,a.f1,a.f2,a.f3.take i)) (fun r=>r=((a.f3.length:Int),false,a.f0,a.f1,a.f2,a.f3)) (fun i x s hx hs=>by
   subst hs
   have hd:=eA cS (List.mem_of_getElem? hx)
   have hi:=cH hx
   refine⟨_, ?_,_,rfl,rfl⟩
   simp only[dU,cW hx,cond_true,cQ,hx,Option.bind_some,ih x (by omega) (by omega),MC,Be 56 hx (by omega) (by omega),aV (show i<4611686018427387904 by omega)]) (fun s hs=>by
   subst hs
   refine⟨_, ?_,_,rfl,rfl⟩
   simp only[dU,aQ,cond_false,List.take_length]) (n:=n) rfl (by omega)
  have e:loopN (dU n (dL n) a.f3) n ((0:Int),a.f0,a.f1,a.f2,([]:List aB))=some r:=e
  rw[e,hr]
  rfl
theorem SN{α:Type}{k:Nat}{b:List α}(h:b.length≤1048576000)(hk:k≤255):fQ k ([]:List α) b=some b:=by
 obtain⟨r,e,e2⟩:=mF (k:=k) (a:=[]) (b:=b) (by simpa using h) hk
 rw[e,e2,List.nil_append]
theorem Gw{n:Nat}(hn:n≤1099511627776){fs:List aG}{ps:List aB}(h1:dl wFn fs<n)(h2:dl cS ps<n)(b1:dl wFn fs≤20000000)(b2:dl cS ps≤20000000):jK n fs ps=some (fs,ps):=by
 unfold jK
 have hl:=bM wFn fs
 have hp:=bM cS ps
 obtain⟨r,e,hr⟩:=Gt.list (body:=fT n fs) fs (fun i s=>s=((i:Int),fs.take i,[])) (fun r=>r=((fs.length:Int),false,fs,[])) (fun i x s hx hs=>by
  subst hs
  have hd:=eA wFn (List.mem_of_getElem? hx)
  have hi:=cH hx
  rw[FU]at hd
  have hd2:=bM iX x.f3
  refine⟨_, ?_,_,rfl,rfl⟩
  simp only[fT,cW hx,cond_true,cQ,hx,Option.bind_some,SN (b:=x.f3) (k:=40) (by omega) (by omega),VL,Be 56 hx (by omega) (by omega),aV (show i<4611686018427387904 by omega)]) (fun s hs=>by
  subst hs
  refine⟨_, ?_,_,rfl,rfl⟩
  simp only[fT,aQ,cond_false,List.take_length]) (n:=n) rfl (by omega)
 have e:loopN (fT n fs) n ((0:Int),([]:List aG),([]:List aB))=some r:=e
 rw[e,hr]
 simp only[Option.bind_some]
 obtain⟨r,e,hr⟩:=Gt.list (body:=fS n ps) ps (fun i s=>s=((i:Int),fs,ps.take i)) (fun r=>r=((ps.length:Int),false,fs,ps)) (fun i x s hx hs=>by
  subst hs
  have hd:=eA cS (List.mem_of_getElem? hx)
  have hi:=cH hx
  refine⟨_, ?_,_,rfl,rfl⟩
  simp only[fS,cW hx,cond_true,cQ,hx,Option.bind_some,AK n hn x (by omega) (by omega),MC,Be 56 hx (by omega) (by omega),aV (show i<4611686018427387904 by omega)]) (fun s hs=>by
  subst hs
  refine⟨_, ?_,_,rfl,rfl⟩
  simp only[fS,aQ,cond_false,List.take_length]) (n:=n) rfl (by omega)
 have e:loopN (fS n ps) n ((0:Int),fs,([]:List aB))=some r:=e
 rw[e,hr]
 rfl
end Go.Own.Q
