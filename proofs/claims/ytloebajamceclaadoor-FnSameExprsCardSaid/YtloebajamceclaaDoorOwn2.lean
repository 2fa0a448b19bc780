/- A calculus for runs on plain data (part 3): whoever runs code on data, with its owners checked, runs the program. No conditions. -/
import Derived.Test.YtloebajamceclaaDoorOwn1
import Derived.LoopN
set_option linter.unusedVariables false
set_option linter.unusedSimpArgs false
set_option linter.unnecessarySimpa false
namespace Go.Own
open Go.RowKit
set_option linter.unusedVariables false

def isL(l m:Loc):Bool:=decide (m=l)
def St.raise(st:St)(l:Loc)(κ:K):St:=st.setf (isL l) (fun m=>if m=l then κ else st.fl m)
def St.callIo(st:St)(sg:Sg)(xs:List Operand)(d:Option Nat)(l:Loc)(κ:K)(y:D)(z:T):St:=
 ((((st.pre sg xs []).drop (isL l)).call d none [] sg.ext sg.bo y).upd l z).raise l κ

theorem Ni{st:St}{l:Loc}{d:Option Nat}{y:D}{ext:Bool}{a:B}{i n j:Nat}(h:((st.drop (isL l)).call d none [] ext a y).sl i= .one (.pp l [] n j)):((st.drop (isL l)).call d none [] ext a y).fl (.s i 0 0)= .D:=by
 simp only[St.call]at h ⊢; by_cases e:d=some i
 ·rw[z17 e]at h
  cases hy:y.sl 0 with
  | tup g=>rw[hy]at h; cases h
  | one w=>
   rw[hy]at h; simp only[V.to,V.one.injEq]at h; cases w<;>simp [W.to]at h
   ·rename_i o c
    cases hq:oO [] none o<;>rw[hq]at h<;>cases h
   ·rename_i f caps
    cases hq:uY (oO [] none) caps<;>rw[hq]at h<;>cases h
 ·rw[z11 e]at h ⊢
  split
  ·rfl
  ·have b:st.sl i= .one (.pp l [] n j):=by
    have:tU none ((st.drop (isL l)).sl i)=(st.drop (isL l)).sl i:=by
     first | rfl | (unfold tU; rfl) | simp [tU]
    rw[this]at h; exact h
   simp only[St.drop,St.setf,b]; exact z17 ⟨trivial,trivial,by simp [aE,isL]⟩
theorem HU{P:Program}{g0:G}{w0:World}{st:St}{o:Oper}{c:Call}{x:Operand}{f:FuncId}{sg:Sg}{vs:List V}{r:V}{y0 y' x0:T}{t n n1:Nat}{xs':List Operand}{l:Loc}{p:List (Nat×Nat)}{κ:K}
  (ho:o.op= .call c)(hcal:c.callee= .value x)(hx:ev st.sl x= .one (.fn f []))(hC:TC P f sg vs [] r (some y') [] none)(hsg:sg.io=some 0)(hext:sg.ext=true)(hd: ∀i,o.dst=some i→i<st.n)
  (hnp:sg.np=vs.length)(hle:sg.np≤par)(hb0:sg.bo.has 0=true)(hvs:vs=c.args.toList.map (fun v=>(evR st v).to (kM [])))(hargs:c.args.toList= .tmp t::xs')
  (hsl:st.sl t= .one (.al l p))(hln:l≠ .none)(hft:st.fl (.s t 0 0)≠ .D)(hfl:st.fl l= .U n)(hat:st.at l=some x0)(hnav:nav x0 p=some y0)
  (hbi:sg.bi.kd (.s 0 0 0)= .U 0)(hb1:sg.bo.has 1=true)(hbo:sg.bo.kd (.s 1 0 0)= .U n1)(hκ:κ=if p=[]then .U n1 else .U n)(hnd: ∀i k j,l= .s i k j→o.dst≠some i)
  (harg: ∀(i:Nat) v,xs'[i]? =some v→Fz st sg c.args.toList (i+1) v)(hnh: ∀i k j,i≠0→(sg.bi.kd (.s i k j)).hold=false)(hnl:p≠[]→n1=0):
  OpW P g0 w0 o st (st.callIo sg c.args.toList o.dst l κ (DR r (some y') [] none) (cD x0 p y')):=by
 intro Q K a w ⟨g,hs⟩ hK; have hlp:=at_isPlace hat; obtain⟨hh,v0,x0',y0',hv0,hx0',hpl⟩:(st.fl l).hold=true∧ ∃v0 x0' y0',vAt a.tmps g.β w l=some v0∧st.at l=some x0'∧Pl w v0 x0' p (a.tmps.getD t undef) y0':=by
  have hp:=hs.pls t (by rw[hsl]; exact hln) hft
  rw[hsl]at hp; exact hp
 rw[hat]at hx0'; cases hx0'; have e0:=hpl.nav; rw[hnav]at e0; cases e0; obtain⟨v0',hv0',hna0,hlf0⟩:=hs.get hat; rw[hv0]at hv0'; cases hv0'; rw[hfl]at hlf0; have hlf0:Ow (frz g w) true w (eW n) (fun b=>g.own b=l) v0 x0:=hlf0
 obtain⟨Fp,q1,q2,q3⟩:=hlf0.part hpl; have q2:Ow (frz g w) true w none Fp (a.tmps.getD t undef) y0:=by
  by_cases e:p=[]
  ·rw[z17 e]at q2; exact q2.any
  ·rw[z11 e]at q2; exact q2
 have hFpl: ∀b,Fp b→(g.own b).place=true:=fun b hb=>by rw[q1 b hb]; exact hlp
 have hlt: ∀k j,l≠ .s t k j:=fun k j e=>by
  rw[e,St.at_s,hsl]at hat; cases k<;>simp [V.leaf,W.leaf]at hat
 have harg0: ∀(t' i k j:Nat),Ac c.args.toList t'=some i→(sg.bi.kd (.s i k j)).hold=true→i=0∧t'=t:=fun t' i k j h1 h2=>by
  have hi:i=0:=Decidable.byContradiction fun e=>by rw[hnh i k j e]at h2; cases h2
  subst hi; refine⟨rfl, ?_⟩
  unfold Ac at h1; rw[hargs]at h1; split at h1
  ·simp only[z8,List.findIdx_cons]at h1
   cases hh:rY t' (.tmp t)with
   | true=>simp only[rY]at hh; exact(by simpa using hh:t=t').symm
   | false=>rw[hh]at h1; simp at h1
  ·cases h1
 have hinto: ∀m:Loc,m≠ .none→(∀k j,m≠ .s t k j)→(∀o,m≠ .obj o)→fV sg c.args.toList [] m= .ext:=fun m h1 h2 h3=>by
  have hr:nI sg.ext= .ext:=by rw[hext]; rfl
  cases m with
  | none=>exact absurd rfl h1
  | ext=>exact hr
  | obj o=>exact absurd rfl (h3 o)
  | s t' k j=>
   simp only[fV]; split
   ·rename_i i hi
    split
    ·rename_i hk
     exact absurd (by rw[(harg0 t' i k j hi hk).2]) (h2 k j)
    ·exact hr
   ·exact hr
  | oc o j=>simp only[fV,kM]; simp [hr]
 have hintol:fV sg c.args.toList [] l= .ext:=hinto l hln hlt (Loc.place_ne hlp).2.2; have hrv0:RV (g.into sg c.args.toList [] Fp) w (fun k j=>sg.bi.kd (.s 0 k j)) (fun k j=> .s 0 k j) (a.eval (.tmp t)) ((evR st (.tmp t)).to (kM [])):=by
  have e:evR st (.tmp t)= .one (.c y0):=by
   show qZ st.sl st.ob (st.sl t)=_; rw[hsl]; have hat':atL st.sl st.ob l=some x0:=hat; simp [qZ,hat',hnav]
  rw[e]; show jM _∧LF _ w (sg.bi.kd (.s 0 0 0)) (.s 0 0 0) (a.tmps.getD t undef) y0; have hrd:=hs.pl_rd hh hv0 hat hpl; refine⟨hrd.not_agg, ?_⟩
  rw[hbi]; show Ow _ true w none _ _ _; exact q2.mono id (fun e=>by cases e) (fun b hb=>⟨by simp only[G.into]; rw[z17 hb,hsg]; rfl,rfl⟩)
 have he:=hs.enter (sg:=sg) (xs:=c.args.toList) (caps:=[]) (os:=[]) (Fp:=Fp) Oe hnp hle hFpl (fun e=>by rw[hext]at e; cases e) (fun t' i k j h1 h2 b hb hf=>by
  obtain⟨rfl,rfl⟩:=harg0 t' i k j h1 h2; rw[q1 b hf]at hb; exact hlt k j hb) (fun o oc j h _ _ _=>by simp [kM]at h) (vs:=vs) (ob:=[]) (by rw[hvs]; simp) rfl (fun i v hv hio=>by
  cases i with
  | zero=>exact absurd hsg hio
  | succ i=>rw[hargs]at hv; exact harg i v (by simpa using hv)) (fun o oc j h=>by simp [kM]at h) (fun i v hv hio=>by
  rw[hsg]at hio; cases hio; rw[hargs]at hv; simp only[z19,z8]at hv
  subst hv; exact hrv0)
 have hC:=hC _ _ _ he; have hfv:a.eval x= .func (.func f) #[] (([]:List (Nat×Nat)).map fun c=>Value.pointer (some ⟨g.β c.1,c.2,none⟩)).toArray:=by
  have:=hs.ev_rv x (fun _ _=> .none)
  rw[hx]at this; exact this
 have hrun:(execOp a.eval o).run P w=(callFunc f (c.args.toList.map a.eval++([]:List (Nat×Nat)).map fun c=>Value.pointer (some ⟨g.β c.1,c.2,none⟩)).toArray).run P w:=by
  obtain⟨dst,op,ty,pos,after,guard⟩:=o; simp only at ho; subst ho; simp only[execOp,resolve,hcal,hfv,Deferred.ofValue,Sem.run_bind,Sem.run_pure,Result.andThen_ok,invoke]; congr 2
  apply Hl
  simp
 have hq0:(fun m=> !(eE (fV sg c.args.toList [] m))&& !(eE m)) Loc.none=false:=by simp [eE]
 have hpure: ¬ vZ sg=true:=fun h=>by
  have:=CK h (.s 0 0 0); rw[hbi]at this; cases this
 have hs1:bH g0 w0 (st.pre sg c.args.toList []) a g w:=by
  unfold St.pre; rw[z11 hpure]; exact hs.killV.drop _ hq0
 have hl0:isL l .none=false:=by simp only[isL]; exact z9 (Ne.symm hln)
 have hs2:bH g0 w0 ((st.pre sg c.args.toList []).drop (isL l)) a g w:=hs1.drop _ hl0; have hat1:(st.pre sg c.args.toList []).at l=some x0:=by unfold St.pre; rw[z11 hpure]; exact hat
 have key: ∀v w',(∃g',bH (g.into sg c.args.toList [] Fp) w (sg.bo.S 2 (DR r (some y') [] none)) ⟨#[v,(c.args.toList.map a.eval++([]:List (Nat×Nat)).map fun c=>Value.pointer (some ⟨g.β c.1,c.2,none⟩)).toArray.getD (sg.io.getD 0) undef],[]⟩ g' w')→
   Sim g0 w0 (st.callIo sg c.args.toList o.dst l κ (DR r (some y') [] none) (cD x0 p y')) (a.put o.dst v) w':=by
  rintro v w' ⟨g',h1⟩
  have h3:=hs2.leave (v:=v) (d:=o.dst) (nd:=none) (iol:=l) Oe (by unfold St.pre; rw[z11 hpure]; exact hd) (fun _ e=>by cases e) hFpl ⟨hln,(Loc.place_ne hlp).2.2⟩ h1 rfl hb0 (fun m z hm1 hm2=>by
   have hmp:=at_isPlace hm2; have hm2':(st.pre sg c.args.toList []).at m=some z:=hm2; rw[yE hl0 hm2']at hm1; by_cases e:isL l m=true
   ·rw[z17 e]at hm1; cases hm1
   ·rw[z11 e]at hm1
    have hml:m≠l:=by simpa [isL]using e
    refine⟨?_,fun b hb hf=>hml (by rw[←hb]; exact q1 b hf)⟩
    cases hq:eE (fV sg c.args.toList [] m)with
    | true=>rfl
    | false=>
     exfalso
     have hmp2:eE m=false:=by cases m<;>first | rfl | cases hmp
     have hm3:st.killV.at m=some z:=by unfold St.pre at hm2'; rw[z11 hpure]at hm2'; exact hm2'
     unfold St.pre at hm1; rw[z11 hpure,yE hq0 hm3,hq,hmp2]at hm1; simp [Own.K.hold]at hm1) (.inl fun m=>by
   have h0: ∀m,(st.pre sg c.args.toList []).fl m≠ .V:=by
    unfold St.pre; rw[z11 hpure]; refine mK (fun m=> ?_)
    split
    ·simp
    ·exact nK st m
   refine mK (fun m=> ?_) m
   split
   ·simp
   ·exact h0 m)
  generalize hgb:g.back (g.into sg c.args.toList [] Fp) g' w o.dst none [] l=gb at h3; generalize hst3:((st.pre sg c.args.toList []).drop (isL l)).call o.dst none [] sg.ext sg.bo (DR r (some y') [] none)=st3 at h3; have hat3:st3.at l=some x0:=by
   rw[←hst3]; cases l with
   | s i k j=>
    have:=hnd i k j rfl; rw[St.at_s]; simp only[St.call,z11 this,tU]; have h9:((st.pre sg c.args.toList []).drop (isL (.s i k j))).at (.s i k j)=some x0:=hat1; rw[St.at_s]at h9; exact h9
   | oc o j=>
    rw[St.at_oc]; simp only[St.call,mA,Ny,if_false]; have h9:((st.pre sg c.args.toList []).drop (isL (.oc o j))).at (.oc o j)=some x0:=hat1; rw[St.at_oc]at h9; simpa using h9
   | _=>cases hlp
  have hkeep: ∀b,b<w.heap.size→eE ((g.into sg c.args.toList [] Fp).own b)=true→g'.own b=(g.into sg c.args.toList [] Fp).own b∧w'.heap[b]? =w.heap[b]? ∧gb.own b=g.own b:=fun b hb hf=>by
   obtain⟨k1,k2⟩:=h1.framed.evo.keep b hb (fun h=>h (Dy.1 hf))
   refine⟨k1,k2, ?_⟩
   rw[←hgb]; simp only[G.back]; rw[z17 (by rw[k1]; exact hf),z17 ⟨hb,hf⟩]
  have hrest: ∀b,g.own b=l→ ¬ Fp b→gb.own b=l∧w'.heap[b]? =w.heap[b]? ∧eE (g'.own b)=true:=fun b hb hf=>by
   have hlt:b<w.heap.size:=hs.ok.own b (by rw[hb]; exact hln)
   have hfo:eE ((g.into sg c.args.toList [] Fp).own b)=true:=by rw[fX hf,hb,hintol]; rfl
   obtain⟨k1,k2,k3⟩:=hkeep b hlt hfo; exact⟨k3.trans hb,k2,by rw[k1]; exact hfo⟩
  have hN: ∀b,g'.own b= .s 1 0 0→gb.own b=l:=fun b hb=>by
   rw[←hgb]; simp only[G.back]; rw[z11 (by rw[hb]; simp [eE]),hb]
   rfl
  have hu1:(c.args.toList.map a.eval++([]:List (Nat×Nat)).map fun c=>Value.pointer (some ⟨g.β c.1,c.2,none⟩)).toArray.getD (sg.io.getD 0) undef=a.tmps.getD t undef:=by
   rw[hsg,hargs]; simp only[z72,z41]; rfl
  have hy:Ow (frz g' w') true w' (eW n1) (fun b=>g'.own b= .s 1 0 0) (a.tmps.getD t undef) y':=by
   have h5:=h1.slots 1; rw[show(sg.bo.S 2 (DR r (some y') [] none)).sl 1= .one (.c y')from lE hb1]at h5; have h6:=h5.2; have h7:LF g' w' (sg.bo.kd (.s 1 0 0)) (.s 1 0 0) _ y':=h6; rw[hbo]at h7; have e1:(#[v,(c.args.toList.map a.eval++([]:List (Nat×Nat)).map fun c=>Value.pointer (some ⟨g.β c.1,c.2,none⟩)).toArray.getD (sg.io.getD 0) undef]:Array Value).getD 1 undef=a.tmps.getD t undef:=by rw[hu1]; rfl
   have h7:Ow (frz g' w') true w' (eW n1) (fun b=>g'.own b= .s 1 0 0) _ y':=h7
   rw[e1]at h7; exact h7
  have hnew:LF gb w' κ l v0 (cD x0 p y'):=by
   have hκU: ∃m,κ= .U m∧eW m=(if p=[]then eW n1 else eW n):=by
    by_cases e:p=[]
    ·rw[z17 e]at hκ; exact⟨n1,hκ,by rw[z17 e]⟩
    ·rw[z11 e]at hκ; exact⟨n,hκ,by rw[z11 e]⟩
   obtain⟨m,rfl,hm⟩:=hκU; show Ow (frz gb w') true w' (eW m) (fun b=>gb.own b=l) v0 (cD x0 p y')
   by_cases e:p=[]
   ·have hse: ∀z:T,cD z [] y'=y':=fun z=>by cases z<;>rfl
    subst e; rw[hse,hm,z17 rfl]; cases hpl; exact hy.mono id (fun e=>by cases e) (fun b hb=>⟨hN b hb,rfl⟩)
   ·rw[hm,z11 e]
    refine q3 (frz gb w') w' (fun b=>g'.own b= .s 1 0 0) (fun b=>gb.own b=l) y' (fun b hb hf=>⟨(hrest b hb hf).1,(hrest b hb hf).2.1⟩) hN (fun b hb1 hb2=>Classical.byContradiction fun hf=>by
     have:=(hrest b hb2 hf).2.2; rw[hb1]at this; cases this) ?_
    rw[z11 e]; have:=hnl e; subst this; exact hy.mono id (fun e=>by cases e) (fun b hb=>⟨hb,rfl⟩)
  have hv3:vAt (a.put o.dst v).tmps gb.β w' l=some v0:=by
   cases l with
   | s i k j=>
    simp only[vAt]at hv0 ⊢; rw[kQ a o.dst v i (hnd i k j rfl)]; exact hv0
   | oc o' j=>
    simp only[vAt]at hv0 ⊢; have hb:gb.β o'=g.β o':=by rw[←hgb]; simp [G.back]
    rw[hb]; obtain⟨cells,hcl,_⟩: ∃cells,st.ob o'=some cells∧True:=by
     rw[St.at_oc,z20]at hat; obtain⟨cells,hcl,_⟩:=hat; exact⟨cells,hcl,trivial⟩
    obtain⟨arr,ty,_,_,k3,_⟩:=hs.obs o' cells hcl; have hlt:g.β o'<w.heap.size:=hs.ok.own _ (by rw[k3]; simp)
    have hfo:eE ((g.into sg c.args.toList [] Fp).own (g.β o'))=true:=by
     rw[fX (fun hf=>by have:=hFpl _ hf; rw[k3]at this; cases this),k3]
     simp [fV,kM,eE]
    rw[bS (hkeep _ hlt hfo).2.1]; exact hv0
   | _=>cases hlp
  have hfl3:st3.fl l= .D:=by
   rw[←hst3]; have e1:((st.pre sg c.args.toList []).drop (isL l)).fl l= .D:=by
    rw[yE hl0 hat1,z17 (by simp [isL])]
   cases l with
   | s i k j=>
    have:=hnd i k j rfl; simp only[St.call,z11 this]; split
    ·rfl
    ·exact e1
   | oc o' j=>
    simp only[St.call,mA,Ny,if_false]; simpa using e1
   | _=>cases hlp
  have h4:=h3.upd (g':=gb) (w':=w') (X:=fun _=>False) (sY.refl h3.ok st3) (fun _=>rfl) (z:=cD x0 p y') hat3 hv3 (fun _ _ _ _ _ h=>h) (.inl (fun i n j hsl=>by
   rw[←hst3]at hsl ⊢; exact Ni hsl)) (by
   rw[hfl3]; intro hsc; exact(LF.scal (g':=gb) (w':=w') (κ':= .D) (l':=l) hnew hsc) hsc)
  refine⟨gb, ?_⟩
  unfold St.callIo St.raise; rw[hst3]; refine h4.setf (g':=gb) hl0 (fun _=>rfl) h4.ok (fun _ _=>rfl) (fun _ _ h=>h) (fun _ h=>h) (fun m z u hz hu hf=> ?_) (fun i k zs b off hcx hc=> ?_) (fun i hi hR hf=> ?_)
  ·by_cases e:m=l
   ·rw[z17 e]
    subst e; rw[upd_at hat3,z17 rfl]at hz; cases hz; rw[hv3]at hu; cases hu; exact hnew
   ·rw[z11 e]; exact hf
  ·by_cases e:Loc.s i k 0=l
   ·exfalso
    have h9:((st3.upd l (cD x0 p y')).sl i).leaf k 0=some (cD x0 p y'):=by
     have:=upd_at (z:=cD x0 p y') (m:=l) hat3; rw[z17 rfl, ←e,St.at_s]at this; rw[←e]; exact this
    cases hsi:(st3.upd l (cD x0 p y')).sl i with
    | one u=>
     rw[hsi]at hcx h9; cases k with
     | zero=>simp only[V.comp,z8]at hcx; subst hcx; simp [V.leaf,W.leaf]at h9
     | succ k=>simp [V.comp]at hcx
    | tup ws=>
     rw[hsi]at hcx h9; simp only[V.comp]at hcx; simp [V.leaf,hcx,W.leaf]at h9
   ·rw[z11 e]; exact hc
  ·by_cases e:Loc.s i 0 0=l
   ·exfalso
    have h9:=upd_at (z:=cD x0 p y') (m:=l) hat3; rw[z17 rfl, ←e]at h9; rw[←e]at hi; exact hi (pA h9)
   ·rw[z11 e]at hf
    refine⟨hf,fun hh=> ?_⟩
    split
    ·obtain⟨m,hm⟩: ∃m,κ= .U m:=by
      by_cases e:p=[]
      ·exact⟨n1,by rw[hκ,z17 e]⟩
      ·exact⟨n,by rw[hκ,z11 e]⟩
     rw[hm]; rfl
    ·exact hh
 unfold Oper.wp; rw[hrun]; revert hC
 generalize (callFunc f _).run P w=r; intro hC; unfold nA at hC; split at hC
 ·exact hK _ _ (key _ _ hC)
 ·rw[Oper.upon_enter]
  refine Calls.mono hC ?_
  rintro e w' ⟨v,rfl,h⟩
  exact hK _ _ (key _ _ h)
 ·exact hC.elim
set_option linter.unusedVariables false

def ioB(F:FA)(b:B)(d:Option Nat)(sg:Sg)(xs:List Operand)(l:Loc):B:=
 (((b.pre F sg xs []).setf F (isL l) (fun m q=>if isL l m=true then .D else q)).call F d none [] sg)
def uV(b:B)(sg:Sg)(l:Loc):Nat→K
 | 0=>sg.bo.kd (.s 1 0 0)
 | _=>b.kd l
def IW(sg:Sg):Bool:=sg.bi.sl.all fun p=>Nat.beq p.1 0||p.2.all (fun r=>r.all fun q=> !q.hold)
theorem HI{sg:Sg}(h:IW sg=true)(i k j:Nat)(a:i≠0):(sg.bi.kd (.s i k j)).hold=false:=by
 simp only[B.kd,B.get]; cases hl:cG i sg.bi.sl with
 | none=>rfl
 | some κ=>
  have h1:=z14.1 h _ (eO hl); simp only[cJ a,z52]at h1; simp only[wK]; cases hr:κ[k]? with
  | none=>rfl
  | some r=>
   cases hq:r[j]? with
   | none=>simp [hq,K.hold]
   | some q=>
    have:=z14.1 (z14.1 h1 r (bC hr)) q (bC hq); simp only[hq]; simpa using this
def IV(d:Option Nat)(l:Loc):Bool:=match d with | some d=> !(aL d l) | none=>true
def cIo(F:FA)(b:B)(sg:Sg)(c:Call)(v:Operand)(d:Option Nat):Option B:=
 match c.args.toList with
 | .tmp t::xs=>(match F.shOf t with
  | .one (.al l p)=>bif cI b v&&c.args.toList.all (kn b F)&&wU F b F.n (.tmp t)&&isU (b.kd l)&&Fu F b sg c.args.toList 1 xs&&decide (sg.io=some 0)&&sg.ext&&decide (sg.bi.kd (.s 0 0 0)= .U 0)&&sg.bo.has 0&&sg.bo.has 1&&isU (sg.bo.kd (.s 1 0 0))&&
    (Nat.beq p.length 0||decide (sg.bo.kd (.s 1 0 0)= .U 0))&&(match d with | some d=>Nat.blt d F.n | none=>true)&&IV d l&&IW sg&&Nat.ble sg.np par&&(ioB F b d sg c.args.toList l).hasL l then
    some ((((ioB F b d sg c.args.toList l).filt (dS F l)).setf F (isL l) (fun m q=>if m=l then uV b sg l p.length else q)).nrm F)else none
  | _=>none)
 | _=>none

section
variable {P:Program} {τ:TypeId→Option TI} {F:FA} {o:Oper} {b b':B} {x x':D}

theorem LV(Z:Ag F b x){c:Call}{v:Operand}{f:FuncId}{sg:Sg}{vs:List V}{r:V}{t:Nat}{xs:List Operand}{l:Loc}{p:List (Nat×Nat)}{x0:T}{es es':List (List T)}(ho:o.op= .call c)(hcal:c.callee= .value v)(hx:ev x.sl v= .one (.fn f []))
  (hC:TC P f sg vs [] r (some (.sl es')) [] none)(hvs:vs=inV x c [] [])(hnp:sg.np=vs.length)(hth:c.args.toList.all (fun v=>eP (ev x.sl v))=true)(d:c.args.toList= .tmp t::xs)(C:x.sl t= .one (.al l p))(g:x.at l=some x0)(I:nav x0 p=some (.sl es))
  (h1:bD F (x.call o.dst none [] (DR r (some (.sl es')) [] none)) o.dst none []=true)(A:cIo F b sg c v o.dst=some b'):
  Ag F b' ((x.call o.dst none [] (DR r (some (.sl es')) [] none)).upd l (cD x0 p (.sl es')))∧ ∀g0 w0,OpW P g0 w0 o (b.S F.n x) (b'.S F.n ((x.call o.dst none [] (DR r (some (.sl es')) [] none)).upd l (cD x0 p (.sl es')))):=by
 unfold cIo at A; rw[d]at A; simp only at A; split at A<;>try cases A
 rename_i l' p' hsh; obtain⟨hc,A⟩:=aF A; rw[←d]at hc A; simp only[z7]at hc; obtain⟨⟨⟨⟨⟨⟨⟨⟨⟨⟨⟨⟨⟨⟨⟨⟨c1,c2⟩,c3⟩,c4⟩,c5⟩,c6⟩,c7⟩,c8⟩,c9⟩,c10⟩,c11⟩,c12⟩,c13⟩,c14⟩,c15⟩,c16⟩,c17⟩:=hc; cases A; have J:b.has t=true:=by
  have:=z14.1 c2 (.tmp t) (by rw[d]; exact z25)
  simp only[kn,z7]at this; exact this.1
 obtain⟨a1,_,a3,a4⟩:=nN Z J c3 (.inl ⟨p,C⟩); have u:=Z.fits J (by rw[C]; simp)
 rw[C,hsh]at u; simp only[Own.fits,bK,z7,z22]at u; obtain⟨hll,G⟩:=u; subst hll; have G:=z12 G; obtain⟨n,hn⟩: ∃n,b.kd l= .U n:=by
  revert c4
  cases b.kd l<;>simp [isU]
 obtain⟨n1,Y⟩: ∃n,sg.bo.kd (.s 1 0 0)= .U n:=by
  revert c11
  cases sg.bo.kd (.s 1 0 0)<;>simp [isU]
 have hl0:isL l .none=false:=z9 (Ne.symm a1); have hAp:=Z.pre sg c.args.toList []; have hAd:Ag F ((b.pre F sg c.args.toList []).setf F (isL l) (fun m q=>if isL l m=true then .D else q)) x:=hAp.setf _ _
 have hAc:Ag F (ioB F b o.dst sg c.args.toList l) (x.call o.dst none [] (DR r (some (.sl es')) [] none)):=hAd.call h1; have hds: ∀i k j,l= .s i k j→o.dst≠some i:=fun i k j e h=>by
  rw[h,e]at c14; simp [IV,aL,z44]at c14
 have H:(x.call o.dst none [] (DR r (some (.sl es')) [] none)).at l=some x0:=by
  cases l with
  | s i k j=>
   have:=hds i k j rfl; simp only[D.at,atL,D.call,z11 this]at g ⊢; exact g
  | oc o' j=>
   simp only[D.at,atL,D.call,mA,Ny,if_false]at g ⊢; simpa using g
  | _=>cases a4
 have hAu:=(hAc.upd (z:=cD x0 p (.sl es')) c17 H (BT I)).filt (dS F l); have hAr:=hAu.setf (isL l) (fun m q=>if m=l then uV b sg l p'.length else q)
 refine⟨hAr.nrm,fun g0 w0=> ?_⟩
 have L: ∀i,o.dst=some i→Own.fits (((DR r (some (.sl es')) [] none).sl 0).to (oO [] none)) (F.shOf i)=true:=fun i e=>by
  simp only[bD,z7]at h1; have h:=h1.1; rw[e]at h; simp only[D.call,if_true]at h; exact h
 have hmap:c.args.toList.map (fun v=>(evR (b.S F.n x) v).to (kM []))=c.args.toList.map (fun v=>(evD x v).to (kM [])):=z45 fun v hv=>by rw[Hi Z (z14.1 c2 v hv)]
 have M:uV b sg l p'.length=if p=[]then K.U n1 else K.U n:=by
  rw[←G]; cases p with
  | nil=>simp [uV,Y]
  | cons a p=>simp [uV,hn]
 have h3:=HU (g0:=g0) (w0:=w0) (st:=b.S F.n x) (κ:=uV b sg l p'.length) (l:=l) (p:=p) (x0:=x0) (y0:= .sl es) (y':= .sl es') (t:=t) (n:=n) (n1:=n1) (xs':=xs) ho hcal (by rw[kN c1]; exact hx) hC (of_decide_eq_true c6) c7
  (fun i e=>by rw[e]at c13; exact bY c13) hnp (z32 c16) c9 (by rw[hmap,hvs]; simp [inV]) d (by rw[lE J]; exact C) a1 a3 hn (by rw[DZ a4]; exact g) I (of_decide_eq_true c8) c10 Y M hds
  (fun i v hv=>by
   have:=Ca c5 hv; rw[Nat.add_comm]at this; exact It Z this (z14.1 hth v (by rw[d]; exact z24 _ (bC hv)))) (HI c15) (fun e=>by
   simp only[z38,z22]at c12; rcases c12 with h | h
   ·have:=z12 h
    rw[←G]at this; exact absurd (z73.1 this) e
   ·rw[Y]at h; cases h; rfl)
 refine h3.relax (fun a w hs=>hs.relax ?_)
 have N:=IS (n:=F.n) Z sg c.args.toList []
 have O:Low F.n ((b.pre F sg c.args.toList []).setf F (isL l) (fun m q=>if isL l m=true then .D else q)) x (((b.S F.n x).pre sg c.args.toList []).drop (isL l)):=
  gR hAp N hl0 (fun m _ h=>by
   by_cases e:isL l m=true
   ·rw[z17 e,z17 e]; exact cK _
   ·rw[z11 e,z11 e]; exact h) (fun i _ h E=>by
   by_cases e:isL l (.s i 0 0)=true
   ·rw[z17 e]at E; exact absurd rfl E
   ·rw[z11 e]at E ⊢; exact h E)
 have Q:=Gn (nd:=none) (os:=[]) (sg:=sg) (y:=DR r (some (.sl es')) [] none) hAd O L; have W:=Bk (z:=cD x0 p (.sl es')) hAc Q c17 H a1; have X:=gR (R:=isL l) (f:=fun m=>if m=l then uV b sg l p'.length else(((((b.S F.n x).pre sg c.args.toList []).drop (isL l)).call o.dst none [] sg.ext sg.bo (DR r (some (.sl es')) [] none)).upd l (cD x0 p (.sl es'))).fl m) (f':=fun m q=>if m=l then uV b sg l p'.length else q) hAu W hl0 (fun m _ h=>by
   by_cases e:m=l
   ·rw[z17 e,z17 e]; exact cK _
   ·rw[z11 e,z11 e]; exact h) (fun i _ h E=>by
   by_cases e:Loc.s i 0 0=l
   ·rw[z17 e]at E ⊢; exact E
   ·rw[z11 e]at E ⊢; exact h E)
 exact X.le hAr
end
set_option linter.unusedVariables false

structure MO (w w1:World):Prop where
 size:w.heap.size≤w1.heap.size
 keep: ∀b,b<w.heap.size→w1.heap[b]? =w.heap[b]?
 os:w1.os=w.os
 tape:w1.tape=w.tape
 output:w1.output=w.output
def St.turn(st:St)(l:Loc)(κ:K)(z:T):St:=((st.killV.drop (isL l)).upd l z).raise l κ

open Classical in
noncomputable def G.one (g:G) (l:Loc):G:= { β:=g.β,own:=fun b=>if g.own b=l then .s 0 0 0 else if g.own b= .none then .none else .ext }
open Classical in
noncomputable def G.two (g a:G) (w:World) (l:Loc):G:= { β:=g.β,own:=fun b=>if a.own b= .s 1 0 0 then l else if b<w.heap.size∧g.own b≠l then g.own b else if a.own b= .none then .none else .ext }

theorem NU{P:Program}{g0:G}{w0:World}{st:St}{a:Act}{g:G}{w w1:World}(hs:bH g0 w0 st a g w)(C:MO w w1){f:FuncId}{sg:Sg}{y0 y':T}{k M:Int}{l:Loc}{n n1:Nat}{x:Value}(O:TC P f sg [.one (.c y0), .one (.c (.int .i64 k))] [] (.one (.c (.int .i64 M))) (some y') [] none)
  (hio:sg.io=some 0)(hnp:sg.np=2)(hbi:sg.bi=⟨[(0,[[.U 0]]),(1,[[.S]])],[]⟩)(hb0:sg.bo.has 0=true)(hb1:sg.bo.has 1=true)(hbo:sg.bo.kd (.s 1 0 0)= .U n1)(hln:l.place=true)(hfl:st.fl l= .U n)(y:st.at l=some y0)(hv:vAt a.tmps g.β w l=some x):
  nA P ((callFunc f #[x, .int .i64 k]).run P w1) (fun u w'=>u= .int .i64 M∧ ∃N,bH g0 w0 (st.turn l (.U n1) y') a N w'∧N.β=g.β∧(∀o b,g.own b= .obj o→w'.heap[b]? =w.heap[b]?)∧(∀b,b<w1.heap.size→g.own b= .none→b<w'.heap.size∧w'.heap[b]? =w1.heap[b]? ∧N.own b= .none)):=by
 have p:=Loc.place_ne hln; obtain⟨v0',hv',hna,E⟩:=hs.get y; rw[hv]at hv'; cases hv'; rw[hfl]at E; have E:Ow (frz g w) true w (eW n) (fun b=>g.own b=l) x y0:=E
 have Y: ∀b,g.own b≠ .none→b<w.heap.size:=hs.ok.own; have hin:bH (g.one l) w1 (sg.bi.S sg.np (DA [.one (.c y0), .one (.c (.int .i64 k))] [])) ⟨#[x, .int .i64 k],[]⟩ (g.one l) w1:=by
  have htab:Tab (g.one l) w1:=fun b arr d=>by
   obtain⟨h1,ty,fz,h2⟩:=hs.framed.now b arr d; refine⟨by simp only[G.one]; rw[h1,z11 (Ne.symm p.1),z17 rfl],ty,fz, ?_⟩
   rw[C.keep b (z30.1 h2).1]; exact h2
  refine⟨lB.refl _ _ htab,⟨fun b d=> ?_⟩, ?_,rfl,fun i=> ?_,fun o cells Z=> ?_,fun i hi _=> ?_,fun _ _=>rfl, ?_⟩
  ·refine z54 (Y b fun e=>d ?_) C.size
   simp only[G.one]; rw[e,z11 (Ne.symm p.1),z17 rfl]
  ·rw[hnp]; rfl
  ·rw[hbi]
   match i with
   | 0=>
    show jM x∧LF (g.one l) w1 (.U 0) (.s 0 0 0) x y0; refine⟨hna, ?_⟩
    show Ow _ true w1 none _ x y0; exact E.any.mono id (fun e=>by cases e) (fun b d=>⟨by simp only[G.one]; rw[z17 d],C.keep b (Y b (by rw[d]; exact p.1))⟩)
   | 1=>
    show jM (.int .i64 k)∧LF (g.one l) w1 .S (.s 1 0 0) (.int .i64 k) (.int .i64 k); exact⟨⟨by simp,by simp⟩,rfl, .int .i64 k⟩
   | i+2=>trivial
  ·exfalso
   have Z:(if sg.bi.hasO o=true then(DA [.one (.c y0), .one (.c (.int .i64 k))] []).ob o else none)=some cells:=Z
   rw[hbi]at Z; simp [B.hasO,cG]at Z
  ·exfalso
   apply hi
   show aE (if sg.bi.has i=true then _ else _)=_
   split
   ·match i with
    | 0=>rfl
    | 1=>rfl
    | i+2=>rfl
   ·rfl
  ·rw[hnp]; show 2≤par; unfold par; omega
 have O:=O _ _ _ hin
 have key: ∀u w',(∃g',bH (g.one l) w1 (sg.bo.S 2 (DR (.one (.c (.int .i64 M))) (some y') [] none)) ⟨#[u,(#[x, .int .i64 k]:Array Value).getD (sg.io.getD 0) undef],[]⟩ g' w')→
   u= .int .i64 M∧ ∃N,bH g0 w0 (st.turn l (.U n1) y') a N w'∧N.β=g.β∧(∀o b,g.own b= .obj o→w'.heap[b]? =w.heap[b]?)∧(∀b,b<w1.heap.size→g.own b= .none→b<w'.heap.size∧w'.heap[b]? =w1.heap[b]? ∧N.own b= .none):=by
  rintro u w' ⟨g',h1⟩
  have hu:u= .int .i64 M:=by
   have h5:=h1.slots 0; rw[show(sg.bo.S 2 (DR (.one (.c (.int .i64 M))) (some y') [] none)).sl 0= .one (.c (.int .i64 M))from lE hb0]at h5; have:=LF.scal (g':=g') (w':=w') (κ':= .F) (l':= .none) h5.2 rfl; have this:Rd _ _ _ _:=this; cases this; rfl
  have hy:Ow (frz g' w') true w' (eW n1) (fun b=>g'.own b= .s 1 0 0) x y':=by
   have h5:=h1.slots 1; rw[show(sg.bo.S 2 (DR (.one (.c (.int .i64 M))) (some y') [] none)).sl 1= .one (.c y')from lE hb1]at h5; have h7:LF g' w' (sg.bo.kd (.s 1 0 0)) (.s 1 0 0) _ y':=h5.2; rw[hbo]at h7; have h7:Ow (frz g' w') true w' (eW n1) (fun b=>g'.own b= .s 1 0 0) _ y':=h7
   have H:(#[u,(#[x, .int .i64 k]:Array Value).getD (sg.io.getD 0) undef]:Array Value).getD 1 undef=x:=by rw[hio]; rfl
   rw[H]at h7; exact h7
  have A: ∀b,b<w.heap.size→g.own b≠l→g'.own b=(g.one l).own b∧w'.heap[b]? =w.heap[b]? ∧(g'.own b= .none∨g'.own b= .ext):=fun b d r=>by
   have R:(g.one l).own b= .none∨(g.one l).own b= .ext:=by
    simp only[G.one]; rw[z11 r]; split
    ·exact .inl rfl
    ·exact .inr rfl
   obtain⟨k1,k2⟩:=h1.framed.evo.keep b (z54 d C.size) (fun h=>h R)
   exact⟨k1,k2.trans (C.keep b d),by rw[k1]; exact R⟩
  have hown: ∀b,b<w.heap.size→g.own b≠l→(g.two g' w l).own b=g.own b:=fun b d r=>by
   obtain⟨_,_,k3⟩:=A b d r; simp only[G.two]; rw[z11 (fun e=>by rcases k3 with k3 | k3<;>(rw[k3]at e; cases e)),z17 ⟨d,r⟩]
  have hNl: ∀b,g'.own b= .s 1 0 0→(g.two g' w l).own b=l:=fun b d=>by simp only[G.two]; rw[z17 d]
  have hsz:w.heap.size≤w'.heap.size:=z81 C.size h1.framed.evo.size; have hok:GOk (g.two g' w l) w':=⟨fun b d=>by
   by_cases H:g'.own b= .s 1 0 0
   ·exact h1.ok.own b (by rw[H]; simp)
   ·by_cases e2:b<w.heap.size∧g.own b≠l
    ·exact z54 e2.1 hsz
    ·refine h1.ok.own b fun e3=>d ?_
     simp only[G.two]; rw[z11 H,z11 e2,z17 e3]⟩
  have J:LF (g.two g' w l) w' (.U n1) l x y':=by
   show Ow _ true w' (eW n1) _ x y'; exact hy.mono id (fun e=>by cases e) (fun b d=>⟨hNl b d,rfl⟩)
  have K: ∀o b,g.own b= .obj o→w'.heap[b]? =w.heap[b]? :=fun o b d=>(A b (Y b (by rw[d]; simp)) (by rw[d]; exact Ne.symm (p.2.2 o))).2.1
  have hv3:vAt a.tmps g.β w' l=some x:=by
   cases l with
   | s i kk j=>exact hv
   | oc o j=>
    simp only[vAt]at hv ⊢; rw[St.at_oc,z20]at y; obtain⟨cells,hcl,_⟩:=y; obtain⟨arr,ty,_,_,k3,_⟩:=hs.obs o cells hcl; rw[bS (K o _ k3)]; exact hv
   | _=>cases hln
  have X:isL l .none=false:=z9 (Ne.symm p.1); have hsk:=hs.killV; have hatk:st.killV.at l=some y0:=y; have hsd:=hsk.drop (isL l) X; have t:(st.killV.drop (isL l)).at l=some y0:=y; have hfld:(st.killV.drop (isL l)).fl l= .D:=by rw[yE X hatk,z17 (by simp [isL])]
  have hnoV: ∀m,(st.killV.drop (isL l)).fl m≠ .V:=fun m=>by
   refine mK (fun m=> ?_) m
   split
   ·simp
   ·exact nK st m
  have Q:sY g w (g.two g' w l) w' (fun m=>m=l) (st.killV.drop (isL l)):=⟨⟨hsz,fun b d r=>⟨hown b d r,(A b d r).2.1⟩⟩,fun m e=>by subst e; exact⟨fun h=>by rcases h with h | h; exact p.1 h; exact p.2.1 h,p.2.2⟩, .inr hnoV,h1.framed.os.trans C.os,h1.framed.tape.trans C.tape,h1.framed.output.trans C.output,hok⟩
  have h4:=hsd.upd (g':=g.two g' w l) (w':=w') Q (fun _=>rfl) (z:=y') t hv (fun _ _ _ _ h=>h) (.inl (fun i n j hsl=>by
   have hsl':st.sl i= .one (.pp l [] n j):=hsl; have e:st.killV.sl i=st.sl i:=rfl; simp only[St.drop,St.setf,e,hsl']; exact z17 ⟨trivial,trivial,by simp [aE,isL]⟩)) (by
   rw[hfld]; intro hsc; exact(LF.scal (g':=g.two g' w l) (w':=w') (κ':= .D) (l':=l) J hsc) hsc)
  refine⟨hu,g.two g' w l, ?_,rfl,K,fun b d hn=> ?_⟩
  rotate_left
  ·have hbl:g.own b≠l:=by rw[hn]; exact Ne.symm p.1
   have H:(g.one l).own b= .none:=by simp only[G.one]; rw[z11 hbl,z17 hn]
   obtain⟨k1,k2⟩:=h1.framed.evo.keep b d (fun h=>h (.inl H))
   refine⟨z54 d h1.framed.evo.size,k2, ?_⟩
   simp only[G.two]; rw[z11 (by rw[k1,H]; simp)]
   split
   ·exact hn
   ·rw[z17 (by rw[k1,H])]
  unfold St.turn St.raise; refine h4.setf (g':=g.two g' w l) X (fun _=>rfl) h4.ok (fun _ _=>rfl) (fun _ _ h=>h) (fun _ h=>h) (fun m z u' hz hu' R=> ?_) (fun i kk zs b off q Z=> ?_) (fun i hi hR R=> ?_)
  ·by_cases e:m=l
   ·rw[z17 e]
    subst e; rw[upd_at t,z17 rfl]at hz; cases hz; have L:vAt a.tmps g.β w' m=some u':=hu'; rw[hv3]at L; cases L; exact J
   ·rw[z11 e]; exact R
  ·by_cases e:Loc.s i kk 0=l
   ·exfalso
    have I:=upd_at (z:=y') (m:=l) t; rw[z17 rfl, ←e,St.at_s]at I; rw[←e]at q; cases hsi:((st.killV.drop (isL (.s i kk 0))).upd (.s i kk 0) y').sl i with
    | one u=>
     rw[hsi]at q I; cases kk with
     | zero=>simp only[V.comp,z8]at q; subst q; simp [V.leaf,W.leaf]at I
     | succ kk=>simp [V.comp]at q
    | tup ws=>
     rw[hsi]at q I; simp only[V.comp]at q; simp [V.leaf,q,W.leaf]at I
   ·rw[z11 e]; exact Z
  ·by_cases e:Loc.s i 0 0=l
   ·exfalso
    have I:=upd_at (z:=y') (m:=l) t; rw[z17 rfl, ←e]at I; rw[←e]at hi; exact hi (pA I)
   ·rw[z11 e]at R
    refine⟨R,fun hh=> ?_⟩
    split
    ·rfl
    ·exact hh
 unfold nA at O ⊢; split at O
 ·exact key _ _ O
 ·refine Calls.mono O ?_
  rintro e w' ⟨v,rfl,h⟩
  exact⟨v,rfl,key _ _ h⟩
 ·exact O.elim
set_option linter.unusedVariables false

def Eo(P:Program):List (Nat×FuncId)→List Value→Int→World→(Nat→Prop)→(Value→World→Prop)→Prop
 | [],cs,k,w,e,Q=> ∀d,MO w d→Q (.int .i64 k) d
 | (f,g)::L,cs,k,w,e,Q=> ∀d (a:Nat→Prop),MO w d→(∀b,e b→a b)→(∀b,a b→ ¬ e b→w.heap.size≤b)→(∀b,a b→b<d.heap.size)→
   ∃c,cs[f]? =some c∧nA P ((callFunc g #[c, .int .i64 k]).run P d) (fun u h=> ∃i,u= .int .i64 i∧(∀b,a b→b<h.heap.size∧h.heap[b]? =d.heap[b]?)∧Eo P L cs i h a Q)

theorem nA.mono{P:Program}{n:Result Next}{R a:Value→World→Prop}(h:nA P n R)(b: ∀u w,R u w→a u w):nA P n a:=by
 unfold nA at h ⊢; split at h
 ·exact b _ _ h
 ·exact Calls.mono h fun e w ⟨v,c,h1⟩=>⟨v,c,b _ _ h1⟩
 ·exact h.elim

def Oq(a:Bool)(v:Value)(cs:List Value):Prop:=if a=true then v= .agg cs.toArray else cs=[v]
def Mf(P:Program)(f:FuncId)(a:Bool)(n:Nat)(L:List (Nat×FuncId)):Prop:=
 (∀x∈L,x.1<n)∧ ∀(v:Value) (cs:List Value) (k:Int) (w:World) (c:Nat→Prop) (Q:Value→World→Prop),Oq a v cs→cs.length=n→(∀b,c b→b<w.heap.size)→Eo P L cs k w c Q→nA P ((callFunc f #[v, .int .i64 k]).run P w) Q
theorem Kv{P:Program}{τ:TypeId→Option TI}(x:aR P τ){t:TypeId}{i:TI}(A:τ t=some i){w:World}{b p:Nat}{a:Array Value}{s:TypeId}(y:w.heap[b]? =some (.cells a s (0,0)))(B:p+i.size≤a.size)(h1:i.agg=false→i.size=1):
  ∃u,(loadVar t ⟨b,p,none⟩).run P w= .ok u w∧Oq i.agg u ((a.toList.drop p).take i.size):=by
 obtain⟨q,d,z,D,r,E,F,G,H,I,J,m⟩:=x.get A; have e: ∀j,w.cell? ⟨b,p+j,none⟩=a[p+j]? :=fun j=>by rw[bT w b _ a s _ y]
 cases hag:i.agg with
 | true=>
  rw[hag]at m; have g:((a.toList.drop p).take i.size).length=i.size:=by simp; omega
  have l: ∀(j:Nat) v,((a.toList.drop p).take i.size)[j]? =some v→w.cell? ((⟨b,p,none⟩:Addr).add j)=some v:=by
   intro j v k; rw[z75]at k
   split at k
   ·rw[z49,z28]at k
    rw[gT,e,k]
   ·cases k
  have f:=run_loadCells_list (P:=P) w ⟨b,p,none⟩ _ l; rw[g]at f; have c:(isAgg t).run P w= .ok true w:=by
   simp only[isAgg,Sem.run_bind,run_underlying r,Result.andThen_ok]; cases d<;>first | (simp at m; done) | rfl
  refine⟨.agg ((a.toList.drop p).take i.size).toArray, ?_,by simp [Oq]⟩
  simp only[loadVar,Sem.run_bind,c,Result.andThen_ok,if_true,sizeOf,typeInfo,run_program,D,Sem.run_pure,E,f]
 | false=>
  rw[hag]at m; have C:=h1 hag; have h:p<a.size:=by omega
  have o:w.cell? ⟨b,p,none⟩=some a[p]:=by
   have:=e 0; rw[z69]at this; rw[this,z66 h]
  have c:(isAgg t).run P w= .ok false w:=by
   simp only[isAgg,Sem.run_bind,run_underlying r,Result.andThen_ok]; cases d<;>first | (simp at m; done) | rfl
  refine⟨a[p], ?_, ?_⟩
  ·simp only[loadVar,Sem.run_bind,c,Result.andThen_ok,z50,if_false,run_load,o]
  ·simp only[Oq,z50,if_false,C]
   have:a.toList.drop p=a[p]::a.toList.drop (p+1):=by
    rw[z113 (by simpa using h)]; simp
   rw[this]; rfl
structure MR where
 off:Nat
 g:FuncId
 es:List (List T)
 es':List (List T)
 k:Int
 k1:Int
def Al(c:Nat):List MR→List T→Int→List T→Int→Prop
 | [],cells,k,a,b=>a=cells∧b=k
 | m::r,cells,k,a,b=>cells[c+m.off]? =some (.sl m.es)∧m.k=k∧Al c r (cells.set (c+m.off) (.sl m.es')) m.k1 a b
def biM:B:=⟨[(0,[[.U 0]]),(1,[[.S]])],[]⟩
def mX(F:FA)(d i:Nat):Bool:= !(Nat.beq i d)&& !(aL d (aE (F.shOf i)))
def B.turn(F:FA)(b:B)(l:Loc):B:=((((b.killV F).setf F (isL l) (fun m q=>if isL l m=true then .D else q)).filt (dS F l)).setf F (isL l) (fun m q=>if m=l then .U 0 else q))
def B.turnM(F:FA)(o a:Nat):List Nat→B→B
 | [],b=>b
 | j::r,b=>B.turnM F o a r (b.turn F (.oc o (a+j)))
def D.updM(o a:Nat):List MR→D→D
 | [],x=>x
 | m::r,x=>D.updM o a r (x.upd (.oc o (a+m.off)) (.sl m.es'))
def vI(k:Int):V:= .one (.c (.int .i64 k))
def okBi:B→Bool
 | ⟨[(0,[[.U 0]]),(1,[[.S]])],[]⟩=>true
 | _=>false
theorem NB{b:B}(h:okBi b=true):b=biM:=by
 unfold okBi at h; split at h
 ·rfl
 ·cases h
def okSg(sg:Sg):Bool:=decide (sg.io=some 0)&&Nat.beq sg.np 2&&Nat.beq sg.no 0&&okBi sg.bi&&sg.bo.has 0&&sg.bo.has 1&&decide (sg.bo.kd (.s 1 0 0)= .U 0)
def B.mkReg(F:FA)(b:B)(o a t d r c:Nat)(L:List Nat):B:=((((b.filt (mX F t)).filt (mX F d)).turnM F o a L).filt (mX F r)).put F c (fun _ _=> .S)
def mkC(τ:TypeId→Option TI)(Sgs:FuncId→List Sg)(F:FA)(b:B)(L:List (Nat×FuncId)):List Oper→Option B
 | [⟨some t, .load S (.tmp tp),_,_,_,none⟩,⟨some t', .move (.tmp tk),_,_,_,none⟩,⟨some r, .call _,_,_,_,none⟩,⟨some r0, .assign (.tmp _),_,_,_,none⟩]=>
  (match F.shOf tp with
  | .one (.ptr o a)=>bif b.has tp&&b.hasO o&&b.has tk&&L.all (fun x=>isU (b.kd (.oc o (a+x.1)))&&(Sgs x.2).any okSg)&&(Nat.blt t t'&&Nat.blt t' r&&Nat.blt r F.n&&Nat.blt r0 F.n&& !(Nat.beq tk t)&& !(Nat.beq tp t))&&Own.fits (vI 0) (F.shOf r0)then some ((b.mkReg F o a t t' r r0 (L.map (·.1))).nrm F)else none
  | _=>none)
 | _=>none

def G.relab(g:G)(σ:Loc→Loc)(β':Nat→Nat):G:= { β:=β',own:=fun b=>σ (g.own b) }

structure Hj (σ:Loc→Loc):Prop where
 none:σ .none= .none
 ext:σ .ext= .ext
 obj: ∀l,(∀o,l≠ .obj o)→ ∀o,σ l≠ .obj o

theorem LF.relab{g:G}{w:World}{σ:Loc→Loc}{β':Nat→Nat}(f:Hj σ)(d:GOk g w){c q:K}{l l':Loc}{v:Value}{x:T}(j:l.place=true)(h:LF g w c l v x)(i:c.hand true q=true)(k:q.hold=true→σ l=l'):LF (g.relab σ β') w q l' v x:=
 h.hand (ext:=true) d j i (fun b a=>by show σ (g.own b)=_; rw[a]; exact f.none) (fun e=>by cases e) (fun b a o=>f.obj _ a o) (fun m b a=>by show σ (g.own b)=l'; rw[a]; exact k m)

theorem CpR.relab{g:G}{w:World}{σ:Loc→Loc}{β':Nat→Nat}(f:Hj σ){c q:K}{b a:Nat}{xs:List T}(h:CpR g w c b a xs)(i:c.hand true q=true)(j:q= .D∨q= .F∨q= .V):CpR (g.relab σ β') w q b a xs:=
 h.hand (ext:=true) i (fun b d=>by show σ (g.own b)=_; rw[d]; exact f.none) (fun e=>by cases e) (fun b d o=>f.obj _ d o) j

theorem bH.relab{g0:G}{w0:World}{st:St}{a:Act}{g:G}{w:World}(h:bH g0 w0 st a g w){σ:Loc→Loc}(q:Hj σ){β':Nat→Nat}(a2:Act)(d:St)(y: ∀o,par≤o→β' o=g.β o)
  (v:a2.tmps.size=d.n)(hn:d.n≤par)(K:a2.defers=[])(m: ∀i,aE (d.sl i)= .none)(u: ∀i,RV (g.relab σ β') w (fun k j=>d.fl (.s i k j)) (fun k j=> .s i k j) (a2.tmps.getD i undef) (d.sl i))
  (t: ∀o cells,d.ob o=some cells→ ∃f,st.ob f=some cells∧β' o=g.β f∧σ (.obj f)= .obj o∧ ∀j,(st.fl (.oc f j)).hand true (d.fl (.oc o j))=true∧((d.fl (.oc o j)).hold=true→σ (.oc f j)= .oc o j)):
  bH g0 w0 d a2 (g.relab σ β') w:=by
 refine⟨⟨h.framed.tab,h.framed.os,h.framed.tape,h.framed.output,h.framed.evo.size,fun b p A=> ?_⟩,⟨fun b p=>h.ok.own b (fun e=>p ?_)⟩,v,K,u,fun o cells J=> ?_,fun i M=>absurd (m i) M,fun o ho=>(y o ho).trans (h.bp o ho),hn⟩
 ·obtain⟨E,F⟩:=h.framed.evo.keep b p A
  have L:lH (g0.own b):=z143.1 A; refine⟨?_,F⟩
  show σ (g.own b)=_; rw[E]; rcases L with e | e
  ·rw[e]; exact q.none
  ·rw[e]; exact q.ext
 ·show σ (g.own b)= .none
  rw[e]; exact q.none
 ·obtain⟨f,h1,H,I,z⟩:=t o cells J
  obtain⟨r,S,O,P,Q,R⟩:=h.obs f cells h1; have p:(g.relab σ β').β o=g.β f:=H; rw[p]; refine⟨r,S,O,P, ?_,fun j x N=> ?_⟩
  ·show σ (g.own (g.β f))= .obj o
   rw[Q,I]
  ·obtain⟨c,B,C,D⟩:=R j x N
   exact⟨c,B,C,D.relab q h.ok rfl (z j).1 (z j).2⟩

theorem bH.body{c:B}{x:D}{b:Nat}{g:G}{w:World}{vs:Array Value}{n:Nat}(h:bH g w (c.S b x) ⟨vs,[]⟩ g w)(hn:b≤n)(f:n≤par):
  bH g w (c.S n x) ⟨vs++Array.replicate (n - vs.size) undef,[]⟩ g w:=by
 have m:vs.size=b:=h.size; have a: ∀i,(vs++Array.replicate (n - vs.size) undef).getD i undef=vs.getD i undef:=by
  intro i; simp only[z53,z158]
  split
  ·rfl
  ·rename_i d
   rw[z156 (xs:=vs) (by omega)]
   simp only[z144]
   split<;>rfl
 have p: ∀l,vAt (vs++Array.replicate (n - vs.size) undef) g.β w l=vAt vs g.β w l:=fun l=>by
  cases l with
  | s i k j=>simp only[vAt]; rw[a]
  | _=>rfl
 refine⟨h.framed,h.ok, ?_,rfl,fun i=> ?_,h.obs,fun i d e=> ?_,h.bp,f⟩
 ·show(vs++Array.replicate (n - vs.size) undef).size=n
  simp; omega
 ·show RV g w _ _ ((vs++Array.replicate (n - vs.size) undef).getD i undef) _
  rw[a]; exact h.slots i
 ·obtain⟨q,r⟩:=h.pls i d e
  refine⟨q, ?_⟩
  show BN _ _ _ _ ((vs++Array.replicate (n - vs.size) undef).getD i undef) _; rw[a]; exact r.congr (p _) rfl (fun _ _ _ _ _ _ _ h=>h)

def KP(τ:TypeId→Option TI)(x:D):ResultVar→Option W
 | .tmp t=>(match x.sl t with | .one w=>some w | _=>none)
 | .cell t a=>(match τ a,x.sl t with
  | some i, .one (.ptr o p)=>(match x.ob o with
   | some cells=>(match kW i (cells.drop p)with | some (.one w)=>some w | _=>none)
   | none=>none)
  | _,_=>none)
def AW(τ:TypeId→Option TI)(x:D):List ResultVar→Option (List W)
 | []=>some []
 | r::rs=>match KP τ x r,AW τ x rs with
  | some w,some ws=>some (w::ws)
  | _,_=>none
def Eg(a:List W):V:=match a with
 | [w]=> .one w
 | a=> .tup a

def Jq(F:FA):ResultVar→Nat→Loc
 | .tmp t,j=> .s t 0 j
 | .cell t _,j=>match F.shOf t with | .one (.ptr o p)=> .oc o (p+j) | _=> .none

theorem Di{τ:TypeId→Option TI}{x:D}: ∀ {rs:List ResultVar} {a:List W},AW τ x rs=some a→rs.length=a.length∧ ∀(k:Nat) r,rs[k]? =some r→ ∃w,a[k]? =some w∧KP τ x r=some w
 | [],a,h=>by cases h; exact⟨rfl,fun k r h=>by simp at h⟩
 | r::rs,a,h=>by
  unfold AW at h; split at h<;>try cases h
  rename_i w g h1 c; obtain⟨d,e⟩:=Di c; refine⟨by simp [d],fun k f b=> ?_⟩
  cases k with
  | zero=>simp only[z19,z8]at b ⊢; subst b; exact⟨w,rfl,h1⟩
  | succ k=>simp only[z23]at b ⊢; exact e k f b

def uQ(tmps:Array Value):ResultVar→Sem Value
 | .tmp t=>pure (tmps.getD t undef)
 | .cell a t=>do loadVar t (←asAddr (tmps.getD a undef))

theorem GM{α:Type}{P:Program}{w:World}(f:α→Sem Value): ∀ {l:List α} {us:List Value},l.length=us.length→(∀(k:Nat) x u,l[k]? =some x→us[k]? =some u→(f x).run P w= .ok u w)→(l.mapM f).run P w= .ok us w
 | [],us,h,_=>by
  cases us with
  | nil=>simp
  | cons u us=>simp at h
 | x::l,us,h,a=>by
  cases us with
  | nil=>simp at h
  | cons u us=>
   have h1:=a 0 x u rfl rfl; have b:=GM f (l:=l) (us:=us) (by simpa using h) (fun k y v d c=>a (k+1) y v (by simpa using d) (by simpa using c))
   simp [List.mapM_cons,Sem.run_bind,h1,b]

def qT(us:List Value):Value:=match us with
 | [u]=>u
 | us=> .tuple us.toArray

theorem FY{P:Program}{w:World}{fn:Func}{tmps:Array Value}{us:List Value}(h:fn.results.toList.length=us.length)(b: ∀(k:Nat) x u,fn.results.toList[k]? =some x→us[k]? =some u→(uQ tmps x).run P w= .ok u w):
  (results fn tmps).run P w= .ok (qT us) w:=by
 have h1:=GM (P:=P) (w:=w) (uQ tmps) h b; have a:(results fn tmps)=(fn.results.mapM (uQ tmps) >>=fun vs=>pure (if h:vs.size=1 then vs[0]else .tuple vs)):=by
  unfold results; congr 1
 rw[a,z140]; simp [h1]; match us with
 | []=>simp [qT]
 | [u]=>simp [qT]
 | u::v::r=>simp [qT]

def Hz(t:Nat):List ResultVar→Nat→Option Nat
 | [],_=>none
 | .tmp a::r,i=>bif Nat.beq a t then some i else Hz t r (i+1)
 | _::r,i=>Hz t r (i+1)
def Bz(F:FA)(o j:Nat):List ResultVar→Nat→Option (Nat×Nat)
 | [],_=>none
 | .cell t _::r,i=>(match F.shOf t with
  | .one (.ptr a p)=>bif Nat.beq a o&&Nat.ble p j then some (i,j - p)else Bz F o j r (i+1)
  | _=>Bz F o j r (i+1))
 | _::r,i=>Bz F o j r (i+1)
def vP(F:FA)(rs:List ResultVar)(a io:Option Nat):Loc→Loc
 | .s t k j=>bif Nat.beq k 0 then(match Hz t rs 0 with | some i=> .s 0 i j | none=>if io=some t∧j=0 then .s 1 0 0 else .ext)else .ext
 | .oc o j=>if par≤o then .oc o j else if a=some o then .oc 0 j else(match Bz F o j rs 0 with | some (i,j')=> .s 0 i j' | none=> .ext)
 | .obj o=>if par≤o then .obj o else if a=some o then .obj 0 else .ext
 | .none=> .none
 | .ext=> .ext

theorem HC(F:FA)(rs:List ResultVar)(c io:Option Nat):Hj (vP F rs c io):=by
 refine⟨rfl,rfl,fun l b o=> ?_⟩
 cases l with
 | obj a=>exact absurd rfl (b a)
 | none=>simp [vP]
 | ext=>simp [vP]
 | s t k j=>
  simp only[vP]; cases Nat.beq k 0 with
  | false=>simp
  | true=>
   simp only[z18]; split
   ·simp
   ·split<;>simp
 | oc a j=>
  simp only[vP]
  (repeat' split)<;>simp

def pM(a:Option Nat)(o:Nat):Option Nat:=if par≤o then some o else if a=some o then some 0 else none

def DI(F:FA)(b:B)(σ:Loc→Loc)(r:ResultVar)(k:Nat):Nat→List K→Bool
 | _,[]=>true
 | j,q::row=>(b.kd (Jq F r j)).hand true q&&(!q.hold||decide (σ (Jq F r j)= .s 0 k j))&&DI F b σ r k (j+1) row
theorem Dj{F:FA}{b:B}{σ:Loc→Loc}{r:ResultVar}{k:Nat}: ∀ {l:List K} {a:Nat},DI F b σ r k a l=true→ ∀ {j:Nat} {q:K},l[j]? =some q→(b.kd (Jq F r (a+j))).hand true q=true∧(q.hold=true→σ (Jq F r (a+j))= .s 0 k (a+j))
 | [],_,_,j,q,h=>by simp at h
 | p::l,a,h,0,q,c=>by
  simp only[DI,z7]at h; simp only[z19,z8]at c
  subst c; refine⟨h.1.1,fun d=> ?_⟩
  have:=h.1.2; rw[d]at this; simpa using this
 | p::l,a,h,j+1,q,c=>by
  simp only[DI,z7]at h; simp only[z23]at c
  have:=Dj h.2 c; rwa[show a+1+j=a+(j+1)by omega]at this

def DJ(F:FA)(b:B)(a:B)(σ:Loc→Loc)(k:Nat)(r:ResultVar):Bool:=
 (match cG 0 a.sl with | some κ=>(match κ[k]? with | some row=>DI F b σ r k 0 row | none=>true) | none=>true)&&
 (match r with
  | .tmp t=>b.has t&&(match F.shOf t with | .one (.cp _)=>dfv (a.kd (.s 0 k 0)) | .one (.al _ _)=>false | .one (.pp _ _ _ _)=>false | _=>true)
  | .cell t _=>b.has t&&(match F.shOf t with | .one (.ptr o _)=>b.hasO o | _=>false))
def uR(F:FA)(b:B)(a:B)(σ:Loc→Loc):Nat→List ResultVar→Bool
 | _,[]=>true
 | k,r::rs=>DJ F b a σ k r&&uR F b a σ (k+1) rs
theorem Dk{F:FA}{b c:B}{σ:Loc→Loc}: ∀ {l:List ResultVar} {k0:Nat},uR F b c σ k0 l=true→ ∀ {k:Nat} {r:ResultVar},l[k]? =some r→DJ F b c σ (k0+k) r=true
 | [],_,_,k,r,h=>by simp at h
 | p::l,k0,h,0,r,a=>by
  simp only[uR,z7]at h; simp only[z19,z8]at a
  subst a; exact h.1
 | p::l,k0,h,k+1,r,a=>by
  simp only[uR,z7]at h; simp only[z23]at a
  have:=Dk h.2 a; rwa[show k0+1+k=k0+(k+1)by omega]at this

theorem JC{F:FA}{b a:B}{σ:Loc→Loc}{k:Nat}{r:ResultVar}(h:DJ F b a σ k r=true)(j:Nat):(b.kd (Jq F r j)).hand true (a.kd (.s 0 k j))=true∧((a.kd (.s 0 k j)).hold=true→σ (Jq F r j)= .s 0 k j):=by
 simp only[DJ,z7]at h; have h:=h.1; simp only[B.kd,B.get]at h ⊢; cases hl:cG 0 a.sl with
 | none=>exact⟨rfl,fun e=>by cases e⟩
 | some κ=>
  rw[hl]at h; simp only[wK]at h ⊢; cases hr:κ[k]? with
  | none=>exact⟨rfl,fun e=>by cases e⟩
  | some row=>
   rw[hr]at h; cases hq:row[j]? with
   | none=>simp only[hq]; exact⟨rfl,fun e=>by cases e⟩
   | some q=>
    have:=Dj h hq; simp only[z34]at this; simp only[hq]; exact this

theorem Pm{q:K}(h:dfv q=true):q= .D∨q= .F∨q= .V:=by cases q<;>simp_all [dfv]

def Hc(F:FA)(b a:B)(c:Option Nat):Bool:=a.ob.all fun p=>
 if par≤p.1 then b.hasO p.1&&mR true (fun j=>b.kd (.oc p.1 j)) 0 p.2
 else Nat.beq p.1 0&&(match c with | some o=> !(decide (par≤o))&&b.hasO o&&mR true (fun j=>b.kd (.oc o j)) 0 p.2 | none=>false)

theorem Ko{F:FA}{b e:B}{k:Option Nat}(h:Hc F b e k=true){oc:Nat}(ho:e.hasO oc=true): ∃d,pM k d=some oc∧b.hasO d=true∧ ∀j,(b.kd (.oc d j)).hand true (e.kd (.oc oc j))=true:=by
 simp only[B.hasO]at ho; cases hl:cG oc e.ob with
 | none=>rw[hl]at ho; cases ho
 | some r=>
  have c:=z14.1 h _ (eO hl); simp only at c; have f: ∀d,mR true (fun j=>b.kd (.oc d j)) 0 r=true→ ∀j,(b.kd (.oc d j)).hand true (e.kd (.oc oc j))=true:=fun d h1 j=>by
   simp only[B.kd,B.get,hl]at h1 ⊢; cases hq:r[j]? with
   | none=>simp only[hq]; rfl
   | some q=>
    have:=qF h1 hq; simp only[z34]at this; simp only[hq]; exact this
  by_cases g:par≤oc
  ·rw[z17 g,z7]at c
   exact⟨oc,by simp [pM,g],c.1,f oc c.2⟩
  ·rw[z11 g,z7]at c
   have h0:=z12 c.1; subst h0; have a:=c.2; cases hn:k with
   | none=>rw[hn]at a; cases a
   | some o=>
    rw[hn]at a; simp only[z7]at a; obtain⟨⟨l,m⟩,p⟩:=a; have i: ¬ par≤o:=by simpa using l
    exact⟨o,by simp [pM,i],m,f o p⟩

theorem AA{α:Type}: ∀ {rs:List α} {Q:Nat→Value→Prop},(∀(k:Nat) r,rs[k]? =some r→ ∃u,Q k u)→ ∃us:List Value,rs.length=us.length∧ ∀(k:Nat) u,us[k]? =some u→Q k u
 | [],Q,_=>⟨[],rfl,fun k u h=>by simp at h⟩
 | r::rs,Q,h=>by
  obtain⟨u,d⟩:=h 0 r rfl; obtain⟨us,h1,b⟩:=AA (rs:=rs) (Q:=fun k u=>Q (k+1) u) (fun k r c=>h (k+1) r (by simpa using c))
  refine⟨u::us,by simp [h1],fun k v a=> ?_⟩
  cases k with
  | zero=>simp only[z19,z8]at a; subst a; exact d
  | succ k=>exact b k v (by simpa using a)

theorem bH.ret{P:Program}{τ:TypeId→Option TI}(hT:aR P τ){F:FA}{g0:G}{w0:World}{b:B}{x:D}{a:Act}{g:G}{w:World}{n:Nat}(h:bH g0 w0 (b.S n x) a g w)(hA:Ag F b x){rs:List ResultVar}{J:List W}{m:B}{C io:Option Nat}{ob:List (List T)}{nw:Option (List T)}{iov:Option T}{u1:Value}
  (hws:AW τ x rs=some J)(hr:uR F b m (vP F rs C io) 0 rs=true)(hob:Hc F b m C=true)(hobd: ∀oc R,m.hasO oc=true→pM C R=some oc→(DR ((Eg J).to (pM C)) iov ob nw).ob oc=x.ob R)
  (hio: ∀z,io=some z→a.tmps.getD z undef=u1∧b.has z=true∧(∃t,x.sl z= .one (.c t)∧iov=some t)∧(b.kd (.s z 0 0)).hand true (m.kd (.s 1 0 0))=true∧((m.kd (.s 1 0 0)).hold=true→vP F rs C io (.s z 0 0)= .s 1 0 0))(hio0:io=none→m.has 1=false)
  (hb2: ∀i,m.has i=true→i<2): ∃us:List Value,rs.length=us.length∧(∀(k:Nat) r u,rs[k]? =some r→us[k]? =some u→(uQ a.tmps r).run P w= .ok u w)∧ ∃g',bH g0 w0 (m.S 2 (DR ((Eg J).to (pM C)) iov ob nw)) ⟨#[qT us,u1],[]⟩ g' w:=by
 let σ:=vP F rs C io
 have hσ:Hj σ:=HC F rs C io; let β':Nat→Nat:=fun o=>if par≤o then g.β o else(C.map g.β).getD 0
 have hβp: ∀o,par≤o→β' o=g.β o:=fun o h=>by simp only[β',z17 h]
 have hβ: ∀o o',pM C o=some o'→β' o'=g.β o:=by
  intro o o' h; simp only[pM]at h; split at h
  ·rename_i Z; cases h; exact hβp o Z
  ·split at h
   ·rename_i h1; cases h
    simp only[β',z11 Bs,h1,z40,z72]
   ·cases h
 have hok':GOk (g.relab σ β') w:=⟨fun b X=>h.ok.own b (fun e=>X (by show σ (g.own b)= .none; rw[e]; exact hσ.none))⟩
 obtain⟨hlen,hget⟩:=Di hws; have hone: ∀(k:Nat) r,rs[k]? =some r→ ∃u A,J[k]? =some A∧(uQ a.tmps r).run P w= .ok u w∧RW (g.relab σ β') w (fun j=>m.kd (.s 0 k j)) (fun j=> .s 0 k j) u (A.to (pM C)):=by
  intro k r E; obtain⟨A,hwk,f⟩:=hget k r E; have l:=Dk hr E; rw[z34]at l; have M:=fun j=>JC l j
  simp only[DJ,z7]at l; have l:=l.2; cases r with
  | tmp t=>
   simp only[z7]at l; obtain⟨c1,c2⟩:=l; unfold KP at f; simp only at f; split at f<;>try cases f
   rename_i hx; have H:=h.slots t; rw[lE c1,hx]at H; have H:RW g w (fun j=>b.kd (.s t 0 j)) (fun j=> .s t 0 j) (a.tmps.getD t undef) A:=H
   refine⟨a.tmps.getD t undef,A,hwk,by simp [uQ],H.to (fun o o' ho=>hβ o o' ho) (fun j z u _ _ _ K=>K.relab hσ h.ok rfl (M j).1 (M j).2) (fun zs e bb off hc=> ?_)⟩
   have K:=hA.fits c1 (by rw[hx]; simp)
   rw[hx,e]at K; cases hs2:F.shOf t with
   | tup J=>rw[hs2]at K; simp [Own.fits]at K
   | one y=>
    rw[hs2]at K c2; cases y<;>simp [Own.fits,bK]at K
    exact hc.relab hσ (M 0).1 (Pm c2)
  | cell t ty=>
   simp only[z7]at l; obtain⟨c1,c2⟩:=l; unfold KP at f; simp only at f; split at f<;>try cases f
   rename_i i o p hi hx; split at f<;>try cases f
   rename_i cells L; split at f<;>try cases f
   rename_i d; have N:=FJ hA (v:= .tmp t) c1 hx; have N:F.shOf t= .one (.ptr o p):=N; rw[N]at c2; have hsrc: ∀j,Jq F (.cell t ty) j= .oc o (p+j):=fun j=>by simp only[Jq,N]
   have H:=h.slots t; rw[lE c1,hx]at H; have hptr:a.tmps.getD t undef= .pointer (some ⟨g.β o,p,none⟩):=H; obtain⟨arr,ty',k1,k2,k3,k4⟩:=h.obs o cells (by rw[GE c2]; exact L)
   have I: ∀(j:Nat) z,(cells.drop p)[j]? =some z→ ∃c,w.cell? ⟨g.β o,p+j,none⟩=some c∧jM c∧LF (g.relab σ β') w (m.kd (.s 0 k j)) (.s 0 k j) c z:=fun j z hz=>by
    rw[z49]at hz
    obtain⟨c,d1,d2,d3⟩:=k4 _ z hz; refine⟨c,by rw[bT w _ _ arr ty' _ k1]; exact d1,d2, ?_⟩
    have q:=M j; rw[hsrc]at q; exact LF.relab hσ h.ok rfl d3 q.1 q.2
   obtain⟨u,r1,r2,r3,r4⟩:=nJ hT hi (l':=fun _ j=> .s 0 k j) I d (fun j c z K=>K.cp hok' rfl)
   refine⟨u,A,hwk, ?_, ?_⟩
   ·simp only[uQ,hptr,asAddr,Sem.run_bind,Sem.run_pure,Result.andThen_ok,r1]
   ·have r2':RV (g.relab σ β') w (fun _ j=>if fQ i.zero j then .S else(m.kd (.s 0 k j)).cp) (fun _ j=> .s 0 k j) u (.one A):=r2
    have hto:A.to (pM C)=A:=by
     unfold kW at d; split at d<;>try cases d
     split at d
     ·cases d; rfl
     ·split at d<;>cases d; rfl
    rw[hto]; have:=r2'.map (g':=g.relab σ β') (w':=w) (κ':=fun _ j=>m.kd (.s 0 k j)) (l':=fun _ j=> .s 0 k j) (fun _=>rfl) (fun k' j z u' hz hu hn K=>by
     obtain⟨q0,_⟩:=qD d hz; subst q0; obtain⟨q1,q2⟩:=r4 j z hz; obtain⟨c,d1,d2,d3⟩:=I j z q1; rw[hu]at q2; have q2:some u'=some c:=q2.trans d1; cases q2; exact d3) (fun k' zs hz=>by
     exfalso
     unfold kW at d; split at d<;>try cases d
     split at d
     ·cases d; cases k'<;>simp [V.comp]at hz
     ·split at d<;>cases d
      cases k'<;>simp [V.comp]at hz)
    exact this
 obtain⟨us,hul,hus⟩:=AA (rs:=rs) (Q:=fun k u=> ∃r A,rs[k]? =some r∧J[k]? =some A∧(uQ a.tmps r).run P w= .ok u w∧RW (g.relab σ β') w (fun j=>m.kd (.s 0 k j)) (fun j=> .s 0 k j) u (A.to (pM C))) (fun k r E=>by
  obtain⟨u,A,h1,h2,h3⟩:=hone k r E; exact⟨u,r,A,E,h1,h2,h3⟩)
 refine⟨us,hul,fun k r u E hu=> ?_,g.relab σ β', ?_⟩
 ·obtain⟨r',A,h1,_,h3,_⟩:=hus k u hu
  rw[E]at h1; cases h1; exact h3
 have f:RV (g.relab σ β') w (fun k j=>m.kd (.s 0 k j)) (fun k j=> .s 0 k j) (qT us) ((Eg J).to (pM C)):=by
  have hwl:J.length=us.length:=by omega
  have E: ∀(k:Nat) u A,us[k]? =some u→J[k]? =some A→RW (g.relab σ β') w (fun j=>m.kd (.s 0 k j)) (fun j=> .s 0 k j) u (A.to (pM C)):=fun k u A hu hw=>by
   obtain⟨r',wk',_,h2,_,h4⟩:=hus k u hu; rw[hw]at h2; cases h2; exact h4
  have tuple:RV (g.relab σ β') w (fun k j=>m.kd (.s 0 k j)) (fun k j=> .s 0 k j) (.tuple us.toArray) ((V.tup J).to (pM C)):=by
   refine⟨us.toArray,rfl,by simp [hwl],fun k A hw=> ?_⟩
   rw[z33]at hw
   obtain⟨w0',hw0,rfl⟩:=z29.1 hw; have hlt:k<us.length:=by have:=bV hw0; omega
   exact⟨us[k],by simp [hlt],E k us[k] w0' (z13 hlt) hw0⟩
  match us,J,hwl,E,tuple with
  | [u],[w1],_,E,_=>exact E 0 u w1 rfl rfl
  | [],[],_,_,t=>exact t
  | u::u'::us',w1::w2::ws',_,_,t=>exact t
 refine h.relab hσ _ _ hβp (by simp [B.S]) (by show 2≤par; unfold par; omega) rfl (fun i=> ?_) (fun i=> ?_) (fun oc cells hc=> ?_)
 ·show aE (if m.has i=true then(DR _ iov ob nw).sl i else .one .junk)= .none
  split
  ·match i with
   | 0=>exact V.to_root
   | 1=>simp only[DR]; cases iov<;>rfl
   | i+2=>rfl
  ·rfl
 ·show RV _ w (fun k j=>m.kd (.s i k j)) _ (#[qT us,u1].getD i undef) (if m.has i=true then(DR _ iov ob nw).sl i else .one .junk)
  by_cases X:m.has i=true
  ·rw[z17 X]
   match i,hb2 i X with
   | 0,_=>exact f
   | 1,_=>
    cases hz:io with
    | none=>rw[hio0 hz]at X; cases X
    | some z=>
     obtain⟨z1,z2,⟨t,z3,z4⟩,z5,z6⟩:=hio z hz; have H:=h.slots z; rw[lE z2,z3]at H; rw[z1]at H; simp only[DR,z4]; exact⟨H.1,LF.relab hσ h.ok rfl H.2 z5 z6⟩
  ·rw[z11 X]; trivial
 ·have Y:(if m.hasO oc=true then(DR _ iov ob nw).ob oc else none)=some cells:=hc
  split at Y<;>try cases Y
  rename_i hoc; obtain⟨R,U,p2,p3⟩:=Ko hob hoc; have O:σ (.obj R)= .obj oc∧ ∀j,σ (.oc R j)= .oc oc j:=by
   simp only[pM]at U; split at U
   ·rename_i Z; cases U
    exact⟨by show vP _ _ _ _ _=_; simp only[vP,z17 Z],fun j=>by show vP _ _ _ _ _=_; simp only[vP,z17 Z]⟩
   ·rename_i Z
    split at U
    ·rename_i hn; cases U
     exact⟨by show vP _ _ _ _ _=_; simp only[vP,z11 Z,z17 hn],fun j=>by show vP _ _ _ _ _=_; simp only[vP,z11 Z,z17 hn]⟩
    ·cases U
  refine⟨R, ?_,hβ R oc U,O.1,fun j=>⟨p3 j,fun _=>O.2 j⟩⟩
  rw[GE p2, ←hobd oc R hoc U]; exact Y

inductive Ek where
 | n | r | e (i:Nat)
 deriving DecidableEq
def Ek.exit:Ek→Exit
 | .n=> .normal
 | .r=> .ret
 | .e i=> .exit i

def aW(ds:List (Option Nat))(x:D):Option (Nat×Bool)→Option Bool
 | none=>some true
 | some (j,want)=>match ds[j]? with
  | some (some t)=>(match x.sl t with
   | .one (.c (.bool b))=>some (b == want)
   | .tup []=>some false
   | _=>none)
  | _=>some false
def nH(x:D):Option Nat→D
 | some d=>x.put d (.tup [])
 | none=>x

def objsW:W→List Nat
 | .ptr o _=> [o]
 | .fn _ cs=>cs.map (·.1)
 | _=> []
def II:List Nat→List Nat→List Nat
 | [],d=>d
 | o::r,d=>bif mem o d then II r d else II r (d++[o])
def Lm(F:FA)(v:Operand):List Nat:=match kH F v with | .one w=>objsW w | _=> []
def tV(F:FA)(c:Call):Bool:=match c.args.toList with
 | .tmp t::_=>mem t F.ioa
 | _=>false
def gK(F:FA)(c:Call)(v:Operand):List Nat:=bif tV F c then [0,0]else II (c.args.toList.flatMap (Lm F)++Lm F v) []
def nB(F:FA)(d:Option Nat):Option Nat:=match d with | some d=>bif mem d F.nw then some d else none | none=>none

def mJ(F:FA):Nat→List V→Bool
 | _,[]=>true
 | i,v::r=>fits v (F.shOf i)&&mJ F (i+1) r
def oA(F:FA):Nat→List (List T)→Bool
 | _,[]=>true
 | i,cs::r=>dP cs (F.obOf (par+i))&&oA F (i+1) r
def uT(x:D):Nat→List (List T)→Option (List (List T))
 | _,[]=>some []
 | i,_::r=>match x.ob (par+i),uT x (i+1) r with
  | some cs,some css=>some (cs::css)
  | _,_=>none

inductive Jd where
 | code (F:FA) (c:Code) (x:D) (e:Ek) (x':D)
 | ops (F:FA) (ds:List (Option Nat)) (os:List Oper) (x x':D)
 | fn (f:FuncId) (vs:List V) (ob:List (List T)) (r:V) (io:Option T) (ob':List (List T)) (nw:Option (List T))

def OU(z:Option Nat)(x:D):Option (Option T):=match z with
 | none=>some none
 | some z=>(match x.sl z with | .one (.c t)=>some (some t) | _=>none)

def kZ(id:Nat)(e:Ek):Ek:=if e= .e id then .n else e

def MT:Nat→List (List (List K))→List (Nat×List (List K))
 | _,[]=> []
 | i,κ::r=>(i,κ)::MT (i+1) r
def Fi(q:List (List (List K))×List (List K)×Bool):Sg:= { bi:= { sl:=MT 0 q.1,ob:=[] },bo:= { sl:=[(0,q.2.1)],ob:=[] },np:=q.1.length,ext:=q.2.2 }
inductive Big (P:Program) (τ:TypeId→Option TI) (An:FuncId→FA):Jd→Prop
 | skip (F:FA) (x:D):Big P τ An (.code F .skip x .n x)
 | label (F:FA) (l:Nat) (x:D):Big P τ An (.code F (.label l) x .n x)
 | exit (F:FA) (i:Nat) (x:D):Big P τ An (.code F (.exit i) x (.e i) x)
 | ret (F:FA) (x:D):Big P τ An (.code F .ret x .r x)
 | seqN {F:FA} {a b:Code} {x x1 x2:D} {e:Ek} (h1:Big P τ An (.code F a x .n x1)) (h2:Big P τ An (.code F b x1 e x2)):Big P τ An (.code F (.seq a b) x e x2)
 | seqX {F:FA} {a b:Code} {x x1:D} {e:Ek} (h1:Big P τ An (.code F a x e x1)) (he:e≠ .n):Big P τ An (.code F (.seq a b) x e x1)
 | cond {F:FA} {c:Operand} {a b:Code} {x x1:D} {e:Ek} {t:Bool} (hc:ev x.sl c= .one (.c (.bool t))) (h1:Big P τ An (.code F (if t then a else b) x e x1)):Big P τ An (.code F (.cond c a b) x e x1)
 | block {F:FA} {id:Nat} {c:Code} {x x1:D} {e:Ek} (h1:Big P τ An (.code F c x e x1)):Big P τ An (.code F (.block id c) x (kZ id e) x1)
 | loopX {F:FA} {c:Code} {x x1:D} {e:Ek} (h1:Big P τ An (.code F c x e x1)) (he:e≠ .n):Big P τ An (.code F (.loop c) x e x1)
 | loopN {F:FA} {c:Code} {x x1 x2:D} {e:Ek} (h1:Big P τ An (.code F c x .n x1)) (h2:Big P τ An (.code F (.loop c) x1 e x2)):Big P τ An (.code F (.loop c) x e x2)
 | regionM {F:FA} {id:Nat} {x:D} {S:TypeId} {i:TI} {f:FuncId} {c:Call} {o p0 tp tk t t' r r0 r2:Nat} {cells cells':List T} {k k':Int} {rs:List MR} {t1 t2 t3 t4:TypeId} {p1 p2 p3 p4:String} {f1 f2 f3 f4:Array Edge} (hmk:cG id F.mks=some (rs.map fun m=>(m.off,m.g))) (hi:τ S=some i) (h1:i.agg=false→i.size=1)
   (hM:Mf P f i.agg i.size (rs.map fun m=>(m.off,m.g))) (hle:p0+i.size≤cells.length) (hc1:c.callee= .value (.func f)) (hc2:c.args= #[.tmp t, .tmp t']) (hr2:r2=r) (htp:x.sl tp= .one (.ptr o p0)) (htk:x.sl tk=vI k) (hob:x.ob o=some cells) (hch:Al p0 rs cells k cells' k')
   (hB: ∀m∈rs,Big P τ An (.fn m.g [.one (.c (.sl m.es)), .one (.c (.int .i64 m.k))] [] (.one (.c (.int .i64 m.k1))) (some (.sl m.es')) [] none)):
   Big P τ An (.code F (.region id #[⟨some t, .load S (.tmp tp),t1,p1,f1,none⟩,⟨some t', .move (.tmp tk),t2,p2,f2,none⟩,⟨some r, .call c,t3,p3,f3,none⟩,⟨some r0, .assign (.tmp r2),t4,p4,f4,none⟩] false) x .n ((D.updM o p0 rs x).put r0 (vI k')))
 | region {F:FA} {id:Nat} {ops:Array Oper} {dr:Bool} {x x1:D} (hmk:cG id F.mks=none) (h1:Big P τ An (.ops F (ops.toList.map (·.dst)) ops.toList x x1)):Big P τ An (.code F (.region id ops dr) x .n x1)
 | opsNil (F:FA) (ds:List (Option Nat)) (x:D):Big P τ An (.ops F ds [] x x)
 | opsSkip {F:FA} {ds:List (Option Nat)} {o:Oper} {r:List Oper} {x x2:D} (hg:aW ds x o.guard=some false) (h2:Big P τ An (.ops F ds r (nH x o.dst) x2)):Big P τ An (.ops F ds (o::r) x x2)
 | opsRun {F:FA} {ds:List (Option Nat)} {o:Oper} {r:List Oper} {x x1 x2:D} (hg:aW ds x o.guard=some true) (h1:dOp τ F x o=some x1) (h2:Big P τ An (.ops F ds r x1 x2)):Big P τ An (.ops F ds (o::r) x x2)
 | opsCall {F:FA} {ds:List (Option Nat)} {o:Oper} {rs:List Oper} {x x2:D} {c:Call} {v:Operand} {f:FuncId} {caps:List (Nat×Nat)} {ob ob':List (List T)} {r:V} {nw:Option (List T)} (hg:aW ds x o.guard=some true) (ho:o.op= .call c) (hcal:c.callee= .value v) (hni:tV F c=false)
   (hx:ev x.sl v= .one (.fn f caps)) (hth:c.args.toList.all (fun v=>eP (ev x.sl v))=true) (hob:ob.map some=(gK F c v).map x.ob) (h1:Big P τ An (.fn f (inV x c caps (gK F c v)) ob r none ob' nw))
   (hsh:bD F (x.call o.dst (nB F o.dst) (gK F c v) (DR r none ob' nw)) o.dst (nB F o.dst) (gK F c v)=true) (h2:Big P τ An (.ops F ds rs (x.call o.dst (nB F o.dst) (gK F c v) (DR r none ob' nw)) x2)):Big P τ An (.ops F ds (o::rs) x x2)
 | opsIo {F:FA} {ds:List (Option Nat)} {o:Oper} {rs:List Oper} {x x2:D} {c:Call} {v:Operand} {f:FuncId} {r:V} {t:Nat} {xs:List Operand} {l:Loc} {p:List (Nat×Nat)} {x0:T} {es es':List (List T)} (hg:aW ds x o.guard=some true) (ho:o.op= .call c) (hcal:c.callee= .value v) (hio:tV F c=true)
   (hx:ev x.sl v= .one (.fn f [])) (hth:c.args.toList.all (fun v=>eP (ev x.sl v))=true) (hargs:c.args.toList= .tmp t::xs) (hal:x.sl t= .one (.al l p)) (hat:x.at l=some x0) (hnav:nav x0 p=some (.sl es)) (h1:Big P τ An (.fn f (inV x c [] []) [] r (some (.sl es')) [] none))
   (hsh:bD F (x.call o.dst none [] (DR r (some (.sl es')) [] none)) o.dst none []=true) (h2:Big P τ An (.ops F ds rs ((x.call o.dst none [] (DR r (some (.sl es')) [] none)).upd l (cD x0 p (.sl es'))) x2)):Big P τ An (.ops F ds (o::rs) x x2)
 | fn {f:FuncId} {fn:Func} {c:Code} {vs:List V} {ob ob':List (List T)} {e:Ek} {x':D} {ws:List W} {iov:Option T} (hf:P.funcs[f]? =some fn) (hb:fn.body=some c) (hsh:mJ (An f) 0 vs=true) (hso:oA (An f) 0 ob=true) (h1:Big P τ An (.code (An f) c (DA vs ob) e x'))
   (he:e= .n∨e= .r) (hws:AW τ x' fn.results.toList=some ws) (hio:OU (An f).io x'=some iov) (hob:uT x' 0 ob=some ob'):Big P τ An (.fn f vs ob ((Eg ws).to (pM (An f).n0)) iov ob' ((An f).n0.bind x'.ob))
 | lib {f:FuncId} {fn:Func} {c:Code} {vs:List V} {r:V} {q:List (List (List K))×List (List K)×Bool} (hf:P.funcs[f]? =some fn) (hb:fn.body=some c) (hq:(An f).lb=some q) (h1:TC P f (Fi q) vs [] r none [] none):Big P τ An (.fn f vs [] r none [] none)
def Ch(o:Oper):Bool:=match o.dst,o.guard with
 | none,none=>(match o.op with | .panic _=>true | _=>false)
 | _,_=>false

def wB:List K→List K→Bool
 | _,[]=>true
 | [],q::r=>decide (q= .D)&&wB [] r
 | p::ps,q::r=>p.lo q&&wB ps r
def rN:List (List K)→List (List K)→Bool
 | _,[]=>true
 | [],q::r=>wB [] q&&rN [] r
 | p::ps,q::r=>wB p q&&rN ps r

theorem wX: ∀ {ps qs:List K},wB ps qs=true→ ∀ {j:Nat} {q:K},qs[j]? =some q→(match ps[j]? with | some p=>p | none=> .D).lo q=true
 | _,[],_,j,q,h=>by simp at h
 | [],q::r,h,0,b,a=>by
  simp only[wB,z7]at h; simp only[z19,z8]at a
  subst a; rw[of_decide_eq_true h.1]; rfl
 | [],q::r,h,j+1,b,a=>by
  simp only[wB,z7]at h; simp only[z23]at a
  have:=wX h.2 a; simpa using this
 | p::ps,q::r,h,0,b,a=>by
  simp only[wB,z7]at h; simp only[z19,z8]at a
  subst a; exact h.1
 | p::ps,q::r,h,j+1,b,a=>by
  simp only[wB,z7]at h; simp only[z23]at a ⊢
  exact wX h.2 a

theorem yW: ∀ {ps qs:List (List K)},rN ps qs=true→ ∀ {k:Nat} {r:List K},qs[k]? =some r→wB (match ps[k]? with | some p=>p | none=> []) r=true
 | _,[],_,j,q,h=>by simp at h
 | [],q::r,h,0,b,a=>by
  simp only[rN,z7]at h; simp only[z19,z8]at a
  subst a; exact h.1
 | [],q::r,h,j+1,b,a=>by
  simp only[rN,z7]at h; simp only[z23]at a
  have:=yW h.2 a; simpa using this
 | p::ps,q::r,h,0,b,a=>by
  simp only[rN,z7]at h; simp only[z19,z8]at a
  subst a; exact h.1
 | p::ps,q::r,h,j+1,b,a=>by
  simp only[rN,z7]at h; simp only[z23]at a ⊢
  exact yW h.2 a

def leB(a b:B):Bool:=a.sl.all (fun p=>match cG p.1 b.sl with | some κ=>rN κ p.2 | none=>false)&&a.ob.all (fun p=>match cG p.1 b.ob with | some r=>wB r p.2 | none=>false)

theorem Hy{a b:B}(h:leB a b=true):(∀i,a.has i=true→b.has i=true)∧(∀o,a.hasO o=true→b.hasO o=true)∧ ∀l,(b.kd l).lo (a.kd l)=true:=by
 simp only[leB,z7]at h; refine⟨fun i f=> ?_,fun o ho=> ?_,fun l=> ?_⟩
 ·simp only[B.has]at f ⊢
  cases hl:cG i a.sl with
  | none=>rw[hl]at f; cases f
  | some κ=>
   have:=z14.1 h.1 _ (eO hl); simp only at this; split at this
   ·rename_i c; rw[c]; rfl
   ·cases this
 ·simp only[B.hasO]at ho ⊢
  cases hl:cG o a.ob with
  | none=>rw[hl]at ho; cases ho
  | some κ=>
   have:=z14.1 h.2 _ (eO hl); simp only at this; split at this
   ·rename_i c; rw[c]; rfl
   ·cases this
 ·cases hg:a.get l with
  | none=>
   have:a.kd l= .D:=by simp only[B.kd,hg]
   rw[this]; exact DX _
  | some q=>
   have g:a.kd l=q:=by simp only[B.kd,hg]
   rw[g]; cases l with
   | s i k j=>
    simp only[B.get]at hg; cases hl:cG i a.sl with
    | none=>rw[hl]at hg; cases hg
    | some κ=>
     rw[hl]at hg; simp only[wK]at hg; have:=z14.1 h.1 _ (eO hl); simp only at this; cases c:cG i b.sl with
     | none=>rw[c]at this; cases this
     | some κ2=>
      rw[c]at this; have this:rN κ2 κ=true:=this; cases hr:κ[k]? with
      | none=>rw[hr]at hg; cases hg
      | some r=>
       rw[hr]at hg; have d:=wX (yW this hr) hg; have e:b.kd (.s i k j)=(match(match κ2[k]? with | some p=>p | none=> [])[j]? with | some p=>p | none=> .D):=by
        simp only[B.kd,B.get,c,wK]; cases κ2[k]? with
        | none=>rfl
        | some r0=>simp only; cases r0[j]? <;>rfl
       rw[e]; exact d
   | oc o j=>
    simp only[B.get]at hg; cases hl:cG o a.ob with
    | none=>rw[hl]at hg; cases hg
    | some r=>
     rw[hl]at hg; have:=z14.1 h.2 _ (eO hl); simp only at this; cases c:cG o b.ob with
     | none=>rw[c]at this; cases this
     | some r2=>
      rw[c]at this; have d:=wX this hg; have e:b.kd (.oc o j)=(match r2[j]? with | some p=>p | none=> .D):=by
       simp only[B.kd,B.get,c]; cases r2[j]? <;>rfl
      rw[e]; exact d
   | _=>cases hg

def Cv(F:FA)(b c:B):Prop:= ∀x,Ag F b x→Ag F c x∧ ∀g0 w0 a w,Sim g0 w0 (b.S F.n x) a w→Sim g0 w0 (c.S F.n x) a w
theorem Cv.refl(F:FA)(b:B):Cv F b b:=fun _ h=>⟨h,fun _ _ _ _ h=>h⟩
theorem Cv.trans{F:FA}{a b c:B}(h:Cv F a b)(k:Cv F b c):Cv F a c:=fun x e=>by
 obtain⟨h1,d⟩:=h x e; obtain⟨g,i⟩:=k x h1; exact⟨g,fun g0 w0 a w f=>i g0 w0 a w (d g0 w0 a w f)⟩

theorem IZ{a b:K}(h:a.lo b=true)(c:b≠ .D):a≠ .D:=fun e=>by subst e; cases b<;>simp [K.lo]at h c

theorem Ah{F:FA}{d b:B}(h:leB d b=true):Cv F b (d.nrm F):=fun x j=>by
 obtain⟨h1,g,e⟩:=Hy h; have c:Ag F d x:=⟨fun i f=>j.sl i (h1 i f),fun o ho=>j.ob o (g o ho)⟩
 refine⟨c.nrm,fun g0 w0 a w p=>p.relax (Low.le c ⟨rfl,fun i f=>lE (h1 i f),fun o ho=>GE (g o ho),fun l t _ _=>e l,fun i k xs _ _=>e _,fun i _ _ m=>IZ (e _) m⟩)⟩

def DU{α β:Type}(f:α→Option β):List α→Option β
 | []=>none
 | a::r=>match f a with | some b=>some b | none=>DU f r
theorem zC{α β:Type}{f:α→Option β}: ∀ {l:List α} {b:β},DU f l=some b→ ∃a∈l,f a=some b
 | [],b,h=>by cases h
 | a::r,b,h=>by
  unfold DU at h; split at h
  ·rename_i g e; cases h; exact⟨a,z25,e⟩
  ·obtain⟨c,h1,d⟩:=zC h; exact⟨c,z24 _ h1,d⟩

def fzX(F:FA)(b:B)(d:Nat):List (Nat×Nat)→List Loc
 | []=> []
 | (i,t)::r=>(bif Nat.beq i d then(holds F b t).map fun m=> .s t m.1 m.2 else [])++fzX F b d r
def fzL(F:FA)(b:B):Option Nat→List Loc
 | some d=>(bif mem d F.fz then(holds F b d).map fun m=> .s d m.1 m.2 else [])++fzX F b d F.fx
 | none=> []
def FR(a:List (Option Nat))(b:B):Option (Nat×Bool)→Bool
 | none=>true
 | some (j,_)=>match a[j]? with
  | some (some t)=>b.has t
  | _=>true
def Bl(F:FA)(b b1:B)(d:Option Nat):Bool:=match d with
 | some d=>Nat.blt d F.n&&leB (b1.filt fun i=> !(Nat.beq i d)) b&&b1.sl.all (fun p=>Nat.beq p.1 d|| !(aL d (aE (F.shOf p.1))))
 | none=>false

def Mc(Sg:FuncId→List Sg)(F:FA)(b:B)(o:Oper)(c:Call)(v:Operand):Option B:=match kH F v with
 | .one (.fn f caps)=>DU (fun sg=>bif Nat.beq sg.np (c.args.toList.length+caps.length)&&Nat.beq sg.no (gK F c v).length then KH F b sg c v o.dst (nB F o.dst) (gK F c v)else none) (Sg f)
 | _=>none
def ioC(Sg:FuncId→List Sg)(F:FA)(b:B)(o:Oper)(c:Call)(v:Operand):Option B:=match kH F v with
 | .one (.fn f caps)=>DU (fun sg=>bif Nat.beq sg.np c.args.toList.length&&Nat.beq caps.length 0&&Nat.beq sg.no 0 then cIo F b sg c v o.dst else none) (Sg f)
 | _=>none
def cL(o:Oper):Option (Call×Operand):=match o.op with
 | .call c=>(match c.callee with | .value v=>some (c,v) | _=>none)
 | _=>none
def KN(τ:TypeId→Option TI)(Sg:FuncId→List Sg)(F:FA)(b:B)(o:Oper):Option B:=match cL o with
 | some (c,v)=>bif tV F c then ioC Sg F b o c v else Mc Sg F b o c v
 | none=>cOp τ F b o
def oH(τ:TypeId→Option TI)(Sg:FuncId→List Sg)(F:FA)(a:List (Option Nat))(b:B)(o:Oper):Option B:=match KN τ Sg F b o with
 | some b1=>bif FR a b o.guard&&(match o.guard with | none=>true | some _=>Bl F b (b1.frz F (fzL F b1 o.dst)) o.dst)then some ((b1.frz F (fzL F b1 o.dst)).nrm F)else none
 | none=>none
def KQ(τ:TypeId→Option TI)(Sg:FuncId→List Sg)(F:FA)(a:List (Option Nat)):B→List Oper→Option B
 | b,[]=>some b
 | b,o::r=>match oH τ Sg F a b o with | some b1=>KQ τ Sg F a b1 r | none=>none

theorem IB{F:FA}(L:List Loc)(b:B):Cv F b (b.frz F L):=fun x d=>by
 obtain⟨h1,c⟩:=Ma (n:=F.n) L d; exact⟨h1,fun g0 w0 a w e=>c e⟩

theorem PL{F:FA}{b b1:B}{x:D}{d:Option Nat}(y:Ag F b x)(h:Bl F b b1 d=true):Ag F (b1.nrm F) (nH x d)∧ ∀g0 w0 a w,Sim g0 w0 (b.S F.n x) a w→Sim g0 w0 ((b1.nrm F).S F.n (nH x d)) (a.put d undef) w:=by
 cases d with
 | none=>cases h
 | some d=>
  simp only[Bl,z7]at h; obtain⟨⟨h0,h1⟩,K⟩:=h; obtain⟨O,I,J⟩:=Hy h1; have c: ∀i,i≠d→b1.has i=true→b.has i=true:=fun i e m=>O i (by rw[dL,m,cJ e]; rfl)
  have p: ∀i,i≠d→b1.has i=true→aL d (aE (F.shOf i))=false:=fun i e m=>by
   simp only[B.has]at m; cases hl:cG i b1.sl with
   | none=>rw[hl]at m; cases m
   | some κ=>
    have:=z14.1 K _ (eO hl); simp only[cJ e,z52]at this; simpa using this
  have v: ∀i k j,i≠d→(b.kd (.s i k j)).lo (b1.kd (.s i k j))=true:=fun i k j e=>by
   have:=J (.s i k j); rwa[eC (by rw[cJ e]; rfl)]at this
  have z:Ag F b1 (nH x (some d)):=by
   refine⟨fun i m=> ?_,fun o ho=>y.ob o (I o ho)⟩
   by_cases e:i=d
   ·subst e; left; simp [nH,D.put]
   ·have:=y.sl i (c i e m)
    simpa [nH,D.put,e]using this
  refine⟨z.nrm,fun g0 w0 a w G=> ?_⟩
  obtain⟨g,G⟩:=G; have L:=G.set (u:=undef) (r:= .tup []) (κ:=fun _ _=> .D) (bY h0) ⟨#[],rfl,rfl,fun k x H=>by simp at H⟩ (fun h=>absurd rfl h)
  refine⟨g,L.relax (Low.le z ⟨rfl,fun i m=> ?_,fun o ho=>GE (n:=F.n) (I o ho),fun l t C N=> ?_,fun i k xs m H=> ?_,fun i m M A=> ?_⟩)⟩
  ·by_cases e:i=d
   ·subst e; simp [St.put,nH,D.put]
   ·simp only[St.put,nH,D.put,z11 e]; exact lE (c i e m)
  ·cases l with
   | s i k j=>
    by_cases e:i=d
    ·subst e
     exfalso
     simp [D.at,atL,nH,D.put,V.leaf]at N
    ·have A:((b.S F.n x).put d (.tup []) (fun _ _=> .D)).fl (.s i k j)=b.kd (.s i k j):=by
      simp only[St.put,z11 e]; rw[z11]
      ·rfl
      ·rintro ⟨_,_,f⟩
       rw[lE (c i e C)]at f; rcases y.sl i (c i e C)with q | q
       ·rw[q]at f; cases f
       ·rw[dD q,p i e C]at f; cases f
     rw[A]; exact v i k j e
   | oc o j=>exact J (.oc o j)
   | _=>cases C
  ·by_cases e:i=d
   ·subst e
    simp [nH,D.put,V.comp]at H
   ·have A:((b.S F.n x).put d (.tup []) (fun _ _=> .D)).fl (.s i k 0)=b.kd (.s i k 0):=by
     simp only[St.put,z11 e]; rw[z11]
     ·rfl
     ·rintro ⟨_,_,f⟩
      rw[lE (c i e m)]at f; rcases y.sl i (c i e m)with q | q
      ·rw[q]at f; cases f
      ·rw[dD q,p i e m]at f; cases f
    rw[A]; exact v i k 0 e
  ·by_cases e:i=d
   ·subst e
    exact absurd (show aE ((nH x (some i)).sl i)= .none by simp [nH,D.put,aE]) M
   ·have E:((b.S F.n x).put d (.tup []) (fun _ _=> .D)).fl (.s i 0 0)=b.kd (.s i 0 0):=by
     simp only[St.put,z11 e]; rw[z11]
     ·rfl
     ·rintro ⟨_,_,f⟩
      rw[lE (c i e m)]at f; rcases y.sl i (c i e m)with q | q
      ·rw[q]at f; cases f
      ·rw[dD q,p i e m]at f; cases f
    rw[E]; exact IZ (v i 0 0 e) A

structure Eff where
  d:Option Nat
  u:V
  ob:Nat→Option (Option (List T))
def Eff.on(E:Eff)(x:D):D:=
  { sl:=fun i=>if E.d=some i then E.u else x.sl i
    ob:=fun o=>match E.ob o with | some c=>c | none=>x.ob o }
def Eff.put(d:Nat)(u:V):Eff:=⟨some d,u,fun _=>none⟩
def Eff.skip(d:Option Nat):Eff:=⟨d, .tup [],fun _=>none⟩
def Eff.new(d:Nat)(u:V)(cs:List T):Eff:=⟨some d,u,fun o=>if o=d then some (some cs)else none⟩
def Eff.call(d nd:Option Nat)(os:List Nat)(y:D):Eff:=⟨d,(y.sl 0).to (oO os nd),fun o=>match mA os nd o with | some oc=>some (y.ob oc) | none=>none⟩

theorem D.ext{x y:D}(h1: ∀i,x.sl i=y.sl i)(a: ∀o,x.ob o=y.ob o):x=y:=by
  cases x; cases y; simp only[D.mk.injEq]; exact⟨funext h1,funext a⟩

theorem Eff.put_on(d:Nat)(u:V)(x:D):(Eff.put d u).on x=x.put d u:=D.ext (fun i=>by
  simp only[Eff.on,Eff.put,D.put,z8]; by_cases e:d=i
  · rw[z17 e,z17 e.symm]
  · rw[z11 e,z11 (fun h=>e h.symm)]) (fun _=>rfl)
theorem Eff.skip_on(d:Option Nat)(x:D):(Eff.skip d).on x=nH x d:=D.ext (fun i=>by
  cases d with
  | none=>simp [Eff.on,Eff.skip,nH]
  | some d=>
    simp only[Eff.on,Eff.skip,nH,D.put,z8]; by_cases e:d=i
    · rw[z17 e,z17 e.symm]
    · rw[z11 e,z11 (fun h=>e h.symm)]) (fun _=>by cases d<;>rfl)
theorem Eff.new_on(d:Nat)(u:V)(cs:List T)(x:D):(Eff.new d u cs).on x=(x.put d u).setO d cs:=D.ext (fun i=>by
  simp only[Eff.on,Eff.new,D.put,D.setO,z8]; by_cases e:d=i
  · rw[z17 e,z17 e.symm]
  · rw[z11 e,z11 (fun h=>e h.symm)]) (fun o=>by
  simp only[Eff.on,Eff.new,D.put,D.setO]; by_cases e:o=d
  · rw[z17 e,z17 e]
  · rw[z11 e,z11 e])
theorem Eff.call_on(d nd:Option Nat)(os:List Nat)(y x:D):(Eff.call d nd os y).on x=x.call d nd os y:=D.ext (fun _=>rfl) (fun o=>by
  simp only[Eff.on,Eff.call,D.call]; cases mA os nd o<;>rfl)

def nC(x y:D)(v:Operand):Prop:=ev y.sl v=ev x.sl v∧(match ev x.sl v with
  | .one (.ptr ob _)=>y.ob ob=x.ob ob
  | .one (.pp l _ _ _)=>y.at l=x.at l
  | .one (.al l _)=>y.at l=x.at l
  | _=>True)

theorem nC.evD{x y:D}{v:Operand}(h:nC x y v):evD y v=evD x v:=by
  unfold Own.evD; rw[h.1]; have a:=h.2; unfold qZ; split
  · rename_i l p e
    rw[e]at a; have a:atL y.sl y.ob l=atL x.sl x.ob l:=a; rw[a]
  · rfl

section
variable {τ:TypeId→Option TI} {F:FA} {x y x1:D} {o:Oper}

def mY(f:D→Option D)(x y x1:D)(d:Nat):Prop:= ∃u,x1=x.put d u∧f y=some (y.put d u)

theorem eA{d:Nat}{v:V}{f:D→Option D}(h:nG F x d v=some x1)(a:f y=nG F y d v):mY f x y x1 d:=by
  obtain⟨h1,rfl⟩:=bR h; exact⟨v,rfl,by rw[a]; unfold nG; rw[h1]; rfl⟩

theorem Bt{d:Nat}{v:Operand}(b:ev y.sl v=ev x.sl v)(h:tW F x d v=some x1):mY (fun y=>tW F y d v) x y x1 d:=by
  unfold tW at h; obtain⟨a,h⟩:=aF h; exact eA h (by simp only[tW,b,a,z18])
theorem Gp{d:Nat}{v:Operand}(a:ev y.sl v=ev x.sl v)(h:uX F x d v=some x1):mY (fun y=>uX F y d v) x y x1 d:=by
  unfold uX at h; split at h<;>try cases h
  rename_i t; split at h<;>try cases h
  rename_i e; have h1:y.sl t=x.sl t:=a; exact eA h (by simp only[uX,h1,e])
theorem HR{d k:Nat}{v:Operand}(b:nC x y v)(h:lC F x d k v=some x1):mY (fun y=>lC F y d k v) x y x1 d:=by
  unfold lC at h; split at h<;>try cases h
  rename_i t; split at h<;>try cases h
  rename_i c e; split at h<;>try cases h
  rename_i w a; have h1:y.sl t=x.sl t:=b.1; exact eA h (by simp only[lC,h1,e,a])
theorem Mz{d:Nat}{c v z:Operand}(h1:nC x y c)(b:nC x y v)(f:nC x y z)(h:AZ F x d c v z=some x1):mY (fun y=>AZ F y d c v z) x y x1 d:=by
  unfold AZ at h; split at h<;>try cases h
  all_goals
    rename_i e; split at h<;>try cases h
    rename_i a; obtain⟨g,h⟩:=aF h; exact eA h (by simp only[AZ,h1.1,b.1,f.1,e,a,g,z18])
theorem Gm{d:Nat}{s:TypeId}{v:Operand}{f:Nat}(c:ev y.sl v=ev x.sl v)(h:pS τ F x d s v f=some x1):mY (fun y=>pS τ F y d s v f) x y x1 d:=by
  unfold pS at h; split at h<;>try cases h
  rename_i e; split at h<;>try cases h
  rename_i a; split at h<;>try cases h
  rename_i b; exact eA h (by simp only[pS,c,e,a,b])
theorem Ln{d:Nat}{v:Operand}(a:ev y.sl v=ev x.sl v)(h:Gw F x d v=some x1):mY (fun y=>Gw F y d v) x y x1 d:=by
  unfold Gw at h; split at h<;>try cases h
  all_goals
    rename_i e; exact eA h (by simp only[Gw,a,e])
theorem NY{d:Nat}{f:FuncId}{caps:Array Operand}(a: ∀v∈caps.toList,nC x y v)(h:EM F x d f caps=some x1):mY (fun y=>EM F y d f caps) x y x1 d:=by
  unfold EM at h; split at h<;>try cases h
  rename_i e; have:caps.toList.map (ev y.sl)=caps.toList.map (ev x.sl):=z45 fun v b=>(a v b).1
  exact eA h (by simp only[EM,this,e])
theorem Mw{d:Nat}{op:Op}(a: ∀v∈op.operands,nC x y v)(h:kL τ F x d op=some x1):mY (fun y=>kL τ F y d op) x y x1 d:=by
  unfold kL at h; split at h<;>try cases h
  rename_i e; exact eA h (by simp only[kL,rV op (fun v b=>(a v b).evD),e])
theorem Jb{d:Nat}{t:TypeId}{v i:Operand}(h1:nC x y v)(g:nC x y i)(h:mT τ F x d t v i=some x1):mY (fun y=>mT τ F y d t v i) x y x1 d:=by
  unfold mT at h; split at h<;>try cases h
  rename_i s e k n j a b c; split at h<;>try cases h
  rename_i row f; exact eA h (by simp only[mT,h1.1,g.1,a,b,c,f])
theorem LE{d:Nat}{t:TypeId}{v i:Operand}(h1:nC x y v)(j:nC x y i)(h:lA τ F x d t v i=some x1):mY (fun y=>lA τ F y d t v i) x y x1 d:=by
  unfold lA at h; split at h<;>try cases h
  · rename_i c e
    split at h<;>try cases h
    · rename_i l p a
      split at h<;>try cases h
      rename_i k g; split at h<;>try cases h
      rename_i b; have f:=h1.2; rw[a]at f; have f:y.at l=x.at l:=f; exact eA h (by simp only[lA,h1.1,j.1,c,e,a,f,g,b])
    · rename_i k a
      split at h<;>try cases h
      rename_i b; exact eA h (by simp only[lA,h1.1,j.1,c,e,a,b])
  · rename_i c e
    split at h<;>try cases h
    rename_i a g; split at h<;>try cases h
    rename_i b; exact eA h (by simp only[lA,h1.1,j.1,c,e,a,g]; rw[z17 b])
theorem NK{d:Nat}{t:TypeId}{v:Operand}{al:Bool}(h1:nC x y v)(h:mW τ F x d t v al=some x1):mY (fun y=>mW τ F y d t v al) x y x1 d:=by
  unfold mW at h; split at h<;>try cases h
  · rename_i c b
    have a:=h1.2; rw[b]at a; split at h<;>try cases h
    rename_i e; simp only at a; cases al with
    | true=>
      simp only[z18]at h; obtain⟨g,h⟩:=aF h; exact eA h (by simp only[mW,h1.1,c,b,a,e,z18,g])
    | false=>
      simp only[z16]at h; split at h<;>try cases h
      rename_i f; exact eA h (by simp only[mW,h1.1,c,b,a,e,z16,f])
  · rename_i c b
    split at h<;>try cases h
    rename_i e; exact eA h (by simp only[mW,h1.1,c,b,e])
  · rename_i l p n j c b
    have a:=h1.2; rw[b]at a; have a:y.at l=x.at l:=a; split at h<;>try cases h
    rename_i e; split at h<;>try cases h
    rename_i f; cases al with
    | true=>
      simp only[z18]at h; obtain⟨g,h⟩:=aF h; exact eA h (by simp only[mW,h1.1,c,b,a,e,f,z18,g])
    | false=>
      simp only[z16]at h; split at h<;>try cases h
      rename_i i; exact eA h (by simp only[mW,h1.1,c,b,a,e,f,z16,i])
theorem Jm{d:Nat}{t u:TypeId}{v z:Operand}(h1:nC x y v)(f:nC x y z)(h:nV τ F x d t u v z=some x1):mY (fun y=>nV τ F y d t u v z) x y x1 d:=by
  unfold nV at h; split at h<;>try cases h
  rename_i a; split at h<;>try cases h
  rename_i b c e; obtain⟨g,h⟩:=aF h; exact eA h (by simp only[nV,h1.1,f.1,a,b,c,e,g,z18])
theorem Pb{d:Nat}{t:TypeId}{n:Nat}{a:Array (Nat×Operand)}(g: ∀v∈a.toList.map (·.2),nC x y v)(h:Hp τ F x d t n a=some x1):mY (fun y=>Hp τ F y d t n a) x y x1 d:=by
  unfold Hp at h; split at h<;>try cases h
  rename_i b; split at h<;>try cases h
  rename_i c e; obtain⟨f,h⟩:=aF h; have:(a.toList.map (·.2)).map (ev y.sl)=(a.toList.map (·.2)).map (ev x.sl):=z45 fun v i=>(g v i).1
  exact eA h (by simp only[Hp,this,b,c,e,f,z18])
theorem NH{d:Nat}{t:TypeId}{v z:Operand}(h1:nC x y v)(g:nC x y z)(h:Aa τ F x d t v z=some x1):mY (fun y=>Aa τ F y d t v z) x y x1 d:=by
  unfold Aa at h; split at h<;>try cases h
  rename_i a; split at h<;>try cases h
  rename_i b c e; split at h<;>try cases h
  rename_i f; exact eA h (by simp only[Aa,h1.1,g.1,a,b,c,e]; rw[z17 f])
theorem LX{d:Nat}{t:TypeId}{a:Array (Nat×Operand)}(g: ∀v∈a.toList.map (·.2),nC x y v)(h:rQ τ F x d t a=some x1):mY (fun y=>rQ τ F y d t a) x y x1 d:=by
  unfold rQ at h; split at h<;>try cases h
  rename_i b; split at h<;>try cases h
  rename_i c; split at h<;>try cases h
  rename_i e; have:a.toList.map (fun p=>(p.1,ev y.sl p.2))=a.toList.map (fun p=>(p.1,ev x.sl p.2)):=z45 fun p f=>by rw[(g p.2 (z47.2 ⟨p,f,rfl⟩)).1]
  exact eA h (by simp only[rQ,this,b,c,e])

def Jr(o:Oper):List Nat:=match o.dst,o.op with
  | some d, .alloc _=> [d]
  | some d, .box _ _=> [d]
  | _,_=> []
def qV(o:Oper):Bool:=match o.op with | .store _ _ _=>true | _=>false
def isTk(F:FA)(o:Oper):Bool:=match o.dst,o.op with
  | some d, .load _ v=>mem d F.tk&&(!(mem d F.al)&&Em F v)
  | _,_=>false
def noTk(F:FA)(x:D)(o:Oper):Prop:= ∀d t v,o.dst=some d→o.op= .load t v→(mem d F.tk&&(!(mem d F.al)&&fK (ev x.sl v)))=false

theorem mY.eff{f:D→Option D}{d:Nat}(h:mY f x y x1 d)(b:o.dst=some d)(c:f y=dOp τ F y o): ∃E:Eff,E.d=o.dst∧(∀z,(E.ob z).isSome=true→z∈Jr o)∧x1=E.on x∧dOp τ F y o=some (E.on y):=by
  obtain⟨u,rfl,a⟩:=h; exact⟨Eff.put d u,b.symm,(fun z hz=>by cases hz),(Eff.put_on d u x).symm,(by rw[←c,a,Eff.put_on])⟩

theorem LT(h:dOp τ F x o=some x1)(A:qV o=false)(I:noTk F x o)(g: ∀v∈o.op.operands,nC x y v): ∃E:Eff,E.d=o.dst∧(∀z,(E.ob z).isSome=true→z∈Jr o)∧x1=E.on x∧dOp τ F y o=some (E.on y):=by
  have h0:=h; unfold dOp at h; cases hd:o.dst with
  | none=>
    rw[hd]at h; simp only at h; split at h<;>try cases h
    rename_i ho; rw[qV,ho]at A; cases A
  | some d=>
    rw[hd]at h; simp only at h; rw[←hd]; have q: ∀op,o.op=op→(∀y,dOp τ F y o=kL τ F y d op)→kL τ F x d op=some x1→ ∃E:Eff,E.d=o.dst∧(∀z,(E.ob z).isSome=true→z∈Jr o)∧x1=E.on x∧dOp τ F y o=some (E.on y):=fun op C r G=>
      mY.eff (Mw (y:=y) (by rw[←C]; exact g) G) hd (r y).symm
    cases ho:o.op with
    | assign v=>rw[ho]at h g; exact(Bt (g v (by simp [Op.operands])).1 h).eff hd (by simp only[dOp,hd,ho])
    | move v=>
      rw[ho]at h g; simp only at h; cases j:mem d F.al with
      | true=>rw[j]at h; exact(Gp (g v (by simp [Op.operands])).1 h).eff hd (by simp only[dOp,hd,ho,j,z18])
      | false=>rw[j]at h; exact(Bt (g v (by simp [Op.operands])).1 h).eff hd (by simp only[dOp,hd,ho,j,z16])
    | extract v k=>rw[ho]at h g; exact(HR (g v (by simp [Op.operands])) h).eff hd (by simp only[dOp,hd,ho])
    | pick c a b=>rw[ho]at h g; exact(Mz (g c (by simp [Op.operands])) (g a (by simp [Op.operands])) (g b (by simp [Op.operands])) h).eff hd (by simp only[dOp,hd,ho])
    | fieldAddr s v f=>rw[ho]at h g; exact(Gm (g v (by simp [Op.operands])).1 h).eff hd (by simp only[dOp,hd,ho])
    | nilCheck v=>rw[ho]at h g; exact(Ln (g v (by simp [Op.operands])).1 h).eff hd (by simp only[dOp,hd,ho])
    | makeFunc fn first caps=>
      rw[ho]at h g; cases fn with
      | func f=>
        simp only at h; obtain⟨L,h⟩:=aF h; exact(NY (fun v B=>g v (by simp [Op.operands]; exact .inr (by simpa using B))) h).eff hd (by simp only[dOp,hd,ho,L,z18])
      | _=>simp only[kL,fJ]at h; cases h
    | indexAddr t v i=>
      rw[ho]at h g; have l:=g v (by simp [Op.operands])
      simp only at h; cases j:(fK (F.shOf d)&&mV (ev x.sl v))with
      | true=>
        have m:(fK (F.shOf d)&&mV (ev y.sl v))=true:=by rw[l.1]; exact j
        rw[j]at h; exact(Jb l (g i (by simp [Op.operands])) h).eff hd (by simp only[dOp,hd,ho,m,z18])
      | false=>
        have m:(fK (F.shOf d)&&mV (ev y.sl v))=false:=by rw[l.1]; exact j
        rw[j]at h; exact(LE l (g i (by simp [Op.operands])) h).eff hd (by simp only[dOp,hd,ho,m,z16])
    | load t v=>
      rw[ho]at h g; have j:=I d t v hd ho; have l:=g v (by simp [Op.operands])
      have m:(mem d F.tk&&(!(mem d F.al)&&fK (ev y.sl v)))=false:=by rw[l.1]; exact j
      simp only[j,z16]at h; exact(NK l h).eff hd (by simp only[dOp,hd,ho,m,z16])
    | alloc t=>
      rw[ho]at h; simp only at h; unfold wS at h; split at h<;>try cases h
      rename_i i e; obtain⟨H,h⟩:=aF h; cases h; refine⟨Eff.new d (.one (.ptr d 0)) i.zero,hd.symm,fun z hz=> ?_,(Eff.new_on _ _ _ x).symm, ?_⟩
      · simp only[Jr,hd,ho,z68]
        simp only[Eff.new]at hz; by_cases e:z=d
        · exact e
        · rw[z11 e]at hz; cases hz
      · simp only[dOp,hd,ho,wS,e,H,z18,Eff.new_on]
    | box t v=>
      rw[ho]at h g; simp only at h; unfold KU at h; split at h<;>try cases h
      rename_i J; split at h<;>try cases h
      rename_i xs e; obtain⟨H,h⟩:=aF h; cases h; have h1:y.sl J=x.sl J:=(g (.tmp J) (by simp [Op.operands])).1
      refine⟨Eff.new d (.one (.ptr d 0)) xs,hd.symm,fun z hz=> ?_,(Eff.new_on _ _ _ x).symm, ?_⟩
      · simp only[Jr,hd,ho,z68]
        simp only[Eff.new]at hz; by_cases e:z=d
        · exact e
        · rw[z11 e]at hz; cases hz
      · simp only[dOp,hd,ho,KU,h1,e,H,z18,Eff.new_on]
    | buildSlice t n p=>rw[ho]at h g; exact(Pb (fun v B=>g v (by simpa [Op.operands]using B)) h).eff hd (by simp only[dOp,hd,ho])
    | makeSlice t v z=>rw[ho]at h g; exact(NH (g v (by simp [Op.operands])) (g z (by simp [Op.operands])) h).eff hd (by simp only[dOp,hd,ho])
    | build t p=>rw[ho]at h g; exact(LX (fun v B=>g v (by simpa [Op.operands]using B)) h).eff hd (by simp only[dOp,hd,ho])
    | call c=>
      rw[ho]at h g; simp only at h; split at h
      · rename_i v z t u C r G
        have j: ∀w,w∈c.args.toList→nC x y w:=fun w N=>g w (by simp only[Op.operands,Call.operands]; simp; exact .inr (by simpa using N))
        exact(Jm (j v (by rw[r]; simp)) (j z (by rw[r]; simp)) h).eff hd (by simp only[dOp,hd,ho,C,r,G])
      · rename_i M
        refine q (.call c) ho (fun y=> ?_) h
        simp only[dOp,hd,ho]
    | store t v z=>rw[ho]at h; simp only[kL,fJ]at h; cases h
    | binOp a b c K e=>rw[ho]at h; exact q _ ho (fun y=>by simp only[dOp,hd,ho]) h
    | unOp a b c=>rw[ho]at h; exact q _ ho (fun y=>by simp only[dOp,hd,ho]) h
    | convert a b c=>rw[ho]at h; exact q _ ho (fun y=>by simp only[dOp,hd,ho]) h
    | index a b c=>rw[ho]at h; exact q _ ho (fun y=>by simp only[dOp,hd,ho]) h
    | slice a b c K e=>rw[ho]at h; exact q _ ho (fun y=>by simp only[dOp,hd,ho]) h
    | _=>rw[ho]at h; simp only[kL,fJ]at h; cases h
def El(o:Oper):Bool:=match o.op with
  | .move _=>true
  | .assign _=>true
  | .nilCheck _=>true
  | .fieldAddr _ _ _=>true
  | _=>false
def tX(l:Bool)(x y:D)(v:Operand):Prop:=match l with
  | true=>ev y.sl v=ev x.sl v
  | false=>nC x y v
theorem tX.ev{l:Bool}{v:Operand}(h:tX l x y v):ev y.sl v=ev x.sl v:=by
  cases l with
  | true=>exact h
  | false=>exact h.1
theorem Im(h:dOp τ F x o=some x1)(b:qV o=false)(c:noTk F x o)(a: ∀v∈o.op.operands,tX (El o) x y v): ∃E:Eff,E.d=o.dst∧(∀z,(E.ob z).isSome=true→z∈Jr o)∧x1=E.on x∧dOp τ F y o=some (E.on y):=by
  cases hl:El o with
  | false=>
    rw[hl]at a; exact LT h b c a
  | true=>
    rw[hl]at a; have a: ∀v∈o.op.operands,Own.ev y.sl v=Own.ev x.sl v:=a; unfold dOp at h; cases hd:o.dst with
    | none=>
      rw[hd]at h; simp only at h; split at h<;>try cases h
      rename_i ho; unfold El at hl; rw[ho]at hl; cases hl
    | some d=>
      rw[hd]at h; simp only at h; rw[←hd]; cases ho:o.op with
      | assign v=>rw[ho]at h a; exact(Bt (a v (by simp [Op.operands])) h).eff hd (by simp only[dOp,hd,ho])
      | move v=>
        rw[ho]at h a; simp only at h; cases hm:mem d F.al with
        | true=>rw[hm]at h; exact(Gp (a v (by simp [Op.operands])) h).eff hd (by simp only[dOp,hd,ho,hm,z18])
        | false=>rw[hm]at h; exact(Bt (a v (by simp [Op.operands])) h).eff hd (by simp only[dOp,hd,ho,hm,z16])
      | fieldAddr s v f=>rw[ho]at h a; exact(Gm (a v (by simp [Op.operands])) h).eff hd (by simp only[dOp,hd,ho])
      | nilCheck v=>rw[ho]at h a; exact(Ln (a v (by simp [Op.operands])) h).eff hd (by simp only[dOp,hd,ho])
      | _=>unfold El at hl; rw[ho]at hl; cases hl
end

def SD(P:Program)(τ:TypeId→Option TI)(Sgs:FuncId→List Sg)(F:FA)(ds:List (Option Nat))(o:Oper)(x x1:D):Prop:=
 (aW ds x o.guard=some false∧x1=nH x o.dst)∨
 (aW ds x o.guard=some true∧dOp τ F x o=some x1)∨
 (aW ds x o.guard=some true∧ ∃c v f caps ob a r nw,o.op= .call c∧c.callee= .value v∧tV F c=false∧ev x.sl v= .one (.fn f caps)∧c.args.toList.all (fun v=>eP (ev x.sl v))=true∧ob.map some=(gK F c v).map x.ob∧
  (∀sg∈Sgs f,sg.np=(inV x c caps (gK F c v)).length→sg.no=ob.length→TC P f sg (inV x c caps (gK F c v)) ob r none a nw)∧
  bD F (x.call o.dst (nB F o.dst) (gK F c v) (DR r none a nw)) o.dst (nB F o.dst) (gK F c v)=true∧x1=x.call o.dst (nB F o.dst) (gK F c v) (DR r none a nw))∨
 (aW ds x o.guard=some true∧ ∃c v f r t xs l p x0 b es',o.op= .call c∧c.callee= .value v∧tV F c=true∧ev x.sl v= .one (.fn f [])∧c.args.toList.all (fun v=>eP (ev x.sl v))=true∧c.args.toList= .tmp t::xs∧x.sl t= .one (.al l p)∧x.at l=some x0∧nav x0 p=some (.sl b)∧
  (∀sg∈Sgs f,sg.np=(inV x c [] []).length→sg.no=0→TC P f sg (inV x c [] []) [] r (some (.sl es')) [] none)∧bD F (x.call o.dst none [] (DR r (some (.sl es')) [] none)) o.dst none []=true∧x1=(x.call o.dst none [] (DR r (some (.sl es')) [] none)).upd l (cD x0 p (.sl es')))
def Jw(F:FA)(o:Oper):Bool:=match o.op with
 | .store _ v _=>(match kH F v with | .one (.ptr _ _)=>true | .one (.pp (.s _ _ _) _ _ _)=>true | .one (.pp (.oc _ _) _ _ _)=>true | _=>false)
 | _=>false
def stL(F:FA)(o:Oper):Option Loc:=match o.op with
 | .store _ v _=>(match kH F v with | .one (.pp l _ _ _)=>some l | _=>none)
 | _=>none
def rS(F:FA)(o:Oper):Option Nat:=match stL F o with
 | some (.s i _ _)=>some i
 | _=>none
def wD(F:FA)(o:Oper):Option Nat:=match o.dst with
 | some d=>some d
 | none=>rS F o
def MJ(F:FA)(o:Oper):Bool:=(qV o&& !(Jw F o))||(isTk F o||(match cL o with | some (c,_)=>tV F c | none=>false))

def MZ(ds:List (Option Nat)):Option (Nat×Bool)→Option Nat
 | none=>none
 | some (j,_)=>match ds[j]? with
  | some (some t)=>some t
  | _=>none
def stO(F:FA)(o:Oper):List Nat:=match o.op with
 | .store _ v _=>(match kH F v with | .one (.ptr ob _)=> [ob] | .one (.pp (.oc ob _) _ _ _)=> [ob] | _=> [])
 | _=> []
def wO(F:FA)(o:Oper):List Nat:=match cL o with
 | some (c,v)=>qO (gK F c v) (nB F o.dst)
 | none=>Jr o++stO F o
def rO(F:FA)(o:Oper):List Nat:=match cL o with
 | some (c,v)=>gK F c v
 | none=>stO F o

def KT(F:FA)(x:D):Operand→Prop
 | .tmp t=>x.sl t= .tup []∨fits (x.sl t) (F.shOf t)=true
 | _=>True
def AF(F:FA)(x:D)(o:Oper):Prop:= ∀v∈o.op.operands,KT F x v

def rT(d:Option Nat)(a:List Nat):Loc→Bool
 | .s i _ _=>decide (d=some i)
 | .oc o _=>mem o a
 | _=>false
def Hf(F:FA)(d:Option Nat)(a:List Nat)(v:Operand):Bool:=
 (match v with | .tmp t=>decide (d=some t) | _=>false)||
 (match kH F v with
  | .one (.ptr ob _)=>mem ob a
  | .one (.pp l _ _ _)=>rT d a l
  | .one (.al l _)=>rT d a l
  | _=>false)
def HZ(d:Option Nat)(v:Operand):Bool:=match v with | .tmp t=>decide (d=some t) | _=>false
def ID(l:Bool)(F:FA)(d:Option Nat)(a:List Nat)(v:Operand):Bool:=bif l then HZ d v else Hf F d a v
theorem zZ{l:Bool}{F:FA}{d:Option Nat}{a:List Nat}{v:Operand}(h:ID l F d a v=false):HZ d v=false:=by
 cases l with
 | true=>exact h
 | false=>
  have h:Hf F d a v=false:=h; unfold Hf at h; simp only[z57]at h; exact h.1
def xW(F:FA)(ds:List (Option Nat))(a b:Oper):Bool:=
 b.op.operands.toList.any (ID (El b) F (wD F a) (wO F a))||(match MZ ds b.guard with | some t=>decide (wD F a=some t) | none=>false)||((rO F b).any (fun z=>mem z (wO F a))||(match rS F b with | some t=>decide (wD F a=some t) | none=>false))
def KD(F:FA)(ds:List (Option Nat))(a b:Oper):Bool:=
 !(MJ F a)&& !(MJ F b)&&(match wD F a with | some d=> !(decide (wD F b=some d)) | none=>true)&& !(xW F ds a b)&& !(xW F ds b a)&&(wO F a).all (fun z=> !(mem z (wO F b)))

theorem OE{z:Nat}: ∀ {l:List Nat},z∈l→mem z l=true
 | y::r,h=>by
  simp only[mem,z38]; cases h with
  | head=>exact .inl (z44 _)
  | tail _ h=>exact .inr (OE h)

section
variable {P:Program} {τ:TypeId→Option TI} {Sgs:FuncId→List Sg} {F:FA} {ds:List (Option Nat)} {x y x1 x2:D} {o:Oper}

theorem KI{E:Eff}{a:Option Nat}{b:List Nat}(f: ∀d,E.d=some d→a=some d)(m: ∀z,(E.ob z).isSome=true→z∈b){l:Loc}(h:rT a b l=false):(E.on x).at l=x.at l:=by
 cases l with
 | s i k j=>
  simp only[rT,z36]at h; simp only[D.at,atL,Eff.on,z11 (fun e=>h (f i e))]
 | oc ob j=>
  simp only[rT]at h; have:E.ob ob=none:=by
   cases he:E.ob ob with
   | none=>rfl
   | some c=>rw[OE (m ob (by rw[he]; rfl))]at h; cases h
  simp only[D.at,atL,Eff.on,this]
 | _=>rfl

theorem Mp{E:Eff}{wd:Option Nat}{wo:List Nat}(hD: ∀d,E.d=some d→wd=some d)(hE: ∀z,(E.ob z).isSome=true→z∈wo){v:Operand}(hf:KT F x v)(h:Hf F wd wo v=false):nC x (E.on x) v:=by
 have hob: ∀ob,mem ob wo=false→(E.on x).ob ob=x.ob ob:=fun ob hm=>by
  have:E.ob ob=none:=by
   cases he:E.ob ob with
   | none=>rfl
   | some c=>rw[OE (hE ob (by rw[he]; rfl))]at hm; cases hm
  simp only[Eff.on,this]
 simp only[Hf,z57]at h; cases v with
 | tmp t=>
  obtain⟨h1,h2⟩:=h; have h1:wd≠some t:=by simpa using h1
  have e0:(E.on x).sl t=x.sl t:=by simp only[Eff.on,z11 (fun e=>h1 (hD t e))]
  refine⟨e0, ?_⟩
  have h2:(match F.shOf t with | .one (.ptr ob _)=>mem ob wo | .one (.pp l _ _ _)=>rT wd wo l | .one (.al l _)=>rT wd wo l | _=>false)=false:=h2
  have hf:x.sl t= .tup []∨fits (x.sl t) (F.shOf t)=true:=hf; show match x.sl t with | .one (.ptr ob _)=>_ | .one (.pp l _ _ _)=>_ | .one (.al l _)=>_ | _=>True
  rcases hf with e | hf
  ·rw[e]; trivial
  ·split
   ·rename_i ob p e
    rw[e]at hf; cases hs:F.shOf t with
    | tup ws=>rw[hs]at hf; simp [Own.fits]at hf
    | one w=>
     rw[hs]at hf h2; cases w<;>simp [Own.fits,bK]at hf
     obtain⟨rfl,_⟩:=hf; exact hob _ h2
   ·rename_i l p i j e
    rw[e]at hf; cases hs:F.shOf t with
    | tup ws=>rw[hs]at hf; simp [Own.fits]at hf
    | one w=>
     rw[hs]at hf h2; cases w<;>simp [Own.fits,bK]at hf
     obtain⟨⟨rfl,_⟩,_⟩:=hf; exact KI hD hE h2
   ·rename_i l p e
    rw[e]at hf; cases hs:F.shOf t with
    | tup ws=>rw[hs]at hf; simp [Own.fits]at hf
    | one w=>
     rw[hs]at hf h2; cases w<;>simp [Own.fits,bK]at hf
     obtain⟨rfl,_⟩:=hf; exact KI hD hE h2
   ·trivial
 | const u=>
  refine⟨rfl, ?_⟩
  obtain⟨_,h2⟩:=h; show match aX u with | .one (.ptr ob _)=>_ | .one (.pp l _ _ _)=>_ | .one (.al l _)=>_ | _=>True
  have h2:(match aX u with | .one (.ptr ob _)=>mem ob wo | .one (.pp l _ _ _)=>rT wd wo l | .one (.al l _)=>rT wd wo l | _=>false)=false:=h2
  split
  ·rename_i e; rw[e]at h2; exact hob _ h2
  ·rename_i e; rw[e]at h2; exact KI hD hE h2
  ·rename_i e; rw[e]at h2; exact KI hD hE h2
  ·trivial
 | func f=>exact⟨rfl,trivial⟩
 | global i=>exact⟨rfl,trivial⟩

theorem nC.refl(x:D)(v:Operand):nC x x v:=⟨rfl,by split<;>trivial⟩
theorem nC.symm{v:Operand}(h:nC x y v):nC y x v:=by
 refine⟨h.1.symm, ?_⟩
 rw[h.1]; have a:=h.2; split<;>rename_i e<;>first | trivial | (rw[e]at a; exact a.symm)

theorem tX.refl(l:Bool)(x:D)(v:Operand):tX l x x v:=by
 cases l with
 | true=>exact rfl
 | false=>exact nC.refl x v
theorem tX.symm{l:Bool}{v:Operand}(h:tX l x y v):tX l y x v:=by
 cases l with
 | true=>exact Eq.symm h
 | false=>exact nC.symm h
theorem tX.fit{l:Bool}{v:Operand}(h:tX l x y v)(a:KT F x v):KT F y v:=by
 cases v with
 | tmp t=>
  have e:y.sl t=x.sl t:=h.ev; show y.sl t= .tup []∨fits (y.sl t) (F.shOf t)=true; rw[e]; exact a
 | _=>trivial
structure qQ (F:FA) (ds:List (Option Nat)) (x y:D) (o:Oper):Prop where
 vs: ∀v∈o.op.operands,tX (El o) x y v
 g: ∀t,MZ ds o.guard=some t→y.sl t=x.sl t
 os: ∀z∈rO F o,y.ob z=x.ob z
 ps: ∀t,rS F o=some t→y.sl t=x.sl t

theorem qQ.refl(x:D)(o:Oper):qQ F ds x x o:=⟨fun v _=> .refl _ x v,fun _ _=>rfl,fun _ _=>rfl,fun _ _=>rfl⟩
theorem qQ.symm(h:qQ F ds x y o):qQ F ds y x o:=⟨fun v b=>(h.vs v b).symm,fun t a=>(h.g t a).symm,fun z hz=>(h.os z hz).symm,fun t a=>(h.ps t a).symm⟩
theorem qQ.fit(h:qQ F ds x y o)(b:AF F x o):AF F y o:=fun v a=>(h.vs v a).fit (b v a)

theorem qQ.guard(h:qQ F ds x y o):aW ds y o.guard=aW ds x o.guard:=by
 have a:=h.g; cases hq:o.guard with
 | none=>rfl
 | some p=>
  obtain⟨j,w⟩:=p; rw[hq]at a; simp only[MZ]at a; simp only[aW]; split
  ·rename_i t e
   rw[e]at a; simp only at a; rw[a t rfl]
  ·rfl

theorem GL{a:Oper}{E:Eff}(f: ∀d,E.d=some d→wD F a=some d)(m: ∀z,(E.ob z).isSome=true→z∈wO F a)(r:AF F x o)(h:xW F ds a o=false):qQ F ds x (E.on x) o:=by
 simp only[xW,z57]at h; obtain⟨⟨h1,i⟩,q,b⟩:=h; refine⟨fun v p=> ?_,fun t l=> ?_,fun z hz=> ?_,fun t l=> ?_⟩
 ·have b:=Oi.1 h1 v (by simpa using p)
  have j:ID (El o) F (wD F a) (wO F a) v=false:=by simpa using b
  cases hl:El o with
  | true=>
   have k:=zZ j; cases v with
   | tmp t=>
    have k:wD F a≠some t:=by simpa [HZ]using k
    show(E.on x).sl t=x.sl t; simp only[Eff.on,z11 (fun e=>k (f t e))]
   | _=>exact rfl
  | false=>
   rw[hl]at j; exact Mp f m (r v p) j
 ·rw[l]at i
  simp only[z36]at i; simp only[Eff.on,z11 (fun e=>i (f t e))]
 ·have:=Oi.1 q z hz
  have hn:E.ob z=none:=by
   cases he:E.ob z with
   | none=>rfl
   | some c=>exact absurd (OE (m z (by rw[he]; rfl))) this
  simp only[Eff.on,hn]
 ·rw[l]at b
  simp only[z36]at b; simp only[Eff.on,z11 (fun e=>b (f t e))]

theorem qI{c:Call}{v:Operand}(ho:o.op= .call c)(a:c.callee= .value v):cL o=some (c,v):=by
 unfold cL; rw[ho]; simp only[a]
theorem qH(h:dOp τ F x o=some x1):cL o=none:=by
 unfold cL; split
 ·rename_i c ho
  split
  ·rename_i v a
   exfalso
   unfold dOp at h; cases hd:o.dst with
   | none=>rw[hd,ho]at h; simp at h
   | some d=>
    rw[hd,ho]at h; simp only[a]at h; simp only[kL,fJ,a]at h; cases h
  ·rfl
 ·rfl

theorem JH{os:List Nat}{nd:Option Nat}{z:Nat}{y:D}{d:Option Nat}(h:((Eff.call d nd os y).ob z).isSome=true):z∈qO os nd:=by
 simp only[Eff.call]at h; cases hi:mA os nd z with
 | none=>rw[hi]at h; cases h
 | some oc=>exact nQ.1 (by rw[hi]; rfl)

theorem Cr{d nd:Option Nat}{os:List Nat}{r:D}:bD F (y.call d nd os r) d nd os=bD F (x.call d nd os r) d nd os:=by
 simp only[bD]; congr 1
 ·cases d with
  | none=>rfl
  | some d=>simp [D.call]
 ·rw[z95,z14,z14]
  have: ∀z∈qO os nd,(y.call d nd os r).ob z=(x.call d nd os r).ob z:=fun z hz=>by
   simp only[D.call]; cases hi:mA os nd z with
   | none=>have:=nQ.2 hz; rw[hi]at this; cases this
   | some oc=>rfl
  exact⟨fun h z hz=>by rw[←this z hz]; exact h z hz,fun h z hz=>by rw[this z hz]; exact h z hz⟩

theorem PR{v:Operand}{ob p:Nat}(a:KT F x v)(h:ev x.sl v= .one (.ptr ob p)):kH F v= .one (.ptr ob p):=by
 cases v with
 | tmp b=>
  have h:x.sl b= .one (.ptr ob p):=h; have a:x.sl b= .tup []∨fits (x.sl b) (F.shOf b)=true:=a; rw[h]at a; rcases a with a | a
  ·cases a
  ·show F.shOf b=_
   cases hs:F.shOf b with
   | tup d=>rw[hs]at a; simp [fits]at a
   | one w=>
    rw[hs]at a; cases w<;>simp [fits,bK]at a
    rw[a.1,a.2]
 | const c=>exact h
 | func f=>cases h
 | global g=>cases h
theorem pp_sh{v:Operand}{l:Loc}{p:List (Nat×Nat)}{n j:Nat}(a:KT F x v)(h:ev x.sl v= .one (.pp l p n j)): ∃e n' d,kH F v= .one (.pp l e n' d):=by
 cases v with
 | tmp b=>
  have h:x.sl b= .one (.pp l p n j):=h; have a:x.sl b= .tup []∨fits (x.sl b) (F.shOf b)=true:=a; rw[h]at a; rcases a with a | a
  ·cases a
  ·show ∃e n' d,F.shOf b=_
   cases hs:F.shOf b with
   | tup i=>rw[hs]at a; simp [fits]at a
   | one w=>
    rw[hs]at a; cases w<;>simp [fits,bK]at a
    rw[a.1.1]; exact⟨_,_,_,rfl⟩
 | const c=>exact⟨_,_,_,h⟩
 | func f=>cases h
 | global g=>cases h
theorem Iz(h:dOp τ F x o=some x1)(hst:Jw F o=true)(hfit:AF F x o)(hs: ∀v∈o.op.operands,nC x y v)(hos: ∀z∈stO F o,y.ob z=x.ob z)(hps: ∀t,rS F o=some t→y.sl t=x.sl t): ∃E:Eff,(∀d,E.d=some d→wD F o=some d)∧(∀z,(E.ob z).isSome=true→z∈stO F o)∧x1=E.on x∧dOp τ F y o=some (E.on y):=by
 unfold Jw at hst; split at hst<;>try cases hst
 rename_i t v w ho; have h0:=h; unfold dOp at h; cases hd:o.dst with
 | some d=>rw[hd]at h; simp only at h; rw[ho]at h; simp only[kL,fJ]at h; cases h
 | none=>
  rw[hd,ho]at h; simp only at h; have hfv:=hfit v (by rw[ho]; simp [Op.operands])
  have h1:=hs v (by rw[ho]; simp [Op.operands])
  have h2:=hs w (by rw[ho]; simp [Op.operands])
  split at h<;>try cases h
  ·rename_i i ob' p' xs hi hv hy
   have hsh:=PR hfv hv; have e1:ev y.sl v= .one (.ptr ob' p'):=h1.1.trans hv; have e2:aM (ev y.sl w)=some xs:=by rw[h2.1]; exact hy
   have e3:y.ob ob'=x.ob ob':=by
    have:=h1.2; rw[hv]at this; exact this
   unfold nU at h; split at h<;>try cases h
   rename_i cells hcl; obtain⟨hc,h⟩:=aF h; cases h; have hon: ∀z:D,(Eff.on ⟨none, .tup [],fun o'=>if o'=ob' then some (some (cells.take p'++xs++cells.drop (p'+xs.length)))else none⟩ z)=z.setO ob' (cells.take p'++xs++cells.drop (p'+xs.length)):=fun z=>D.ext (fun i=>by simp [Eff.on,D.setO]) (fun i=>by
    simp only[Eff.on,D.setO]; by_cases e:i=ob'
    ·rw[z17 e,z17 e]
    ·rw[z11 e,z11 e])
   refine⟨⟨none, .tup [],fun o'=>if o'=ob' then some (some (cells.take p'++xs++cells.drop (p'+xs.length)))else none⟩,(fun d hd=>by cases hd),fun z hz=> ?_,(hon x).symm, ?_⟩
   ·simp only at hz
    by_cases e:z=ob'
    ·unfold stO; rw[ho]; simp only[hsh]; simp [e]
    ·rw[z11 e]at hz; cases hz
   ·rw[hon y]
    unfold dOp; rw[hd,ho]; simp only[hi,e1,e2,nU,e3,hcl,hc,z18]
  ·rename_i i l pp n j xs hi hv hy
   obtain⟨p',n',j',hsh⟩:=pp_sh hfv hv; have e1:ev y.sl v= .one (.pp l pp n j):=h1.1.trans hv; have e2:aM (ev y.sl w)=some xs:=by rw[h2.1]; exact hy
   have e3:y.at l=x.at l:=by
    have:=h1.2; rw[hv]at this; exact this
   have hstL:stL F o=some l:=by unfold stL; rw[ho]; simp only[hsh]
   unfold mS at h; split at h<;>try cases h
   rename_i x0 hx0; split at h<;>try cases h
   rename_i es hes; split at h<;>try cases h
   rename_i row hrow; obtain⟨hc,h⟩:=aF h; cases h; have hy2:dOp τ F y o=some (y.upd l (cD x0 pp (.sl (es.set n (row.take j++xs++row.drop (j+xs.length)))))):=by
    unfold dOp; rw[hd,ho]; simp only[hi,e1,e2,mS,e3,hx0,hes,hrow,hc,z18]
   generalize cD x0 pp (.sl (es.set n (row.take j++xs++row.drop (j+xs.length))))=q at hy2; rw[hsh]at hst; cases l with
   | s i0 k0 j0=>
    have e4:y.sl i0=x.sl i0:=hps i0 (by unfold rS; rw[hstL])
    have hon: ∀z:D,z.sl i0=x.sl i0→(Eff.on ⟨some i0,(x.sl i0).setLeaf k0 j0 q,fun _=>none⟩ z)=z.upd (.s i0 k0 j0) q:=fun z hz=>D.ext (fun i=>by
     simp only[Eff.on,D.upd,hJ,z8]; by_cases e:i0=i
     ·subst e; rw[z17 rfl,z17 rfl,hz]
     ·rw[z11 e,z11 (fun e2=>e e2.symm)]) (fun i=>rfl)
    refine⟨⟨some i0,(x.sl i0).setLeaf k0 j0 q,fun _=>none⟩,fun d e=> ?_,(fun z hz=>by cases hz),(hon x rfl).symm,by rw[hon y e4]; exact hy2⟩
    cases e; unfold wD rS; rw[hd,hstL]
   | oc ob j0=>
    have hmem:ob∈stO F o:=by unfold stO; rw[ho]; simp only[hsh]; simp
    have e4:y.ob ob=x.ob ob:=hos ob hmem; have hon: ∀z:D,z.ob ob=x.ob ob→(Eff.on ⟨none, .tup [],fun o'=>if o'=ob then some ((x.ob ob).map (·.set j0 q))else none⟩ z)=z.upd (.oc ob j0) q:=fun z hz=>D.ext (fun i=>by simp [Eff.on,D.upd,hJ]) (fun i=>by
     simp only[Eff.on,D.upd,oI]; by_cases e:i=ob
     ·rw[z17 e,z17 e,e,hz]
     ·rw[z11 e,z11 e])
    refine⟨⟨none, .tup [],fun o'=>if o'=ob then some ((x.ob ob).map (·.set j0 q))else none⟩,(fun d e=>by cases e),(fun z hz=> ?_),(hon x rfl).symm,by rw[hon y e4]; exact hy2⟩
    simp only at hz; by_cases e:z=ob
    ·rw[e]; exact hmem
    ·rw[z11 e]at hz; cases hz
   | _=>cases hst
theorem Ht{E:Eff}(h:E.d=o.dst): ∀d,E.d=some d→wD F o=some d:=fun d e=>by
 rw[h]at e; unfold wD; rw[e]
theorem SD.eff(h:SD P τ Sgs F ds o x x1)(hfit:AF F x o)(hst:MJ F o=false)(hs:qQ F ds x y o): ∃E:Eff,(∀d,E.d=some d→wD F o=some d)∧(∀z,(E.ob z).isSome=true→z∈wO F o)∧x1=E.on x∧SD P τ Sgs F ds o y (E.on y):=by
 rcases h with⟨hg,rfl⟩ | ⟨hg,h⟩ | ⟨hg,c,v,f,caps,ob,ob',r,nw,h1,h2,h0,h3,h4,h5,h6,h7,rfl⟩ | ⟨hg,c,v,f,r,t,xs,l,p,x0,es,es',h1,h2,h3,_⟩
 ·exact⟨Eff.skip o.dst,Ht rfl,(fun z hz=>by cases hz),(Eff.skip_on _ x).symm, .inl ⟨by rw[hs.guard,hg],Eff.skip_on _ y⟩⟩
 ·cases hs2:qV o with
  | false=>
   obtain⟨E,e1,e2,e3,e4⟩:=Im h hs2 (fun d t v hd ho=>by
    simp only[MJ,z57]at hst; have htk:=hst.2.1; unfold isTk at htk; rw[hd,ho]at htk; have htk:(mem d F.tk&&(!(mem d F.al)&&Em F v))=false:=htk; cases hp:fK (ev x.sl v)with
    | false=>rw[z71,z71]
    | true=>
     obtain⟨l,p,n,j,e⟩:=CP hp; have:Em F v=true:=by
      cases v with
      | tmp tt=>
       have hf:x.sl tt= .tup []∨fits (x.sl tt) (F.shOf tt)=true:=hfit (.tmp tt) (by rw[ho]; simp [Op.operands])
       have e:x.sl tt= .one (.pp l p n j):=e; rw[e]at hf; rcases hf with hf | hf
       ·cases hf
       ·unfold Em
        show(match F.shOf tt with | .one (.pp _ _ _ _)=>true | _=>false)=true
        cases hs3:F.shOf tt with
        | tup ws=>rw[hs3]at hf; simp [fits]at hf
        | one w=>rw[hs3]at hf; cases w<;>simp [fits,bK]at hf; rfl
      | const c=>
       have e:aX c= .one (.pp l p n j):=e; unfold aX at e; (repeat' split at e)<;>cases e
      | func f=>cases e
      | global g=>cases e
     rw[this]at htk; exact htk) hs.vs
   exact⟨E,Ht e1,(fun z hz=>by simp only[wO,qH h]; exact List.mem_append_left _ (e2 z hz)),e3, .inr (.inl ⟨by rw[hs.guard,hg],e4⟩)⟩
  | true=>
   have hp:Jw F o=true:=by
    simp only[MJ,z57,hs2,z39,Bool.not_eq_false']at hst; exact hst.1
   have hlf:El o=false:=by
    unfold qV at hs2; unfold El; split at hs2<;>try cases hs2
    rename_i e; rw[e]
   obtain⟨E,e1,e2,e3,e4⟩:=Iz h hp hfit (fun v hv=>by have:=hs.vs v hv; rw[hlf]at this; exact this) (fun z hz=>hs.os z (by simp only[rO,qH h]; exact hz)) hs.ps
   exact⟨E,e1,(fun z hz=>by simp only[wO,qH h]; exact List.mem_append_right _ (e2 z hz)),e3, .inr (.inl ⟨by rw[hs.guard,hg],e4⟩)⟩
 ·have hc:=qI h1 h2
  have hlf:El o=false:=by unfold El; rw[h1]
  have hsv: ∀v∈o.op.operands,nC x y v:=fun v hv=>by have:=hs.vs v hv; rw[hlf]at this; exact this
  have hv: ∀w,(w=v∨w∈c.args.toList)→nC x y w:=fun w hw=>hsv w (by
   rw[h1]; simp only[Op.operands,Call.operands,h2]; simp; rcases hw with rfl | hw
   ·exact .inl rfl
   ·exact .inr (by simpa using hw))
  have e1:inV y c caps (gK F c v)=inV x c caps (gK F c v):=by
   simp only[inV]; congr 1
   exact z45 fun w hw=>by rw[(hv w (.inr hw)).evD]
  have e2:(gK F c v).map y.ob=(gK F c v).map x.ob:=z45 fun z hz=>hs.os z (by simp only[rO,hc]; exact hz)
  refine⟨Eff.call o.dst (nB F o.dst) (gK F c v) (DR r none ob' nw),Ht rfl,(fun z hz=>by simp only[wO,hc]; exact JH hz),(Eff.call_on _ _ _ _ x).symm, .inr (.inr (.inl ⟨by rw[hs.guard,hg],c,v,f,caps,ob,ob',r,nw,h1,h2,h0,by rw[(hv v (.inl rfl)).1,h3], ?_,by rw[e2,h5], ?_, ?_,Eff.call_on _ _ _ _ y⟩))⟩
  ·rw[z14]at h4 ⊢
   exact fun w hw=>by rw[(hv w (.inr hw)).1]; exact h4 w hw
  ·rw[e1]; exact h6
  ·rw[Cr (x:=x)]; exact h7
 ·simp only[MJ,qI h1 h2,h3,Bool.or_true]at hst
  cases hst

theorem Eff.comm{E E':Eff}{z:D}(a: ∀d,E.d=some d→E'.d≠some d)(ho: ∀o,(E.ob o).isSome=true→E'.ob o=none):E.on (E'.on z)=E'.on (E.on z):=by
 refine D.ext (fun i=> ?_) (fun o=> ?_)
 ·simp only[Eff.on]
  by_cases e:E.d=some i
  ·rw[z17 e,z11 (a i e),z17 e]
  ·rw[z11 e,z11 e]
 ·simp only[Eff.on]
  cases h:E.ob o with
  | none=>rfl
  | some c=>rw[ho o (by rw[h]; rfl)]

theorem SD.swap{a b:Oper}(h1:SD P τ Sgs F ds a x x1)(N:SD P τ Sgs F ds b x1 x2)(j:AF F x a)(q:AF F x1 b)(u:KD F ds a b=true):AF F x b∧ ∃y,SD P τ Sgs F ds b x y∧AF F y a∧SD P τ Sgs F ds a y x2:=by
 simp only[KD,z7,z37]at u; obtain⟨⟨⟨⟨⟨C,S⟩,s⟩,f⟩,m⟩,O⟩:=u; obtain⟨A,a1,a2,a3,_⟩:=h1.eff j C (qQ.refl x a); have h:AF F x b:=fun v w=>by
  have r:HZ (wD F a) v=false:=by
   simp only[xW,z57]at f; have:=Oi.1 f.1.1 v (by simpa using w)
   exact zZ (by simpa using this)
  have:=q v w; cases v with
  | tmp t=>
   simp only[HZ,z36]at r; have e:x1.sl t=x.sl t:=by rw[a3]; simp only[Eff.on,z11 (fun e=>r (a1 t e))]
   have this:x1.sl t= .tup []∨fits (x1.sl t) (F.shOf t)=true:=this; rw[e]at this; exact this
  | _=>trivial
 have p:qQ F ds x x1 b:=by rw[a3]; exact GL a1 a2 h f
 obtain⟨B,b1,b2,H,I⟩:=N.eff q S p.symm; have i:qQ F ds x (B.on x) a:=GL b1 b2 j m; obtain⟨G,J,K,L,M⟩:=h1.eff j C i; refine⟨h,B.on x,I,i.fit j, ?_⟩
 rw[H,L, ←Eff.comm (E:=G) (E':=B)]
 ·exact M
 ·intro d k l
  have k:=J d k; have l:=b1 d l; rw[k]at s; simp [l]at s
 ·intro z hz
  cases hB:B.ob z with
  | none=>rfl
  | some c=>
   have Q:=K z hz; have R:=b2 z (by rw[hB]; rfl)
   have:=z14.1 O z Q; rw[OE R]at this; cases this

def AE(P:Program)(τ:TypeId→Option TI)(Sgs:FuncId→List Sg)(F:FA)(ds:List (Option Nat))(ops:Array Oper):List Nat→D→D→Prop
 | [],x,x'=>x=x'
 | i::r,x,x'=> ∃o x1,ops[i]? =some o∧AF F x o∧SD P τ Sgs F ds o x x1∧AE P τ Sgs F ds ops r x1 x'

theorem AE.front{ops:Array Oper}{i:Nat}(ho:ops[i]? =some o){f:List Nat}{x':D}: ∀ {b:List Nat} {x:D},AE P τ Sgs F ds ops (b++i::f) x x'→(∀j∈b, ∀a,ops[j]? =some a→KD F ds a o=true)→
  AF F x o∧ ∃x1,SD P τ Sgs F ds o x x1∧AE P τ Sgs F ds ops (b++f) x1 x'
 | [],x,h,_=>by
  obtain⟨B,x1,h1,c,d,e⟩:=h; rw[ho]at h1; cases h1; exact⟨c,x1,d,e⟩
 | j::r,x,h,k=>by
  obtain⟨a,x1,h1,c,d,e⟩:=h; obtain⟨m,x2,p,q⟩:=AE.front ho e (fun j l=>k j (z24 _ l))
  obtain⟨s,y,u,w,A⟩:=d.swap p c m (k j z25 a h1); exact⟨s,y,u,a,x2,h1,w,A,q⟩
end

abbrev Lvl:=List (Nat×B)
def mB(m:Nat):Lvl→Option B
 | []=>none
 | (a,b)::r=>bif Nat.beq m a then some b else mB m r
def OI(F:FA)(m:Nat)(b:B)(mt:B→B→B):Lvl→Option Lvl
 | []=>some [(m,b)]
 | (c,a)::r=>bif Nat.beq m c then(bif leB (mt a b) a&&leB (mt a b) b then some ((c,(mt a b).nrm F)::r)else none)
  else(match OI F m b mt r with | some r'=>some ((c,a)::r') | none=>none)
def fR(m:Nat)(o:Oper):Bool:=o.after.toList.all fun e=> !(Region.binds .any e)||m.testBit e.on

section
variable (τ:TypeId→Option TI) (Sgs:FuncId→List Sg) (F:FA) (ds:List (Option Nat)) (mt:B→B→B)
def qX(m:Nat)(b:B):Nat→List Oper→Lvl→Option Lvl
 | _,[],a=>some a
 | i,o::r,a=>bif m.testBit i|| !(fR m o)then qX m b (i+1) r a
  else(match oH τ Sgs F ds b o with
   | some b1=>(match OI F (m||| 2 ^ i) b1 mt a with | some acc'=>qX m b (i+1) r acc' | none=>none)
   | none=>none)
def Aj(os:List Oper):Lvl→Lvl→Option Lvl
 | [],a=>some a
 | (m,b)::r,a=>match qX τ Sgs F ds mt m b 0 os a with | some acc'=>Aj os r acc' | none=>none
def DN(os:List Oper):Nat→Lvl→Option Lvl
 | 0,L=>some L
 | n+1,L=>match Aj τ Sgs F ds mt os L []with | some L'=>DN os n L' | none=>none
def Ei:B→List Oper→Option B
 | b,[]=>some b
 | b,o::r=>bif o.op.operands.toList.all (cI b)then(match oH τ Sgs F ds b o with | some b1=>Ei b1 r | none=>none)else none
end

def kD(F:FA)(ds:List (Option Nat))(ops:Array Oper):Bool:=
 (List.range ops.size).all (fun j=>match ops[j]? with | some o=>o.after.all (fun e=> !Region.binds .any e||Nat.blt e.on j) | none=>true)&&
 (List.range ops.size).all (fun j=>(List.range j).all fun i=>match ops[i]?,ops[j]? with
  | some a,some b=>((Region.before ops).getD j 0).testBit i||KD F ds a b
  | _,_=>true)

def MU(F:FA)(v:Operand):Bool:=match kH F v with
 | .one (.ptr _ _)=>true
 | .one (.pp _ _ _ _)=>true
 | .one (.cp _)=>true
 | _=>false
def MK(F:FA)(o:Oper):Bool:=o.guard.isNone&&(match o.dst,o.op with
 | some _, .move _=>true
 | some _, .assign _=>true
 | some _, .nilCheck v=>MU F v
 | some _, .fieldAddr _ v _=>MU F v
 | _,_=>false)
def KF(F:FA)(ops:Array Oper)(i:Nat):Bool:=match ops[i]? with
 | some o=>MK F o&&(List.range ops.size).all (fun j=>Nat.beq j i||((Region.before ops).getD i 0).testBit j||(match ops[j]? with
   | some p=>p.after.any (fun e=>Region.binds .any e&&Nat.beq e.on i)||o.apart ops p
   | none=>true))
 | none=>false
def PA(F:FA)(ops:Array Oper):List Bool:=bif Region.noSelect ops then(List.range ops.size).map (KF F ops)else []
def yJ(m:Nat):Nat→List Oper→List Bool→Option (Nat×Oper)
 | i,o::r,e::a=>bif e&&(!(m.testBit i)&&fR m o)then some (i,o)else yJ m (i+1) r a
 | _,_,_=>none
section
variable (τ:TypeId→Option TI) (Sgs:FuncId→List Sg) (F:FA) (ds:List (Option Nat)) (mt:B→B→B)
def yC(E:List Bool)(os:List Oper):Lvl→Lvl→Option Lvl
 | [],a=>some a
 | (m,b)::r,a=>match yJ m 0 os E with
  | some (i,o)=>(match oH τ Sgs F ds b o with
   | some b1=>(match OI F (m||| 2 ^ i) b1 mt a with | some acc'=>yC E os r acc' | none=>none)
   | none=>none)
  | none=>(match qX τ Sgs F ds mt m b 0 os a with | some acc'=>yC E os r acc' | none=>none)
def Bu(E:List Bool)(os:List Oper):Nat→Lvl→Option Lvl
 | 0,L=>some L
 | n+1,L=>match yC τ Sgs F ds mt E os L []with | some L'=>Bu E os n L' | none=>none
end
def KS(d:Nat):Operand→Bool
 | .tmp t=> !(Nat.beq d t)
 | _=>true
def Js(F:FA)(v y:Operand)(o:Oper):Bool:=o.guard.isNone&&(match o.dst,o.op with
 | some d, .indexAddr _ z _=>KS d v&&KS d y&&(fK (F.shOf d)&&oN F z)
 | none, .store _ (.tmp tx) _=>(match F.shOf tx with | .one (.pp (.s k _ _) _ _ _)=>KS k v | _=>false)
 | _,_=>false)
def rP(n:Nat)(o:Oper):Oper:= { o with after:=((List.range n).map fun j=>⟨j, .data⟩).toArray }
def iI:List Oper→Nat→List Oper
 | [],_=> []
 | [o],n=> [rP n o]
 | o::p::r,n=>o::iI (p::r) (n+1)
section
variable (τ:TypeId→Option TI) (Sgs:FuncId→List Sg) (F:FA) (ds:List (Option Nat)) (mt:B→B→B)
def mQ(q:Nat→B→Bool)(os:List Oper):Nat→Lvl→Option Lvl
 | 0,L=>some L
 | n+1,L=>bif L.all (fun p=>q p.1 p.2)then(match Aj τ Sgs F ds mt os L []with | some L'=>mQ q os n L' | none=>none)else none
end
def EJ(A:Oper)(v y:Operand)(ob:Nat)(m:Nat)(b:B):Bool:= !(fR m A)||(cI b v&&cI b y&&b.hasO ob)

def MX(τ:TypeId→Option TI)(Sgs:FuncId→List Sg)(F:FA)(mt:B→B→B)(b:B)(ops:Array Oper):Option B:=match ops.toList.drop (ops.size - 1)with
 | [A]=>(match A.dst,A.op,A.guard with
  | none, .store _ (.tmp tv) y,none=>(match F.shOf tv with
   | .one (.ptr ob _)=>
    bif A.after.all (fun e=> !(Region.binds .any e)||Nat.blt e.on (ops.size - 1))&&((List.range (ops.size - 1)).all (fun j=>((Region.before ops).getD (ops.size - 1) 0).testBit j||(match ops[j]? with | some o=>Js F (.tmp tv) y o | none=>true))&&
     (kD F ((iI ops.toList 0).map (·.dst)) (iI ops.toList 0).toArray&&(Ei τ Sgs F (ops.toList.map (·.dst)) b ops.toList).isSome))then
     (match mQ τ Sgs F ((iI ops.toList 0).map (·.dst)) mt (EJ A (.tmp tv) y ob) (iI ops.toList 0) ops.size [(0,b)]with | some [(_,b1)]=>some b1 | _=>none)else none
   | _=>none)
  | _,_,_=>none)
 | _=>none
def anyC(τ:TypeId→Option TI)(Sgs:FuncId→List Sg)(F:FA)(mt:B→B→B)(b:B)(ops:Array Oper):Option B:=
 bif kD F (ops.toList.map (·.dst)) ops&&(Ei τ Sgs F (ops.toList.map (·.dst)) b ops.toList).isSome then
  (match Bu τ Sgs F (ops.toList.map (·.dst)) mt (PA F ops) ops.toList ops.size [(0,b)]with | some [(_,b1)]=>some b1 | _=>none)else MX τ Sgs F mt b ops

def meetK(a b:K):K:=if a.lo b then b else if b.lo a then a else if a.lo .V&&b.lo .V then .V else .D
def Ey:List K→List K→List K
 | p::ps,q::qs=>meetK p q::Ey ps qs
 | _,_=> []
def GW:List (List K)→List (List K)→List (List K)
 | p::ps,q::qs=>Ey p q::GW ps qs
 | _,_=> []
def MV(b2:List (Nat×List (List K))):List (Nat×List (List K))→List (Nat×List (List K))
 | []=> []
 | p::r=>match cG p.1 b2 with | some κ=>(p.1,GW p.2 κ)::MV b2 r | none=>MV b2 r
def MW(b2:List (Nat×List K)):List (Nat×List K)→List (Nat×List K)
 | []=> []
 | p::r=>match cG p.1 b2 with | some κ=>(p.1,Ey p.2 κ)::MW b2 r | none=>MW b2 r
def Ff(b1 b2:B):B:= { sl:=MV b2.sl b1.sl,ob:=MW b2.ob b1.ob }

def Gv:Ek→Ek→Bool
 | .n, .n=>true
 | .r, .r=>true
 | .e i, .e j=>Nat.beq i j
 | _,_=>false
theorem yD{a b:Ek}:Gv a b=true↔a=b:=by
 cases a<;>cases b<;>simp [Gv]

abbrev wL:=List (Ek×B)
def nX(e:Ek):wL→Option B
 | []=>none
 | (a,b)::r=>bif Gv e a then some b else nX e r
def yL(e:Ek):wL→wL
 | []=> []
 | (a,b)::r=>bif Gv e a then yL e r else(a,b)::yL e r

theorem nL{e a:Ek}(h:a≠e): ∀ {o:wL},nX a (yL e o)=nX a o
 | []=>rfl
 | (c,b)::r=>by
  simp only[yL]; cases h2:Gv e c with
  | true=>
   have:=yD.1 h2; subst this; simp only[z18,nX]; rw[nL h]; cases h3:Gv a e with
   | true=>exact absurd (yD.1 h3) h
   | false=>rfl
  | false=>
   simp only[z16,nX]; rw[nL h]

theorem tI(e:Ek):Gv e e=true:=yD.2 rfl
theorem Ih{a b:Ek}(h:a≠b):Gv a b=false:=by
 cases h2:Gv a b with
 | true=>exact absurd (yD.1 h2) h
 | false=>rfl

def PC(F:FA)(e:Ek)(b:B)(o:wL):Option wL:=match nX e o with
 | none=>some ((e,b)::o)
 | some b0=>bif leB (Ff b0 b) b0&&leB (Ff b0 b) b then some ((e,(Ff b0 b).nrm F)::yL e o)else none
def DM(F:FA):wL→wL→Option wL
 | [],o=>some o
 | (e,b)::r,o=>match PC F e b o with | some o'=>DM F r o' | none=>none

def Sub(F:FA)(o c:wL):Prop:= ∀e b,nX e o=some b→ ∃a,nX e c=some a∧Cv F b a
theorem Sub.refl(F:FA)(o:wL):Sub F o o:=fun _ b h=>⟨b,h,Cv.refl F b⟩
theorem Sub.trans{F:FA}{a b c:wL}(h:Sub F a b)(k:Sub F b c):Sub F a c:=fun e x f=>by
 obtain⟨y,h1,d⟩:=h e x f; obtain⟨z,g,i⟩:=k e y h1; exact⟨z,g,d.trans i⟩

theorem Iu{F:FA}{e:Ek}{b:B}{o i:wL}(h:PC F e b o=some i):Sub F o i∧ ∃j,nX e i=some j∧Cv F b j:=by
 unfold PC at h; split at h
 ·rename_i g
  cases h; refine⟨fun d b2 c=> ?_,b,by simp [nX,tI],Cv.refl F b⟩
  have a:d≠e:=fun k=>by subst k; rw[g]at c; cases c
  exact⟨b2,by simp only[nX,Ih a,z16]; exact c,Cv.refl F b2⟩
 ·rename_i l g
  obtain⟨f,h⟩:=aF h; simp only[z7]at f; cases h; refine⟨fun d b2 c=> ?_,_,by simp [nX,tI],Ah f.2⟩
  by_cases a:d=e
  ·subst a
   rw[g]at c; cases c; exact⟨_,by simp [nX,tI],Ah f.1⟩
  ·exact⟨b2,by simp only[nX,Ih a,z16]; rw[nL a]; exact c,Cv.refl F b2⟩

theorem tG{F:FA}: ∀ {l o c:wL},DM F l o=some c→Sub F o c∧Sub F l c
 | [],o,c,h=>by cases h; exact⟨Sub.refl F o,fun e b h=>by cases h⟩
 | (e,b)::r,o,c,h=>by
  unfold DM at h; split at h<;>try cases h
  rename_i p h1; obtain⟨a1,i,a2,a3⟩:=Iu h1; obtain⟨g,j⟩:=tG h; refine⟨a1.trans g,fun f b2 a=> ?_⟩
  simp only[nX]at a; cases h3:Gv f e with
  | true=>
   have:=yD.1 h3; subst this; rw[h3]at a; cases a; obtain⟨d,k,m⟩:=g _ i a2; exact⟨d,k,a3.trans m⟩
  | false=>
   rw[h3]at a; exact j f b2 a

def Jy(F:FA)(b:B):Bool:=b.sl.all fun p=>GB F b p.1
theorem Kp{F:FA}{b:B}(h:Jy F b=true)(n:Nat)(x:D):(b.nrm F).S n x=b.S n x:=by
 have e: ∀i,b.has i=true→GB F b i=true:=fun i a=>by
  simp only[B.has]at a; cases hl:cG i b.sl with
  | none=>rw[hl]at a; cases a
  | some κ=>exact z14.1 h _ (eO hl)
 have c: ∀i,(b.nrm F).has i=b.has i:=fun i=>by
  rw[rM,dL]; cases a:b.has i with
  | false=>simp
  | true=>rw[e i a]; rfl
 have d:(b.nrm F).kd=b.kd:=funext fun l=>by
  cases l with
  | s i k j=>
   by_cases a:b.has i=true
   ·rw[rM]; exact eC (e i a)
   ·rw[Ls (show(b.nrm F).hasL (.s i k j)=false by show(b.nrm F).has i=false; rw[c]; simpa using a),Ls (show b.hasL (.s i k j)=false by show b.has i=false; simpa using a)]
  | _=>rfl
 simp only[B.S,c,d]; rfl
theorem FN(F:FA)(b:B):Cv F b (b.nrm F):=fun x c=>⟨c.nrm,fun g0 w0 a w d=>d.relax ((Low.self F.n b x).le c)⟩
theorem NN{F:FA}{c b:B}(h:leB c b=true)(hn:Jy F c=true):Cv F b c:=fun x d=>by
 obtain⟨h1,f,k⟩:=Hy h; have e:Ag F c x:=⟨fun i g=>d.sl i (h1 i g),fun o ho=>d.ob o (f o ho)⟩
 obtain⟨_,q⟩:=Ah h x d; exact⟨e,fun g0 w0 a w j=>by rw[←Kp hn]; exact q g0 w0 a w j⟩

def EK(F:FA)(f:B→Option wL):Nat→B→Option wL
 | 0,_=>none
 | n+1,h=>match f h with
  | none=>none
  | some o=>match nX .n o with
   | none=>some (yL .n o)
   | some b1=>bif leB h b1&&Jy F h then some (yL .n o)else bif leB (Ff h b1) h then EK F f n ((Ff h b1).nrm F)else none

theorem CO{F:FA}{f:B→Option wL}: ∀ {n:Nat} {h:B} {b:wL},EK F f n h=some b→ ∃c o,Cv F h c∧f c=some o∧b=yL .n o∧(∀b1,nX .n o=some b1→Cv F b1 c)∧ ∀k,EK F f (k+1) c=some b
 | 0,h,b,a=>by cases a
 | n+1,h,b,a=>by
  have d:=a; unfold EK at a; cases hf:f h with
  | none=>rw[hf]at a; cases a
  | some o=>
   rw[hf]at a; simp only at a; cases hg:nX .n o with
   | none=>
    rw[hg]at a; cases a; exact⟨h,o,Cv.refl F h,hf,rfl,fun b1 e=>(by rw[hg]at e; cases e),fun k=>by unfold EK; rw[hf]; simp only[hg]⟩
   | some b1=>
    rw[hg]at a; simp only at a; cases hc:(leB h b1&&Jy F h)with
    | true=>
     rw[hc]at a; cases a; simp only[z7]at hc; refine⟨h,o,Cv.refl F h,hf,rfl,fun b2 e=>(by rw[hg]at e; cases e; exact NN hc.1 hc.2),fun k=> ?_⟩
     unfold EK; rw[hf]; simp only[hg,hc.1,hc.2,MC,z18]
    | false=>
     rw[hc]at a; simp only[z16]at a; obtain⟨g,a⟩:=aF a; obtain⟨c,i,j,l⟩:=CO a; exact⟨c,i,(Ah g).trans j,l⟩

def MY(F:FA)(id:Nat)(b:B):B:=match cG id F.keep with
 | some l=>b.filt fun i=>mem i l
 | none=>b
theorem Bx(F:FA)(id:Nat)(b:B):Cv F b ((MY F id b).nrm F):=fun x f=>by
 unfold MY; split
 ·rename_i l _
  have d:=f.filt (F:=F) (fun i=>mem i l)
  refine⟨d.nrm,fun g0 w0 a w h=>h.relax (Low.le d ⟨rfl,fun i c=>lE ?_,fun o ho=>GE (n:=F.n) ho,fun l' t e _=> ?_,fun i k xs c _=> ?_,fun i c _ g=> ?_⟩)⟩
  ·rw[dL,z7]at c; exact c.2
  ·cases l' with
   | s i k j=>
    have e:(b.filt fun i=>mem i l).has i=true:=e
    rw[dL,z7]at e; rw[eC e.1]; exact cK _
   | oc o j=>exact cK _
   | _=>cases e
  ·rw[dL,z7]at c
   rw[eC c.1]; exact cK _
  ·rw[dL,z7]at c
   rw[eC c.1]at g; exact g
 ·exact FN F b x f

def oJ(τ:TypeId→Option TI)(Sg:FuncId→List Sg)(F:FA):Code→B→Option wL
 | .skip,b=>some [(.n,b)]
 | .label _,b=>some [(.n,b)]
 | .exit i,b=>some [(.e i,b)]
 | .ret,b=>some [(.r,b)]
 | .seq x y,b=>match oJ τ Sg F x b with
  | none=>none
  | some o1=>match nX .n o1 with
   | none=>some o1
   | some b1=>match oJ τ Sg F y b1 with
    | none=>none
    | some o2=>DM F (yL .n o1) o2
 | .cond c x y,b=>bif cI b c then(match oJ τ Sg F x b,oJ τ Sg F y b with
  | some o1,some o2=>DM F o1 o2
  | _,_=>none)else none
 | .block id c,b=>match oJ τ Sg F c b with
  | none=>none
  | some o=>match nX (.e id) o with
   | none=>some o
   | some b1=>PC F .n b1 (yL (.e id) o)
 | .loop c,b=>EK F (oJ τ Sg F c) 4 b
 | .region id ops a,b=>bif ops.toList.any Ch then some []else match(match cG id F.mks with | some L=>bif a then none else mkC τ Sg F b L ops.toList | none=>bif a then anyC τ Sg F Ff b ops else KQ τ Sg F (ops.toList.map (·.dst)) b ops.toList)with
  | some b1=>some [(.n,(MY F id b1).nrm F)]
  | none=>none
 | _,_=>some []

theorem Ep{g:G}{w:World}{κ:Nat→Nat→K}{l:Nat→Nat→Loc}{v:Value}{b:Bool}(h:RV g w κ l v (.one (.c (.bool b)))):v= .bool b:=by
 have:=LF.scal (g':=g) (w':=w) (κ':= .F) (l':= .none) h.2 rfl; have this:Rd _ _ _ _:=this; cases this; rfl

theorem EO{F:FA}{b:B}{x:D}{n:Nat}{g0:G}{w0:World}{ops:Array Oper}{o:Oper}{g:G}{w:World}{a:Act}{t:Bool}(m:bH g0 w0 (b.S n x) a g w)(e:FR (ops.toList.map (·.dst)) b o.guard=true)(h:aW (ops.toList.map (·.dst)) x o.guard=some t):
  Region.wanted o (yielded ops a.tmps)=t:=by
 have _:=F; unfold Region.wanted; cases hg:o.guard with
 | none=>rw[hg]at h; simp only[aW,z8]at h; exact h
 | some p=>
  obtain⟨j,i⟩:=p; rw[hg]at h e; simp only[aW,z33,z28]at h
  simp only[FR,z33,z28]at e
  simp only[yielded]; cases ho:ops[j]? with
  | none=>rw[ho]at h; simp only[Nx,z8]at h; subst h; simp
  | some oj=>
   rw[ho]at h e; simp only[z40]at h e; simp only[z10]; cases hd:oj.dst with
   | none=>rw[hd]at h; simp only[z8]at h; subst h; simp
   | some d=>
    rw[hd]at h e; simp only at h e; simp only[z10]; have f:=m.slots d; rw[lE e]at f; split at h
    ·rename_i l k
     rw[k]at f; have c:=Ep f; simp only[z8]at h; rw[z53]at c; cases ht:a.tmps[d]? with
     | none=>rw[ht]at c; simp [undef]at c
     | some u=>
      rw[ht]at c; simp only[z72]at c; subst c; simp only; rw[←h]; cases l<;>cases i<;>rfl
    ·rename_i k
     rw[k]at f; obtain⟨vs,c,hn,_⟩:=f; simp only[z8]at h; subst h; rw[z53]at c; cases ht:a.tmps[d]? with
     | none=>simp
     | some u=>
      rw[ht]at c; simp only[z72]at c; subst c; simp
    ·cases h

def sD(z:Nat):List Oper→Bool
 | []=>true
 | o::r=> !(decide (o.dst=some z))&&sD z r
def noD(z:Nat):Code→Bool
 | .seq a b=>noD z a&&noD z b
 | .cond _ a b=>noD z a&&noD z b
 | .block _ c=>noD z c
 | .loop c=>noD z c
 | .region _ ops _=>sD z ops.toList
 | _=>true

theorem tC{a:Act}{d:Option Nat}{u:Value}{z:Nat}(h:d≠some z):(a.put d u).tmps.getD z undef=a.tmps.getD z undef:=kQ a d u z h

def KB(F:FA)(b a:B)(rs:List ResultVar)(c:Code):Bool:=match F.io with
 | none=>true
 | some z=>b.has z&&(b.kd (.s z 0 0)).hand true (a.kd (.s 1 0 0))&&(!(a.kd (.s 1 0 0)).hold||decide (vP F rs F.n0 F.io (.s z 0 0)= .s 1 0 0))&&noD z c
def libC(F:FA)(q:List (List (List K))×List (List K)×Bool)(sg:Sg):Bool:=
 F.sh.isEmpty&&decide (sg.bi.sl=MT 0 q.1)&&sg.bi.ob.isEmpty&&decide (sg.bo.sl=[(0,q.2.1)])&&sg.bo.ob.isEmpty&&Nat.beq sg.np q.1.length&&Nat.ble 1 sg.np&&decide (sg.io=none)&&decide (sg.ext=q.2.2)&&Nat.beq sg.no 0
def fnC(τ:TypeId→Option TI)(An:FuncId→FA)(Sgs:FuncId→List Sg)(f:FuncId)(sg:Sg)(fn:Func)(c:Code):Bool:=match(An f).lb with
 | some q=>libC (An f) q sg
 | none=>
 Nat.beq (An f).n fn.ntmps&&Nat.ble fn.ntmps par&&Nat.ble sg.np fn.ntmps&& !(fn.name == "runtime.NumGoroutine")&&sg.bi.sl.all (fun p=>Nat.blt p.1 sg.np)&&sg.bi.ob.all (fun p=>Nat.ble par p.1&&Nat.blt p.1 (par+sg.no))&&
 decide (sg.io=(An f).io)&&sg.bo.sl.all (fun p=>Nat.beq p.1 0||(Nat.beq p.1 1&&(An f).io.isSome))&&sg.bo.ob.all (fun p=>Nat.beq p.1 0||sg.bi.hasO p.1)&&
 (match oJ τ Sgs (An f) c sg.bi with
  | none=>false
  | some outs=>(match nX .n outs with | none=>true | some b=>uR (An f) b sg.bo (vP (An f) fn.results.toList (An f).n0 (An f).io) 0 fn.results.toList&&Hc (An f) b sg.bo (An f).n0&&KB (An f) b sg.bo fn.results.toList c)&&
   (match nX .r outs with | none=>true | some b=>uR (An f) b sg.bo (vP (An f) fn.results.toList (An f).n0 (An f).io) 0 fn.results.toList&&Hc (An f) b sg.bo (An f).n0&&KB (An f) b sg.bo fn.results.toList c))

def Mot(P:Program)(τ:TypeId→Option TI)(Sgs:FuncId→List Sg):Jd→Prop
 | .code F c x e x'=> ∀b d,oJ τ Sgs F c b=some d→Ag F b x→ ∃(h:B) (k:Nat),nX e d=some h∧Ag F h x'∧ ∀g0 w0 (Q:Exit→Act→World→Prop) a w,Sim g0 w0 (b.S F.n x) a w→
   (∀g w',Sim g0 w0 (h.S F.n x') g w'→(∀z,noD z c=true→g.tmps.getD z undef=a.tmps.getD z undef)→Q e.exit g w')→c.wp P Q a w∧ ∀c',c= .loop c'→Code.rounds P c' Q k a w
 | .ops F j os x x'=> ∀(ops:Array Oper) i,ops.toList.drop i=os→j=ops.toList.map (·.dst)→ ∀b h,KQ τ Sgs F j b os=some h→Ag F b x→Ag F h x'∧(∀g0 w0 (Q:Exit→Act→World→Prop) a w,Sim g0 w0 (b.S F.n x) a w→
   (∀g w',Sim g0 w0 (h.S F.n x') g w'→(∀z,sD z os=true→g.tmps.getD z undef=a.tmps.getD z undef)→Q .normal g w')→wpOps P ops Q (List.range' i os.length) a w)∧ ∀b2,Ei τ Sgs F j b os=some b2→AE P τ Sgs F j ops (List.range' i os.length) x x'
 | .fn f vs ob r io l nw=> ∀sg∈Sgs f,sg.np=vs.length→sg.no=ob.length→TC P f sg vs ob r io l nw

theorem xV{P:Program}{ops:Array Oper}{o:Oper}{i:Nat}{Q:Exit→Act→World→Prop}{K:Act→World→Prop}{a:Act}{w:World}(b:ops[i]? =some o)(t:Bool)(c:Region.wanted o (yielded ops a.tmps)=t)(h:if t then o.wp P a w K Q else K (a.put o.dst undef) w):wpOp P ops Q i K a w:=by
 unfold Go.wpOp; simp only[b]; rw[c]; cases t with
 | true=>exact .inl h
 | false=>exact h

theorem CF{τ:TypeId→Option TI}{Sgs:FuncId→List Sg}{F:FA}{d:List (Option Nat)}{b c:B}{o:Oper}(h:oH τ Sgs F d b o=some c): ∃b1,KN τ Sgs F b o=some b1∧c=(b1.frz F (fzL F b1 o.dst)).nrm F∧FR d b o.guard=true∧(o.guard≠none→Bl F b (b1.frz F (fzL F b1 o.dst)) o.dst=true):=by
 unfold oH at h; split at h<;>try cases h
 rename_i b1 h1; obtain⟨a,h⟩:=aF h; cases h; simp only[z7]at a; refine⟨b1,h1,rfl,a.1,fun f=> ?_⟩
 have:=a.2; split at this
 ·rename_i e; exact absurd e f
 ·exact this
theorem LS{P:Program}{τ:TypeId→Option TI}{An:FuncId→FA}{J:Jd}(h:Big P τ An J):match J with | .ops _ _ os _ _=>os.any Ch=false | _=>True:=by
 induction h with
 | opsNil F ds x=>rfl
 | @opsSkip F ds o r x x2 hg h2 ih2=>
  simp only[Nv,z57]; refine⟨?_,ih2⟩
  unfold Ch; split
  ·rename_i e1 e2
   rw[e2]at hg; cases hg
  ·rfl
 | @opsRun F ds o r x x1 x2 hg h1 h2 ih2=>
  simp only[Nv,z57]; refine⟨?_,ih2⟩
  unfold Ch; split
  ·rename_i e1 e2
   split
   ·rename_i v e3
    unfold dOp at h1; rw[e1]at h1; simp only[e3]at h1; cases h1
   ·rfl
  ·rfl
 | @opsCall F ds o rs x x2 c v f caps ob ob' r nw hg ho hcal hni hx hth hob h1 hsh h2 ih1 ih2=>
  simp only[Nv,z57]; refine⟨?_,ih2⟩
  unfold Ch; rw[ho]; split<;>rfl
 | @opsIo F ds o rs x x2 c v f r t xs l p x0 es es' hg ho hcal hio hx hth hargs hal hat hnav h1 hsh h2 ih1 ih2=>
  simp only[Nv,z57]; refine⟨?_,ih2⟩
  unfold Ch; rw[ho]; split<;>rfl
 | _=>trivial
theorem Nf{P:Program}{τ:TypeId→Option TI}{An:FuncId→FA}{F:FA}{a:List (Option Nat)}{os:List Oper}{x x':D}(h:Big P τ An (.ops F a os x x')):os.any Ch=false:=LS h
theorem Ia{F:FA}{q:List (List (List K))×List (List K)×Bool}{sg:Sg}(h:libC F q sg=true):sg=Fi q∧F.sh=[]∧1≤sg.np:=by
 unfold libC at h; simp only[z7,List.isEmpty_iff,z22]at h; obtain⟨⟨⟨⟨⟨⟨⟨⟨⟨h1,c⟩,d⟩,e⟩,f⟩,b⟩,g⟩,i⟩,j⟩,a⟩:=h; obtain⟨⟨k,l⟩,⟨m,o⟩,p,r,s,t⟩:=sg; simp only at c d e f b g i j a; have b:=z12 b; have a:=z12 a; subst c d e f b i j a; exact⟨rfl,h1,z32 g⟩
set_option linter.unusedVariables false

theorem Hs{P:Program}{o:Oper}{a:Act}{w w':World}{v:Value}{K:Act→World→Prop}{Q:Exit→Act→World→Prop}(h:(execOp a.eval o).run P w= .ok (.value v) w')(b:K (a.put o.dst v) w'):o.wp P a w K Q:=by
 unfold Oper.wp; rw[h]; exact b
theorem KW{P:Program}{o:Oper}{a:Act}{w:World}{c:Call}{g:FuncId}{K:Act→World→Prop}{Q:Exit→Act→World→Prop}(ho:o.op= .call c)(hc:c.callee= .value (.func g))(h:nA P ((callFunc g (c.args.map a.eval)).run P w) (fun u w'=>K (a.put o.dst u) w')):o.wp P a w K Q:=by
 have hrun:(execOp a.eval o).run P w=(callFunc g (c.args.map a.eval)).run P w:=by
  obtain⟨dst,op,ty,pos,after,guard⟩:=o; simp only at ho; subst ho; have hfv:a.eval (.func g)= .func (.func g) #[] #[]:=rfl; simp only[execOp,resolve,hc,hfv,Deferred.ofValue,Sem.run_bind,Sem.run_pure,Result.andThen_ok,invoke]; congr 2
  apply Hl
  simp
 unfold Oper.wp; rw[hrun]; revert h
 generalize (callFunc g _).run P w=r; intro hC; unfold nA at hC; split at hC
 ·exact hC
 ·rw[Oper.upon_enter]
  refine Calls.mono hC ?_
  rintro e w' ⟨v,rfl,h⟩
  exact h
 ·exact hC.elim
theorem Kj{P:Program}{ρ:Operand→Value}{o:Oper}{x:Operand}{w:World}(ho:o.op= .move x):(execOp ρ o).run P w= .ok (.value (ρ x)) w:=by
 obtain⟨c,op,e,d,a,b⟩:=o; simp only at ho; subst ho; rfl
theorem HE{P:Program}{ρ:Operand→Value}{o:Oper}{x:Operand}{w:World}(ho:o.op= .assign x):(execOp ρ o).run P w= .ok (.value (ρ x)) w:=by
 obtain⟨c,op,e,d,a,b⟩:=o; simp only at ho; subst ho; rfl
theorem qA{P:Program}{ops:Array Oper}{o:Oper}{i:Nat}{Q:Exit→Act→World→Prop}{K:Act→World→Prop}{a:Act}{w:World}(c:ops[i]? =some o)(b:o.guard=none)(h:o.wp P a w K Q):wpOp P ops Q i K a w:=
 xV c true (by unfold Region.wanted; rw[b]) h

section
variable {P:Program} {τ:TypeId→Option TI}
end
section
variable {P:Program} {τ:TypeId→Option TI}
end
set_option linter.unusedVariables false

def TCm(P:Program)(m:MR):Prop:= ∃sg:Sg,TC P m.g sg [.one (.c (.sl m.es)), .one (.c (.int .i64 m.k))] [] (.one (.c (.int .i64 m.k1))) (some (.sl m.es')) [] none∧sg.io=some 0∧sg.np=2∧sg.bi=biM∧sg.bo.has 0=true∧sg.bo.has 1=true∧sg.bo.kd (.s 1 0 0)= .U 0
def turnM(o a:Nat):List MR→St→St
 | [],st=>st
 | m::r,st=>turnM o a r (st.turn (.oc o (a+m.off)) (.U 0) (.sl m.es'))

theorem Mj{st:St}{o j:Nat}{κ:K}{z:T}(a:Nat):(st.turn (.oc o j) κ z).ob a=if a=o then(st.ob a).map (·.set j z)else st.ob a:=rfl
theorem Mk{st:St}{o j:Nat}{κ:K}{z:T}(b a:Nat):(st.turn (.oc o j) κ z).fl (.oc b a)=if Loc.oc b a= .oc o j then κ else if st.fl (.oc b a)= .V then .D else st.fl (.oc b a):=by
 show(if Loc.oc b a= .oc o j then κ else _)=_
 by_cases e:Loc.oc b a= .oc o j
 ·rw[z17 e,z17 e]
 ·rw[z11 e,z11 e]
  show(if isL (.oc o j) (.oc b a)=true then K.D else st.killV.fl (.oc b a))=_
  rw[z11 (by simpa [isL]using e)]
  rfl

theorem IQ{P:Program}{g0:G}{w0:World}{a:Act}{o q:Nat}{cs:List Value}{f:List T}{N:Int}{Q:Value→World→Prop}: ∀(rs:List MR) {st:St} {g:G} {w:World} {s:Nat→Prop} {cells:List T} {k:Int},bH g0 w0 st a g w→st.ob o=some cells→(∀m∈rs,TCm P m)→(∀m∈rs, ∃n,st.fl (.oc o (q+m.off))= .U n)→
  Al q rs cells k f N→(∀b,s b→b<w.heap.size∧g.own b= .none)→(∀m∈rs,cs[m.off]? =w.cell? ⟨g.β o,q+m.off,none⟩)→(∀z L D,bH g0 w0 (turnM o q rs st) a D z→D.β=g.β→MO z L→Q (.int .i64 N) L)→
  Eo P (rs.map fun m=>(m.off,m.g)) cs k w s Q
 | [],st,g,w,s,cells,k,p,i,E,J,d,M,l,H=>fun z F=>by
  obtain⟨rfl,rfl⟩:=d; exact H w z g p rfl F
 | m::r,st,g,w,s,cells,k,p,i,E,J,d,M,l,H=>fun z C F h2 h3 A=>by
  obtain⟨I,rfl,d⟩:=d; obtain⟨sg,V,W,X,Y,Z,c6,c7⟩:=E m z25; obtain⟨n,hn⟩:=J m z25; have t:st.at (.oc o (q+m.off))=some (.sl m.es):=by rw[St.at_oc,i]; exact I
  obtain⟨R,v,_,_⟩:=p.get t; have j:cs[m.off]? =some R:=(l m z25).trans v; refine⟨R,j,(NU p F V W X Y Z c6 c7 rfl hn t v).mono fun u L ⟨e,D,q1,O,q3,B⟩=> ?_⟩
  have h: ∀b,C b→g.own b= .none:=fun b c=>by
   by_cases e:s b
   ·exact(M b e).2
   ·have hge:=h3 b c e
    cases hg:g.own b with
    | none=>rfl
    | _=>
     exfalso
     have:=p.ok.own b (by rw[hg]; simp)
     omega
  obtain⟨S,ty,r1,r2,r3,_⟩:=p.obs o cells i; refine⟨m.k1,e,fun b c=>⟨(B b (A b c) (h b c)).1,(B b (A b c) (h b c)).2.1⟩, ?_⟩
  refine IQ r q1 (cells:=cells.set (q+m.off) (.sl m.es')) (by rw[Mj,z17 rfl,i]; rfl) (fun x y=>E x (z24 _ y)) (fun x y=> ?_) d (fun b c=>⟨(B b (A b c) (h b c)).1,(B b (A b c) (h b c)).2.2⟩) (fun x y=> ?_) (fun w3 w4 gc h5 h6 h7=>H w3 w4 gc h5 (h6.trans O) h7)
  ·obtain⟨n',K⟩:=J x (z24 _ y)
   rw[Mk]; split
   ·exact⟨0,rfl⟩
   ·rw[K]; exact⟨n',by simp⟩
  ·rw[l x (z24 _ y),O]
   exact(bS (q3 o _ r3)).symm
set_option linter.unusedVariables false

theorem MO.calm{g:G}{w d:World}(c:GOk g w)(h:MO w d)(st:St):sY g w g d (fun _=>False) st:=
 ⟨⟨h.size,fun b a _=>⟨rfl,h.keep b a⟩⟩,fun _ h=>h.elim, .inl fun b a=>⟨⟨z54 a.1 h.size,a.2⟩,h.keep b a.1⟩,h.os,h.tape,h.output,⟨fun b a=>z54 (c.own b a) h.size⟩⟩

def kS(_ _:Nat):K:= .S
theorem MS(g:G)(w:World)(l:Nat→Nat→Loc)(k:Int):RV g w kS l (.int .i64 k) (vI k):=⟨⟨by simp,by simp⟩,rfl, .int .i64 k⟩
theorem vI_ev{g:G}{w:World}{κ:Nat→Nat→K}{l:Nat→Nat→Loc}{v:Value}{k:Int}(h:RV g w κ l v (vI k)):v= .int .i64 k:=by
 have:=LF.scal (g':=g) (w':=w) (κ':= .F) (l':= .none) h.2 rfl; have this:Rd _ _ _ _:=this; cases this; rfl

def St.mkSt(st:St)(o b t d r c:Nat)(rs:List MR)(k a:Int):St:=
 ((turnM o b rs ((st.put t (.one .junk) (fun _ _=> .D)).put d (vI k) kS)).put r (vI a) kS).put c (vI a) kS

theorem Bn{o a:Nat}: ∀ {rs:List MR} {st:St},(turnM o a rs st).n=st.n
 | [],st=>rfl
 | m::r,st=>by simp only[turnM]; rw[Bn]; rfl

theorem Ks{P:Program}{τ:TypeId→Option TI}(hT:aR P τ){g0:G}{w0:World}{st:St}{S:TypeId}{i:TI}{f:FuncId}{c:Call}{o q F tk t e r l id:Nat}{cells s:List T}{k b:Int}{rs:List MR}{a:Act}{w:World}{Q:Exit→Act→World→Prop}
  {t1 t2 t3 t4:TypeId}{p1 p2 p3 p4:String}{f1 f2 f3 f4:Array Edge}(A:Sim g0 w0 st a w)(hi:τ S=some i)(h1:i.agg=false→i.size=1)(hM:Mf P f i.agg i.size (rs.map fun m=>(m.off,m.g)))(hle:q+i.size≤cells.length)
  (Z:c.callee= .value (.func f))(hc2:c.args= #[.tmp t, .tmp e])(hd:(Nat.blt t e&&Nat.blt e r&&Nat.blt r st.n&&Nat.blt l st.n&& !(Nat.beq tk t)&& !(Nat.beq F t))=true)
  (htp:st.sl F= .one (.ptr o q))(htk:st.sl tk=vI k)(L:st.ob o=some cells)(hC: ∀m∈rs,TCm P m)(hk: ∀m∈rs, ∃n,st.fl (.oc o (q+m.off))= .U n)(hch:Al q rs cells k s b)
  (hQ: ∀W w',Sim g0 w0 (st.mkSt o q t e r l rs k b) W w'→(∀z,z≠t→z≠e→z≠r→z≠l→W.tmps.getD z undef=a.tmps.getD z undef)→Q .normal W w'):
  (Code.region id #[⟨some t, .load S (.tmp F),t1,p1,f1,none⟩,⟨some e, .move (.tmp tk),t2,p2,f2,none⟩,⟨some r, .call c,t3,p3,f3,none⟩,⟨some l, .assign (.tmp r),t4,p4,f4,none⟩] false).wp P Q a w:=by
 obtain⟨g,A⟩:=A; simp only[z7,z37]at hd; obtain⟨⟨⟨⟨⟨e1,e2⟩,e3⟩,e4⟩,O⟩,e6⟩:=hd; have e1:=bY e1; have e2:=bY e2; have e3:=bY e3; have e4:=bY e4; have O:tk≠t:=fun h=>by rw[h,z44]at O; cases O
 have hst1:(st.put t (.one .junk) (fun _ _=> .D)).n=st.n:=rfl
 obtain⟨I,ty,r1,r2,r3,_⟩:=A.obs o cells L; obtain⟨u,hu,hv⟩:=Kv hT hi (p:=q) r1 (by rw[r2]; exact hle) h1
 have N:a.tmps.getD F undef= .pointer (some ⟨g.β o,q,none⟩):=by
  have:=A.slots F; rw[htp]at this; exact this
 have hkv:a.tmps.getD tk undef= .int .i64 k:=by
  have:=A.slots tk; rw[htk]at this; exact vI_ev this
 refine wp_region ?_
 show wpOps P _ Q [0,1,2,3] a w; rw[wpOps_cons]; refine qA rfl rfl (Hs (v:=u) (mM (ρ:=a.eval) (x:= .tmp F) rfl N hu) ?_)
 show wpOps P _ Q [1,2,3] (a.put (some t) u) w; have R: ∀j,(a.put (some t) u).tmps.getD j undef=if j=t then u else a.tmps.getD j undef:=fun j=>Act.put_getD a t _ j (by rw[A.size]; omega)
 have B:=A.set (d:=t) (u:=u) (r:= .one .junk) (κ:=fun _ _=> .D) (by omega) trivial (fun h=>absurd rfl h)
 generalize a.put (some t) u=a1 at R B; rw[wpOps_cons]
 refine qA rfl rfl (Hs (v:= .int .i64 k) (by
  rw[Kj (x:= .tmp tk) rfl]; show Result.ok (Next.value (a1.tmps.getD tk undef)) w=_; rw[R,z11 O,hkv]) ?_)
 show wpOps P _ Q [2,3] (a1.put (some e) (.int .i64 k)) w; have V: ∀j,(a1.put (some e) (.int .i64 k)).tmps.getD j undef=if j=e then .int .i64 k else a1.tmps.getD j undef:=fun j=>Act.put_getD a1 e _ j (by rw[B.size]; show e<st.n; omega)
 have C:=B.set (d:=e) (u:= .int .i64 k) (r:=vI k) (κ:=kS) (by show e<st.n; omega) (MS g w _ k) (fun h=>absurd rfl h)
 generalize a1.put (some e) (.int .i64 k)=a2 at V C; rw[wpOps_cons]; refine qA rfl rfl (KW (c:=c) rfl Z ?_)
 have y:c.args.map a2.eval= #[u, .int .i64 k]:=by
  have q1:a2.eval (.tmp t)=u:=by
   show a2.tmps.getD t undef=_; rw[V,z11 (by omega),R,z17 rfl]
  have q2:a2.eval (.tmp e)= .int .i64 k:=by
   show a2.tmps.getD e undef=_; rw[V,z17 rfl]
  rw[hc2]; simp [q1,q2]
 rw[y]; have J:((I.toList.drop q).take i.size).length=i.size:=by simp; omega
 have M: ∀m∈rs,m.off<i.size:=fun m K=>hM.1 (m.off,m.g) (z47.2 ⟨m,K,rfl⟩)
 refine hM.2 u _ k w (fun _=>False) _ hv J (fun _ h=>h.elim) (IQ rs (cells:=cells) C L hC (fun m K=> ?_) hch (fun _ h=>h.elim) (fun m K=> ?_) (fun w1 H Y h5 h6 hE=> ?_))
 ·obtain⟨n,hn⟩:=hk m K
  exact⟨n,hn⟩
 ·rw[z75,z17 (M m K),z49,bT w _ _ I ty _ r1]; simp
 ·show wpOps P _ Q [3] (a2.put (some r) (.int .i64 b)) H
  have X: ∀j,(a2.put (some r) (.int .i64 b)).tmps.getD j undef=if j=r then .int .i64 b else a2.tmps.getD j undef:=fun j=>Act.put_getD a2 r _ j (by rw[C.size]; show r<st.n; omega)
  have E:=h5.put (hE.calm h5.ok _) (fun _=>rfl) (d:=r) (by rw[Bn]; show r<st.n; omega) (fun _ _ _ _ h=>h) (u:= .int .i64 b) (r:=vI b) (κ:=kS) (MS Y H _ b) (fun h=>absurd rfl h)
  generalize a2.put (some r) (.int .i64 b)=a3 at X E; rw[wpOps_cons]
  refine qA rfl rfl (Hs (v:= .int .i64 b) (by
   rw[HE (x:= .tmp r) rfl]; show Result.ok (Next.value (a3.tmps.getD r undef)) H=_; rw[X,z17 rfl]) ?_)
  have g4: ∀j,(a3.put (some l) (.int .i64 b)).tmps.getD j undef=if j=l then .int .i64 b else a3.tmps.getD j undef:=fun j=>Act.put_getD a3 l _ j (by
   rw[E.size]; show l<(turnM o q rs _).n; rw[Bn]; show l<st.n; omega)
  have hs4:=E.set (d:=l) (u:= .int .i64 b) (r:=vI b) (κ:=kS) (by
   show l<(turnM o q rs _).n; rw[Bn]; show l<st.n; omega) (MS Y H _ b) (fun h=>absurd rfl h)
  show Q .normal (a3.put (some l) (.int .i64 b)) H; refine hQ _ H ⟨Y,hs4⟩ (fun z z1 z2 z3 z4=> ?_)
  rw[g4,z11 z4,X,z11 z3,V,z11 z2,R,z11 z1]
set_option linter.unusedVariables false

theorem sA{F:FA}{n:Nat}{b:B}{x:D}{s:St}(A:Ag F b x)(h:Low n b x s){d:Nat}{r:V}{κ:Nat→Nat→K}:Low n (b.filt (mX F d)) x (s.put d r κ):=by
 have a: ∀i,(b.filt (mX F d)).has i=true→b.has i=true∧i≠d∧aL d (aE (F.shOf i))=false:=fun i c=>by
  rw[dL,z7]at c; have h1:=c.1; simp only[mX,z7,z37]at h1; exact⟨c.2,(fun e=>by rw[e,z44]at h1; cases h1.1),h1.2⟩
 have m: ∀i,(b.filt (mX F d)).has i=true→aL d (aE (s.sl i))=false:=fun i c=>by
  obtain⟨h1,_,z⟩:=a i c; rw[h.sl i h1]; rcases A.sl i h1 with q | q
  ·rw[q]; rfl
  ·rw[dD q]; exact z
 have g: ∀i k j,(b.filt (mX F d)).has i=true→(b.filt (mX F d)).kd (.s i k j)=b.kd (.s i k j):=fun i k j c=>eC (by rw[dL,z7]at c; exact c.1)
 have f: ∀i k j,(b.filt (mX F d)).has i=true→(s.put d r κ).fl (.s i k j)=s.fl (.s i k j):=fun i k j c=>by
  simp only[St.put,z11 (a i c).2.1]; rw[z11]; rintro ⟨_,_,v⟩
  rw[m i c]at v; cases v
 refine⟨h.n,fun i c=> ?_,fun o ho=>h.ob o ho,fun l t p y=> ?_,fun i k xs c C=> ?_,fun i c u w=> ?_⟩
 ·simp only[St.put,z11 (a i c).2.1]; exact h.sl i (a i c).1
 ·cases l with
  | s i k j=>rw[f i k j p,g i k j p]; exact h.fl (.s i k j) t (a i p).1 y
  | oc o j=>exact h.fl (.oc o j) t p y
  | _=>cases p
 ·rw[f i k 0 c,g i k 0 c]; exact h.cp i k xs (a i c).1 C
 ·rw[f i 0 0 c]
  rw[g i 0 0 c]at w; exact h.al i (a i c).1 u w

theorem Ix{F:FA}{b:B}{l:Loc}{o:Nat}:(b.turn F l).hasO o=b.hasO o:=by
 unfold B.turn B.killV; rw[eD,tH,eD,eD]
theorem Ng(a es':List (List T))(u:T):nY (.sl a) u=nY (.sl es') u:=by cases u<;>rfl
theorem Ka{F:FA}{n:Nat}{b:B}{x:D}{s:St}(y:Ag F b x)(h:Low n b x s){o j:Nat}{w es':List (List T)}(G: ∀i,b.has i=true→s.fl (.s i 0 0)= .V→b.kd (.s i 0 0)= .V)(E:b.hasO o=true)(t:x.at (.oc o j)=some (.sl w)):
  Ag F (b.turn F (.oc o j)) (x.upd (.oc o j) (.sl es'))∧Low n (b.turn F (.oc o j)) (x.upd (.oc o j) (.sl es')) (s.turn (.oc o j) (.U 0) (.sl es')):=by
 have v:isL (.oc o j) .none=false:=rfl; have g:Ag F (b.killV F) x:=y.setf _ _; have h1:Low n (b.killV F) x s.killV:=gR y h rfl (fun l _ a=>by
  by_cases e:b.kd l= .V
  ·rw[z17 e]; exact DX _
  ·rw[z11 e]
   by_cases d:s.fl l= .V
   ·rw[d]at a
    have:b.kd l= .D:=by
     revert a e
     cases b.kd l<;>simp [K.lo]
    rw[this]; exact DX _
   ·rw[z11 d]; exact a) (fun i H a c=>by
   by_cases e:b.kd (.s i 0 0)= .V
   ·rw[z17 e]at c; exact absurd rfl c
   ·rw[z11 e]at c
    have:=a c; by_cases d:s.fl (.s i 0 0)= .V
    ·exact absurd (G i H d) e
    ·rw[z11 d]; exact this)
 have k:Ag F ((b.killV F).setf F (isL (.oc o j)) (fun m q=>if isL (.oc o j) m=true then .D else q)) x:=g.setf _ _
 have A:Low n ((b.killV F).setf F (isL (.oc o j)) (fun m q=>if isL (.oc o j) m=true then .D else q)) x (s.killV.drop (isL (.oc o j))):=gR g h1 v (fun m _ a=>by
   by_cases e:isL (.oc o j) m=true
   ·rw[z17 e,z17 e]; exact cK _
   ·rw[z11 e,z11 e]; exact a) (fun i _ a c=>by
   by_cases e:isL (.oc o j) (.s i 0 0)=true
   ·rw[z17 e]at c; exact absurd rfl c
   ·rw[z11 e]at c ⊢; exact a c)
 have r:((b.killV F).setf F (isL (.oc o j)) (fun m q=>if isL (.oc o j) m=true then .D else q)).hasL (.oc o j)=true:=by
  show B.hasO _ o=true; unfold B.killV; rw[eD,eD]; exact E
 have C:=Bk (z:= .sl es') k A r t (by simp)
 have p:=(k.upd (z:= .sl es') r t (fun u=>Ng w es' u)).filt (dS F (.oc o j))
 refine⟨p.setf _ _,gR (R:=isL (.oc o j)) (f:=fun m=>if m= .oc o j then .U 0 else((s.killV.drop (isL (.oc o j))).upd (.oc o j) (.sl es')).fl m) p C v (fun m _ a=> ?_) (fun i _ a c=> ?_)⟩
 ·by_cases e:m= .oc o j
  ·rw[z17 e,z17 e]; exact cK _
  ·rw[z11 e,z11 e]; exact a
 ·rw[z11 (by simp)]at c ⊢; exact a c
theorem KZ{st:St}{l:Loc}{κ:K}{z:T}(a:κ≠ .V)(m:Loc):(st.turn l κ z).fl m≠ .V:=by
 unfold St.turn St.raise; refine mK (fun m=> ?_) m
 split
 ·exact a
 ·show((st.killV.drop (isL l)).upd l z).fl m≠ .V
  have h0: ∀m,(st.killV.drop (isL l)).fl m≠ .V:=fun m=>by
   refine mK (fun m=> ?_) m
   split
   ·simp
   ·exact nK st m
  cases m with
  | s i k j=>
   simp only[St.upd]; split
   ·simp
   ·exact h0 _
  | none=>exact h0 .none
  | ext=>exact h0 .ext
  | obj o=>exact h0 (.obj o)
  | oc o j=>exact h0 (.oc o j)
theorem Dd{F:FA}{n o c:Nat}{a:List T}{t:Int}: ∀(rs:List MR) {b:B} {x:D} {s:St} {cells:List T} {k:Int},Ag F b x→Low n b x s→(∀i,b.has i=true→s.fl (.s i 0 0)= .V→b.kd (.s i 0 0)= .V)→b.hasO o=true→x.ob o=some cells→Al c rs cells k a t→
  Ag F (B.turnM F o c (rs.map (·.off)) b) (D.updM o c rs x)∧Low n (B.turnM F o c (rs.map (·.off)) b) (D.updM o c rs x) (turnM o c rs s)
 | [],b,x,s,cells,k,f,h,_,_,_,_=>⟨f,h⟩
 | m::r,b,x,s,cells,k,f,h,q,l,d,j=>by
  obtain⟨h1,rfl,p⟩:=j; have g:x.at (.oc o (c+m.off))=some (.sl m.es):=by
   show(x.ob o).bind (·[c+m.off]?)=_
   rw[d]; exact h1
  obtain⟨u,v⟩:=Ka (es':=m.es') f h q l g; refine Dd r u v (fun i _ e=>absurd e (KZ (by simp) _)) (by rw[Ix]; exact l) ?_ p
  show oI x.ob (.oc o (c+m.off)) (.sl m.es') o=_; simp only[oI,if_true,d]; rfl
set_option linter.unusedVariables false

theorem NZ(k:Int)(s:V):Own.fits (vI k) s=Own.fits (vI 0) s:=by
 cases s with
 | tup a=>rfl
 | one w=>cases w<;>first | rfl | (rename_i y; cases y<;>rfl)

theorem NF{P:Program}{τ:TypeId→Option TI}{Sgs:FuncId→List Sg}(hT:aR P τ){F:FA}{b b':B}{x:D}(hA:Ag F b x){S:TypeId}{i:TI}{f:FuncId}{c:Call}{o H tp tk t j r q r2 id:Nat}{cells l:List T}{k v:Int}{rs:List MR}
  {t1 t2 t3 t4:TypeId}{p1 p2 p3 p4:String}{f1 f2 f3 f4:Array Edge}(Z:τ S=some i)(h1:i.agg=false→i.size=1)(hM:Mf P f i.agg i.size (rs.map fun m=>(m.off,m.g)))(hle:H+i.size≤cells.length)
  (hc1:c.callee= .value (.func f))(hc2:c.args= #[.tmp t, .tmp j])(hr2:r2=r)(u:x.sl tp= .one (.ptr o H))(htk:x.sl tk=vI k)(X:x.ob o=some cells)
  (hC: ∀m∈rs, ∀sg∈Sgs m.g,sg.np=2→sg.no=0→TC P m.g sg [.one (.c (.sl m.es)), .one (.c (.int .i64 m.k))] [] (.one (.c (.int .i64 m.k1))) (some (.sl m.es')) [] none)(R:Al H rs cells k l v)
  (C:mkC τ Sgs F b (rs.map fun m=>(m.off,m.g)) [⟨some t, .load S (.tmp tp),t1,p1,f1,none⟩,⟨some j, .move (.tmp tk),t2,p2,f2,none⟩,⟨some r, .call c,t3,p3,f3,none⟩,⟨some q, .assign (.tmp r2),t4,p4,f4,none⟩]=some b'):
  Ag F b' ((D.updM o H rs x).put q (vI v))∧ ∀g0 w0 (Q:Exit→Act→World→Prop) a w,Sim g0 w0 (b.S F.n x) a w→(∀I w',Sim g0 w0 (b'.S F.n ((D.updM o H rs x).put q (vI v))) I w'→(∀z,z≠t→z≠j→z≠r→z≠q→I.tmps.getD z undef=a.tmps.getD z undef)→Q .normal I w')→
   (Code.region id #[⟨some t, .load S (.tmp tp),t1,p1,f1,none⟩,⟨some j, .move (.tmp tk),t2,p2,f2,none⟩,⟨some r, .call c,t3,p3,f3,none⟩,⟨some q, .assign (.tmp r2),t4,p4,f4,none⟩] false).wp P Q a w:=by
 subst hr2; simp only[mkC]at C; split at C<;>try cases C
 rename_i o' y hsh; obtain⟨hq,C⟩:=aF C; simp only[z7]at hq; obtain⟨⟨⟨⟨⟨c1,c2⟩,c3⟩,c4⟩,c5⟩,c6⟩:=hq; have hop:o'=o∧y=H:=by
  have Y:=hA.fits c1 (by rw[u]; simp)
  rw[u,hsh]at Y; simp only[Own.fits,bK,z7]at Y; exact⟨(z12 Y.1).symm,(z12 Y.2).symm⟩
 obtain⟨rfl,rfl⟩:=hop; cases C; have O: ∀m∈rs,(∃n,b.kd (.oc o' (y+m.off))= .U n)∧ ∃sg∈Sgs m.g,okSg sg=true:=fun m E=>by
  have:=z14.1 c4 (m.off,m.g) (z47.2 ⟨m,E,rfl⟩); simp only[z7]at this; refine⟨?_,z153.1 this.2⟩
  revert this
  cases b.kd (.oc o' (y+m.off))<;>simp [isU]
 have hTC: ∀m∈rs,TCm P m:=fun m E=>by
  obtain⟨sg,J,A⟩:=(O m E).2; simp only[okSg,z7]at A; obtain⟨⟨⟨⟨⟨⟨q1,q2⟩,q3⟩,q4⟩,q5⟩,q6⟩,q7⟩:=A; exact⟨sg,hC m E sg J (z12 q2) (z12 q3),of_decide_eq_true q1,z12 q2,NB q4,q5,q6,of_decide_eq_true q7⟩
 have hl0:=Low.self F.n b x; have hl1:=sA (d:=t) (r:= .one .junk) (κ:=fun _ _=> .D) hA hl0
 have K:=hA.filt (mX F t); have hl2:=sA (d:=j) (r:=vI k) (κ:=kS) K hl1; have hA2:=K.filt (mX F j); have hV: ∀i,((b.filt (mX F t)).filt (mX F j)).has i=true→(((b.S F.n x).put t (.one .junk) (fun _ _=> .D)).put j (vI k) kS).fl (.s i 0 0)= .V→((b.filt (mX F t)).filt (mX F j)).kd (.s i 0 0)= .V:=fun i Z G=>by
  rw[dL,dL,z7,z7]at Z; obtain⟨J,A,h4⟩:=Z; rw[eC J,eC A]; have e1:i≠j:=fun e=>by rw[e]at J; simp [mX,z44]at J
  have e2:i≠t:=fun e=>by rw[e]at A; simp [mX,z44]at A
  simp only[St.put,z11 e1,z11 e2]at G; split at G
  ·cases G
  ·split at G
   ·cases G
   ·exact G
 obtain⟨L,hl3⟩:=Dd rs hA2 hl2 hV c2 X R; have hl4:=sA (d:=r2) (r:=vI v) (κ:=kS) L hl3; have M:=L.filt (mX F r2); have p:Own.fits (vI v) (F.shOf q)=true:=by rw[NZ]; exact c6
 have hl5:=Bq (d:=q) (r:=vI v) (κ:=kS) (f:=fun _ _=> .S) M hl4 (.inr p) (fun _ _ _ _=>rfl) (fun kk xs h=>by cases kk<;>simp [vI,V.comp]at h) (fun h=>absurd rfl h)
 have N:=M.put (d:=q) (r:=vI v) (f:=fun _ _=> .S) (.inr p)
 have W:(rs.map fun m=>(m.off,m.g)).map (·.1)=rs.map (·.off):=by rw[Nu]; rfl
 rw[W]; refine⟨N.nrm,fun g0 w0 Q a w hs hQ=> ?_⟩
 exact Ks hT hs Z h1 hM hle hc1 hc2 (by simp only[z7]; exact c5) (by rw[lE c1]; exact u) (by rw[lE c3]; exact htk) (by rw[GE c2]; exact X) hTC (fun m E=>(O m E).1) R (fun I w' hs' hz=>hQ I w' (hs'.relax (hl5.le N)) hz)

theorem bH.drawn{g0:G}{w0:World}{st:St}{a:Act}{g:G}{w:World}(n:Nat)(h:bH g0 w0 st a g w):bH g0 w0 st a g { w with drawn:=n }:=by
 have k:Evo g w g { w with drawn:=n } (fun _=>False):=⟨z63 _,fun b _ _=>⟨rfl,rfl⟩⟩
 have d:sY g w g { w with drawn:=n } (fun _=>False) st:= { evo:=k,X:=fun _ h=>h.elim,V:= .inl fun b y=>⟨y,rfl⟩,os:=rfl,tape:=rfl,output:=rfl,ok:=⟨h.ok.own⟩ }
 refine⟨h.framed.trans (d.framed h.framed.now),d.ok,h.size,h.defers,fun i=>RV.calm d h.ok (fun _=>rfl) (fun _ _ _ h=>h) (h.slots i),fun o cells z=> ?_,fun i E C=> ?_,h.bp,h.nle⟩
 ·obtain⟨e,I,h1,f,u,v⟩:=h.obs o cells z
  refine⟨e,I,h1,f,u,fun j x H=> ?_⟩
  obtain⟨c,l,m,q⟩:=v j x H; exact⟨c,l,m,d.lf h.ok (by simp) (fun _ h=>h) q⟩
 ·obtain⟨h1,f⟩:=h.pls i E C
  refine⟨h1,f.congr ?_ rfl (fun J x0 p v' x' r s t=>h.pl_evo k (fun h=>h) h1 (fun h=>h) r s t)⟩
  cases aE (st.sl i)<;>rfl
theorem Sim.drawn{g0:G}{w0:World}{s:St}{a:Act}{w:World}(n:Nat)(h:Sim g0 w0 s a w):Sim g0 w0 s a { w with drawn:=n }:=by
 obtain⟨g,h⟩:=h; exact⟨g,h.drawn n⟩
def kJ(ops:Array Oper)(D:Nat→Prop):Prop:= ∀j o,ops[j]? =some o→D j→ ∀e∈o.after,Region.binds .any e=true→D e.on

theorem Bi(ops:Array Oper)(D:Nat→Prop)(C:kJ ops D): ∀(l:List Oper) (a:Array Nat),(∀k o,l[k]? =some o→ops[a.size+k]? =some o)→
  (∀j i,D j→j<a.size→(a.getD j 0).testBit i=true→D i)→
  ∀j i,D j→((l.foldl (init:=a) fun a o=>a.push (o.after.foldl (fun s e=>if Region.binds .any e then s||| 2 ^ e.on||| a.getD e.on 0 else s) 0)).getD j 0).testBit i=true→D i
 | [],a,_,u,j,i,m,d=>by
  simp only[List.foldl_nil]at d; by_cases c:j<a.size
  ·exact u j i m c d
  ·have:a.getD j 0=0:=by simp [Array.getD,c]
   rw[this]at d; simp at d
 | o::r,a,h1,u,j,i,m,d=>by
  rw[Og]at d; refine Bi ops D C r _ (fun k G E=> ?_) (fun j i m c d=> ?_) j i m d
  ·rw[Array.size_push,KL,Nat.add_comm 1 k]
   exact h1 (k+1) G (by simpa using E)
  ·rw[Array.size_push]at c
   by_cases e:j=a.size
   ·have ho:ops[j]? =some o:=by
     have:=h1 0 o rfl; rw[e]; exact this
    subst e; have q:((o.after.foldl (fun s e=>if Region.binds .any e then s||| 2 ^ e.on||| a.getD e.on 0 else s) 0)).testBit i=true:=by
     simpa [Array.getD]using d
    rw[←Oj]at q; have z: ∀(p:List Edge) (s:Nat),(∀e∈p,e∈o.after)→(s.testBit i=true→D i)→(p.foldl (fun s e=>if Region.binds .any e then s||| 2 ^ e.on||| a.getD e.on 0 else s) s).testBit i=true→D i:=by
     intro p; induction p with
     | nil=>intro s _ v h; exact v h
     | cons e p ih=>
      intro s g v h; rw[Og]at h; refine ih _ (fun e y=>g e (z24 _ y)) (fun h=> ?_) h
      split at h
      ·rename_i w
       have t:=C _ o ho m e (g e z25) w; rw[MD,MD,z38,z38]at h; rcases h with(h | h) | h
       ·exact v h
       ·rw[Nz]at h
        have:e.on=i:=by simpa using h
        rw[←this]; exact t
       ·by_cases c:e.on<a.size
        ·exact u _ _ t c h
        ·have:a.getD e.on 0=0:=by simp [Array.getD,c]
         rw[this]at h; simp at h
      ·exact v h
    exact z _ 0 (fun e y=>z42.1 y) (by simp) q
   ·refine u j i m (by omega) ?_
    have f:j<a.size:=by omega
    rw[z53,Array.getElem?_push_lt f]at d
    rw[z53,z66 f]; exact d

theorem jW{ops:Array Oper}{D:Nat→Prop}(c:kJ ops D){j i:Nat}(d:D j)(h:((Region.before ops).getD j 0).testBit i=true):D i:=by
 unfold Region.before at h; rw[←Oj]at h; exact Bi ops D c ops.toList #[] (fun k o e=>by simpa using e) (fun j i _ a=>by simp at a) j i d h

def Da(F:FA)(L c:Lvl):Prop:= ∀m b,mB m L=some b→ ∃a,mB m c=some a∧Cv F b a
theorem Da.refl(F:FA)(L:Lvl):Da F L L:=fun _ b h=>⟨b,h,Cv.refl F b⟩
theorem Da.trans{F:FA}{a b c:Lvl}(h:Da F a b)(k:Da F b c):Da F a c:=fun e x f=>by
 obtain⟨y,h1,d⟩:=h e x f; obtain⟨z,g,i⟩:=k e y h1; exact⟨z,g,d.trans i⟩

theorem FH{F:FA}{m:Nat}{b:B}{mt:B→B→B}: ∀ {L c:Lvl},OI F m b mt L=some c→Da F L c∧ ∃d,mB m c=some d∧Cv F b d
 | [],c,h=>by
  cases h; exact⟨fun _ _ h=>(by cases h),b,by simp [mB],Cv.refl F b⟩
 | (i,q)::r,c,h=>by
  unfold OI at h; cases hm:Nat.beq m i with
  | true=>
   rw[hm]at h; simp only[z18]at h; obtain⟨g,h⟩:=aF h; simp only[z7]at g; cases h; have e:=z12 hm; subst e; refine⟨fun f b2 a=> ?_,_,by simp [mB],Ah g.2⟩
   simp only[mB]at a ⊢; cases h3:Nat.beq f m with
   | true=>rw[h3]at a; cases a; exact⟨_,rfl,Ah g.1⟩
   | false=>rw[h3]at a; exact⟨b2,a,Cv.refl F b2⟩
  | false=>
   rw[hm]at h; simp only[z16]at h; split at h<;>try cases h
   rename_i s j; obtain⟨k,d,l,p⟩:=FH j; refine⟨fun f b2 a=> ?_,d,by simp only[mB,hm,z16]; exact l,p⟩
   simp only[mB]at a ⊢; cases h3:Nat.beq f i with
   | true=>rw[h3]at a; cases a; exact⟨_,rfl,Cv.refl F _⟩
   | false=>rw[h3]at a; exact k f b2 a

section
variable {τ:TypeId→Option TI} {Sgs:FuncId→List Sg} {F:FA} {ds:List (Option Nat)} {mt:B→B→B}

theorem qG{m:Nat}{b:B}: ∀ {r:List Oper} {i:Nat} {c a:Lvl},qX τ Sgs F ds mt m b i r c=some a→Da F c a∧ ∀k o,r[k]? =some o→m.testBit (i+k)=false→fR m o=true→
  ∃b1 b2,oH τ Sgs F ds b o=some b1∧mB (m||| 2 ^ (i+k)) a=some b2∧Cv F b1 b2
 | [],i,c,a,h=>by cases h; exact⟨Da.refl F c,fun k o d=>by simp at d⟩
 | o::r,i,c,a,h=>by
  unfold qX at h; cases hc:(m.testBit i|| !(fR m o))with
  | true=>
   rw[hc]at h; obtain⟨h1,g⟩:=qG (show qX τ Sgs F ds mt m b (i+1) r c=some a from h); refine⟨h1,fun k l d e f=> ?_⟩
   cases k with
   | zero=>
    simp only[z19,z8]at d
    subst d; rw[z69]at e; rw[e,f]at hc; cases hc
   | succ k=>
    rw[show i+(k+1)=i+1+k by omega]at e ⊢
    exact g k l (by simpa using d) e f
  | false=>
   rw[hc]at h; simp only[z16]at h; split at h<;>try cases h
   rename_i b1 j; split at h<;>try cases h
   rename_i p s; obtain⟨a1,b2,a2,a3⟩:=FH s; obtain⟨h1,g⟩:=qG h; refine⟨a1.trans h1,fun k l d e f=> ?_⟩
   cases k with
   | zero=>
    simp only[z19,z8]at d
    subst d; rw[z69]; obtain⟨q,t,u⟩:=h1 _ b2 a2; exact⟨b1,q,j,t,a3.trans u⟩
   | succ k=>
    rw[show i+(k+1)=i+1+k by omega]at e ⊢
    exact g k l (by simpa using d) e f

theorem pF{os:List Oper}: ∀ {L a c:Lvl},Aj τ Sgs F ds mt os L a=some c→Da F a c∧ ∀m b,mB m L=some b→ ∀(k:Nat) o,os[k]? =some o→m.testBit k=false→fR m o=true→
  ∃b1 b2,oH τ Sgs F ds b o=some b1∧mB (m||| 2 ^ k) c=some b2∧Cv F b1 b2
 | [],a,c,h=>by cases h; exact⟨Da.refl F a,fun m b h=>by cases h⟩
 | (t,z)::r,a,c,h=>by
  unfold Aj at h; split at h<;>try cases h
  rename_i f s; obtain⟨a1,a2⟩:=qG s; obtain⟨h1,q⟩:=pF h; refine⟨a1.trans h1,fun m b d k o i g j=> ?_⟩
  simp only[mB]at d; cases h3:Nat.beq m t with
  | true=>
   rw[h3]at d; cases d; have e:=z12 h3; subst e; obtain⟨b1,b2,u,l,v⟩:=a2 k o i (by rw[z34]; exact g) j
   rw[z34]at l; obtain⟨p,w,y⟩:=h1 _ b2 l; exact⟨b1,p,u,w,v.trans y⟩
  | false=>
   rw[h3]at d; exact q m b d k o i g j
end

section
variable {P:Program} {τ:TypeId→Option TI} {Sgs:FuncId→List Sg} {F:FA} {x x1 x2:D} {o:Oper} {b b1:B}

theorem SD.step(hT:aR P τ)(U:Ag F b x){ops:Array Oper}{i:Nat}(hi:ops[i]? =some o)(h:SD P τ Sgs F (ops.toList.map (·.dst)) o x x1)(hc:oH τ Sgs F (ops.toList.map (·.dst)) b o=some b1):
  Ag F b1 x1∧ ∀g0 w0 (Q:Exit→Act→World→Prop) (K:Act→World→Prop) a w,Sim g0 w0 (b.S F.n x) a w→(∀v w',Sim g0 w0 (b1.S F.n x1) (a.put o.dst v) w'→K (a.put o.dst v) w')→wpOp P ops Q i K a w:=by
 obtain⟨I,E,Y,Z,hun⟩:=CF hc
 have J: ∀(t:Bool),aW (ops.toList.map (·.dst)) x o.guard=some t→(∀g0 w0 (Q:Exit→Act→World→Prop) (K:Act→World→Prop) a w,Sim g0 w0 (b.S F.n x) a w→(∀v w',Sim g0 w0 (b1.S F.n x1) (a.put o.dst v) w'→K (a.put o.dst v) w')→if t then o.wp P a w K Q else K (a.put o.dst undef) w)→
   ∀g0 w0 (Q:Exit→Act→World→Prop) (K:Act→World→Prop) a w,Sim g0 w0 (b.S F.n x) a w→(∀v w',Sim g0 w0 (b1.S F.n x1) (a.put o.dst v) w'→K (a.put o.dst v) w')→wpOp P ops Q i K a w:=fun t y V g0 w0 Q K a w s L=>by
  have hw:Region.wanted o (yielded ops a.tmps)=t:=by
   obtain⟨g,H⟩:=s; exact EO (F:=F) H Z y
  exact xV hi t hw (V g0 w0 Q K a w s L)
 rcases h with⟨y,rfl⟩ | ⟨y,h1⟩ | ⟨y,c,v,f,caps,ob,ob',r,nw,ho,hcal,hni,hx,hth,hob,O,hsh,rfl⟩ | ⟨y,c,v,f,r,t,xs,l,p,x0,es,es',ho,hcal,hio,hx,hth,hargs,hal,hat,hnav,O,hsh,rfl⟩
 ·have hgn:o.guard≠none:=fun e=>by rw[e]at y; cases y
  obtain⟨k,X⟩:=PL U (hun hgn); rw[←Y]at k X; exact⟨k,J false y (fun g0 w0 Q K a w s L=>L undef w (X _ _ _ _ s))⟩
 ·have m:cOp τ F b o=some I:=by
   unfold KN at E; rw[qH h1]at E; exact E
  have u:=op_S hT U h1 m; obtain⟨k,cs⟩:=((IB (F:=F) (fzL F I o.dst) I).trans (FN F _)) x1 u.ag; rw[←Y]at k cs; exact⟨k,J true y (fun g0 w0 Q K a w s L=>(u.ok g0 w0).w Q K a w s (fun v w' G=>L v w' (cs _ _ _ _ G)))⟩
 ·have m:Mc Sgs F b o c v=some I:=by
   unfold KN at E; rw[qI ho hcal]at E; simp only[hni,z16]at E; exact E
  unfold Mc at m; split at m<;>try cases m
  rename_i f' j q; obtain⟨sg,H,d⟩:=zC m; obtain⟨hn,d⟩:=aF d; simp only[z7]at hn; have T:cI b v=true:=by
   have d:=d; unfold KH at d; obtain⟨W,_⟩:=aF d; simp only[z7]at W; exact W.1.1.1.1.1.1.1.1.1.1
  have R:f'=f∧j=caps:=by
   rcases tT U T hx (by simp)with M | ⟨_,s⟩
   ·rw[q]at M
    simp only[Own.fits,bK,z7]at M; exact⟨(z12 M.1).symm,(of_decide_eq_true M.2).symm⟩
   ·rw[q]at s
    cases s; exact⟨rfl,rfl⟩
  obtain⟨rfl,rfl⟩:=R; have z:(inV x c j (gK F c v)).length=c.args.toList.length+j.length:=by simp [inV]
  have hol:ob.length=(gK F c v).length:=by have:=congrArg List.length hob; simpa using this
  have C:sg.np=(inV x c j (gK F c v)).length:=by rw[z]; exact z12 hn.1
  have O:=O sg H C (by rw[hol]; exact z12 hn.2)
  obtain⟨N,u⟩:=Pv (P:=P) U ho hcal hx O rfl hob C hth hsh d; obtain⟨k,cs⟩:=((IB (F:=F) (fzL F I o.dst) I).trans (FN F _)) _ N; rw[←Y]at k cs; exact⟨k,J true y (fun g0 w0 Q K a w s L=>u g0 w0 Q K a w s (fun v w' G=>L v w' (cs _ _ _ _ G)))⟩
 ·have m:ioC Sgs F b o c v=some I:=by
   unfold KN at E; rw[qI ho hcal]at E; simp only[hio,z18]at E; exact E
  unfold ioC at m; split at m<;>try cases m
  rename_i f' j q; obtain⟨sg,H,d⟩:=zC m; obtain⟨hn,d⟩:=aF d; simp only[z7]at hn; have T:cI b v=true:=by
   have d:=d; unfold cIo at d; rw[hargs]at d; simp only at d; split at d<;>try cases d
   obtain⟨W,_⟩:=aF d; simp only[z7]at W; exact W.1.1.1.1.1.1.1.1.1.1.1.1.1.1.1.1
  have R:f'=f:=by
   rcases tT U T hx (by simp)with M | ⟨_,s⟩
   ·rw[q]at M
    simp only[Own.fits,bK,z7]at M; exact(z12 M.1).symm
   ·rw[q]at s
    cases s; rfl
  subst R; have z:(inV x c [] []).length=c.args.toList.length:=by simp [inV]
  have C:sg.np=(inV x c [] []).length:=by rw[z]; exact z12 hn.1.1
  have O:=O sg H C (z12 hn.2); obtain⟨N,u⟩:=LV (P:=P) U ho hcal hx O rfl C hth hargs hal hat hnav hsh d; obtain⟨k,cs⟩:=((IB (F:=F) (fzL F I o.dst) I).trans (FN F _)) _ N; rw[←Y]at k cs; exact⟨k,J true y (fun g0 w0 Q K a w s L=>u g0 w0 Q K a w s (fun v w' G=>L v w' (cs _ _ _ _ G)))⟩

theorem vG{ops:Array Oper}{a:Array Bool}{i:Nat}(g:a.size=ops.size)(h:i<ops.size)(e:a.getD i true=false): ∃A C:List Nat,(List.range ops.size).filter (fun j=> !a.getD j true)=A++i::C∧
  (List.range ops.size).filter (fun j=> !(a.setIfInBounds i true).getD j true)=A++C∧ ∀j∈A,j<i∧a.getD j true=false:=by
 have f:List.range ops.size=List.range' 0 i++i::List.range' (i+1) (ops.size - i - 1):=by
  rw[Ol,show ops.size=i+(1+(ops.size - i - 1))by omega, ←List.range'_append_1, ←List.range'_append_1]
  simp
 have h1: ∀j,j≠i→(a.setIfInBounds i true).getD j true=a.getD j true:=fun j c=>getD_set_ne true (Ne.symm c)
 have d:(a.setIfInBounds i true).getD i true=true:=by
  have:i<a.size:=by omega
  simp [Array.getD,this]
 refine⟨(List.range' 0 i).filter (fun j=> !a.getD j true),(List.range' (i+1) (ops.size - i - 1)).filter (fun j=> !a.getD j true), ?_, ?_,fun j c=> ?_⟩
 ·rw[f,z138,z151 (by simp [e])]
 ·rw[f,z138,List.filter_cons_of_neg (by simp [d])]
  congr 1
  ·exact List.filter_congr fun j c=>by
    have:=z145.1 c; rw[h1 j (by omega)]
  ·exact List.filter_congr fun j c=>by
    have:=z145.1 c; rw[h1 j (by omega)]
 ·rw[z76]at c
  have:=z145.1 c.1; exact⟨by omega,by simpa using c.2⟩

theorem JK(K:aR P τ){ops:Array Oper}(E:kD F (ops.toList.map (·.dst)) ops=true){mt:B→B→B}{G:Nat}{C:B}{xn:D}:
  ∀(k j m:Nat) (L:Lvl) (b:B) (x:D),j+k=ops.size→DN τ Sgs F (ops.toList.map (·.dst)) mt ops.toList k L=some [(G,C)]→mB m L=some b→(∀i,i<ops.size→m.testBit i=decide (i<j))→Ag F b x→
   AE P τ Sgs F (ops.toList.map (·.dst)) ops (List.range' j k) x xn→Ag F C xn:=by
 simp only[kD,z7,z14,z55]at E; obtain⟨d,_⟩:=E; intro k; induction k with
 | zero=>
  intro j m L b x y l f a t c; have O:x=xn:=c; subst O; cases l; simp only[mB]at f; cases p:Nat.beq m G with
  | true=>rw[p]at f; cases f; exact t
  | false=>rw[p]at f; cases f
 | succ k Q=>
  intro j m L b x y l f a t c; unfold DN at l; split at l<;>try cases l
  rename_i H v; rw[z155]at c; obtain⟨o,x1,ho,_,z,g⟩:=c; have q:j<ops.size:=by omega
  have r:fR m o=true:=by
   simp only[fR,z14]; intro e M; have s:=d j q; rw[ho]at s; simp only[z84]at s; have p:=s e (z42.1 M); cases hb:Region.binds .any e with
   | false=>rfl
   | true=>
    simp only[hb,z46,z52]at p; have J:=bY p; simp only[z46,z52]; rw[a e.on (by omega)]; exact z15 J
  obtain⟨b1,b2,R,S,I⟩:=(pF v).2 m b f j o (by rw[z28]; exact ho) (by rw[a j q]; simp) r
  obtain⟨u,_⟩:=z.step K t ho R; refine Q (j+1) (m||| 2 ^ j) H b2 x1 (by omega) l S (fun i N=> ?_) (I x1 u).1 g
  rw[MD,Nz,a i N]; by_cases w:i=j
  ·subst w; simp
  ·have:(decide (i<j+1))=decide (i<j):=by
    by_cases h:i<j
    ·rw[z15 h,z15 (by omega)]
    ·rw[z9 h,z9 (by omega)]
   rw[this]; simp; omega

theorem tD{ds:List (Option Nat)}: ∀ {os:List Oper} {b b2:B},Ei τ Sgs F ds b os=some b2→KQ τ Sgs F ds b os=some b2
 | [],b,b2,h=>h
 | o::r,b,b2,h=>by
  unfold Ei at h; obtain⟨_,h⟩:=aF h; unfold KQ; split at h<;>try cases h
  rename_i b1 h1
  first
   | (rw[h1]; exact tD h)
   | exact tD h
theorem JE{ds:List (Option Nat)}{os:List Oper}{b b2:B}(h:Ei τ Sgs F ds b (o::os)=some b2):o.op.operands.toList.all (cI b)=true∧ ∃b1,oH τ Sgs F ds b o=some b1∧Ei τ Sgs F ds b1 os=some b2:=by
 unfold Ei at h; obtain⟨h0,h⟩:=aF h; split at h<;>try cases h
 rename_i b1 h1; exact⟨h0,b1,h1,h⟩
theorem AF.of(a:Ag F b x)(h:o.op.operands.toList.all (cI b)=true):AF F x o:=fun v c=>by
 have:=z14.1 h v (by simpa using c)
 cases v with
 | tmp t=>exact a.sl t this
 | _=>trivial
end

section
variable {P:Program} {τ:TypeId→Option TI} {Sgs:FuncId→List Sg} {F:FA} {x x1 xn:D} {o:Oper} {b b1:B} {g0:G} {w0:World} {a:Act} {g:G} {w:World} {ds:List (Option Nat)} {mt:B→B→B}
theorem GQ{m:Nat}: ∀ {r:List Oper} {c:List Bool} {i j:Nat} {o:Oper},yJ m i r c=some (j,o)→ ∃k,j=i+k∧r[k]? =some o∧c[k]? =some true∧m.testBit j=false∧fR m o=true
 | [],_,i,j,o,h=>by simp [yJ]at h
 | _::_,[],i,j,o,h=>by simp [yJ]at h
 | o'::r,e::c,i,j,o,h=>by
  simp only[yJ]at h; cases hc:(e&&(!(m.testBit i)&&fR m o'))with
  | true=>
   rw[hc]at h; cases h; simp only[z7,z37]at hc; obtain⟨rfl,h1,d⟩:=hc; exact⟨0,rfl,rfl,rfl,h1,d⟩
  | false=>
   rw[hc]at h; obtain⟨k,rfl,d,f,l⟩:=GQ (show yJ m (i+1) r c=some (j,o)from h); exact⟨k+1,by omega,by simpa using d,by simpa using f,l⟩
theorem vH{E:List Bool}{os:List Oper}: ∀ {L c f:Lvl},yC τ Sgs F ds mt E os L c=some f→Da F c f∧ ∀m b,mB m L=some b→
  (∃i o,yJ m 0 os E=some (i,o)∧ ∃b1 b2,oH τ Sgs F ds b o=some b1∧mB (m||| 2 ^ i) f=some b2∧Cv F b1 b2)∨
  (yJ m 0 os E=none∧ ∀(k:Nat) o,os[k]? =some o→m.testBit k=false→fR m o=true→ ∃b1 b2,oH τ Sgs F ds b o=some b1∧mB (m||| 2 ^ k) f=some b2∧Cv F b1 b2)
 | [],c,f,h=>by cases h; exact⟨Da.refl F c,fun m b h=>by cases h⟩
 | (v,K)::r,c,f,h=>by
  unfold yC at h; cases hp:yJ v 0 os E with
  | some p=>
   obtain⟨i,o⟩:=p; rw[hp]at h; simp only at h; split at h<;>try cases h
   rename_i b1 u; split at h<;>try cases h
   rename_i j t; obtain⟨a1,b2,a2,a3⟩:=FH t; obtain⟨h1,s⟩:=vH h; refine⟨a1.trans h1,fun m b d=> ?_⟩
   simp only[mB]at d; cases h3:Nat.beq m v with
   | true=>
    rw[h3]at d; cases d; have e:=z12 h3; subst e; obtain⟨q,y,l⟩:=h1 _ b2 a2; exact .inl ⟨i,o,hp,b1,q,u,y,a3.trans l⟩
   | false=>rw[h3]at d; exact s m b d
  | none=>
   rw[hp]at h; simp only at h; split at h<;>try cases h
   rename_i j t; obtain⟨a1,a2⟩:=qG t; obtain⟨h1,s⟩:=vH h; refine⟨a1.trans h1,fun m b d=> ?_⟩
   simp only[mB]at d; cases h3:Nat.beq m v with
   | true=>
    rw[h3]at d; cases d; have e:=z12 h3; subst e; refine .inr ⟨hp,fun k o A z C=> ?_⟩
    obtain⟨b1,b2,y,l,H⟩:=a2 k o A (by rw[z34]; exact z) C
    rw[z34]at l; obtain⟨q,I,J⟩:=h1 _ b2 l; exact⟨b1,q,y,I,H.trans J⟩
   | false=>rw[h3]at d; exact s m b d

theorem IR(z:Ag F b x){v:Operand}{d:Nat}(m:bH g0 w0 (b.S F.n x) a g w)(k:cI b v=true)(C:DV F b d v=true)(c:(∃ob p,ev x.sl v= .one (.ptr ob p))∨(∃xs,ev x.sl v= .one (.cp xs))∨ ∃l p i j,ev x.sl v= .one (.pp l p i j)): ∃b h,a.eval v= .pointer (some ⟨b,h,none⟩):=by
 have h1:=m.ev_rv v (fun _ _=> .none)
 rcases c with⟨ob,p,c⟩ | ⟨xs,c⟩ | ⟨l,p,i,j,c⟩
 ·rw[kN k,c]at h1
  exact⟨_,_,h1⟩
 ·rw[kN k,c]at h1
  obtain⟨b,h,e,_⟩:=h1; exact⟨b,h,e⟩
 ·obtain⟨a1,a2,a3⟩:=xD z k C c
  cases v with
  | tmp t=>
   have q:(b.S F.n x).sl t= .one (.pp l p i j):=(lE k).trans c
   have A:(b.S F.n x).fl (.s t 0 0)≠ .D:=fun e=>a3 (by
    have e:b.kd (.s t 0 0)= .D:=e; simp [BK,e,K.cp])
   have:=m.pls t (by rw[q]; exact a1) A
   rw[q]at this; obtain⟨E,O,x0,b,N,len,r,M,e,H,I,J,L,y⟩:=this; exact⟨_,_,y⟩
  | const u=>
   exfalso
   have:aX u= .one (.pp l p i j):=c; unfold aX at this
   (repeat' split at this)<;>simp at this
  | func f=>simp [ev]at c
  | global n=>simp [ev]at c
theorem Nc(T:aR P τ)(E:Ag F b x)(k:MK F o=true)(C:bH g0 w0 (b.S F.n x) a g w)(h1:dOp τ F x o=some x1)(t:cOp τ F b o=some b1): ∃v, ∀u,(execOp a.eval o).run P u= .ok (.value v) u:=by
 unfold MK at k; simp only[z7]at k; obtain⟨_,k⟩:=k; unfold dOp at h1; unfold cOp at t; split at k
 ·rename_i d v z ho
  exact⟨a.eval v,fun u=>by
   obtain⟨y,op,N,A,c,h⟩:=o; simp only at ho; subst ho; rfl⟩
 ·rename_i d v z ho
  exact⟨a.eval v,fun u=>by
   obtain⟨y,op,N,A,c,h⟩:=o; simp only at ho; subst ho; rfl⟩
 ·rename_i d v z ho
  rw[z,ho]at h1 t; simp only at h1 t; obtain⟨m,_⟩:=aF t; simp only[z7]at m; have J:(∃ob p,ev x.sl v= .one (.ptr ob p))∨(∃xs,ev x.sl v= .one (.cp xs))∨ ∃l p i j,ev x.sl v= .one (.pp l p i j):=by
   unfold Gw at h1; split at h1<;>try cases h1
   ·rename_i e; exact .inl ⟨_,_,e⟩
   ·rename_i e; exact .inr (.inl ⟨_,e⟩)
   ·rename_i f cs e
    exfalso
    unfold MU at k; rcases tT E m.1.2 e (by simp)with L | ⟨_,C⟩
    ·split at k<;>try cases k
     all_goals (rename_i R; rw[R]at L; simp [Own.fits,bK]at L)
    ·rw[C]at k; cases k
   ·rename_i e; exact .inr (.inr ⟨_,_,_,_,e⟩)
  obtain⟨Q,K,e⟩:=IR E C m.1.2 m.2 J; refine⟨a.eval v,fun u=> ?_⟩
  obtain⟨y,op,N,A,c,h⟩:=o; simp only at ho; subst ho; simp only[execOp,e]; rfl
 ·rename_i d s v f z ho
  rw[z,ho]at h1 t; simp only at h1 t; obtain⟨m,_⟩:=aF t; simp only[z7]at m; unfold pS at h1; split at h1<;>try cases h1
  rename_i fs H; split at h1<;>try cases h1
  rename_i q U; split at h1<;>try cases h1
  rename_i r I; obtain⟨K,size,O⟩:=q; have J:(∃ob p,ev x.sl v= .one (.ptr ob p))∨(∃xs,ev x.sl v= .one (.cp xs))∨ ∃l p i j,ev x.sl v= .one (.pp l p i j):=by
   unfold uW at I; split at I<;>try cases I
   ·rename_i e; exact .inl ⟨_,_,e⟩
   ·rename_i e; exact .inr (.inl ⟨_,e⟩)
   ·rename_i e; exact .inr (.inr ⟨_,_,_,_,e⟩)
  obtain⟨Q,M,e⟩:=IR E C m.1.2 m.2 J; exact⟨_,fun u=>lM T H U (ρ:=a.eval) e ho u⟩
 ·cases k
end

def NoQ':Exit→Act→World→Prop:=fun _ _ _=>False
theorem PF{P:Program}{ops:Array Oper}{i:Nat}{o:Oper}{K:Act→World→Prop}{a:Act}{w:World}(h:wpOp P ops NoQ' i K a w)(d:ops[i]? =some o)(c:o.guard=none):o.wp P a w K NoQ':=by
 unfold wpOp at h; simp only[d,Region.wanted,c,if_true]at h; exact h.resolve_right (fun e=>e.2.elim fun _ h=>h.elim fun _ h=>h)
theorem HF{ops:Array Oper}{c:Array Bool}(q:c.size=ops.size)(m: ∀j o,ops[j]? =some o→ ∀e∈o.after,Region.binds .any e=true→e.on<j)(p:Region.ready .any ops c=[]): ∀j,j<ops.size→c.getD j false=true:=by
 have f: ∀j,j<ops.size→c.getD j true=c.getD j false:=fun j s=>by
  have:j<c.size:=by omega
  simp [Array.getD,this]
 intro j; induction j using Nat.strongRecOn with
 | _ j r=>
  intro i; rcases z146 (c.getD j false)with h | h
  ·exact h
  ·exfalso
   have:j∈Region.ready .any ops c:=by
    rw[mem_ready]; refine⟨by rw[f j i]; exact h,ops[j],z66 i,fun e d l=> ?_⟩
    have k:=m j _ (z66 i) e d l
    exact r e.on k (by omega)
   rw[p]at this; cases this

section
variable {P:Program} {τ:TypeId→Option TI} {Sgs:FuncId→List Sg} {F:FA} {ds:List (Option Nat)} {x x1:D} {o:Oper}
theorem PM(h:SD P τ Sgs F ds o x x1)(e:o.guard=none)(d: ∀c,o.op≠ .call c):dOp τ F x o=some x1:=by
 rcases h with⟨h,_⟩ | ⟨_,h⟩ | ⟨_,c,v,f,caps,ob,i,r,nw,h,_⟩ | ⟨_,c,v,f,r,t,xs,l,p,x0,j,es',h,_⟩
 ·rw[e]at h; cases h
 ·exact h
 ·exact absurd h (d c)
 ·exact absurd h (d c)
theorem Nl{ds:List (Option Nat)}{b b1:B}{o:Oper}(h:oH τ Sgs F ds b o=some b1)(f: ∀c,o.op≠ .call c): ∃b2,cOp τ F b o=some b2:=by
 obtain⟨b2,d,_⟩:=CF h; refine⟨b2, ?_⟩
 unfold KN at d; have:cL o=none:=by
  unfold cL; split
  ·rename_i c e; exact absurd e (f c)
  ·rfl
 rw[this]at d; exact d
end
def NoP(Q:Exit→Act→World→Prop):Exit→Act→World→Prop:=fun e a w=>e= .normal∧Q e a w
theorem GU{Q:Exit→Act→World→Prop}: ¬ LetsOut (NoP Q):=fun⟨_,_,h,_⟩=>by cases h
theorem Mi{P:Program}{o:Oper}{a:Act}{K K':Act→World→Prop}{Q:Exit→Act→World→Prop}(d: ∀a w,K a w→K' a w){r:Result Next}(h:o.upon P a K (NoP Q) r):o.upon P a K' Q r:=by
 cases r with
 | ok n w'=>
  cases n<;>simp only[Oper.upon]at h ⊢ <;>first
   | exact d _ _ h
   | exact Calls.mono h (fun e f c=>by
     cases e
     ·exact d _ _ c
     ·cases c.1
     ·exact absurd c GU)
   | exact Rows.mono h (fun v f c=>d _ _ c)
   | exact h
 | halt x w'=>
  cases x<;>simp only[Oper.upon]at h ⊢ <;>first | exact h | cases h.1
theorem Mh{P:Program}{ops:Array Oper}{Q:Exit→Act→World→Prop}{i:Nat}{K K':Act→World→Prop}{a:Act}{w:World}(c: ∀a w,K a w→K' a w)(h:wpOp P ops (NoP Q) i K a w):wpOp P ops Q i K' a w:=by
 unfold wpOp at h ⊢; split
 ·rename_i e; rw[e]at h; exact c _ _ h
 ·rename_i o e
  rw[e]at h; simp only at h; split
  ·rename_i d
   rw[z17 d]at h; rcases h with h | ⟨_,h⟩
   ·exact .inl (Mi c h)
   ·exact absurd h GU
  ·rename_i d
   rw[z11 d]at h; exact c _ _ h
theorem GH{P:Program}{d:Region.Mode}{ops:Array Oper}{Q:Exit→Act→World→Prop}: ∀ {k:Nat} {c:Array Bool} {a:Act} {w:World},wpAny P d ops (NoP Q) k c a w→wpAny P d ops Q k c a w
 | 0,_,_,_,h=>⟨h.1,h.2.2⟩
 | k+1,_,_,_,h=>⟨fun f=>(h.1 f).2,fun i e=>Mh (fun _ _ h=>GH h) (h.2 i e)⟩

section
variable {P:Program} {τ:TypeId→Option TI} {Sgs:FuncId→List Sg} {F:FA} {xn:D} {g0:G} {w0:World} {mt:B→B→B}
theorem Fo{ops:Array Oper}{i:Nat}{o:Oper}(u:ops[i]? =some o)(h:KF F ops i=true):MK F o=true∧ ∀(c:Array Bool),kJ ops (fun j=>c.getD j false=true)→(∀e∈o.after,Region.binds .any e=true→c.getD e.on false=true)→
  ∀j m,ops[j]? =some m→j≠i→c.getD j false=false→(∀e∈m.after,Region.binds .any e=true→e.on≠i)→o.apart ops m=true:=by
 unfold KF at h; rw[u]at h; simp only[z7,z14,z55]at h; refine⟨h.1,fun c p t j m v f z s=> ?_⟩
 have h1:=h.2 j (z30.1 v).1
 rw[v]at h1; simp only[z38]at h1; rcases h1 with(h1 | h1) | h1 | h1
 ·exact absurd (z12 h1) f
 ·exfalso
  have y:kJ ops (fun j=>j=i∨c.getD j false=true):=by
   intro k A r q e l d; rcases q with rfl | q
   ·rw[u]at r
    cases r; exact .inr (t e l d)
   ·exact .inr (p k A r q e l d)
  rcases jW y (.inl rfl) h1 with e | e
  ·exact f e
  ·rw[z]at e; cases e
 ·exfalso
  obtain⟨e,l,d⟩:=Array.any_eq_true'.1 h1; simp only[z7]at d; exact s e l d.1 (z12 d.2)
 ·exact h1
theorem LP{ops:Array Oper}{i:Nat}(h:(PA F ops)[i]? =some true):Region.noSelect ops=true∧KF F ops i=true:=by
 unfold PA at h; cases hs:Region.noSelect ops with
 | false=>rw[hs]at h; simp at h
 | true=>
  rw[hs]at h; simp only[z18,z33]at h
  obtain⟨k,d,e⟩:=z29.1 h; have:k=i:=by
   have h1:=z94.1 d
   obtain⟨f,c⟩:=h1; simpa using c.symm
  subst this; exact⟨rfl,e⟩
theorem Np(hT:aR P τ){ops:Array Oper}(hO:kD F (ops.toList.map (·.dst)) ops=true){mf:Nat}{bf:B}:
  ∀(k:Nat) (listed:Array Bool) (m:Nat) (L:Lvl) (b:B) (x:D),Bu τ Sgs F (ops.toList.map (·.dst)) mt (PA F ops) ops.toList k L=some [(mf,bf)]→mB m L=some b→listed.size=ops.size→(∀i,i<ops.size→m.testBit i=listed.getD i false)→
   kJ ops (fun j=>listed.getD j false=true)→(List.range ops.size).countP (fun i=> !listed.getD i true)=k→Ag F b x→AE P τ Sgs F (ops.toList.map (·.dst)) ops ((List.range ops.size).filter fun j=> !listed.getD j true) x xn→
   Ag F bf xn∧ ∀ {Q:Exit→Act→World→Prop} {a0:Act},(∀a w,Sim g0 w0 (bf.S F.n xn) a w→(∀z,sD z ops.toList=true→a.tmps.getD z undef=a0.tmps.getD z undef)→Q .normal a w)→
    ∀(a:Act) (w:World),Sim g0 w0 (b.S F.n x) a w→(∀z,sD z ops.toList=true→a.tmps.getD z undef=a0.tmps.getD z undef)→wpAny P .any ops (NoP Q) k listed a w:=by
 simp only[kD,z7,z14,z55]at hO; obtain⟨hedge,hpair⟩:=hO; have hgd: ∀(listed:Array Bool) j,listed.size=ops.size→j<ops.size→listed.getD j true=listed.getD j false:=by
  intro listed j h1 h2; have:j<listed.size:=by omega
  simp [Array.getD,this]
 have hedge': ∀j o,ops[j]? =some o→ ∀e∈o.after,Region.binds .any e=true→e.on<j:=fun j o ho e he hb=>by
  have h1:=hedge j (z30.1 ho).1
  rw[ho]at h1; simp only[z84]at h1; have h2:=h1 e he; simp only[hb,z46,z52]at h2; exact bY h2
 intro k; induction k with
 | zero=>
  intro listed m L b x hL hm hsz hbit hcl hcount hA hrun; have hlist: ∀j,j<ops.size→listed.getD j true=true:=fun j hj=>by
   rw[List.countP_eq_zero]at hcount; have:=hcount j (z55.2 hj); simpa using this
  have hr:Region.ready .any ops listed=[]:=by
   apply z128.2
   intro j hj; obtain⟨h1,o,ho,_⟩:=mem_ready.1 hj; rw[hlist j (z30.1 ho).1]at h1; cases h1
  have hf:(List.range ops.size).filter (fun j=> !listed.getD j true)=[]:=Oo.2 fun j hj=>by rw[hlist j (z55.1 hj)]; simp
  rw[hf]at hrun; have hx:x=xn:=hrun; subst hx; cases hL; simp only[mB]at hm; cases h3:Nat.beq m mf with
  | true=>rw[h3]at hm; cases hm; exact⟨hA,fun hQ a w hs hz=>⟨hr,rfl,hQ a w hs hz⟩⟩
  | false=>rw[h3]at hm; cases hm
 | succ k ih=>
  intro listed m L b x hL hm hsz hbit hcl hcount hA hrun; unfold Bu at hL; split at hL<;>try cases hL
  rename_i L' hL'
  have take: ∀(i:Nat) (o:Oper),ops[i]? =some o→listed.getD i false=false→(∀e∈o.after,Region.binds .any e=true→listed.getD e.on false=true)→(∃b1 b2,oH τ Sgs F (ops.toList.map (·.dst)) b o=some b1∧mB (m||| 2 ^ i) L'=some b2∧Cv F b1 b2)→
    ∃(x1:D) (b1 b2:B),SD P τ Sgs F (ops.toList.map (·.dst)) o x x1∧oH τ Sgs F (ops.toList.map (·.dst)) b o=some b1∧(∀g0 w0 (Q:Exit→Act→World→Prop) (K:Act→World→Prop) a w,Sim g0 w0 (b.S F.n x) a w→(∀v w',Sim g0 w0 (b2.S F.n x1) (a.put o.dst v) w'→K (a.put o.dst v) w')→wpOp P ops Q i K a w)∧
     Ag F bf xn∧ ∀ {Q:Exit→Act→World→Prop} {a0:Act},(∀a w,Sim g0 w0 (bf.S F.n xn) a w→(∀z,sD z ops.toList=true→a.tmps.getD z undef=a0.tmps.getD z undef)→Q .normal a w)→
      ∀(a:Act) (v:Value) (w:World),Sim g0 w0 (b2.S F.n x1) (a.put o.dst v) w→(∀z,sD z ops.toList=true→a.tmps.getD z undef=a0.tmps.getD z undef)→wpAny P .any ops (NoP Q) k (listed.setIfInBounds i true) (a.put o.dst v) w:=by
   intro i o ho hun' hafter ⟨b1,b2,s1,s2,cv⟩; have hlt:i<ops.size:=(z30.1 ho).1
   have hun:listed.getD i true=false:=by rw[hgd listed i hsz hlt]; exact hun'
   obtain⟨A,C,f1,f2,f3⟩:=vG hsz hlt hun; have hcl':kJ ops (fun j=>(listed.setIfInBounds i true).getD j false=true):=by
    intro j oj hoj hj e he hb; by_cases hij:i=j
    ·subst hij
     rw[ho]at hoj; cases hoj; exact getD_set_true (hafter e he hb)
    ·rw[getD_set_ne false hij]at hj
     exact getD_set_true (hcl j oj hoj hj e he hb)
   have hset:(listed.setIfInBounds i true).getD i false=true:=by
    have:i<listed.size:=by omega
    simp [Array.getD,this]
   rw[f1]at hrun; obtain⟨hfo,x1,hsd,hrun1⟩:=hrun.front ho (fun j hj a' ha'=>by
    obtain⟨j1,j2⟩:=f3 j hj; have h1:=hpair i hlt j j1; rw[ha',ho]at h1; simp only[z38]at h1; refine h1.resolve_left (fun h2=> ?_)
    have:=jW (D:=fun j=>(listed.setIfInBounds i true).getD j false=true) hcl' hset h2
    rw[getD_set_ne false (by omega)]at this
    rw[hgd listed j hsz (by omega)]at j2
    rw[j2]at this; cases this)
   obtain⟨hA1,hw1⟩:=hsd.step (P:=P) hT hA ho s1; obtain⟨hA2,cs⟩:=cv x1 hA1; have hnx:=ih (listed.setIfInBounds i true) (m||| 2 ^ i) L' b2 x1 hL s2 (by simpa using hsz) (fun j hj=>by
    rw[MD,Nz,hbit j hj]; by_cases hij:i=j
    ·subst hij; rw[hset]; simp
    ·rw[getD_set_ne false hij]; simp [hij]) hcl' (by
    rw[z59]at hcount ⊢; rw[f1]at hcount; rw[f2]; simp only[z21,z27]at hcount ⊢; omega) hA2 (by rw[f2]; exact hrun1)
   refine⟨x1,b1,b2,hsd,s1,fun g0 w0 Q K a w hs hK=>hw1 g0 w0 Q K a w hs (fun v w' hs'=>hK v w' (cs _ _ _ _ hs')),hnx.1,fun {Q a0} hQ a v w hs hz=>hnx.2 hQ _ w hs (fun z hno=> ?_)⟩
   have hne:o.dst≠some z:=by
    have key: ∀l:List Oper,sD z l=true→ ∀o∈l,o.dst≠some z:=by
     intro l; induction l with
     | nil=>intro _ o h; cases h
     | cons p r ihl=>
      intro h o hm; simp only[sD,z7,z37,z36]at h; cases hm with
      | head=>exact h.1
      | tail _ hm=>exact ihl h.2 o hm
    exact key ops.toList hno o (z42.2 (z129 ho))
   rw[tC hne]; exact hz z hno
  have hnr:Region.ready .any ops listed≠[]:=fun hr=>by
   have hall:=HF hsz hedge' hr; have:(List.range ops.size).countP (fun i=> !listed.getD i true)=0:=List.countP_eq_zero.2 fun j hj=>by
    rw[hgd listed j hsz (z55.1 hj),hall j (z55.1 hj)]; simp
   omega
  rcases (vH hL').2 m b hm with⟨i,o,hp,hst⟩ | ⟨_,hst⟩
  ·obtain⟨i',rfl,ho,he,hb,hr⟩:=GQ hp
   rw[z34]at*; rw[z28]at ho
   have hlt:i'<ops.size:=(z30.1 ho).1
   have hun':listed.getD i' false=false:=by rw[←hbit i' hlt]; exact hb
   have hafter: ∀e∈o.after,Region.binds .any e=true→listed.getD e.on false=true:=fun e hee hbb=>by
    simp only[fR,z14]at hr; have h1:=hr e (z42.2 hee); simp only[hbb,z46,z52]at h1; rw[←hbit e.on (by have:=hedge' i' o ho e hee hbb; omega)]; exact h1
   obtain⟨hns,hea⟩:=LP he; obtain⟨hek,hap⟩:=Fo ho hea; obtain⟨x1,b1,b2,hsd,s1,hw1,hAg,hgo⟩:=take i' o ho hun' hafter hst; refine⟨hAg,fun {Q a0} hQ a w hs hz=> ?_⟩
   have hg:o.guard=none:=by
    unfold MK at hek; simp only[z7,z86]at hek; exact hek.1
   have hnc: ∀c,o.op≠ .call c:=fun c e=>by
    unfold MK at hek; rw[e]at hek; simp at hek
   obtain⟨b3,hb3⟩:=Nl s1 hnc; obtain⟨g,hsg⟩:=hs; obtain⟨v,hv⟩:=Nc (P:=P) hT hA hek hsg (PM hsd hg hnc) hb3; have hw2:=hw1 g0 w0 NoQ' (fun a' w'=>a'=a.put o.dst v→Sim g0 w0 (b2.S F.n x1) a' w') a w ⟨g,hsg⟩ (fun _ _ hs' _=>hs')
   have hwp:=PF hw2 ho hg; unfold Oper.wp at hwp; rw[hv w]at hwp; have hS:Sim g0 w0 (b2.S F.n x1) (a.put o.dst v) w:=hwp rfl; have hwant:Region.wanted o (yielded ops a.tmps)=true:=by unfold Region.wanted; rw[hg]
   refine wpAny_first ho (Region.noSelect_spec hns) (fun c a w h=>by cases h.1) k listed a w (fun j oj hj hne hu hno=>hap listed hcl hafter j oj hj hne (by rw[←hgd listed j hsz (z30.1 hj).1]; exact hu) hno) ?_ (.inl ⟨hwant,hv⟩) (hgo hQ a v w hS hz)
   exact mem_ready.2 ⟨by rw[hgd listed i' hsz hlt]; exact hun',o,ho,hafter⟩
  ·have one: ∀i∈Region.ready .any ops listed, ∃o,ops[i]? =some o∧listed.getD i false=false∧(∀e∈o.after,Region.binds .any e=true→listed.getD e.on false=true)∧ ∃b1 b2,oH τ Sgs F (ops.toList.map (·.dst)) b o=some b1∧mB (m||| 2 ^ i) L'=some b2∧Cv F b1 b2:=fun i hi=>by
    obtain⟨hun,o,ho,hafter⟩:=mem_ready.1 hi; have hlt:i<ops.size:=(z30.1 ho).1
    have hun':listed.getD i false=false:=by rw[←hgd listed i hsz hlt]; exact hun
    refine⟨o,ho,hun',hafter,hst i o (by rw[z28]; exact ho) (by rw[hbit i hlt]; exact hun') ?_⟩
    simp only[fR,z14]; intro e he; cases hb:Region.binds .any e with
    | false=>rfl
    | true=>
     have h1:=hafter e (z42.1 he) hb; have h4:=hedge' i o ho e (z42.1 he) hb; simp only[z46,z52]; rw[hbit e.on (by omega)]; exact h1
   obtain⟨i0,hi0⟩:=List.exists_mem_of_ne_nil _ hnr; obtain⟨o0,ho0,hu0,ha0,hs0⟩:=one i0 hi0; obtain⟨_,_,_,_,_,_,hAg,_⟩:=take i0 o0 ho0 hu0 ha0 hs0; refine⟨hAg,fun {Q a0} hQ a w hs hz=>⟨fun hr=>absurd hr hnr,fun i hi=> ?_⟩⟩
   obtain⟨o,ho,hu,haf,hs'⟩:=one i hi; obtain⟨x1,b1,b2,_,_,hw1,_,hgo⟩:=take i o ho hu haf hs'; exact hw1 g0 w0 (NoP Q) _ a w hs (fun v w' hs2=>hgo hQ a v w' hs2 hz)
end

theorem Fe{α:Type}(xs:Array α){i j:Nat}(h:i≠j)(f g:α→α):(xs.modify i f).modify j g=(xs.modify j g).modify i f:=by
 apply Array.ext_getElem?
 intro k; rw[On,On,On,On]
 by_cases c:j=k
 ·have d:i≠k:=fun e=>h (e.trans c.symm)
  rw[z17 c,z11 d,z11 d,z17 c]
 ·rw[z11 c,z11 c]
theorem Ap(w:World){b:Nat}{a:Addr}(c:Array Value)(v:Value)(h:b≠a.block):(w.setRow b c).setCell a v=(w.setCell a v).setRow b c:=by
 simp only[World.setRow,World.setCell]; rw[Fe w.heap h]
theorem pU{P:Program}{d o k:Nat}{c:Array Value}(f:k≠d): ∀(vs:List Value) (i:Nat) (w w':World),(∀v∈vs,v.oneCell'=true)→(∀q,q<vs.length→ ∃u,w.cell? ⟨d,o+i+q,none⟩=some u)→(storeCells ⟨d,o,none⟩ vs i).run P w= .ok () w'→
  (storeCells ⟨d,o,none⟩ vs i).run P (w.setRow k c)= .ok () (w'.setRow k c)∧w'.heap[k]? =w.heap[k]?
 | [],i,w,w',_,_,h=>by
  cases h; exact⟨rfl,rfl⟩
 | v::r,i,w,w',h1,E,h=>by
  obtain⟨u,z⟩:=E 0 (by simp)
  have m:(⟨d,o,none⟩:Addr).add i=⟨d,o+i,none⟩:=gT _ _ _; rw[z69]at z; have l:(w.setRow k c).cell? ⟨d,o+i,none⟩=some u:=by
   rw[bS (setRow_other w k d c (Ne.symm f))]; exact z
  have s:(w.setRow k c).frozen? ⟨d,o+i,none⟩=w.frozen? ⟨d,o+i,none⟩:=by
   simp only[World.frozen?,setRow_other w k d c (Ne.symm f)]
  simp only[storeCells,Sem.run_bind,m,run_store P _ _ v _ (h1 v z25),z,l,s]at h ⊢; cases hf:w.frozen? ⟨d,o+i,none⟩with
  | true=>rw[hf]at h; simp [Result.andThen]at h
  | false=>
   rw[hf]at h; simp only[z50,if_false,Result.andThen_ok]at h ⊢; obtain⟨J,K⟩:=pU f r (i+1) (w.setCell ⟨d,o+i,none⟩ v) w' (fun v I=>h1 v (z24 _ I)) (fun q H=>by
    obtain⟨L,C⟩:=E (q+1) (by simpa using H)
    refine⟨L, ?_⟩
    have e:=World.cell?_setCell_other (w:=w) (v:=v) (a:=⟨d,o+i,none⟩) (b:=⟨d,o+(i+1)+q,none⟩) (by simp; omega)
    rw[show o+(i+1)+q=o+i+(q+1)by omega]at e ⊢
    exact e.trans C) h
   refine⟨?_,K.trans (heap_setCell_other w _ _ v f)⟩
   rw[Ap w c v f]; exact J

structure Hk (v y:Operand) (n ob p:Nat) (x:D):Prop where
 ptr:ev x.sl v= .one (.ptr ob p)
 val: ∃xs,aM (ev x.sl y)=some xs∧xs.length=n
 room: ∃cells,x.ob ob=some cells∧p+n≤cells.length
section
variable {P:Program} {τ:TypeId→Option TI} {Sgs:FuncId→List Sg} {F:FA} {ds:List (Option Nat)} {x x1:D} {o:Oper}
theorem Ha(h:SD P τ Sgs F ds o x x1)(k:o.guard=none)(d: ∀c,o.op≠ .call c):dOp τ F x o=some x1:=by
 rcases h with⟨h,_⟩ | ⟨_,h⟩ | ⟨_,c,v,f,caps,ob,m,r,nw,h,_⟩ | ⟨_,c,v,f,r,t,xs,l,p,x0,q,es',h,_⟩
 ·rw[k]at h; cases h
 ·exact h
 ·exact absurd h (d c)
 ·exact absurd h (d c)
theorem Ll{t ob p:Nat}(c:KT F x (.tmp t))(d:F.shOf t= .one (.ptr ob p)){w:W}(h:x.sl t= .one w)(hn:w≠ .nilp):w= .ptr ob p:=by
 have c:x.sl t= .tup []∨fits (x.sl t) (F.shOf t)=true:=c; rw[h,d]at c; rcases c with c | c
 ·cases c
 ·cases w<;>simp [fits,bK]at c hn
  obtain⟨rfl,rfl⟩:=c; rfl
theorem JL{t:TypeId}{tv:Nat}{y:Operand}{ob p:Nat}(h:SD P τ Sgs F ds o x x1)(z:AF F x o)(C:o.guard=none)(u:o.dst=none)(ho:o.op= .store t (.tmp tv) y)(r:F.shOf tv= .one (.ptr ob p)): ∃i,τ t=some i∧Hk (.tmp tv) y i.size ob p x:=by
 have h:=Ha h C (fun c e=>by rw[ho]at e; cases e)
 have d:=z (.tmp tv) (by rw[ho]; simp [Op.operands])
 unfold dOp at h; rw[u,ho]at h; simp only at h; split at h<;>try cases h
 ·rename_i i E H xs q f s
  have e:=Ll d r (show x.sl tv=_ from f) (by simp)
  cases e; unfold nU at h; split at h<;>try cases h
  rename_i cells m; obtain⟨k,h⟩:=aF h; simp only[z7]at k; have hz:=z12 k.1.1; exact⟨i,q,f,⟨xs,s,hz⟩,cells,m,by rw[←hz]; exact z32 k.1.2⟩
 ·rename_i i l I n j xs q f s
  have e:=Ll d r (show x.sl tv=_ from f) (by simp)
  cases e
theorem Ew{d:Nat}{t:Nat}(h:KS d (.tmp t)=true):d≠t:=fun e=>by
 subst e; simp [KS]at h
theorem Jg{v:V}{k j:Nat}{z:T}{xs:List T}(h:aM (v.setLeaf k j z)=some xs): ∃ys,aM v=some ys∧ys.length=xs.length:=by
 cases v with
 | tup d=>simp [V.setLeaf,aM]at h
 | one w=>
  cases k with
  | succ k=>exact⟨xs,h,rfl⟩
  | zero=>
   cases w with
   | c t=>cases j<;>(simp [V.setLeaf,W.setLeaf,aM]at h ⊢; subst h; rfl)
   | ag ys=>simp [V.setLeaf,W.setLeaf,aM]at h ⊢; subst h; simp
   | _=>exact⟨xs,h,rfl⟩
theorem JM{v y:Operand}{n ob p:Nat}(q:Js F v y o=true)(V:AF F x o)(h:SD P τ Sgs F ds o x x1)(H:Hk v y n ob p x1):Hk v y n ob p x:=by
 unfold Js at q; simp only[z7,z86]at q; obtain⟨S,q⟩:=q; split at q
 ·rename_i d t z i I ho
  simp only[z7]at q; have q:=q.1; have h:=Ha h S (fun c e=>by rw[ho]at e; cases e)
  obtain⟨E,T,U,rfl,_⟩:=Im (y:=x) h (by unfold qV; rw[ho]) (fun d t v I J=>by rw[ho]at J; cases J) (fun v _=>tX.refl _ x v)
  have M: ∀w,KS d w=true→ev (E.on x).sl w=ev x.sl w:=fun w X=>by
   cases w with
   | tmp t=>
    show(E.on x).sl t=x.sl t; simp only[Eff.on,T,I]; rw[z11 (fun e=>Ew X (z48 e))]
   | _=>rfl
  have O:(E.on x).ob ob=x.ob ob:=by
   have:E.ob ob=none:=by
    cases he:E.ob ob with
    | none=>rfl
    | some c=>
     have:=U ob (by rw[he]; rfl)
     unfold Jr at this; rw[I,ho]at this; cases this
   simp only[Eff.on,this]
  exact⟨by rw[←M v q.1]; exact H.ptr,by rw[←M y q.2]; exact H.val,by rw[←O]; exact H.room⟩
 ·rename_i t tx z I ho
  split at q<;>try cases q
  rename_i k k0 Q p0 n0 q0 L; have h:=Ha h S (fun c e=>by rw[ho]at e; cases e)
  have r:x.sl tx= .tup []∨fits (x.sl tx) (F.shOf tx)=true:=V (.tmp tx) (by rw[ho]; simp [Op.operands])
  unfold dOp at h; rw[I,ho]at h; simp only at h; split at h<;>try cases h
  ·rename_i i R Z xs W u Y
   have u:x.sl tx= .one (.ptr R Z):=u; rw[u,L]at r; rcases r with e | e
   ·cases e
   ·simp [fits,bK]at e
  ·rename_i i l pp m j xs W u Y
   have u:x.sl tx= .one (.pp l pp m j):=u; rw[u,L]at r; rcases r with e | e
   ·cases e
   simp only[fits,bK,z7,z22]at e; have N:l= .s k k0 Q:=e.1.1; subst N; unfold mS at h; split at h<;>try cases h
   split at h<;>try cases h
   split at h<;>try cases h
   obtain⟨_,h⟩:=aF h; cases h; have K:=H.room; refine⟨?_, ?_,K⟩
   ·have:=H.ptr
    cases v with
    | tmp tv=>
     have this:(hJ x.sl (.s k k0 Q) _ tv)=_:=this; simp only[hJ]at this; rw[z11 (Ne.symm (Ew q))]at this; exact this
    | _=>exact this
   ·obtain⟨ys,f,C⟩:=H.val
    cases y with
    | tmp ty=>
     have f:aM (hJ x.sl (.s k k0 Q) _ ty)=_:=f; simp only[hJ]at f; split at f
     ·obtain⟨zs,z1,z2⟩:=Jg f
      rename_i e; subst e; exact⟨zs,z1,z2.trans C⟩
     ·exact⟨ys,f,C⟩
    | _=>exact⟨ys,f,C⟩
 ·cases q
end

section
variable {P:Program} {τ:TypeId→Option TI} {Sgs:FuncId→List Sg} {F:FA} {ds:List (Option Nat)} {x x1:D} {o:Oper} {b b1:B} {g0:G} {w0:World} {a:Act} {g:G} {w:World}
theorem Dw(Q:aR P τ){t:TypeId}{tv:Nat}{y:Operand}{ob p:Nat}{i:TI}(ho:o.op= .store t (.tmp tv) y)(I:bH g0 w0 (b.S F.n x) a g w)(s:cI b (.tmp tv)=true)(z:cI b y=true)(E:b.hasO ob=true)(R:τ t=some i)(O:Hk (.tmp tv) y i.size ob p x):
  ∃d l,w.heap[g.β ob]? =some (.cells d l (0,0))∧a.eval (.tmp tv)= .pointer (some ⟨g.β ob,p,none⟩)∧g.own (g.β ob)= .obj ob∧
   ∀m:World,m.heap[g.β ob]? =some (.cells d l (0,0))→(execOp a.eval o).run P m= .ok .skip (m.setRow (g.β ob) (d.toList.take p++(a.eval y).cells.toList++d.toList.drop (p+(a.eval y).cells.toList.length)).toArray):=by
 obtain⟨J,⟨xs,T,hz⟩,cells,f,H⟩:=O; have h1:=I.ev_rv (.tmp tv) (fun _ _=> .none)
 rw[kN s,J]at h1; have L:a.eval (.tmp tv)= .pointer (some ⟨g.β ob,p,none⟩):=h1; obtain⟨d,l,r1,r2,Y,_⟩:=I.obs ob cells (by rw[GE E]; exact f)
 obtain⟨M,U,_,_,_⟩:=eM (I.ev_rv y (fun _ j=> .oc ob (p+j))) (by rw[kN z]; exact T)
 have r:(a.eval y).cells.toList.length=xs.length:=by simpa using M
 have h: ∀v∈(a.eval y).cells.toList,v.oneCell'=true:=fun v J=>by
  obtain⟨c,q⟩:=z74 J
  have f:c<xs.length:=by have:=bV q; simp only[z51]at this; omega
  obtain⟨u,u1,u2,_⟩:=U c xs[c] (z13 f)
  rw[z28]at q
  rw[q]at u1; cases u1; exact kU u2
 obtain⟨k,_,_,W,_,X,_⟩:=Q.get R; refine⟨d,l,r1,L,Y,fun m K=> ?_⟩
 have N:=run_storeCells_at P (g.β ob) p l (a.eval y).cells.toList 0 d m K (by rw[r,r2]; omega) h
 simp only[z69]at N; obtain⟨dst,op,Z,V,after,guard⟩:=o; simp only at ho; subst ho; have C: ¬ (a.eval y).cells.size≠k.size:=by rw[M,X,hz]; simp
 simp only[execOp,Instr.storeAt,L,Instr.sureAddr,Sem.run_bind,Sem.run_pure,Result.andThen_ok,storeVar,sizeOf,typeInfo,run_program,W,z11 C,N]
theorem JO(hT:aR P τ)(hA:Ag F b x){t:TypeId}{tx:Nat}{z:Operand}{l:Loc}{p0:List (Nat×Nat)}{n0 q0 ob I:Nat}{c:Array Value}{w':World}(hd:o.dst=none)(ho:o.op= .store t (.tmp tx) z)(C:F.shOf tx= .one (.pp l p0 n0 q0))(hs:bH g0 w0 (b.S F.n x) a g w)
  (h1:dOp τ F x o=some x1)(J:cOp τ F b o=some b1)(T:g.own I= .obj ob)(f:(execOp a.eval o).run P w= .ok .skip w'):(execOp a.eval o).run P (w.setRow I c)= .ok .skip (w'.setRow I c)∧w'.heap[I]? =w.heap[I]? :=by
 unfold cOp at J; rw[hd,ho]at J; simp only at J; unfold dOp at h1; rw[hd,ho]at h1; simp only at h1; split at J<;>try cases J
 ·rename_i e; rw[show kH F (.tmp tx)=F.shOf tx from rfl,C]at e; cases e
 rename_i i l' p' n' j' hi e; rw[show kH F (.tmp tx)=F.shOf tx from rfl,C]at e; cases e; unfold uD at J; obtain⟨K,_⟩:=aF J; simp only[z7]at K; obtain⟨⟨⟨⟨⟨⟨⟨c1,c2⟩,c3⟩,c4⟩,c5⟩,c6⟩,c7⟩,c8⟩:=K; have r:=hA.sl tx c1; rw[hi]at h1; split at h1<;>try cases h1
 ·rename_i i ob' p' xs hi k hy
  have k:x.sl tx= .one (.ptr ob' p'):=k; rw[k,C]at r; rcases r with e | e
  ·cases e
  ·simp [fits,bK]at e
 rename_i i' l' pp m j xs hi' k hy; cases hi'; have k:x.sl tx= .one (.pp l' pp m j):=k; have hl0:l'=l:=by
  rw[k,C]at r; rcases r with e | e
  ·cases e
  ·simp only[fits,bK,z7,z22]at e; exact e.1.1
 subst hl0; unfold mS at h1; split at h1<;>try cases h1
 rename_i x0 hat; split at h1<;>try cases h1
 rename_i es O; split at h1<;>try cases h1
 rename_i row H; obtain⟨V,_⟩:=aF h1; simp only[z7]at V; have hsz:=z12 V.1; have hle:=z32 V.2; obtain⟨a1,a2,a3,a4⟩:=nN (d:=F.n) hA c1 c3 (.inr ⟨pp,m,j,k⟩); have E:(b.S F.n x).at l'=some x0:=by rw[DZ a4]; exact hat
 obtain⟨hk2,v0,Y,M,len,N,v1,v2,U,L⟩:=hs.ppCell (by rw[lE c1]; exact k) a1 a3 E O H
 have W:=hs.pl_rd hk2 v1 E v2; have hne:I≠Y:=by
  intro e; subst e; generalize hvv:Value.slice (some ⟨I,M,none⟩) len N=v at W; cases W with
  | nil a N=>simp at H
  | sl Y off' len' cap' s es cs hl K hs2 hP hm Z=>
   cases hvv; exact hP.2 ob T
 obtain⟨k1,k2,_,_,_⟩:=eM (hs.ev_rv z (fun _ _=> .none)) (by rw[kN c2]; exact hy)
 have hcs:(a.eval z).cells.toList.length=xs.length:=by simpa using k1
 have R: ∀v∈(a.eval z).cells.toList,v.oneCell'=true:=fun v k=>by
  obtain⟨c,K⟩:=z74 k
  have hcl:c<xs.length:=by have:=bV K; simp only[z51]at this; omega
  obtain⟨u,u1,u2,_⟩:=k2 c xs[c] (z13 hcl)
  rw[z28]at K
  rw[K]at u1; cases u1; exact kU u2
 obtain⟨X,_,_,q1,_,q3,_⟩:=hT.get hi; obtain⟨dst,op,ty',pos,after,guard⟩:=o; simp only at ho; subst ho; have Q: ¬ (a.eval z).cells.size≠X.size:=by rw[k1,q3,hsz]; simp
 have e1:a.eval (.tmp tx)= .pointer (some ⟨Y,M+m*row.length+j,none⟩):=U; simp only[execOp,Instr.storeAt,e1,Instr.sureAddr,Sem.run_bind,Sem.run_pure,Result.andThen_ok,storeVar,sizeOf,typeInfo,run_program,q1,z11 Q]at f ⊢; cases Z:(storeCells ⟨Y,M+m*row.length+j,none⟩ (a.eval z).cells.toList).run P w with
 | halt h w2=>rw[Z]at f; simp [Result.andThen]at f
 | ok u w2=>
  rw[Z]at f; simp only[Result.andThen_ok,Result.ok.injEq,Ci]at f; subst f; obtain⟨s1,s2⟩:=pU (c:=c) hne _ 0 w w2 R (fun q V=>by
   rw[hcs]at V; have hlt:q<(row.drop j).length:=by rw[z79]; omega
   obtain⟨u,hu,_⟩:=L q _ (z13 hlt)
   exact⟨u,by rw[z69]; exact hu⟩) Z
  exact⟨by rw[s1]; rfl,s2⟩
theorem JN(M:aR P τ)(X:Ag F b x){t:TypeId}{d:Nat}{v i:Operand}(Y:o.dst=some d)(ho:o.op= .indexAddr t v i)(f:(fK (F.shOf d)&&oN F v)=true)(E:bH g0 w0 (b.S F.n x) a g w)
  (h1:dOp τ F x o=some x1)(h:cOp τ F b o=some b1): ∃u, ∀q,(execOp a.eval o).run P q= .ok (.value u) q:=by
 unfold dOp at h1; unfold cOp at h; rw[Y,ho]at h1 h; simp only at h1 h; have W:=f; rw[W,z18]at h; simp only[z7]at f; unfold yG at h; split at h<;>try cases h
 rename_i s; obtain⟨N,_⟩:=aF h; simp only[z7]at N; obtain⟨⟨⟨⟨c1,L⟩,T⟩,c4⟩,U⟩:=N; have H:mV (ev x.sl (.tmp s))=true:=by
  cases hq:mV (ev x.sl (.tmp s))with
  | true=>rfl
  | false=>
   rw[hq,z71,z16]at h1; have:=FD (t:=t) (i:=i) X (show cI b (.tmp s)=true from L) (.inl h1); rw[hq,f.2]at this; cases this
 rw[f.1,H,MC,z18]at h1; unfold mT at h1; split at h1<;>try cases h1
 rename_i s' e k n r I J Z hv; cases I; split at h1<;>try cases h1
 rename_i row m; obtain⟨ei,Q,q2,R,q4⟩:=xA m; have O:(b.S F.n x).sl s= .one (.c (.sl r)):=by rw[lE L]; exact hv
 have z:(b.S F.n x).at (.s s 0 0)=some (.sl r):=by rw[St.at_s,O]; rfl
 have h1:=E.slots s; rw[O]at h1; have K:vAt a.tmps g.β w (.s s 0 0)=some (a.tmps.getD s undef):=(eV h1.1).2; have C:=E.pl_rd U K z (.nil _ _); obtain⟨_,_,_,l⟩:=jE M Q; obtain⟨b',off,len,V,p1,hl,_⟩:=Bp (β:=g.β) C R q4 l; have hlt:n.toNat<r.length:=bV R; exact⟨_,fun q=>lL M J Q (ρ:=a.eval) (x:= .tmp s) p1 (E.int (show ev (b.S F.n x).sl i=_ by rw[kN T]; exact Z)) q2 (by omega) ho q⟩
end

structure wC (F:FA) (ops ops':Array Oper) (n:Nat) (A:Oper) (t:TypeId) (tv:Nat) (y:Operand) (ob p:Nat):Prop where
 size:ops.size=n+1
 size':ops'.size=n+1
 same: ∀i,i<n→ops'[i]? =ops[i]?
 last:ops[n]? =some A
 last':ops'[n]? =some (rP n A)
 ds:ops'.toList.map (·.dst)=ops.toList.map (·.dst)
 op:A.op= .store t (.tmp tv) y
 dst:A.dst=none
 guard:A.guard=none
 sh:F.shOf tv= .one (.ptr ob p)
 edge: ∀e∈A.after,Region.binds .any e=true→e.on<n
 cls: ∀j,j<n→((Region.before ops).getD n 0).testBit j=true∨ ∀o,ops[j]? =some o→Js F (.tmp tv) y o=true

def NoQ:Exit→Act→World→Prop:=fun _ _ _=>False
theorem Kq: ¬ LetsOut NoQ:=fun⟨_,_,h⟩=>h
theorem OK{P:Program}{ops:Array Oper}{i:Nat}{o:Oper}{K:Act→World→Prop}{a:Act}{w:World}(h:wpOp P ops NoQ i K a w)(d:ops[i]? =some o)(c:o.guard=none):o.wp P a w K NoQ:=by
 unfold wpOp at h; simp only[d,Region.wanted,c,if_true]at h; exact h.resolve_right (fun e=>Kq e.2)
theorem yQ{ops:Array Oper}{c:Array Bool}(s:c.size=ops.size)(q: ∀j o,ops[j]? =some o→ ∀e∈o.after,Region.binds .any e=true→e.on<j)(r:Region.ready .any ops c=[]): ∀j,j<ops.size→c.getD j false=true:=by
 have f: ∀j,j<ops.size→c.getD j true=c.getD j false:=fun j z=>by
  have:j<c.size:=by omega
  simp [Array.getD,this]
 intro j; induction j using Nat.strongRecOn with
 | _ j u=>
  intro k; rcases z146 (c.getD j false)with h | h
  ·exact h
  ·exfalso
   have:j∈Region.ready .any ops c:=by
    rw[mem_ready]; refine⟨by rw[f j k]; exact h,ops[j],z66 k,fun e d m=> ?_⟩
    have l:=q j _ (z66 k) e d m
    exact u e.on l (by omega)
   rw[r]at this; cases this

section
variable {P:Program} {τ:TypeId→Option TI} {Sgs:FuncId→List Sg} {F:FA} {ops ops':Array Oper} {n:Nat} {A:Oper} {t:TypeId} {tv:Nat} {y:Operand} {ob p:Nat} {x xn:D}
theorem yX(H:wC F ops ops' n A t tv y ob p){ds:List (Option Nat)}: ∀ {L:List Nat} {x x':D},AE P τ Sgs F ds ops L x x'→AE P τ Sgs F ds ops' L x x'
 | [],_,_,h=>h
 | i::r,x,x',⟨o,x1,h1,d,f,k⟩=>by
  by_cases e:i<n
  ·exact⟨o,x1,by rw[H.same i e]; exact h1,d,f,yX H k⟩
  ·have l:i<ops.size:=(z30.1 h1).1
   have c:i=n:=by have:=H.size; omega
   have ho:o=A:=by rw[c,H.last]at h1; exact(z48 h1).symm
   exact⟨rP n A,x1,by rw[c]; exact H.last',by rw[ho]at d; exact d,by rw[ho]at f; exact f,yX H k⟩
theorem yY(H:wC F ops ops' n A t tv y ob p){ds:List (Option Nat)}: ∀ {L:List Nat} {x:D},AE P τ Sgs F ds ops' (L++[n]) x xn→(∀j∈L,j<n∧ ∀o,ops[j]? =some o→Js F (.tmp tv) y o=true)→ ∃i,τ t=some i∧Hk (.tmp tv) y i.size ob p x
 | [],x,⟨o,x1,h1,c,d,_⟩,_=>by
  rw[H.last']at h1; cases h1; exact JL d c H.guard H.dst H.op H.sh
 | j::r,x,⟨o,x1,h1,c,d,l⟩,k=>by
  obtain⟨i,m,q⟩:=yY H l (fun j h=>k j (z24 _ h))
  obtain⟨h,f⟩:=k j z25; rw[H.same j h]at h1; exact⟨i,m,JM (f o h1) c d q⟩
theorem wC.filt(H:wC F ops ops' n A t tv y ob p){c:Array Bool}(d:c.size=n+1)(hn:c.getD n false=false):(List.range ops.size).filter (fun j=> !c.getD j true)=(List.range n).filter (fun j=> !c.getD j true)++[n]:=by
 rw[H.size,List.range_succ,z138]; congr 1
 rw[z151]
 ·rfl
 ·have:c.getD n true=c.getD n false:=by simp [Array.getD,d]
  rw[this,hn]; rfl
theorem wC.edges(H:wC F ops ops' n A t tv y ob p){ds:List (Option Nat)}(d:kD F ds ops'=true): ∀j o,ops[j]? =some o→ ∀e∈o.after,Region.binds .any e=true→e.on<j:=by
 intro j o ho e h f; have l:j<ops.size:=(z30.1 ho).1
 by_cases k:j<n
 ·simp only[kD,z7,z14,z55]at d
  have h1:=d.1 j (by rw[H.size']; omega)
  rw[H.same j k,ho]at h1; simp only[z84]at h1; have c:=h1 e h; simp only[f,z46,z52]at c; exact bY c
 ·have:j=n:=by have:=H.size; omega
  subst this; rw[H.last]at ho; cases ho; exact H.edge e h f
theorem wC.left(H:wC F ops ops' n A t tv y ob p){c:Array Bool}(f:kJ ops (fun j=>c.getD j false=true))(k: ∀e∈A.after,Region.binds .any e=true→c.getD e.on false=true){j:Nat}(r:j<n)(s:c.getD j false=false): ∀o,ops[j]? =some o→Js F (.tmp tv) y o=true:=by
 refine(H.cls j r).resolve_left (fun q=> ?_)
 have m:kJ ops (fun j=>j=n∨c.getD j false=true):=by
  intro i o ho h e l d; rcases h with rfl | h
  ·rw[H.last]at ho
   cases ho; exact .inr (k e l d)
  ·exact .inr (f i o ho h e l d)
 rcases jW m (.inl rfl) q with e | e
 ·omega
 ·rw[s]at e; cases e
theorem jG{ds:List (Option Nat)}{mt:B→B→B}{q:Nat→B→Bool}{os:List Oper}{k:Nat}{L R:Lvl}(h:mQ τ Sgs F ds mt q os (k+1) L=some R):(∀m b,mB m L=some b→q m b=true)∧ ∃d,Aj τ Sgs F ds mt os L []=some d∧mQ τ Sgs F ds mt q os k d=some R:=by
 unfold mQ at h; obtain⟨h1,f⟩:=aF h; refine⟨fun m b z=> ?_, ?_⟩
 ·have s: ∀L:Lvl,L.all (fun p=>q p.1 p.2)=true→mB m L=some b→q m b=true:=by
   intro L; induction L with
   | nil=>intro _ h; cases h
   | cons p r ih=>
    obtain⟨C,E⟩:=p; intro l c; simp only[Jp,z7]at l; simp only[mB]at c; cases e:Nat.beq m C with
    | true=>
     have:=z12 e; subst this; rw[e]at c; cases c; exact l.1
    | false=>rw[e]at c; exact ih l.2 c
  exact s L h1 z
 ·split at f
  ·rename_i d u; exact⟨d,u,f⟩
  ·cases f
theorem Lx{ds:List (Option Nat)}{b b1:B}{o:Oper}(h:oH τ Sgs F ds b o=some b1)(f: ∀c,o.op≠ .call c): ∃b2,cOp τ F b o=some b2:=by
 obtain⟨b2,d,_⟩:=CF h; refine⟨b2, ?_⟩
 unfold KN at d; have:cL o=none:=by
  unfold cL; split
  ·rename_i c e; exact absurd e (f c)
  ·rfl
 rw[this]at d; exact d
theorem HB{o:Oper}{ev:Operand→Value}{t:TypeId}{v z:Operand}(ho:o.op= .store t v z){c:Next}{w w':World}(h:(execOp ev o).run P w= .ok c w'):c= .skip:=by
 obtain⟨dst,op,f,d,after,guard⟩:=o; simp only at ho; subst ho; simp only[execOp,Sem.run_bind]at h; cases hr:(Instr.storeAt t (ev v) (ev z)).run P w with
 | halt x k=>rw[hr]at h; simp [Result.andThen]at h
 | ok u k=>
  rw[hr]at h; simp only[Result.andThen_ok,Sem.run_pure,Result.ok.injEq]at h; exact h.1.symm
theorem NA(hT:aR P τ)(H:wC F ops ops' n A t tv y ob p)(hO:kD F (ops'.toList.map (·.dst)) ops'=true){mt:B→B→B}{mf:Nat}{bf:B}{g0:G}{w0:World}{Q:Exit→Act→World→Prop}{a0:Act}
  (hQ: ∀a w,Sim g0 w0 (bf.S F.n xn) a w→(∀z,sD z ops.toList=true→a.tmps.getD z undef=a0.tmps.getD z undef)→Q .normal a w){bA:Nat}{arr:Array Value}{ty:TypeId}{vs:List Value}:
  ∀(k:Nat) (listed:Array Bool) (m:Nat) (L:Lvl) (b:B) (x:D) (a:Act) (w:World),mQ τ Sgs F (ops'.toList.map (·.dst)) mt (EJ A (.tmp tv) y ob) ops'.toList (k+1) L=some [(mf,bf)]→mB m L=some b→listed.size=n+1→listed.getD n false=false→
   (∀i,i<n+1→m.testBit i=listed.getD i false)→kJ ops (fun j=>listed.getD j false=true)→(∀e∈A.after,Region.binds .any e=true→listed.getD e.on false=true)→(List.range ops.size).countP (fun i=> !listed.getD i true)=k+1→Ag F b x→
   AE P τ Sgs F (ops'.toList.map (·.dst)) ops' ((List.range ops.size).filter fun j=> !listed.getD j true) x xn→Sim g0 w0 (b.S F.n x) a w→(∀z,sD z ops.toList=true→a.tmps.getD z undef=a0.tmps.getD z undef)→
   a.eval (.tmp tv)= .pointer (some ⟨bA,p,none⟩)→w.heap[bA]? =some (.cells arr ty (0,0))→(a.eval y).cells.toList=vs→
   wpAny P .any ops Q k (listed.setIfInBounds n true) a (w.setRow bA (arr.toList.take p++vs++arr.toList.drop (p+vs.length)).toArray):=by
 have hdn: ∀(listed:Array Bool),listed.size=n+1→ ∀j,j<n+1→listed.getD j true=listed.getD j false:=fun listed h1 j h2=>by
  have:j<listed.size:=by omega
  simp [Array.getD,this]
 have facts: ∀(k:Nat) (listed:Array Bool) (m:Nat) (L:Lvl) (b:B) (x:D) (a:Act) (w:World) (g:G),mQ τ Sgs F (ops'.toList.map (·.dst)) mt (EJ A (.tmp tv) y ob) ops'.toList (k+1) L=some [(mf,bf)]→mB m L=some b→listed.size=n+1→listed.getD n false=false→
   (∀i,i<n+1→m.testBit i=listed.getD i false)→kJ ops (fun j=>listed.getD j false=true)→(∀e∈A.after,Region.binds .any e=true→listed.getD e.on false=true)→
   AE P τ Sgs F (ops'.toList.map (·.dst)) ops' ((List.range ops.size).filter fun j=> !listed.getD j true) x xn→bH g0 w0 (b.S F.n x) a g w→a.eval (.tmp tv)= .pointer (some ⟨bA,p,none⟩)→w.heap[bA]? =some (.cells arr ty (0,0))→(a.eval y).cells.toList=vs→
   g.own bA= .obj ob∧(execOp a.eval A).run P w= .ok .skip (w.setRow bA (arr.toList.take p++vs++arr.toList.drop (p+vs.length)).toArray):=by
  intro k listed m L b x a w g hL hm hsz hn hbit hcl hrd hrun hs hev hh hvs; have hq:=(jG hL).1 m b hm; have hrdy:fR m A=true:=by
   simp only[fR,z14]; intro e he; cases hb:Region.binds .any e with
   | false=>rfl
   | true=>
    have h1:=hrd e (z42.1 he) hb; have h2:=H.edge e (z42.1 he) hb; simp only[z46,z52]; rw[hbit e.on (by omega)]; exact h1
  simp only[EJ,hrdy,z46,z52,z7]at hq; rw[H.filt hsz hn]at hrun; obtain⟨i,hi,hl⟩:=yY H hrun (fun j hj=>by
   rw[z76,z55]at hj; refine⟨hj.1,H.left hcl hrd hj.1 ?_⟩
   rw[←hdn listed hsz j (by omega)]
   simpa using hj.2)
  obtain⟨arr',ty',h1,h2,h3,h4⟩:=Dw (P:=P) hT H.op hs hq.1.1 hq.1.2 hq.2 hi hl; rw[hev]at h2; have e:g.β ob=bA:=by simpa using h2.symm
  rw[e]at h1 h3 h4; rw[hh]at h1; cases h1; rw[hvs]at h4; exact⟨h3,h4 w hh⟩
 intro k; induction k with
 | zero=>
  intro listed m L b x a w hL hm hsz hn hbit hcl hrd hcount hA hrun hs hz hev hh hvs; obtain⟨g,hsg⟩:=hs; obtain⟨hown,hexec⟩:=facts 0 listed m L b x a w g hL hm hsz hn hbit hcl hrd hrun hsg hev hh hvs; obtain⟨_,L',hL',hL0⟩:=jG hL; cases hL0; rw[z59]at hcount; rw[H.filt hsz hn]at hrun hcount; have hnil:(List.range n).filter (fun j=> !listed.getD j true)=[]:=by
   rw[z21,z26]at hcount; exact z73.1 (by omega)
  have hall: ∀j,j<n→listed.getD j false=true:=fun j hj=>by
   rw[←hdn listed hsz j (by omega)]
   have:=Oo.1 hnil j (z55.2 hj); simpa using this
  rw[hnil]at hrun; obtain⟨o,x1,h1,hfo,hsd,hx⟩:=hrun; have hx:x1=xn:=hx; subst hx; rw[H.last']at h1; cases h1; have hrdy:fR m (rP n A)=true:=by
   simp only[fR,z14]; intro e he; have he:e∈((List.range n).map fun j=>(⟨j, .data⟩:Edge)):=by simpa [rP]using he
   obtain⟨j,hj,rfl⟩:=z47.1 he; have hj:=z55.1 hj; simp only[hbit j (by omega),hall j hj,Bool.or_true]
  obtain⟨b1,b2,s1,s2,cv⟩:=(pF hL').2 m b hm n (rP n A) (by rw[z28]; exact H.last') (by rw[hbit n (by omega)]; exact hn) hrdy
  simp only[mB]at s2; cases h3:Nat.beq (m||| 2 ^ n) mf with
  | false=>rw[h3]at s2; cases s2
  | true=>
   rw[h3]at s2; cases s2; obtain⟨hA1,hw1⟩:=hsd.step (P:=P) hT hA H.last' s1; obtain⟨hA2,cs⟩:=cv x1 hA1; have hk:=hw1 g0 w0 NoQ (fun a' w'=>Sim g0 w0 (bf.S F.n x1) a' w'∧a'=a) a w ⟨g,hsg⟩ (fun v w' hs'=>⟨cs _ _ _ _ hs',by show(match A.dst with | some d=>_ | none=>a)=a; rw[H.dst]⟩)
   have hwp:=OK hk H.last' H.guard; unfold Oper.wp at hwp; have hexec':(execOp a.eval (rP n A)).run P w= .ok .skip (w.setRow bA (arr.toList.take p++vs++arr.toList.drop (p+vs.length)).toArray):=hexec; rw[hexec']at hwp; have hwp:Sim g0 w0 (bf.S F.n x1) (a.put (rP n A).dst undef) _∧_=a:=hwp; rw[hwp.2]at hwp; refine⟨?_,hQ a _ hwp.1 hz⟩
   apply z128.2
   intro j hj; obtain⟨h1,o,ho,_⟩:=mem_ready.1 hj; have hlt:j<ops.size:=(z30.1 ho).1
   have hsize:=H.size; by_cases e:j=n
   ·subst e
    have:(listed.setIfInBounds j true).getD j true=true:=by simp [Array.getD]
    rw[this]at h1; cases h1
   ·rw[getD_set_ne true (Ne.symm e),hdn listed hsz j (by omega),hall j (by omega)]at h1
    cases h1
 | succ k ih=>
  intro listed m L b x a w hL hm hsz hn hbit hcl hrd hcount hA hrun hs hz hev hh hvs; obtain⟨g,hsg⟩:=hs; obtain⟨hown,_⟩:=facts (k+1) listed m L b x a w g hL hm hsz hn hbit hcl hrd hrun hsg hev hh hvs; have hsize:=H.size; refine⟨fun hr=> ?_,fun i hi=> ?_⟩
  ·exfalso
   have hall:=yQ (by simpa [hsize]using hsz) (H.edges hO) hr
   have hnil:(List.range n).filter (fun j=> !listed.getD j true)=[]:=Oo.2 fun j hj=>by
    have hj:=z55.1 hj; have:=hall j (by omega)
    rw[getD_set_ne false (by omega)]at this
    rw[hdn listed hsz j (by omega),this]; simp
   rw[z59,H.filt hsz hn,hnil]at hcount; simp at hcount
  ·obtain⟨hun,o,ho,hafter⟩:=mem_ready.1 hi
   have hlt:i<ops.size:=(z30.1 ho).1
   have hin:i≠n:=fun e=>by
    subst e; have:(listed.setIfInBounds i true).getD i true=true:=by simp [Array.getD]
    rw[this]at hun; cases hun
   have hlt':i<n:=by omega
   rw[getD_set_ne true (Ne.symm hin)]at hun; have hun':listed.getD i false=false:=by rw[←hdn listed hsz i (by omega)]; exact hun
   have ho':ops'[i]? =some o:=by rw[H.same i hlt']; exact ho
   have haft: ∀e∈o.after,Region.binds .any e=true→listed.getD e.on false=true:=fun e he hb=>by
    have h1:=hafter e he hb; have h2:=H.edges hO i o ho e he hb; rwa[getD_set_ne false (by omega)]at h1
   have hcls:=H.left hcl hrd hlt' hun' o ho; have hcl':kJ ops (fun j=>(listed.setIfInBounds i true).getD j false=true):=by
    intro j oj hoj hj e he hb; by_cases hij:i=j
    ·subst hij
     rw[ho]at hoj; cases hoj; exact getD_set_true (haft e he hb)
    ·rw[getD_set_ne false hij]at hj
     exact getD_set_true (hcl j oj hoj hj e he hb)
   have hclO:kJ ops' (fun j=>(listed.setIfInBounds i true).getD j false=true):=by
    intro j oj hoj hj e he hb; have hjlt:j<n+1:=by have:=(z30.1 hoj).1; have:=H.size'; omega
    have hjn:j≠n:=fun e=>by
     subst e; rw[getD_set_ne false hin,hn]at hj; cases hj
    rw[H.same j (by omega)]at hoj
    exact hcl' j oj hoj hj e he hb
   have hset:(listed.setIfInBounds i true).getD i false=true:=by
    have:i<listed.size:=by omega
    simp [Array.getD,this]
   obtain⟨A',C,f1,f2,f3⟩:=vG (ops:=ops) (by rw[hsize]; exact hsz) hlt hun
   rw[f1]at hrun; have hO2:=hO; simp only[kD,z7,z14,z55]at hO2; obtain⟨hfo,x1,hsd,hrun1⟩:=hrun.front ho' (fun j hj a' ha'=>by
    obtain⟨j1,j2⟩:=f3 j hj; have h1:=hO2.2 i (by rw[H.size']; omega) j j1
    rw[ha',ho']at h1; simp only[z38]at h1; refine h1.resolve_left (fun h2=> ?_)
    have:=jW (D:=fun j=>(listed.setIfInBounds i true).getD j false=true) hclO hset h2
    rw[getD_set_ne false (by omega)]at this
    rw[hdn listed hsz j (by omega)]at j2
    rw[j2]at this; cases this)
   have hrdy:fR m o=true:=by
    simp only[fR,z14]; intro e he; cases hb:Region.binds .any e with
    | false=>rfl
    | true=>
     have h1:=haft e (z42.1 he) hb; have h2:=H.edges hO i o ho e (z42.1 he) hb; simp only[z46,z52]; rw[hbit e.on (by omega)]; exact h1
   obtain⟨_,L',hL',hL0⟩:=jG hL; obtain⟨b1,b2,s1,s2,cv⟩:=(pF hL').2 m b hm i o (by rw[z28]; exact ho') (by rw[hbit i (by omega)]; exact hun') hrdy
   obtain⟨hA1,hw1⟩:=hsd.step (P:=P) hT hA ho' s1; obtain⟨hA2,cs⟩:=cv x1 hA1; have hk:=hw1 g0 w0 NoQ (fun a' w'=>Sim g0 w0 (b2.S F.n x1) a' w') a w ⟨g,hsg⟩ (fun v w' hs'=>cs _ _ _ _ hs')
   have hg:o.guard=none:=by
    unfold Js at hcls; simp only[z7,z86]at hcls; exact hcls.1
   have hwp:=OK hk ho' hg; have hwant: ∀a:Act,Region.wanted o (yielded ops a.tmps)=true:=fun a=>by unfold Region.wanted; rw[hg]
   have next: ∀(u:Value) (w2:World),Sim g0 w0 (b2.S F.n x1) (a.put o.dst u) w2→(a.put o.dst u).eval (.tmp tv)=a.eval (.tmp tv)→(a.put o.dst u).eval y=a.eval y→w2.heap[bA]? =w.heap[bA]? →
     wpAny P .any ops Q k ((listed.setIfInBounds n true).setIfInBounds i true) (a.put o.dst u) (w2.setRow bA (arr.toList.take p++vs++arr.toList.drop (p+vs.length)).toArray):=fun u w2 hs2 e1 e2 e3=>by
    rw[Array.setIfInBounds_comm _ _ (Ne.symm hin)]; refine ih (listed.setIfInBounds i true) (m||| 2 ^ i) L' b2 x1 _ w2 hL0 s2 (by simpa using hsz) (by rw[getD_set_ne false hin]; exact hn) (fun j hj=> ?_) hcl' (fun e he hb=>getD_set_true (hrd e he hb)) ?_ hA2 (by rw[f2]; exact hrun1) hs2 (fun z hno=> ?_) (by rw[e1]; exact hev) (by rw[e3]; exact hh) (by rw[e2]; exact hvs)
    ·rw[MD,Nz,hbit j hj]
     by_cases hij:i=j
     ·subst hij; rw[hset]; simp
     ·rw[getD_set_ne false hij]; simp [hij]
    ·rw[z59]at hcount ⊢
     rw[f1]at hcount; rw[f2]; simp only[z21,z27]at hcount ⊢; omega
    ·have hne:o.dst≠some z:=by
      have key: ∀l:List Oper,sD z l=true→ ∀o∈l,o.dst≠some z:=by
       intro l; induction l with
       | nil=>intro _ o h; cases h
       | cons p r ihl=>
        intro h o hm; simp only[sD,z7,z37,z36]at h; cases hm with
        | head=>exact h.1
        | tail _ hm=>exact ihl h.2 o hm
      exact key ops.toList hno o (z42.2 (z129 ho))
     rw[tC hne]; exact hz z hno
   unfold Js at hcls; simp only[z7]at hcls; have hcls:=hcls.2; split at hcls
   ·rename_i d t' z i' hd hop
    simp only[z7]at hcls; obtain⟨b3,hb3⟩:=Lx s1 (fun c e=>by rw[hop]at e; cases e)
    obtain⟨u,hu⟩:=JN (P:=P) hT hA hd hop (by simp only[z7]; exact hcls.2) hsg (Ha hsd hg (fun c e=>by rw[hop]at e; cases e)) hb3
    unfold Oper.wp at hwp; rw[hu]at hwp; have hwp:Sim g0 w0 (b2.S F.n x1) (a.put o.dst u) w:=hwp; have hev1: ∀v,KS d v=true→(a.put o.dst u).eval v=a.eval v:=fun v hv=>Act.eval_put (fun d' e1 e2=>by
     rw[hd]at e1; cases e1; subst e2; exact Ew hv rfl)
    refine xV ho true (hwant a) ?_
    show o.wp P a _ _ _; unfold Oper.wp; rw[hu]; exact next u w hwp (hev1 _ hcls.1.1) (hev1 _ hcls.1.2) rfl
   ·rename_i t' tx z hd hop
    split at hcls<;>try cases hcls
    rename_i k0 k1 j0 p0 n0 q0 hsh; obtain⟨b3,hb3⟩:=Lx s1 (fun c e=>by rw[hop]at e; cases e)
    unfold Oper.wp at hwp; cases hr:(execOp a.eval o).run P w with
    | halt x2 w2=>
     rw[hr]at hwp; exfalso
     cases x2<;>exact hwp
    | ok nx w2=>
     have:=HB hop hr; subst this; rw[hr]at hwp; have hwp:Sim g0 w0 (b2.S F.n x1) (a.put o.dst undef) w2:=hwp; obtain⟨r1,r2⟩:=JO (P:=P) (c:=(arr.toList.take p++vs++arr.toList.drop (p+vs.length)).toArray) hT hA hd hop hsh hsg (Ha hsd hg (fun c e=>by rw[hop]at e; cases e)) hb3 hown hr
     refine xV ho true (hwant a) ?_
     show o.wp P a _ _ _; unfold Oper.wp; rw[r1]; exact next undef w2 hwp (by rw[hd]; rfl) (by rw[hd]; rfl) r2
   ·cases hcls
theorem LZ(hT:aR P τ)(H:wC F ops ops' n A t tv y ob p)(hO:kD F (ops'.toList.map (·.dst)) ops'=true){mt:B→B→B}{mf:Nat}{bf:B}{g0:G}{w0:World}{Q:Exit→Act→World→Prop}{a0:Act}
  (hQ: ∀a w,Sim g0 w0 (bf.S F.n xn) a w→(∀z,sD z ops.toList=true→a.tmps.getD z undef=a0.tmps.getD z undef)→Q .normal a w):
  ∀(k:Nat) (listed:Array Bool) (m:Nat) (L:Lvl) (b:B) (x:D) (a:Act) (w:World),mQ τ Sgs F (ops'.toList.map (·.dst)) mt (EJ A (.tmp tv) y ob) ops'.toList (k+1) L=some [(mf,bf)]→mB m L=some b→listed.size=n+1→listed.getD n false=false→
   (∀i,i<n+1→m.testBit i=listed.getD i false)→kJ ops (fun j=>listed.getD j false=true)→(List.range ops.size).countP (fun i=> !listed.getD i true)=k+1→Ag F b x→
   AE P τ Sgs F (ops'.toList.map (·.dst)) ops' ((List.range ops.size).filter fun j=> !listed.getD j true) x xn→Sim g0 w0 (b.S F.n x) a w→(∀z,sD z ops.toList=true→a.tmps.getD z undef=a0.tmps.getD z undef)→
   wpAny P .any ops Q (k+1) listed a w:=by
 have hdn: ∀(listed:Array Bool),listed.size=n+1→ ∀j,j<n+1→listed.getD j true=listed.getD j false:=fun listed h1 j h2=>by
  have:j<listed.size:=by omega
  simp [Array.getD,this]
 have hsize:=H.size
 have now: ∀(k:Nat) (listed:Array Bool) (m:Nat) (L:Lvl) (b:B) (x:D) (a:Act) (w:World),mQ τ Sgs F (ops'.toList.map (·.dst)) mt (EJ A (.tmp tv) y ob) ops'.toList (k+1) L=some [(mf,bf)]→mB m L=some b→listed.size=n+1→listed.getD n false=false→
   (∀i,i<n+1→m.testBit i=listed.getD i false)→kJ ops (fun j=>listed.getD j false=true)→(∀e∈A.after,Region.binds .any e=true→listed.getD e.on false=true)→(List.range ops.size).countP (fun i=> !listed.getD i true)=k+1→Ag F b x→
   AE P τ Sgs F (ops'.toList.map (·.dst)) ops' ((List.range ops.size).filter fun j=> !listed.getD j true) x xn→Sim g0 w0 (b.S F.n x) a w→(∀z,sD z ops.toList=true→a.tmps.getD z undef=a0.tmps.getD z undef)→
   wpOp P ops Q n (wpAny P .any ops Q k (listed.setIfInBounds n true)) a w:=by
  intro k listed m L b x a w hL hm hsz hn hbit hcl hrd hcount hA hrun hs hz; have hq:=(jG hL).1 m b hm; have hrdy:fR m A=true:=by
   simp only[fR,z14]; intro e he; cases hb:Region.binds .any e with
   | false=>rfl
   | true=>
    have h1:=hrd e (z42.1 he) hb; have h2:=H.edge e (z42.1 he) hb; simp only[z46,z52]; rw[hbit e.on (by omega)]; exact h1
  simp only[EJ,hrdy,z46,z52,z7]at hq; have hrun2:=hrun; rw[H.filt hsz hn]at hrun2; obtain⟨i,hi,hl⟩:=yY H hrun2 (fun j hj=>by
   rw[z76,z55]at hj; refine⟨hj.1,H.left hcl hrd hj.1 ?_⟩
   rw[←hdn listed hsz j (by omega)]
   simpa using hj.2)
  obtain⟨g,hsg⟩:=hs; obtain⟨arr,ty,h1,h2,h3,h4⟩:=Dw (P:=P) hT H.op hsg hq.1.1 hq.1.2 hq.2 hi hl; have hp:=NA hT H hO hQ k listed m L b x a w hL hm hsz hn hbit hcl hrd hcount hA hrun ⟨g,hsg⟩ hz h2 h1 rfl; refine xV H.last true (by unfold Region.wanted; rw[H.guard]) ?_
  show A.wp P a w _ _; unfold Oper.wp; rw[h4 w h1]; show wpAny P .any ops Q k (listed.setIfInBounds n true) (a.put A.dst undef) _; rw[H.dst]; exact hp
 intro k; induction k with
 | zero=>
  intro listed m L b x a w hL hm hsz hn hbit hcl hcount hA hrun hs hz; have hnil:(List.range n).filter (fun j=> !listed.getD j true)=[]:=by
   rw[z59,H.filt hsz hn,z21,z26]at hcount; exact z73.1 (by omega)
  have hall: ∀j,j<n→listed.getD j false=true:=fun j hj=>by
   rw[←hdn listed hsz j (by omega)]
   have:=Oo.1 hnil j (z55.2 hj); simpa using this
  refine⟨fun hr=> ?_,fun i hi=> ?_⟩
  ·exfalso
   have:=yQ (by rw[hsize]; exact hsz) (H.edges hO) hr n (by omega)
   rw[hn]at this; cases this
  ·obtain⟨hun,o,ho,_⟩:=mem_ready.1 hi
   have hlt:i<ops.size:=(z30.1 ho).1
   have hin:i=n:=by
    rcases Jo i n with h | h
    ·rw[hdn listed hsz i (by omega),hall i h]at hun; cases hun
    ·omega
   rw[hin]; exact now 0 listed m L b x a w hL hm hsz hn hbit hcl (fun e he hb=>hall e.on (H.edge e he hb)) hcount hA hrun hs hz
 | succ k ih=>
  intro listed m L b x a w hL hm hsz hn hbit hcl hcount hA hrun hs hz; refine⟨fun hr=> ?_,fun i hi=> ?_⟩
  ·exfalso
   have:=yQ (by rw[hsize]; exact hsz) (H.edges hO) hr n (by omega)
   rw[hn]at this; cases this
  ·obtain⟨hun,o,ho,haft⟩:=mem_ready.1 hi
   have hlt:i<ops.size:=(z30.1 ho).1
   by_cases hin:i=n
   ·have hoA:o=A:=by rw[hin,H.last]at ho; exact(z48 ho).symm
    rw[hoA]at haft; rw[hin]; exact now (k+1) listed m L b x a w hL hm hsz hn hbit hcl haft hcount hA hrun hs hz
   have hlt':i<n:=by omega
   have hun':listed.getD i false=false:=by rw[←hdn listed hsz i (by omega)]; exact hun
   have ho':ops'[i]? =some o:=by rw[H.same i hlt']; exact ho
   have hcl':kJ ops (fun j=>(listed.setIfInBounds i true).getD j false=true):=by
    intro j oj hoj hj e he hb; by_cases hij:i=j
    ·subst hij
     rw[ho]at hoj; cases hoj; exact getD_set_true (haft e he hb)
    ·rw[getD_set_ne false hij]at hj
     exact getD_set_true (hcl j oj hoj hj e he hb)
   have hclO:kJ ops' (fun j=>(listed.setIfInBounds i true).getD j false=true):=by
    intro j oj hoj hj e he hb; have hjlt:j<n+1:=by have:=(z30.1 hoj).1; have:=H.size'; omega
    have hjn:j≠n:=fun e=>by
     subst e; rw[getD_set_ne false hin,hn]at hj; cases hj
    rw[H.same j (by omega)]at hoj
    exact hcl' j oj hoj hj e he hb
   have hset:(listed.setIfInBounds i true).getD i false=true:=by
    have:i<listed.size:=by omega
    simp [Array.getD,this]
   obtain⟨A',C,f1,f2,f3⟩:=vG (ops:=ops) (by rw[hsize]; exact hsz) hlt hun
   rw[f1]at hrun; have hO2:=hO; simp only[kD,z7,z14,z55]at hO2; obtain⟨hfo,x1,hsd,hrun1⟩:=hrun.front ho' (fun j hj a' ha'=>by
    obtain⟨j1,j2⟩:=f3 j hj; have h1:=hO2.2 i (by rw[H.size']; omega) j j1
    rw[ha',ho']at h1; simp only[z38]at h1; refine h1.resolve_left (fun h2=> ?_)
    have:=jW (D:=fun j=>(listed.setIfInBounds i true).getD j false=true) hclO hset h2
    rw[getD_set_ne false (by omega)]at this
    rw[hdn listed hsz j (by omega)]at j2
    rw[j2]at this; cases this)
   have hrdy:fR m o=true:=by
    simp only[fR,z14]; intro e he; cases hb:Region.binds .any e with
    | false=>rfl
    | true=>
     have h1:=haft e (z42.1 he) hb; have h2:=H.edges hO i o ho e (z42.1 he) hb; simp only[z46,z52]; rw[hbit e.on (by omega)]; exact h1
   obtain⟨_,L',hL',hL0⟩:=jG hL; obtain⟨b1,b2,s1,s2,cv⟩:=(pF hL').2 m b hm i o (by rw[z28]; exact ho') (by rw[hbit i (by omega)]; exact hun') hrdy
   obtain⟨hA1,hw1⟩:=hsd.step (P:=P) hT hA ho' s1; obtain⟨hA2,cs⟩:=cv x1 hA1; have hk:=hw1 g0 w0 Q (wpAny P .any ops Q (k+1) (listed.setIfInBounds i true)) a w hs (fun v w' hs'=>by
    refine ih (listed.setIfInBounds i true) (m||| 2 ^ i) L' b2 x1 _ w' hL0 s2 (by simpa using hsz) (by rw[getD_set_ne false hin]; exact hn) (fun j hj=> ?_) hcl' ?_ hA2 (by rw[f2]; exact hrun1) (cs _ _ _ _ hs') (fun z hno=> ?_)
    ·rw[MD,Nz,hbit j hj]
     by_cases hij:i=j
     ·subst hij; rw[hset]; simp
     ·rw[getD_set_ne false hij]; simp [hij]
    ·rw[z59]at hcount ⊢
     rw[f1]at hcount; rw[f2]; simp only[z21,z27]at hcount ⊢; omega
    ·have hne:o.dst≠some z:=by
      have key: ∀l:List Oper,sD z l=true→ ∀o∈l,o.dst≠some z:=by
       intro l; induction l with
       | nil=>intro _ o h; cases h
       | cons p r ihl=>
        intro h o hm; simp only[sD,z7,z37,z36]at h; cases hm with
        | head=>exact h.1
        | tail _ hm=>exact ihl h.2 o hm
      exact key ops.toList hno o (z42.2 (z129 ho))
     rw[tC hne]; exact hz z hno)
   have hy:yielded ops' a.tmps=yielded ops a.tmps:=by
    funext g
    unfold yielded; have:(ops'[g]?).bind (·.dst)=(ops[g]?).bind (·.dst):=by
     have h1:=congrArg (fun l=>(l[g]?).bind id) H.ds
     simpa [z33,Option.bind_map]using h1
    rw[this]
   unfold wpOp at hk ⊢; rw[ho']at hk; rw[ho]; rw[hy]at hk; exact hk
end

theorem zM: ∀(l:List Oper) (n:Nat),(iI l n).length=l.length
 | [],_=>rfl
 | [_],_=>rfl
 | _::p::r,n=>by
  have:=zM (p::r) (n+1); simp only[iI,z27]at this ⊢; omega
theorem zN: ∀(l:List Oper) (n i:Nat),i+1<l.length→(iI l n)[i]? =l[i]?
 | [],_,_,h=>by simp at h
 | [_],_,i,h=>by simp at h
 | o::p::r,n,0,_=>rfl
 | o::p::r,n,i+1,h=>by
  simp only[iI,z23]
  exact zN (p::r) (n+1) i (by simpa using h)
theorem wE: ∀(l:List Oper) (n i:Nat) (A:Oper),i+1=l.length→l[i]? =some A→(iI l n)[i]? =some (rP (n+i) A)
 | [],_,_,_,h,_=>by simp at h
 | [o],n,i,A,h,c=>by
  have:i=0:=by simpa using h
  subst this; cases c; rfl
 | o::p::r,n,0,A,h,_=>by simp at h
 | o::p::r,n,i+1,A,h,c=>by
  simp only[iI,z23]
  rw[wE (p::r) (n+1) i A (by simpa using h) (by simpa using c),show n+1+i=n+(i+1)by omega]
theorem BR: ∀(l:List Oper) (n:Nat),(iI l n).map (·.dst)=l.map (·.dst)
 | [],_=>rfl
 | [_],_=>rfl
 | o::p::r,n=>by
  simp only[iI,z41]; rw[BR (p::r) (n+1)]; rfl
section
variable {P:Program} {τ:TypeId→Option TI} {Sgs:FuncId→List Sg} {F:FA} {ops:Array Oper} {b b1:B} {mt:B→B→B}
theorem rI{ds:List (Option Nat)}{q:Nat→B→Bool}{os:List Oper}: ∀ {k:Nat} {L R:Lvl},mQ τ Sgs F ds mt q os k L=some R→DN τ Sgs F ds mt os k L=some R
 | 0,L,R,h=>h
 | k+1,L,R,h=>by
  obtain⟨_,d,h1,c⟩:=jG h; simp only[DN,h1]; exact rI c
theorem Kw(M:aR P τ)(h:MX τ Sgs F mt b ops=some b1):(Ei τ Sgs F (ops.toList.map (·.dst)) b ops.toList).isSome=true∧ ∀x x1,Ag F b x→AE P τ Sgs F (ops.toList.map (·.dst)) ops (List.range' 0 ops.toList.length) x x1→
  Ag F b1 x1∧ ∀(g0:G) (w0:World) (Q:Exit→Act→World→Prop) (a:Act) (w:World),Sim g0 w0 (b.S F.n x) a w→(∀u w',Sim g0 w0 (b1.S F.n x1) u w'→(∀z,sD z ops.toList=true→u.tmps.getD z undef=a.tmps.getD z undef)→Q .normal u w')→wpAny P .any ops Q ops.size (Array.replicate ops.size false) a w:=by
 unfold MX at h; split at h<;>try cases h
 rename_i A l; split at h<;>try cases h
 rename_i t tv y U ho W; split at h<;>try cases h
 rename_i ob p I; obtain⟨N,h⟩:=aF h; simp only[z7]at N; obtain⟨J,K,L,O⟩:=N; split at h<;>try cases h
 rename_i Z f; obtain⟨n,hn⟩: ∃n,ops.size=n+1:=by
  cases e:ops.size with
  | zero=>
   rw[e]at l; have:ops.toList.length=0:=by simpa using e
   rw[z73.1 this]at l; cases l
  | succ n=>exact⟨n,rfl⟩
 have E:ops.size - 1=n:=by omega
 rw[E]at J K l; have d:ops[n]? =some A:=by
  have:=congrArg (·[0]?) l
  simp only[z49,z69,z19,z28]at this
  exact this
 have H:wC F ops (iI ops.toList 0).toArray n A t tv y ob p:= {
  size:=hn
  size':=by rw[z97,zM]; simpa using hn
  same:=fun i C=>by rw[z87,zN _ _ _ (by simp; omega),z28]
  last:=d
  last':=by rw[z87,wE ops.toList 0 n A (by simp; omega) (by rw[z28]; exact d),z34]
  ds:=BR _ _
  op:=ho
  dst:=U
  guard:=W
  sh:=I
  edge:=fun e V T=>by
   have:=z84.1 J e V; simp only[T,z46,z52]at this; exact bY this
  cls:=fun j q=>by
   have:=z14.1 K j (z55.2 q); simp only[z38]at this; refine this.imp id (fun k o ho=> ?_)
   rw[ho]at k; exact k }
 refine⟨O,fun x x1 m s=> ?_⟩
 have c:=yX H s; rw[←H.ds]at c; have X:ops.toList.length=ops.size:=by simp
 have r:(List.range ops.size).filter (fun j=> !(Array.replicate ops.size false).getD j true)=List.range' 0 ops.toList.length:=by
  rw[List.filter_eq_self.2 (fun j q=>by
   have:=z55.1 q; simp [Array.getD,this]),Ol]
  simp
 refine⟨?_,fun g0 w0 Q a w Y R=> ?_⟩
 ·have:=JK M L (iI ops.toList 0).toArray.size 0 0 [(0,b)] b x (by simp) (by
   have:=rI f; rw[H.size', ←hn]; exact this) (by simp [mB]) (fun i C=>by simp) m (by rw[H.size', ←hn, ←X]; exact c)
  exact this
 ·rw[hn]at f
  have k:=LZ (a0:=a) (Q:=Q) M H L R n (Array.replicate ops.size false) 0 [(0,b)] b x a w f (by simp [mB]) (by simpa using hn) (by simp [Array.getD,hn]) (fun i C=>by simp [Array.getD,hn,C]) (fun j o ho q=>by
   have:=(z30.1 ho).1
   simp [Array.getD,this]at q) (by
   rw[z59,r]; simp [hn]) m (by rw[r]; exact c) Y (fun _ _=>rfl)
  rw[←hn]at k; exact k
end
end Go.Own
