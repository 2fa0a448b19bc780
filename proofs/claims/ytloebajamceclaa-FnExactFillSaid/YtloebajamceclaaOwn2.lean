/- A calculus for runs on plain data (part 3): whoever runs code on data, with its owners checked, runs the program. No conditions. -/
import Derived.Test.YtloebajamceclaaOwn1
import Derived.LoopN
set_option linter.unusedVariables false
set_option linter.unusedSimpArgs false
set_option linter.unnecessarySimpa false
namespace Go.Own
open Go.RowKit
set_option linter.unusedVariables false

def isL(l m:Loc):Bool:=decide (m=l)
def St.raise(st:St)(l:Loc)(κ:K):St:=st.setf (isL l) (fun m=>if m=l then κ else st.fl m)
def St.callIo(st:St)(sg:Sg)(xs:List Operand)(d:Option Nat)(l:Loc)(κ:K)(y:D)(z:T):St:=
 ((((st.pre sg xs []).drop (isL l)).call d none [] sg.ext sg.bo y).upd l z).raise l κ

theorem UR{st:St}{l:Loc}{d:Option Nat}{y:D}{ext:Bool}{a:B}{i n j:Nat}(h:((st.drop (isL l)).call d none [] ext a y).sl i= .one (.pp l [] n j)):((st.drop (isL l)).call d none [] ext a y).fl (.s i 0 0)= .D:=by
 simp only[St.call]at h ⊢; by_cases e:d=some i
 ·rw[z17 e]at h
  cases hy:y.sl 0 with
  | tup c=>rw[hy]at h; cases h
  | one w=>
   rw[hy]at h; simp only[V.to,V.one.injEq]at h; cases w<;>simp [W.to]at h
   ·rename_i o off
    cases hq:wW [] none o<;>rw[hq]at h<;>cases h
   ·rename_i f caps
    cases hq:BL (wW [] none) caps<;>rw[hq]at h<;>cases h
 ·rw[z11 e]at h ⊢
  split
  ·rfl
  ·have b:st.sl i= .one (.pp l [] n j):=by
    have:AX none ((st.drop (isL l)).sl i)=(st.drop (isL l)).sl i:=by
     first | rfl | (unfold AX; rfl) | simp [AX]
    rw[this]at h; exact h
   simp only[St.drop,St.setf,b]; exact z17 ⟨trivial,trivial,by simp [aI,isL]⟩
theorem NJ{P:Program}{g0:G}{w0:World}{st:St}{o:Oper}{c:Call}{x:Operand}{f:FuncId}{sg:Sg}{vs:List V}{r:V}{y0 y' x0:T}{t n n1:Nat}{xs':List Operand}{l:Loc}{p:List (Nat×Nat)}{κ:K}
  (ho:o.op= .call c)(hcal:c.callee= .value x)(hx:ev st.sl x= .one (.fn f []))(hC:TC P f sg vs [] r (some y') [] none)(hsg:sg.io=some 0)(hext:sg.ext=true)(hd: ∀i,o.dst=some i→i<st.n)
  (hnp:sg.np=vs.length)(hle:sg.np≤par)(hb0:sg.bo.has 0=true)(hvs:vs=c.args.toList.map (fun v=>(evR st v).to (qC [])))(hargs:c.args.toList= .tmp t::xs')
  (hsl:st.sl t= .one (.al l p))(hln:l≠ .none)(hft:st.fl (.s t 0 0)≠ .D)(hfl:st.fl l= .U n)(hat:st.at l=some x0)(hnav:nav x0 p=some y0)
  (hbi:sg.bi.kd (.s 0 0 0)= .U 0)(hb1:sg.bo.has 1=true)(hbo:sg.bo.kd (.s 1 0 0)= .U n1)(hκ:κ=if p=[]then .U n1 else .U n)(hnd: ∀i k j,l= .s i k j→o.dst≠some i)
  (harg: ∀(i:Nat) v,xs'[i]? =some v→LV st sg c.args.toList (i+1) v)(hnh: ∀i k j,i≠0→(sg.bi.kd (.s i k j)).hold=false)(hnl:p≠[]→n1=0):
  OpW P g0 w0 o st (st.callIo sg c.args.toList o.dst l κ (DR r (some y') [] none) (bV x0 p y')):=by
 intro Q K a w ⟨g,hs⟩ hK; have hlp:=at_isPlace hat; obtain⟨hh,v0,x0',y0',hv0,hx0',hpl⟩:(st.fl l).hold=true∧ ∃v0 x0' y0',vAt a.tmps g.β w l=some v0∧st.at l=some x0'∧Pl w v0 x0' p (a.tmps.getD t undef) y0':=by
  have hp:=hs.pls t (by rw[hsl]; exact hln) hft
  rw[hsl]at hp; exact hp
 rw[hat]at hx0'; cases hx0'; have e0:=hpl.nav; rw[hnav]at e0; cases e0; obtain⟨v0',hv0',hna0,hlf0⟩:=hs.get hat; rw[hv0]at hv0'; cases hv0'; rw[hfl]at hlf0; have hlf0:Ow (frz g w) true w (gQ n) (fun b=>g.own b=l) v0 x0:=hlf0
 obtain⟨Fp,q1,q2,q3⟩:=hlf0.part hpl; have q2:Ow (frz g w) true w none Fp (a.tmps.getD t undef) y0:=by
  by_cases e:p=[]
  ·rw[z17 e]at q2; exact q2.any
  ·rw[z11 e]at q2; exact q2
 have hFpl: ∀b,Fp b→(g.own b).place=true:=fun b hb=>by rw[q1 b hb]; exact hlp
 have hlt: ∀k j,l≠ .s t k j:=fun k j e=>by
  rw[e,St.at_s,hsl]at hat; cases k<;>simp [V.leaf,W.leaf]at hat
 have harg0: ∀(t' i k j:Nat),FK c.args.toList t'=some i→(sg.bi.kd (.s i k j)).hold=true→i=0∧t'=t:=fun t' i k j h1 h2=>by
  have hi:i=0:=Decidable.byContradiction fun e=>by rw[hnh i k j e]at h2; cases h2
  subst hi; refine⟨rfl, ?_⟩
  unfold FK at h1; rw[hargs]at h1; split at h1
  ·simp only[z9,List.findIdx_cons]at h1
   cases hh:yL t' (.tmp t)with
   | true=>simp only[yL]at hh; exact(by simpa using hh:t=t').symm
   | false=>rw[hh]at h1; simp at h1
  ·cases h1
 have hinto: ∀m:Loc,m≠ .none→(∀k j,m≠ .s t k j)→(∀o,m≠ .obj o)→jS sg c.args.toList [] m= .ext:=fun m h1 h2 h3=>by
  have hr:sP sg.ext= .ext:=by rw[hext]; rfl
  cases m with
  | none=>exact absurd rfl h1
  | ext=>exact hr
  | obj o=>exact absurd rfl (h3 o)
  | s t' k j=>
   simp only[jS]; split
   ·rename_i i hi
    split
    ·rename_i hk
     exact absurd (by rw[(harg0 t' i k j hi hk).2]) (h2 k j)
    ·exact hr
   ·exact hr
  | oc o j=>simp only[jS,qC]; simp [hr]
 have hintol:jS sg c.args.toList [] l= .ext:=hinto l hln hlt (Loc.place_ne hlp).2.2; have hrv0:RV (g.into sg c.args.toList [] Fp) w (fun k j=>sg.bi.kd (.s 0 k j)) (fun k j=> .s 0 k j) (a.eval (.tmp t)) ((evR st (.tmp t)).to (qC [])):=by
  have e:evR st (.tmp t)= .one (.c y0):=by
   show vD st.sl st.ob (st.sl t)=_; rw[hsl]; have hat':atL st.sl st.ob l=some x0:=hat; simp [vD,hat',hnav]
  rw[e]; show nV _∧LF _ w (sg.bi.kd (.s 0 0 0)) (.s 0 0 0) (a.tmps.getD t undef) y0; have hrd:=hs.pl_rd hh hv0 hat hpl; refine⟨hrd.not_agg, ?_⟩
  rw[hbi]; show Ow _ true w none _ _ _; exact q2.mono id (fun e=>by cases e) (fun b hb=>⟨by simp only[G.into]; rw[z17 hb,hsg]; rfl,rfl⟩)
 have he:=hs.enter (sg:=sg) (xs:=c.args.toList) (caps:=[]) (os:=[]) (Fp:=Fp) Vr hnp hle hFpl (fun e=>by rw[hext]at e; cases e) (fun t' i k j h1 h2 b hb hf=>by
  obtain⟨rfl,rfl⟩:=harg0 t' i k j h1 h2; rw[q1 b hf]at hb; exact hlt k j hb) (fun o oc j h _ _ _=>by simp [qC]at h) (vs:=vs) (ob:=[]) (by rw[hvs]; simp) rfl (fun i v hv hio=>by
  cases i with
  | zero=>exact absurd hsg hio
  | succ i=>rw[hargs]at hv; exact harg i v (by simpa using hv)) (fun o oc j h=>by simp [qC]at h) (fun i v hv hio=>by
  rw[hsg]at hio; cases hio; rw[hargs]at hv; simp only[z20,z9]at hv
  subst hv; exact hrv0)
 have hC:=hC _ _ _ he; have hfv:a.eval x= .func (.func f) #[] (([]:List (Nat×Nat)).map fun c=>Value.pointer (some ⟨g.β c.1,c.2,none⟩)).toArray:=by
  have:=hs.ev_rv x (fun _ _=> .none)
  rw[hx]at this; exact this
 have hrun:(execOp a.eval o).run P w=(callFunc f (c.args.toList.map a.eval++([]:List (Nat×Nat)).map fun c=>Value.pointer (some ⟨g.β c.1,c.2,none⟩)).toArray).run P w:=by
  obtain⟨dst,op,ty,pos,after,guard⟩:=o; simp only at ho; subst ho; simp only[execOp,resolve,hcal,hfv,Deferred.ofValue,Sem.run_bind,Sem.run_pure,Result.andThen_ok,invoke]; congr 2
  apply Nd
  simp
 have hq0:(fun m=> !(gP (jS sg c.args.toList [] m))&& !(gP m)) Loc.none=false:=by simp [gP]
 have hpure: ¬ Bt sg=true:=fun h=>by
  have:=HV h (.s 0 0 0); rw[hbi]at this; cases this
 have hs1:bP g0 w0 (st.pre sg c.args.toList []) a g w:=by
  unfold St.pre; rw[z11 hpure]; exact hs.killV.drop _ hq0
 have hl0:isL l .none=false:=by simp only[isL]; exact z10 (Ne.symm hln)
 have hs2:bP g0 w0 ((st.pre sg c.args.toList []).drop (isL l)) a g w:=hs1.drop _ hl0; have hat1:(st.pre sg c.args.toList []).at l=some x0:=by unfold St.pre; rw[z11 hpure]; exact hat
 have key: ∀v w',(∃g',bP (g.into sg c.args.toList [] Fp) w (sg.bo.S 2 (DR r (some y') [] none)) ⟨#[v,(c.args.toList.map a.eval++([]:List (Nat×Nat)).map fun c=>Value.pointer (some ⟨g.β c.1,c.2,none⟩)).toArray.getD (sg.io.getD 0) undef],[]⟩ g' w')→
   Sim g0 w0 (st.callIo sg c.args.toList o.dst l κ (DR r (some y') [] none) (bV x0 p y')) (a.put o.dst v) w':=by
  rintro v w' ⟨g',h1⟩
  have h3:=hs2.leave (v:=v) (d:=o.dst) (nd:=none) (iol:=l) Vr (by unfold St.pre; rw[z11 hpure]; exact hd) (fun _ e=>by cases e) hFpl ⟨hln,(Loc.place_ne hlp).2.2⟩ h1 rfl hb0 (fun m z hm1 hm2=>by
   have hmp:=at_isPlace hm2; have hm2':(st.pre sg c.args.toList []).at m=some z:=hm2; rw[DQ hl0 hm2']at hm1; by_cases e:isL l m=true
   ·rw[z17 e]at hm1; cases hm1
   ·rw[z11 e]at hm1
    have hml:m≠l:=by simpa [isL]using e
    refine⟨?_,fun b hb hf=>hml (by rw[←hb]; exact q1 b hf)⟩
    cases hq:gP (jS sg c.args.toList [] m)with
    | true=>rfl
    | false=>
     exfalso
     have hmp2:gP m=false:=by cases m<;>first | rfl | cases hmp
     have hm3:st.killV.at m=some z:=by unfold St.pre at hm2'; rw[z11 hpure]at hm2'; exact hm2'
     unfold St.pre at hm1; rw[z11 hpure,DQ hq0 hm3,hq,hmp2]at hm1; simp [Own.K.hold]at hm1) (.inl fun m=>by
   have h0: ∀m,(st.pre sg c.args.toList []).fl m≠ .V:=by
    unfold St.pre; rw[z11 hpure]; refine rW (fun m=> ?_)
    split
    ·simp
    ·exact sS st m
   refine rW (fun m=> ?_) m
   split
   ·simp
   ·exact h0 m)
  generalize hgb:g.back (g.into sg c.args.toList [] Fp) g' w o.dst none [] l=gb at h3; generalize hst3:((st.pre sg c.args.toList []).drop (isL l)).call o.dst none [] sg.ext sg.bo (DR r (some y') [] none)=st3 at h3; have hat3:st3.at l=some x0:=by
   rw[←hst3]; cases l with
   | s i k j=>
    have:=hnd i k j rfl; rw[St.at_s]; simp only[St.call,z11 this,AX]; have h9:((st.pre sg c.args.toList []).drop (isL (.s i k j))).at (.s i k j)=some x0:=hat1; rw[St.at_s]at h9; exact h9
   | oc o j=>
    rw[St.at_oc]; simp only[St.call,rV,Uh,if_false]; have h9:((st.pre sg c.args.toList []).drop (isL (.oc o j))).at (.oc o j)=some x0:=hat1; rw[St.at_oc]at h9; simpa using h9
   | _=>cases hlp
  have hkeep: ∀b,b<w.heap.size→gP ((g.into sg c.args.toList [] Fp).own b)=true→g'.own b=(g.into sg c.args.toList [] Fp).own b∧w'.heap[b]? =w.heap[b]? ∧gb.own b=g.own b:=fun b hb hf=>by
   obtain⟨k1,k2⟩:=h1.framed.evo.keep b hb (fun h=>h (JK.1 hf))
   refine⟨k1,k2, ?_⟩
   rw[←hgb]; simp only[G.back]; rw[z17 (by rw[k1]; exact hf),z17 ⟨hb,hf⟩]
  have hrest: ∀b,g.own b=l→ ¬ Fp b→gb.own b=l∧w'.heap[b]? =w.heap[b]? ∧gP (g'.own b)=true:=fun b hb hf=>by
   have hlt:b<w.heap.size:=hs.ok.own b (by rw[hb]; exact hln)
   have hfo:gP ((g.into sg c.args.toList [] Fp).own b)=true:=by rw[jU hf,hb,hintol]; rfl
   obtain⟨k1,k2,k3⟩:=hkeep b hlt hfo; exact⟨k3.trans hb,k2,by rw[k1]; exact hfo⟩
  have hN: ∀b,g'.own b= .s 1 0 0→gb.own b=l:=fun b hb=>by
   rw[←hgb]; simp only[G.back]; rw[z11 (by rw[hb]; simp [gP]),hb]
   rfl
  have hu1:(c.args.toList.map a.eval++([]:List (Nat×Nat)).map fun c=>Value.pointer (some ⟨g.β c.1,c.2,none⟩)).toArray.getD (sg.io.getD 0) undef=a.tmps.getD t undef:=by
   rw[hsg,hargs]; simp only[z62,z54]; rfl
  have hy:Ow (frz g' w') true w' (gQ n1) (fun b=>g'.own b= .s 1 0 0) (a.tmps.getD t undef) y':=by
   have h5:=h1.slots 1; rw[show(sg.bo.S 2 (DR r (some y') [] none)).sl 1= .one (.c y')from qO hb1]at h5; have h6:=h5.2; have h7:LF g' w' (sg.bo.kd (.s 1 0 0)) (.s 1 0 0) _ y':=h6; rw[hbo]at h7; have e1:(#[v,(c.args.toList.map a.eval++([]:List (Nat×Nat)).map fun c=>Value.pointer (some ⟨g.β c.1,c.2,none⟩)).toArray.getD (sg.io.getD 0) undef]:Array Value).getD 1 undef=a.tmps.getD t undef:=by rw[hu1]; rfl
   have h7:Ow (frz g' w') true w' (gQ n1) (fun b=>g'.own b= .s 1 0 0) _ y':=h7
   rw[e1]at h7; exact h7
  have hnew:LF gb w' κ l v0 (bV x0 p y'):=by
   have hκU: ∃m,κ= .U m∧gQ m=(if p=[]then gQ n1 else gQ n):=by
    by_cases e:p=[]
    ·rw[z17 e]at hκ; exact⟨n1,hκ,by rw[z17 e]⟩
    ·rw[z11 e]at hκ; exact⟨n,hκ,by rw[z11 e]⟩
   obtain⟨m,rfl,hm⟩:=hκU; show Ow (frz gb w') true w' (gQ m) (fun b=>gb.own b=l) v0 (bV x0 p y')
   by_cases e:p=[]
   ·have hse: ∀z:T,bV z [] y'=y':=fun z=>by cases z<;>rfl
    subst e; rw[hse,hm,z17 rfl]; cases hpl; exact hy.mono id (fun e=>by cases e) (fun b hb=>⟨hN b hb,rfl⟩)
   ·rw[hm,z11 e]
    refine q3 (frz gb w') w' (fun b=>g'.own b= .s 1 0 0) (fun b=>gb.own b=l) y' (fun b hb hf=>⟨(hrest b hb hf).1,(hrest b hb hf).2.1⟩) hN (fun b hb1 hb2=>Classical.byContradiction fun hf=>by
     have:=(hrest b hb2 hf).2.2; rw[hb1]at this; cases this) ?_
    rw[z11 e]; have:=hnl e; subst this; exact hy.mono id (fun e=>by cases e) (fun b hb=>⟨hb,rfl⟩)
  have hv3:vAt (a.put o.dst v).tmps gb.β w' l=some v0:=by
   cases l with
   | s i k j=>
    simp only[vAt]at hv0 ⊢; rw[pW a o.dst v i (hnd i k j rfl)]; exact hv0
   | oc o' j=>
    simp only[vAt]at hv0 ⊢; have hb:gb.β o'=g.β o':=by rw[←hgb]; simp [G.back]
    rw[hb]; obtain⟨cells,hcl,_⟩: ∃cells,st.ob o'=some cells∧True:=by
     rw[St.at_oc,z19]at hat; obtain⟨cells,hcl,_⟩:=hat; exact⟨cells,hcl,trivial⟩
    obtain⟨arr,ty,_,_,k3,_⟩:=hs.obs o' cells hcl; have hlt:g.β o'<w.heap.size:=hs.ok.own _ (by rw[k3]; simp)
    have hfo:gP ((g.into sg c.args.toList [] Fp).own (g.β o'))=true:=by
     rw[jU (fun hf=>by have:=hFpl _ hf; rw[k3]at this; cases this),k3]
     simp [jS,qC,gP]
    rw[cI (hkeep _ hlt hfo).2.1]; exact hv0
   | _=>cases hlp
  have hfl3:st3.fl l= .D:=by
   rw[←hst3]; have e1:((st.pre sg c.args.toList []).drop (isL l)).fl l= .D:=by
    rw[DQ hl0 hat1,z17 (by simp [isL])]
   cases l with
   | s i k j=>
    have:=hnd i k j rfl; simp only[St.call,z11 this]; split
    ·rfl
    ·exact e1
   | oc o' j=>
    simp only[St.call,rV,Uh,if_false]; simpa using e1
   | _=>cases hlp
  have h4:=h3.upd (g':=gb) (w':=w') (X:=fun _=>False) (zW.refl h3.ok st3) (fun _=>rfl) (z:=bV x0 p y') hat3 hv3 (fun _ _ _ _ _ h=>h) (.inl (fun i n j hsl=>by
   rw[←hst3]at hsl ⊢; exact UR hsl)) (by
   rw[hfl3]; intro hsc; exact(LF.scal (g':=gb) (w':=w') (κ':= .D) (l':=l) hnew hsc) hsc)
  refine⟨gb, ?_⟩
  unfold St.callIo St.raise; rw[hst3]; refine h4.setf (g':=gb) hl0 (fun _=>rfl) h4.ok (fun _ _=>rfl) (fun _ _ h=>h) (fun _ h=>h) (fun m z u hz hu hf=> ?_) (fun i k zs b off hcx hc=> ?_) (fun i hi hR hf=> ?_)
  ·by_cases e:m=l
   ·rw[z17 e]
    subst e; rw[upd_at hat3,z17 rfl]at hz; cases hz; rw[hv3]at hu; cases hu; exact hnew
   ·rw[z11 e]; exact hf
  ·by_cases e:Loc.s i k 0=l
   ·exfalso
    have h9:((st3.upd l (bV x0 p y')).sl i).leaf k 0=some (bV x0 p y'):=by
     have:=upd_at (z:=bV x0 p y') (m:=l) hat3; rw[z17 rfl, ←e,St.at_s]at this; rw[←e]; exact this
    cases hsi:(st3.upd l (bV x0 p y')).sl i with
    | one u=>
     rw[hsi]at hcx h9; cases k with
     | zero=>simp only[V.comp,z9]at hcx; subst hcx; simp [V.leaf,W.leaf]at h9
     | succ k=>simp [V.comp]at hcx
    | tup ws=>
     rw[hsi]at hcx h9; simp only[V.comp]at hcx; simp [V.leaf,hcx,W.leaf]at h9
   ·rw[z11 e]; exact hc
  ·by_cases e:Loc.s i 0 0=l
   ·exfalso
    have h9:=upd_at (z:=bV x0 p y') (m:=l) hat3; rw[z17 rfl, ←e]at h9; rw[←e]at hi; exact hi (uM h9)
   ·rw[z11 e]at hf
    refine⟨hf,fun hh=> ?_⟩
    split
    ·obtain⟨m,hm⟩: ∃m,κ= .U m:=by
      by_cases e:p=[]
      ·exact⟨n1,by rw[hκ,z17 e]⟩
      ·exact⟨n,by rw[hκ,z11 e]⟩
     rw[hm]; rfl
    ·exact hh
 unfold Oper.wp; rw[hrun]; revert hC
 generalize (callFunc f _).run P w=r; intro hC; unfold sJ at hC; split at hC
 ·exact hK _ _ (key _ _ hC)
 ·rw[Oper.upon_enter]
  refine Calls.mono hC ?_
  rintro e w' ⟨v,rfl,h⟩
  exact hK _ _ (key _ _ h)
 ·exact hC.elim
set_option linter.unusedVariables false

def ioB(F:FA)(b:B)(d:Option Nat)(sg:Sg)(xs:List Operand)(l:Loc):B:=
 (((b.pre F sg xs []).setf F (isL l) (fun m q=>if isL l m=true then .D else q)).call F d none [] sg)
def BI(b:B)(sg:Sg)(l:Loc):Nat→K
 | 0=>sg.bo.kd (.s 1 0 0)
 | _=>b.kd l
def Ob(sg:Sg):Bool:=sg.bi.sl.all fun p=>Nat.beq p.1 0||p.2.all (fun r=>r.all fun q=> !q.hold)
theorem Mu{sg:Sg}(h:Ob sg=true)(i k j:Nat)(a:i≠0):(sg.bi.kd (.s i k j)).hold=false:=by
 simp only[B.kd,B.get]; cases hl:dL i sg.bi.sl with
 | none=>rfl
 | some κ=>
  have h1:=z18.1 h _ (iM hl); simp only[dO a,z56]at h1; simp only[CI]; cases hr:κ[k]? with
  | none=>rfl
  | some r=>
   cases hq:r[j]? with
   | none=>simp [hq,K.hold]
   | some q=>
    have:=z18.1 (z18.1 h1 r (bI hr)) q (bI hq); simp only[hq]; simpa using this
def Oa(d:Option Nat)(l:Loc):Bool:=match d with | some d=> !(aS d l) | none=>true
def cIo(F:FA)(b:B)(sg:Sg)(c:Call)(v:Operand)(d:Option Nat):Option B:=
 match c.args.toList with
 | .tmp t::xs=>(match F.shOf t with
  | .one (.al l p)=>bif dN b v&&c.args.toList.all (kn b F)&&CV F b F.n (.tmp t)&&isU (b.kd l)&&LO F b sg c.args.toList 1 xs&&decide (sg.io=some 0)&&sg.ext&&decide (sg.bi.kd (.s 0 0 0)= .U 0)&&sg.bo.has 0&&sg.bo.has 1&&isU (sg.bo.kd (.s 1 0 0))&&
    (Nat.beq p.length 0||decide (sg.bo.kd (.s 1 0 0)= .U 0))&&(match d with | some d=>Nat.blt d F.n | none=>true)&&Oa d l&&Ob sg&&Nat.ble sg.np par&&(ioB F b d sg c.args.toList l).hasL l then
    some ((((ioB F b d sg c.args.toList l).filt (fU F l)).setf F (isL l) (fun m q=>if m=l then BI b sg l p.length else q)).nrm F)else none
  | _=>none)
 | _=>none

section
variable {P:Program} {τ:TypeId→Option TI} {F:FA} {o:Oper} {b b':B} {x x':D}

theorem Rz(Z:Ag F b x){c:Call}{v:Operand}{f:FuncId}{sg:Sg}{vs:List V}{r:V}{t:Nat}{xs:List Operand}{l:Loc}{p:List (Nat×Nat)}{x0:T}{es es':List (List T)}(ho:o.op= .call c)(hcal:c.callee= .value v)(hx:ev x.sl v= .one (.fn f []))
  (hC:TC P f sg vs [] r (some (.sl es')) [] none)(hvs:vs=inV x c [] [])(hnp:sg.np=vs.length)(hth:c.args.toList.all (fun v=>gC (ev x.sl v))=true)(d:c.args.toList= .tmp t::xs)(C:x.sl t= .one (.al l p))(g:x.at l=some x0)(I:nav x0 p=some (.sl es))
  (h1:bQ F (x.call o.dst none [] (DR r (some (.sl es')) [] none)) o.dst none []=true)(A:cIo F b sg c v o.dst=some b'):
  Ag F b' ((x.call o.dst none [] (DR r (some (.sl es')) [] none)).upd l (bV x0 p (.sl es')))∧ ∀g0 w0,OpW P g0 w0 o (b.S F.n x) (b'.S F.n ((x.call o.dst none [] (DR r (some (.sl es')) [] none)).upd l (bV x0 p (.sl es')))):=by
 unfold cIo at A; rw[d]at A; simp only at A; split at A<;>try cases A
 rename_i l' p' hsh; obtain⟨hc,A⟩:=aK A; rw[←d]at hc A; simp only[z7]at hc; obtain⟨⟨⟨⟨⟨⟨⟨⟨⟨⟨⟨⟨⟨⟨⟨⟨c1,c2⟩,c3⟩,c4⟩,c5⟩,c6⟩,c7⟩,c8⟩,c9⟩,c10⟩,c11⟩,c12⟩,c13⟩,c14⟩,c15⟩,c16⟩,c17⟩:=hc; cases A; have J:b.has t=true:=by
  have:=z18.1 c2 (.tmp t) (by rw[d]; exact z27)
  simp only[kn,z7]at this; exact this.1
 obtain⟨a1,_,a3,a4⟩:=sV Z J c3 (.inl ⟨p,C⟩); have u:=Z.fits J (by rw[C]; simp)
 rw[C,hsh]at u; simp only[Own.fits,bO,z7,z36]at u; obtain⟨hll,G⟩:=u; subst hll; have G:=z14 G; obtain⟨n,hn⟩: ∃n,b.kd l= .U n:=by
  revert c4
  cases b.kd l<;>simp [isU]
 obtain⟨n1,Y⟩: ∃n,sg.bo.kd (.s 1 0 0)= .U n:=by
  revert c11
  cases sg.bo.kd (.s 1 0 0)<;>simp [isU]
 have hl0:isL l .none=false:=z10 (Ne.symm a1); have hAp:=Z.pre sg c.args.toList []; have hAd:Ag F ((b.pre F sg c.args.toList []).setf F (isL l) (fun m q=>if isL l m=true then .D else q)) x:=hAp.setf _ _
 have hAc:Ag F (ioB F b o.dst sg c.args.toList l) (x.call o.dst none [] (DR r (some (.sl es')) [] none)):=hAd.call h1; have hds: ∀i k j,l= .s i k j→o.dst≠some i:=fun i k j e h=>by
  rw[h,e]at c14; simp [Oa,aS,z42]at c14
 have H:(x.call o.dst none [] (DR r (some (.sl es')) [] none)).at l=some x0:=by
  cases l with
  | s i k j=>
   have:=hds i k j rfl; simp only[D.at,atL,D.call,z11 this]at g ⊢; exact g
  | oc o' j=>
   simp only[D.at,atL,D.call,rV,Uh,if_false]at g ⊢; simpa using g
  | _=>cases a4
 have hAu:=(hAc.upd (z:=bV x0 p (.sl es')) c17 H (GL I)).filt (fU F l); have hAr:=hAu.setf (isL l) (fun m q=>if m=l then BI b sg l p'.length else q)
 refine⟨hAr.nrm,fun g0 w0=> ?_⟩
 have L: ∀i,o.dst=some i→Own.fits (((DR r (some (.sl es')) [] none).sl 0).to (wW [] none)) (F.shOf i)=true:=fun i e=>by
  simp only[bQ,z7]at h1; have h:=h1.1; rw[e]at h; simp only[D.call,if_true]at h; exact h
 have hmap:c.args.toList.map (fun v=>(evR (b.S F.n x) v).to (qC []))=c.args.toList.map (fun v=>(evD x v).to (qC [])):=z52 fun v hv=>by rw[NZ Z (z18.1 c2 v hv)]
 have M:BI b sg l p'.length=if p=[]then K.U n1 else K.U n:=by
  rw[←G]; cases p with
  | nil=>simp [BI,Y]
  | cons a p=>simp [BI,hn]
 have h3:=NJ (g0:=g0) (w0:=w0) (st:=b.S F.n x) (κ:=BI b sg l p'.length) (l:=l) (p:=p) (x0:=x0) (y0:= .sl es) (y':= .sl es') (t:=t) (n:=n) (n1:=n1) (xs':=xs) ho hcal (by rw[pU c1]; exact hx) hC (of_decide_eq_true c6) c7
  (fun i e=>by rw[e]at c13; exact bK c13) hnp (z29 c16) c9 (by rw[hmap,hvs]; simp [inV]) d (by rw[qO J]; exact C) a1 a3 hn (by rw[Ig a4]; exact g) I (of_decide_eq_true c8) c10 Y M hds
  (fun i v hv=>by
   have:=Hf c5 hv; rw[z166]at this; exact PE Z this (z18.1 hth v (by rw[d]; exact z23 _ (bI hv)))) (Mu c15) (fun e=>by
   simp only[z48,z36]at c12; rcases c12 with h | h
   ·have:=z14 h
    rw[←G]at this; exact absurd (z76.1 this) e
   ·rw[Y]at h; cases h; rfl)
 refine h3.relax (fun a w hs=>hs.relax ?_)
 have N:=OX (n:=F.n) Z sg c.args.toList []
 have O:Low F.n ((b.pre F sg c.args.toList []).setf F (isL l) (fun m q=>if isL l m=true then .D else q)) x (((b.S F.n x).pre sg c.args.toList []).drop (isL l)):=
  kU hAp N hl0 (fun m _ h=>by
   by_cases e:isL l m=true
   ·rw[z17 e,z17 e]; exact dP _
   ·rw[z11 e,z11 e]; exact h) (fun i _ h E=>by
   by_cases e:isL l (.s i 0 0)=true
   ·rw[z17 e]at E; exact absurd rfl E
   ·rw[z11 e]at E ⊢; exact h E)
 have Q:=MT (nd:=none) (os:=[]) (sg:=sg) (y:=DR r (some (.sl es')) [] none) hAd O L; have W:=Gq (z:=bV x0 p (.sl es')) hAc Q c17 H a1; have X:=kU (R:=isL l) (f:=fun m=>if m=l then BI b sg l p'.length else(((((b.S F.n x).pre sg c.args.toList []).drop (isL l)).call o.dst none [] sg.ext sg.bo (DR r (some (.sl es')) [] none)).upd l (bV x0 p (.sl es'))).fl m) (f':=fun m q=>if m=l then BI b sg l p'.length else q) hAu W hl0 (fun m _ h=>by
   by_cases e:m=l
   ·rw[z17 e,z17 e]; exact dP _
   ·rw[z11 e,z11 e]; exact h) (fun i _ h E=>by
   by_cases e:Loc.s i 0 0=l
   ·rw[z17 e]at E ⊢; exact E
   ·rw[z11 e]at E ⊢; exact h E)
 exact X.le hAr
end
set_option linter.unusedVariables false

structure CL (w w1:World):Prop where
 size:w.heap.size≤w1.heap.size
 keep: ∀b,b<w.heap.size→w1.heap[b]? =w.heap[b]?
 os:w1.os=w.os
 tape:w1.tape=w.tape
 output:w1.output=w.output
theorem CL.refl(w:World):CL w w:=⟨z59 _,fun _ _=>rfl,rfl,rfl,rfl⟩
theorem CL.trans{w w1 c:World}(h:CL w w1)(k:CL w1 c):CL w c:=⟨z93 h.size k.size,fun b a=>(k.keep b (z46 a h.size)).trans (h.keep b a),k.os.trans h.os,k.tape.trans h.tape,k.output.trans h.output⟩

def St.turn(st:St)(l:Loc)(κ:K)(z:T):St:=((st.killV.drop (isL l)).upd l z).raise l κ

open Classical in
noncomputable def G.one (g:G) (l:Loc):G:= { β:=g.β,own:=fun b=>if g.own b=l then .s 0 0 0 else if g.own b= .none then .none else .ext }
open Classical in
noncomputable def G.two (g gc:G) (w:World) (l:Loc):G:= { β:=g.β,own:=fun b=>if gc.own b= .s 1 0 0 then l else if b<w.heap.size∧g.own b≠l then g.own b else if gc.own b= .none then .none else .ext }

theorem UD{P:Program}{g0:G}{w0:World}{st:St}{a:Act}{g:G}{w w1:World}(hs:bP g0 w0 st a g w)(C:CL w w1){f:FuncId}{sg:Sg}{y0 y':T}{k M:Int}{l:Loc}{n n1:Nat}{x:Value}(O:TC P f sg [.one (.c y0), .one (.c (.int .i64 k))] [] (.one (.c (.int .i64 M))) (some y') [] none)
  (hio:sg.io=some 0)(hnp:sg.np=2)(hbi:sg.bi=⟨[(0,[[.U 0]]),(1,[[.S]])],[]⟩)(hb0:sg.bo.has 0=true)(hb1:sg.bo.has 1=true)(hbo:sg.bo.kd (.s 1 0 0)= .U n1)(hln:l.place=true)(hfl:st.fl l= .U n)(y:st.at l=some y0)(hv:vAt a.tmps g.β w l=some x):
  sJ P ((callFunc f #[x, .int .i64 k]).run P w1) (fun u w'=>u= .int .i64 M∧ ∃N,bP g0 w0 (st.turn l (.U n1) y') a N w'∧N.β=g.β∧(∀o b,g.own b= .obj o→w'.heap[b]? =w.heap[b]?)∧(∀b,b<w1.heap.size→g.own b= .none→b<w'.heap.size∧w'.heap[b]? =w1.heap[b]? ∧N.own b= .none)):=by
 have p:=Loc.place_ne hln; obtain⟨v0',hv',hna,E⟩:=hs.get y; rw[hv]at hv'; cases hv'; rw[hfl]at E; have E:Ow (frz g w) true w (gQ n) (fun b=>g.own b=l) x y0:=E
 have Y: ∀b,g.own b≠ .none→b<w.heap.size:=hs.ok.own; have hin:bP (g.one l) w1 (sg.bi.S sg.np (DA [.one (.c y0), .one (.c (.int .i64 k))] [])) ⟨#[x, .int .i64 k],[]⟩ (g.one l) w1:=by
  have htab:Tab (g.one l) w1:=fun b arr d=>by
   obtain⟨h1,ty,fz,h2⟩:=hs.framed.now b arr d; refine⟨by simp only[G.one]; rw[h1,z11 (Ne.symm p.1),z17 rfl],ty,fz, ?_⟩
   rw[C.keep b (z25.1 h2).1]; exact h2
  refine⟨pO.refl _ _ htab,⟨fun b d=> ?_⟩, ?_,rfl,fun i=> ?_,fun o cells Z=> ?_,fun i hi _=> ?_,fun _ _=>rfl, ?_⟩
  ·refine z46 (Y b fun e=>d ?_) C.size
   simp only[G.one]; rw[e,z11 (Ne.symm p.1),z17 rfl]
  ·rw[hnp]; rfl
  ·rw[hbi]
   match i with
   | 0=>
    show nV x∧LF (g.one l) w1 (.U 0) (.s 0 0 0) x y0; refine⟨hna, ?_⟩
    show Ow _ true w1 none _ x y0; exact E.any.mono id (fun e=>by cases e) (fun b d=>⟨by simp only[G.one]; rw[z17 d],C.keep b (Y b (by rw[d]; exact p.1))⟩)
   | 1=>
    show nV (.int .i64 k)∧LF (g.one l) w1 .S (.s 1 0 0) (.int .i64 k) (.int .i64 k); exact⟨⟨by simp,by simp⟩,rfl, .int .i64 k⟩
   | i+2=>trivial
  ·exfalso
   have Z:(if sg.bi.hasO o=true then(DA [.one (.c y0), .one (.c (.int .i64 k))] []).ob o else none)=some cells:=Z
   rw[hbi]at Z; simp [B.hasO,dL]at Z
  ·exfalso
   apply hi
   show aI (if sg.bi.has i=true then _ else _)=_
   split
   ·match i with
    | 0=>rfl
    | 1=>rfl
    | i+2=>rfl
   ·rfl
  ·rw[hnp]; show 2≤par; unfold par; omega
 have O:=O _ _ _ hin
 have key: ∀u w',(∃g',bP (g.one l) w1 (sg.bo.S 2 (DR (.one (.c (.int .i64 M))) (some y') [] none)) ⟨#[u,(#[x, .int .i64 k]:Array Value).getD (sg.io.getD 0) undef],[]⟩ g' w')→
   u= .int .i64 M∧ ∃N,bP g0 w0 (st.turn l (.U n1) y') a N w'∧N.β=g.β∧(∀o b,g.own b= .obj o→w'.heap[b]? =w.heap[b]?)∧(∀b,b<w1.heap.size→g.own b= .none→b<w'.heap.size∧w'.heap[b]? =w1.heap[b]? ∧N.own b= .none):=by
  rintro u w' ⟨g',h1⟩
  have hu:u= .int .i64 M:=by
   have h5:=h1.slots 0; rw[show(sg.bo.S 2 (DR (.one (.c (.int .i64 M))) (some y') [] none)).sl 0= .one (.c (.int .i64 M))from qO hb0]at h5; have:=LF.scal (g':=g') (w':=w') (κ':= .F) (l':= .none) h5.2 rfl; have this:Rd _ _ _ _:=this; cases this; rfl
  have hy:Ow (frz g' w') true w' (gQ n1) (fun b=>g'.own b= .s 1 0 0) x y':=by
   have h5:=h1.slots 1; rw[show(sg.bo.S 2 (DR (.one (.c (.int .i64 M))) (some y') [] none)).sl 1= .one (.c y')from qO hb1]at h5; have h7:LF g' w' (sg.bo.kd (.s 1 0 0)) (.s 1 0 0) _ y':=h5.2; rw[hbo]at h7; have h7:Ow (frz g' w') true w' (gQ n1) (fun b=>g'.own b= .s 1 0 0) _ y':=h7
   have H:(#[u,(#[x, .int .i64 k]:Array Value).getD (sg.io.getD 0) undef]:Array Value).getD 1 undef=x:=by rw[hio]; rfl
   rw[H]at h7; exact h7
  have A: ∀b,b<w.heap.size→g.own b≠l→g'.own b=(g.one l).own b∧w'.heap[b]? =w.heap[b]? ∧(g'.own b= .none∨g'.own b= .ext):=fun b d r=>by
   have R:(g.one l).own b= .none∨(g.one l).own b= .ext:=by
    simp only[G.one]; rw[z11 r]; split
    ·exact .inl rfl
    ·exact .inr rfl
   obtain⟨k1,k2⟩:=h1.framed.evo.keep b (z46 d C.size) (fun h=>h R)
   exact⟨k1,k2.trans (C.keep b d),by rw[k1]; exact R⟩
  have hown: ∀b,b<w.heap.size→g.own b≠l→(g.two g' w l).own b=g.own b:=fun b d r=>by
   obtain⟨_,_,k3⟩:=A b d r; simp only[G.two]; rw[z11 (fun e=>by rcases k3 with k3 | k3<;>(rw[k3]at e; cases e)),z17 ⟨d,r⟩]
  have hNl: ∀b,g'.own b= .s 1 0 0→(g.two g' w l).own b=l:=fun b d=>by simp only[G.two]; rw[z17 d]
  have hsz:w.heap.size≤w'.heap.size:=z93 C.size h1.framed.evo.size; have hok:GOk (g.two g' w l) w':=⟨fun b d=>by
   by_cases H:g'.own b= .s 1 0 0
   ·exact h1.ok.own b (by rw[H]; simp)
   ·by_cases e2:b<w.heap.size∧g.own b≠l
    ·exact z46 e2.1 hsz
    ·refine h1.ok.own b fun e3=>d ?_
     simp only[G.two]; rw[z11 H,z11 e2,z17 e3]⟩
  have J:LF (g.two g' w l) w' (.U n1) l x y':=by
   show Ow _ true w' (gQ n1) _ x y'; exact hy.mono id (fun e=>by cases e) (fun b d=>⟨hNl b d,rfl⟩)
  have K: ∀o b,g.own b= .obj o→w'.heap[b]? =w.heap[b]? :=fun o b d=>(A b (Y b (by rw[d]; simp)) (by rw[d]; exact Ne.symm (p.2.2 o))).2.1
  have hv3:vAt a.tmps g.β w' l=some x:=by
   cases l with
   | s i kk j=>exact hv
   | oc o j=>
    simp only[vAt]at hv ⊢; rw[St.at_oc,z19]at y; obtain⟨cells,hcl,_⟩:=y; obtain⟨arr,ty,_,_,k3,_⟩:=hs.obs o cells hcl; rw[cI (K o _ k3)]; exact hv
   | _=>cases hln
  have X:isL l .none=false:=z10 (Ne.symm p.1); have hsk:=hs.killV; have hatk:st.killV.at l=some y0:=y; have hsd:=hsk.drop (isL l) X; have t:(st.killV.drop (isL l)).at l=some y0:=y; have hfld:(st.killV.drop (isL l)).fl l= .D:=by rw[DQ X hatk,z17 (by simp [isL])]
  have hnoV: ∀m,(st.killV.drop (isL l)).fl m≠ .V:=fun m=>by
   refine rW (fun m=> ?_) m
   split
   ·simp
   ·exact sS st m
  have Q:zW g w (g.two g' w l) w' (fun m=>m=l) (st.killV.drop (isL l)):=⟨⟨hsz,fun b d r=>⟨hown b d r,(A b d r).2.1⟩⟩,fun m e=>by subst e; exact⟨fun h=>by rcases h with h | h; exact p.1 h; exact p.2.1 h,p.2.2⟩, .inr hnoV,h1.framed.os.trans C.os,h1.framed.tape.trans C.tape,h1.framed.output.trans C.output,hok⟩
  have h4:=hsd.upd (g':=g.two g' w l) (w':=w') Q (fun _=>rfl) (z:=y') t hv (fun _ _ _ _ h=>h) (.inl (fun i n j hsl=>by
   have hsl':st.sl i= .one (.pp l [] n j):=hsl; have e:st.killV.sl i=st.sl i:=rfl; simp only[St.drop,St.setf,e,hsl']; exact z17 ⟨trivial,trivial,by simp [aI,isL]⟩)) (by
   rw[hfld]; intro hsc; exact(LF.scal (g':=g.two g' w l) (w':=w') (κ':= .D) (l':=l) J hsc) hsc)
  refine⟨hu,g.two g' w l, ?_,rfl,K,fun b d hn=> ?_⟩
  rotate_left
  ·have hbl:g.own b≠l:=by rw[hn]; exact Ne.symm p.1
   have H:(g.one l).own b= .none:=by simp only[G.one]; rw[z11 hbl,z17 hn]
   obtain⟨k1,k2⟩:=h1.framed.evo.keep b d (fun h=>h (.inl H))
   refine⟨z46 d h1.framed.evo.size,k2, ?_⟩
   simp only[G.two]; rw[z11 (by rw[k1,H]; simp)]
   split
   ·exact hn
   ·rw[z17 (by rw[k1,H])]
  unfold St.turn St.raise; refine h4.setf (g':=g.two g' w l) X (fun _=>rfl) h4.ok (fun _ _=>rfl) (fun _ _ h=>h) (fun _ h=>h) (fun m z u' hz hu' R=> ?_) (fun i kk zs b off q Z=> ?_) (fun i hi hR R=> ?_)
  ·by_cases e:m=l
   ·rw[z17 e]
    subst e; rw[upd_at t,z17 rfl]at hz; cases hz; have L:vAt a.tmps g.β w' m=some u':=hu'; rw[hv3]at L; cases L; exact J
   ·rw[z11 e]; exact R
  ·by_cases e:Loc.s i kk 0=l
   ·exfalso
    have I:=upd_at (z:=y') (m:=l) t; rw[z17 rfl, ←e,St.at_s]at I; rw[←e]at q; cases hsi:((st.killV.drop (isL (.s i kk 0))).upd (.s i kk 0) y').sl i with
    | one u=>
     rw[hsi]at q I; cases kk with
     | zero=>simp only[V.comp,z9]at q; subst q; simp [V.leaf,W.leaf]at I
     | succ kk=>simp [V.comp]at q
    | tup ws=>
     rw[hsi]at q I; simp only[V.comp]at q; simp [V.leaf,q,W.leaf]at I
   ·rw[z11 e]; exact Z
  ·by_cases e:Loc.s i 0 0=l
   ·exfalso
    have I:=upd_at (z:=y') (m:=l) t; rw[z17 rfl, ←e]at I; rw[←e]at hi; exact hi (uM I)
   ·rw[z11 e]at R
    refine⟨R,fun hh=> ?_⟩
    split
    ·rfl
    ·exact hh
 unfold sJ at O ⊢; split at O
 ·exact key _ _ O
 ·refine Calls.mono O ?_
  rintro e w' ⟨v,rfl,h⟩
  exact⟨v,rfl,key _ _ h⟩
 ·exact O.elim
set_option linter.unusedVariables false

def bX(P:Program):List (Nat×FuncId)→List Value→Int→World→(Nat→Prop)→(Value→World→Prop)→Prop
 | [],cs,k,w,e,Q=> ∀d,CL w d→Q (.int .i64 k) d
 | (off,g)::L,cs,k,w,e,Q=> ∀d (a:Nat→Prop),CL w d→(∀b,e b→a b)→(∀b,a b→ ¬ e b→w.heap.size≤b)→(∀b,a b→b<d.heap.size)→
   ∃c,cs[off]? =some c∧sJ P ((callFunc g #[c, .int .i64 k]).run P d) (fun u f=> ∃h,u= .int .i64 h∧(∀b,a b→b<f.heap.size∧f.heap[b]? =d.heap[b]?)∧bX P L cs h f a Q)

theorem sJ.mono{P:Program}{n:Result Next}{R a:Value→World→Prop}(h:sJ P n R)(b: ∀u w,R u w→a u w):sJ P n a:=by
 unfold sJ at h ⊢; split at h
 ·exact b _ _ h
 ·exact Calls.mono h fun e w ⟨v,c,h1⟩=>⟨v,c,b _ _ h1⟩
 ·exact h.elim

theorem bX.ext{P:Program}{L:List (Nat×FuncId)}{cs:List Value}{k:Int}{w i:World}{f:Nat→Prop}{Q:Value→World→Prop}(h:bX P L cs k w f Q)(d:CL w i):bX P L cs k i f Q:=by
 cases L with
 | nil=>exact fun e c=>h e (d.trans c)
 | cons x L=>
  obtain⟨off,g⟩:=x; exact fun e a c j l m=>h e a (d.trans c) j (fun b o hn=>z93 d.size (l b o hn)) m

theorem bX.less{P:Program}: ∀ {L:List (Nat×FuncId)} {cs:List Value} {k:Int} {w:World} {f d:Nat→Prop} {Q:Value→World→Prop},bX P L cs k w f Q→(∀b,d b→f b)→(∀b,f b→b<w.heap.size)→bX P L cs k w d Q
 | [],cs,k,w,f,d,Q,h,_,_=>h
 | (off,g)::L,cs,k,w,f,d,Q,h,p,r=>fun t i h1 v l m=>by
  obtain⟨c,q,hn⟩:=h t (fun b=>i b∨f b) h1 (fun b a=> .inr a) (fun b a hn=>by
   rcases a with a | a
   ·exact l b a (fun h=>hn (p b h))
   ·exact absurd a hn) (fun b a=>by
   rcases a with a | a
   ·exact m b a
   ·exact z46 (r b a) h1.size)
  refine⟨c,q,hn.mono fun u x ⟨s,e,j,o⟩=>⟨s,e,fun b a=>j b (.inl a),o.less (fun b a=> .inl a) fun b a=>(j b a).1⟩⟩

theorem bX.app{P:Program}: ∀ {s p:List (Nat×FuncId)} {cs:List Value} {k:Int} {w:World} {a:Nat→Prop} {Q:Value→World→Prop},bX P (s++p) cs k w a Q→(∀b,a b→b<w.heap.size)→
  bX P s cs k w a (fun u o=> ∃j,u= .int .i64 j∧(∀b,a b→b<o.heap.size∧o.heap[b]? =w.heap[b]?)∧bX P p cs j o a Q)
 | [],p,cs,k,w,a,Q,h,r=>fun l h1=>⟨k,rfl,fun b d=>⟨z46 (r b d) h1.size,h1.keep b (r b d)⟩,bX.ext h h1⟩
 | (off,g)::s,p,cs,k,w,a,Q,h,r=>fun l f h1 i t v=>by
  obtain⟨c,z,hn⟩:=h l f h1 i t v; refine⟨c,z,hn.mono fun u o ⟨j,e,m,x⟩=>⟨j,e,m, ?_⟩⟩
  have C:=bX.app x (fun b d=>(m b d).1)
  refine bX.mapQ C fun u H ⟨E,B,A,D⟩=>⟨E,B,fun b d=> ?_,D.less i fun b d=>(A b d).1⟩
  obtain⟨F,G⟩:=A b (i b d); exact⟨F,G.trans ((m b (i b d)).2.trans (h1.keep b (r b d)))⟩
where
 bX.mapQ {P:Program}: ∀ {L:List (Nat×FuncId)} {cs:List Value} {k:Int} {w:World} {a:Nat→Prop} {Q q:Value→World→Prop},bX P L cs k w a Q→(∀u w,Q u w→q u w)→bX P L cs k w a q
  | [],cs,k,w,a,Q,q,h,y=>fun l h1=>y _ _ (h l h1)
  | (off,g)::L,cs,k,w,a,Q,q,h,y=>fun l f h1 i t v=>by
   obtain⟨c,z,hn⟩:=h l f h1 i t v; exact⟨c,z,hn.mono fun u o ⟨j,e,m,x⟩=>⟨j,e,m,bX.mapQ x y⟩⟩

def Nq(off:Nat)(L:List (Nat×FuncId)):List (Nat×FuncId):=L.map fun x=>(x.1+off,x.2)
theorem bX.shift{P:Program}{off n:Nat}: ∀ {L:List (Nat×FuncId)} {cs:List Value} {k:Int} {w:World} {a:Nat→Prop} {Q:Value→World→Prop},(∀x∈L,x.1<n)→bX P (Nq off L) cs k w a Q→bX P L ((cs.drop off).take n) k w a Q
 | [],cs,k,w,a,Q,_,h=>h
 | (o,g)::L,cs,k,w,a,Q,d,h=>fun s b h1 f i j=>by
  obtain⟨c,p,hn⟩:=h s b h1 f i j; have ho:o<n:=d (o,g) z27; refine⟨c, ?_,hn.mono fun u t ⟨r,e,l,m⟩=>⟨r,e,l,bX.shift (fun x q=>d x (z23 _ q)) m⟩⟩
  rw[z66,z17 ho,z47,z166]
  exact p

def Sl(a:Bool)(v:Value)(cs:List Value):Prop:=if a=true then v= .agg cs.toArray else cs=[v]
def tT(P:Program)(f:FuncId)(a:Bool)(n:Nat)(L:List (Nat×FuncId)):Prop:=
 (∀x∈L,x.1<n)∧ ∀(v:Value) (cs:List Value) (k:Int) (w:World) (c:Nat→Prop) (Q:Value→World→Prop),Sl a v cs→cs.length=n→(∀b,c b→b<w.heap.size)→bX P L cs k w c Q→sJ P ((callFunc f #[v, .int .i64 k]).run P w) Q
theorem tT.slice(P:Program)(g:FuncId):tT P g false 1 [(0,g)]:=⟨by simp,fun v cs k w f Q a o m h=>by
 simp only[Sl,z51,if_false]at a; subst a; obtain⟨c,l,hn⟩:=h w f (CL.refl w) (fun _ h=>h) (fun b h1 i=>absurd h1 i) m
 cases l; exact hn.mono fun u d ⟨p,e,_,j⟩=>by subst e; exact j d (CL.refl d)⟩

theorem MC{P:Program}{τ:TypeId→Option TI}(s:aX P τ){t:TypeId}{i:TI}(y:τ t=some i){w:World}{b p:Nat}{a:Array Value}{ty:TypeId}(x:w.heap[b]? =some (.cells a ty (0,0)))(A:p+i.size≤a.size)(h1:i.agg=false→i.size=1):
  ∃u,(loadVar t ⟨b,p,none⟩).run P w= .ok u w∧Sl i.agg u ((a.toList.drop p).take i.size):=by
 obtain⟨q,d,z,C,r,D,E,F,G,H,I,m⟩:=s.get y; have e: ∀j,w.cell? ⟨b,p+j,none⟩=a[p+j]? :=fun j=>by rw[cJ w b _ a ty _ x]
 cases hag:i.agg with
 | true=>
  rw[hag]at m; have g:((a.toList.drop p).take i.size).length=i.size:=by simp; omega
  have l: ∀(j:Nat) v,((a.toList.drop p).take i.size)[j]? =some v→w.cell? ((⟨b,p,none⟩:Addr).add j)=some v:=by
   intro j v k; rw[z66]at k
   split at k
   ·rw[z47,z26]at k
    rw[kW,e,k]
   ·cases k
  have f:=run_loadCells_list (P:=P) w ⟨b,p,none⟩ _ l; rw[g]at f; have c:(isAgg t).run P w= .ok true w:=by
   simp only[isAgg,Sem.run_bind,run_underlying r,Result.andThen_ok]; cases d<;>first | (simp at m; done) | rfl
  refine⟨.agg ((a.toList.drop p).take i.size).toArray, ?_,by simp [Sl]⟩
  simp only[loadVar,Sem.run_bind,c,Result.andThen_ok,if_true,sizeOf,typeInfo,run_program,C,Sem.run_pure,D,f]
 | false=>
  rw[hag]at m; have B:=h1 hag; have h:p<a.size:=by omega
  have o:w.cell? ⟨b,p,none⟩=some a[p]:=by
   have:=e 0; rw[z69]at this; rw[this,z68 h]
  have c:(isAgg t).run P w= .ok false w:=by
   simp only[isAgg,Sem.run_bind,run_underlying r,Result.andThen_ok]; cases d<;>first | (simp at m; done) | rfl
  refine⟨a[p], ?_, ?_⟩
  ·simp only[loadVar,Sem.run_bind,c,Result.andThen_ok,z51,if_false,run_load,o]
  ·simp only[Sl,z51,if_false,B]
   have:a.toList.drop p=a[p]::a.toList.drop (p+1):=by
    rw[z139 (by simpa using h)]; simp
   rw[this]; rfl
structure MR where
 off:Nat
 g:FuncId
 es:List (List T)
 es':List (List T)
 k:Int
 k1:Int
def BK(c:Nat):List MR→List T→Int→List T→Int→Prop
 | [],cells,k,a,b=>a=cells∧b=k
 | m::r,cells,k,a,b=>cells[c+m.off]? =some (.sl m.es)∧m.k=k∧BK c r (cells.set (c+m.off) (.sl m.es')) m.k1 a b
def biM:B:=⟨[(0,[[.U 0]]),(1,[[.S]])],[]⟩
def sH(F:FA)(d i:Nat):Bool:= !(Nat.beq i d)&& !(aS d (aI (F.shOf i)))
def B.turn(F:FA)(b:B)(l:Loc):B:=((((b.killV F).setf F (isL l) (fun m q=>if isL l m=true then .D else q)).filt (fU F l)).setf F (isL l) (fun m q=>if m=l then .U 0 else q))
def B.turnM(F:FA)(o a:Nat):List Nat→B→B
 | [],b=>b
 | j::r,b=>B.turnM F o a r (b.turn F (.oc o (a+j)))
def D.updM(o a:Nat):List MR→D→D
 | [],x=>x
 | m::r,x=>D.updM o a r (x.upd (.oc o (a+m.off)) (.sl m.es'))
def vI(k:Int):V:= .one (.c (.int .i64 k))
def okBi:B→Bool
 | ⟨[(0,[[.U 0]]),(1,[[.S]])],[]⟩=>true
 | _=>false
theorem To{b:B}(h:okBi b=true):b=biM:=by
 unfold okBi at h; split at h
 ·rfl
 ·cases h
def okSg(sg:Sg):Bool:=decide (sg.io=some 0)&&Nat.beq sg.np 2&&Nat.beq sg.no 0&&okBi sg.bi&&sg.bo.has 0&&sg.bo.has 1&&decide (sg.bo.kd (.s 1 0 0)= .U 0)
def B.mkReg(F:FA)(b:B)(o a t d r c:Nat)(L:List Nat):B:=((((b.filt (sH F t)).filt (sH F d)).turnM F o a L).filt (sH F r)).put F c (fun _ _=> .S)
def mkC(τ:TypeId→Option TI)(Sgs:FuncId→List Sg)(F:FA)(b:B)(L:List (Nat×FuncId)):List Oper→Option B
 | [⟨some t, .load S (.tmp tp),_,_,_,none⟩,⟨some t', .move (.tmp tk),_,_,_,none⟩,⟨some r, .call _,_,_,_,none⟩,⟨some r0, .assign (.tmp _),_,_,_,none⟩]=>
  (match F.shOf tp with
  | .one (.ptr o a)=>bif b.has tp&&b.hasO o&&b.has tk&&L.all (fun x=>isU (b.kd (.oc o (a+x.1)))&&(Sgs x.2).any okSg)&&(Nat.blt t t'&&Nat.blt t' r&&Nat.blt r F.n&&Nat.blt r0 F.n&& !(Nat.beq tk t)&& !(Nat.beq tp t))&&Own.fits (vI 0) (F.shOf r0)then some ((b.mkReg F o a t t' r r0 (L.map (·.1))).nrm F)else none
  | _=>none)
 | _=>none

def G.relab(g:G)(σ:Loc→Loc)(β':Nat→Nat):G:= { β:=β',own:=fun b=>σ (g.own b) }

structure Na (σ:Loc→Loc):Prop where
 none:σ .none= .none
 ext:σ .ext= .ext
 obj: ∀l,(∀o,l≠ .obj o)→ ∀o,σ l≠ .obj o

theorem LF.relab{g:G}{w:World}{σ:Loc→Loc}{β':Nat→Nat}(f:Na σ)(d:GOk g w){c q:K}{l l':Loc}{v:Value}{x:T}(j:l.place=true)(h:LF g w c l v x)(i:c.hand true q=true)(k:q.hold=true→σ l=l'):LF (g.relab σ β') w q l' v x:=
 h.hand (ext:=true) d j i (fun b a=>by show σ (g.own b)=_; rw[a]; exact f.none) (fun e=>by cases e) (fun b a o=>f.obj _ a o) (fun m b a=>by show σ (g.own b)=l'; rw[a]; exact k m)

theorem CpR.relab{g:G}{w:World}{σ:Loc→Loc}{β':Nat→Nat}(d:Na σ){c q:K}{b off:Nat}{xs:List T}(h:CpR g w c b off xs)(f:c.hand true q=true)(i:q= .D∨q= .F∨q= .V):CpR (g.relab σ β') w q b off xs:=
 h.hand (ext:=true) f (fun b a=>by show σ (g.own b)=_; rw[a]; exact d.none) (fun e=>by cases e) (fun b a o=>d.obj _ a o) i

theorem bP.relab{g0:G}{w0:World}{st:St}{a:Act}{g:G}{w:World}(h:bP g0 w0 st a g w){σ:Loc→Loc}(q:Na σ){β':Nat→Nat}(a2:Act)(d:St)(y: ∀o,par≤o→β' o=g.β o)
  (v:a2.tmps.size=d.n)(hn:d.n≤par)(K:a2.defers=[])(m: ∀i,aI (d.sl i)= .none)(u: ∀i,RV (g.relab σ β') w (fun k j=>d.fl (.s i k j)) (fun k j=> .s i k j) (a2.tmps.getD i undef) (d.sl i))
  (t: ∀o cells,d.ob o=some cells→ ∃f,st.ob f=some cells∧β' o=g.β f∧σ (.obj f)= .obj o∧ ∀j,(st.fl (.oc f j)).hand true (d.fl (.oc o j))=true∧((d.fl (.oc o j)).hold=true→σ (.oc f j)= .oc o j)):
  bP g0 w0 d a2 (g.relab σ β') w:=by
 refine⟨⟨h.framed.tab,h.framed.os,h.framed.tape,h.framed.output,h.framed.evo.size,fun b p A=> ?_⟩,⟨fun b p=>h.ok.own b (fun e=>p ?_)⟩,v,K,u,fun o cells J=> ?_,fun i M=>absurd (m i) M,fun o ho=>(y o ho).trans (h.bp o ho),hn⟩
 ·obtain⟨E,F⟩:=h.framed.evo.keep b p A
  have L:qQ (g0.own b):=z143.1 A; refine⟨?_,F⟩
  show σ (g.own b)=_; rw[E]; rcases L with e | e
  ·rw[e]; exact q.none
  ·rw[e]; exact q.ext
 ·show σ (g.own b)= .none
  rw[e]; exact q.none
 ·obtain⟨f,h1,H,I,z⟩:=t o cells J
  obtain⟨r,ty,O,P,Q,R⟩:=h.obs f cells h1; have p:(g.relab σ β').β o=g.β f:=H; rw[p]; refine⟨r,ty,O,P, ?_,fun j x N=> ?_⟩
  ·show σ (g.own (g.β f))= .obj o
   rw[Q,I]
  ·obtain⟨c,B,C,D⟩:=R j x N
   exact⟨c,B,C,D.relab q h.ok rfl (z j).1 (z j).2⟩

theorem bP.body{c:B}{x:D}{b:Nat}{g:G}{w:World}{vs:Array Value}{n:Nat}(h:bP g w (c.S b x) ⟨vs,[]⟩ g w)(hn:b≤n)(f:n≤par):
  bP g w (c.S n x) ⟨vs++Array.replicate (n - vs.size) undef,[]⟩ g w:=by
 have m:vs.size=b:=h.size; have a: ∀i,(vs++Array.replicate (n - vs.size) undef).getD i undef=vs.getD i undef:=by
  intro i; simp only[z43,WE]
  split
  ·rfl
  ·rename_i d
   rw[z121 (xs:=vs) (by omega)]
   simp only[z144]
   split<;>rfl
 have p: ∀l,vAt (vs++Array.replicate (n - vs.size) undef) g.β w l=vAt vs g.β w l:=fun l=>by
  cases l with
  | s i k j=>simp only[vAt]; rw[a]
  | _=>rfl
 refine⟨h.framed,h.ok, ?_,rfl,fun i=> ?_,h.obs,fun i d e=> ?_,h.bp,f⟩
 ·show(vs++Array.replicate (n - vs.size) undef).size=n
  simp; omega
 ·show RV g w _ _ ((vs++Array.replicate (n - vs.size) undef).getD i undef) _
  rw[a]; exact h.slots i
 ·obtain⟨q,r⟩:=h.pls i d e
  refine⟨q, ?_⟩
  show GC _ _ _ _ ((vs++Array.replicate (n - vs.size) undef).getD i undef) _; rw[a]; exact r.congr (p _) rfl (fun _ _ _ _ _ _ _ h=>h)

def Qv(τ:TypeId→Option TI)(x:D):ResultVar→Option W
 | .tmp t=>(match x.sl t with | .one w=>some w | _=>none)
 | .cell t ty=>(match τ ty,x.sl t with
  | some i, .one (.ptr o p)=>(match x.ob o with
   | some cells=>(match pF i (cells.drop p)with | some (.one w)=>some w | _=>none)
   | none=>none)
  | _,_=>none)
def DV(τ:TypeId→Option TI)(x:D):List ResultVar→Option (List W)
 | []=>some []
 | r::rs=>match Qv τ x r,DV τ x rs with
  | some w,some ws=>some (w::ws)
  | _,_=>none
def Ib(a:List W):V:=match a with
 | [w]=> .one w
 | a=> .tup a

def QT(F:FA):ResultVar→Nat→Loc
 | .tmp t,j=> .s t 0 j
 | .cell t _,j=>match F.shOf t with | .one (.ptr o p)=> .oc o (p+j) | _=> .none

theorem Iq{τ:TypeId→Option TI}{x:D}: ∀ {rs:List ResultVar} {a:List W},DV τ x rs=some a→rs.length=a.length∧ ∀(k:Nat) r,rs[k]? =some r→ ∃w,a[k]? =some w∧Qv τ x r=some w
 | [],a,h=>by cases h; exact⟨rfl,fun k r h=>by simp at h⟩
 | r::rs,a,h=>by
  unfold DV at h; split at h<;>try cases h
  rename_i w g h1 c; obtain⟨d,e⟩:=Iq c; refine⟨by simp [d],fun k f b=> ?_⟩
  cases k with
  | zero=>simp only[z20,z9]at b ⊢; subst b; exact⟨w,rfl,h1⟩
  | succ k=>simp only[z21]at b ⊢; exact e k f b

def vM(tmps:Array Value):ResultVar→Sem Value
 | .tmp t=>pure (tmps.getD t undef)
 | .cell a t=>do loadVar t (←asAddr (tmps.getD a undef))

theorem Lo{α:Type}{P:Program}{w:World}(f:α→Sem Value): ∀ {l:List α} {us:List Value},l.length=us.length→(∀(k:Nat) x u,l[k]? =some x→us[k]? =some u→(f x).run P w= .ok u w)→(l.mapM f).run P w= .ok us w
 | [],us,h,_=>by
  cases us with
  | nil=>simp
  | cons u us=>simp at h
 | x::l,us,h,a=>by
  cases us with
  | nil=>simp at h
  | cons u us=>
   have h1:=a 0 x u rfl rfl; have b:=Lo f (l:=l) (us:=us) (by simpa using h) (fun k y v d c=>a (k+1) y v (by simpa using d) (by simpa using c))
   simp [List.mapM_cons,Sem.run_bind,h1,b]

def xB(us:List Value):Value:=match us with
 | [u]=>u
 | us=> .tuple us.toArray

theorem EE{P:Program}{w:World}{fn:Func}{tmps:Array Value}{us:List Value}(h:fn.results.toList.length=us.length)(b: ∀(k:Nat) x u,fn.results.toList[k]? =some x→us[k]? =some u→(vM tmps x).run P w= .ok u w):
  (results fn tmps).run P w= .ok (xB us) w:=by
 have h1:=Lo (P:=P) (w:=w) (vM tmps) h b; have a:(results fn tmps)=(fn.results.mapM (vM tmps) >>=fun vs=>pure (if h:vs.size=1 then vs[0]else .tuple vs)):=by
  unfold results; congr 1
 rw[a,z137]; simp [h1]; match us with
 | []=>simp [xB]
 | [u]=>simp [xB]
 | u::v::r=>simp [xB]

def Nv(t:Nat):List ResultVar→Nat→Option Nat
 | [],_=>none
 | .tmp a::r,i=>bif Nat.beq a t then some i else Nv t r (i+1)
 | _::r,i=>Nv t r (i+1)
def HI(F:FA)(o j:Nat):List ResultVar→Nat→Option (Nat×Nat)
 | [],_=>none
 | .cell t _::r,i=>(match F.shOf t with
  | .one (.ptr a p)=>bif Nat.beq a o&&Nat.ble p j then some (i,j - p)else HI F o j r (i+1)
  | _=>HI F o j r (i+1))
 | _::r,i=>HI F o j r (i+1)
def Be(F:FA)(rs:List ResultVar)(a io:Option Nat):Loc→Loc
 | .s t k j=>bif Nat.beq k 0 then(match Nv t rs 0 with | some i=> .s 0 i j | none=>if io=some t∧j=0 then .s 1 0 0 else .ext)else .ext
 | .oc o j=>if par≤o then .oc o j else if a=some o then .oc 0 j else(match HI F o j rs 0 with | some (i,j')=> .s 0 i j' | none=> .ext)
 | .obj o=>if par≤o then .obj o else if a=some o then .obj 0 else .ext
 | .none=> .none
 | .ext=> .ext

theorem Ml(F:FA)(rs:List ResultVar)(c io:Option Nat):Na (Be F rs c io):=by
 refine⟨rfl,rfl,fun l b o=> ?_⟩
 cases l with
 | obj a=>exact absurd rfl (b a)
 | none=>simp [Be]
 | ext=>simp [Be]
 | s t k j=>
  simp only[Be]; cases Nat.beq k 0 with
  | false=>simp
  | true=>
   simp only[z15]; split
   ·simp
   ·split<;>simp
 | oc a j=>
  simp only[Be]
  (repeat' split)<;>simp

def uO(a:Option Nat)(o:Nat):Option Nat:=if par≤o then some o else if a=some o then some 0 else none

def IQ(F:FA)(b:B)(σ:Loc→Loc)(r:ResultVar)(k:Nat):Nat→List K→Bool
 | _,[]=>true
 | j,q::row=>(b.kd (QT F r j)).hand true q&&(!q.hold||decide (σ (QT F r j)= .s 0 k j))&&IQ F b σ r k (j+1) row
theorem Ir{F:FA}{b:B}{σ:Loc→Loc}{r:ResultVar}{k:Nat}: ∀ {l:List K} {a:Nat},IQ F b σ r k a l=true→ ∀ {j:Nat} {q:K},l[j]? =some q→(b.kd (QT F r (a+j))).hand true q=true∧(q.hold=true→σ (QT F r (a+j))= .s 0 k (a+j))
 | [],_,_,j,q,h=>by simp at h
 | p::l,a,h,0,q,c=>by
  simp only[IQ,z7]at h; simp only[z20,z9]at c
  subst c; refine⟨h.1.1,fun d=> ?_⟩
  have:=h.1.2; rw[d]at this; simpa using this
 | p::l,a,h,j+1,q,c=>by
  simp only[IQ,z7]at h; simp only[z21]at c
  have:=Ir h.2 c; rwa[show a+1+j=a+(j+1)by omega]at this

def IR(F:FA)(b:B)(a:B)(σ:Loc→Loc)(k:Nat)(r:ResultVar):Bool:=
 (match dL 0 a.sl with | some κ=>(match κ[k]? with | some row=>IQ F b σ r k 0 row | none=>true) | none=>true)&&
 (match r with
  | .tmp t=>b.has t&&(match F.shOf t with | .one (.cp _)=>dfv (a.kd (.s 0 k 0)) | .one (.al _ _)=>false | .one (.pp _ _ _ _)=>false | _=>true)
  | .cell t _=>b.has t&&(match F.shOf t with | .one (.ptr o _)=>b.hasO o | _=>false))
def BG(F:FA)(b:B)(a:B)(σ:Loc→Loc):Nat→List ResultVar→Bool
 | _,[]=>true
 | k,r::rs=>IR F b a σ k r&&BG F b a σ (k+1) rs
theorem Is{F:FA}{b c:B}{σ:Loc→Loc}: ∀ {l:List ResultVar} {k0:Nat},BG F b c σ k0 l=true→ ∀ {k:Nat} {r:ResultVar},l[k]? =some r→IR F b c σ (k0+k) r=true
 | [],_,_,k,r,h=>by simp at h
 | p::l,k0,h,0,r,a=>by
  simp only[BG,z7]at h; simp only[z20,z9]at a
  subst a; exact h.1
 | p::l,k0,h,k+1,r,a=>by
  simp only[BG,z7]at h; simp only[z21]at a
  have:=Is h.2 a; rwa[show k0+1+k=k0+(k+1)by omega]at this

theorem PX{F:FA}{b a:B}{σ:Loc→Loc}{k:Nat}{r:ResultVar}(h:IR F b a σ k r=true)(j:Nat):(b.kd (QT F r j)).hand true (a.kd (.s 0 k j))=true∧((a.kd (.s 0 k j)).hold=true→σ (QT F r j)= .s 0 k j):=by
 simp only[IR,z7]at h; have h:=h.1; simp only[B.kd,B.get]at h ⊢; cases hl:dL 0 a.sl with
 | none=>exact⟨rfl,fun e=>by cases e⟩
 | some κ=>
  rw[hl]at h; simp only[CI]at h ⊢; cases hr:κ[k]? with
  | none=>exact⟨rfl,fun e=>by cases e⟩
  | some row=>
   rw[hr]at h; cases hq:row[j]? with
   | none=>simp only[hq]; exact⟨rfl,fun e=>by cases e⟩
   | some q=>
    have:=Ir h hq; simp only[z30]at this; simp only[hq]; exact this

theorem Wt{q:K}(h:dfv q=true):q= .D∨q= .F∨q= .V:=by cases q<;>simp_all [dfv]

def NT(F:FA)(b a:B)(c:Option Nat):Bool:=a.ob.all fun p=>
 if par≤p.1 then b.hasO p.1&&sD true (fun j=>b.kd (.oc p.1 j)) 0 p.2
 else Nat.beq p.1 0&&(match c with | some o=> !(decide (par≤o))&&b.hasO o&&sD true (fun j=>b.kd (.oc o j)) 0 p.2 | none=>false)

theorem RT{F:FA}{b e:B}{k:Option Nat}(h:NT F b e k=true){oc:Nat}(ho:e.hasO oc=true): ∃d,uO k d=some oc∧b.hasO d=true∧ ∀j,(b.kd (.oc d j)).hand true (e.kd (.oc oc j))=true:=by
 simp only[B.hasO]at ho; cases hl:dL oc e.ob with
 | none=>rw[hl]at ho; cases ho
 | some r=>
  have c:=z18.1 h _ (iM hl); simp only at c; have f: ∀d,sD true (fun j=>b.kd (.oc d j)) 0 r=true→ ∀j,(b.kd (.oc d j)).hand true (e.kd (.oc oc j))=true:=fun d h1 j=>by
   simp only[B.kd,B.get,hl]at h1 ⊢; cases hq:r[j]? with
   | none=>simp only[hq]; rfl
   | some q=>
    have:=wH h1 hq; simp only[z30]at this; simp only[hq]; exact this
  by_cases g:par≤oc
  ·rw[z17 g,z7]at c
   exact⟨oc,by simp [uO,g],c.1,f oc c.2⟩
  ·rw[z11 g,z7]at c
   have h0:=z14 c.1; subst h0; have a:=c.2; cases hn:k with
   | none=>rw[hn]at a; cases a
   | some o=>
    rw[hn]at a; simp only[z7]at a; obtain⟨⟨l,m⟩,p⟩:=a; have i: ¬ par≤o:=by simpa using l
    exact⟨o,by simp [uO,i],m,f o p⟩

theorem ET{α:Type}: ∀ {rs:List α} {Q:Nat→Value→Prop},(∀(k:Nat) r,rs[k]? =some r→ ∃u,Q k u)→ ∃us:List Value,rs.length=us.length∧ ∀(k:Nat) u,us[k]? =some u→Q k u
 | [],Q,_=>⟨[],rfl,fun k u h=>by simp at h⟩
 | r::rs,Q,h=>by
  obtain⟨u,d⟩:=h 0 r rfl; obtain⟨us,h1,b⟩:=ET (rs:=rs) (Q:=fun k u=>Q (k+1) u) (fun k r c=>h (k+1) r (by simpa using c))
  refine⟨u::us,by simp [h1],fun k v a=> ?_⟩
  cases k with
  | zero=>simp only[z20,z9]at a; subst a; exact d
  | succ k=>exact b k v (by simpa using a)

theorem bP.ret{P:Program}{τ:TypeId→Option TI}(hT:aX P τ){F:FA}{g0:G}{w0:World}{b:B}{x:D}{a:Act}{g:G}{w:World}{n:Nat}(h:bP g0 w0 (b.S n x) a g w)(hA:Ag F b x){rs:List ResultVar}{J:List W}{m:B}{C io:Option Nat}{ob:List (List T)}{nw:Option (List T)}{iov:Option T}{u1:Value}
  (hws:DV τ x rs=some J)(hr:BG F b m (Be F rs C io) 0 rs=true)(hob:NT F b m C=true)(hobd: ∀oc R,m.hasO oc=true→uO C R=some oc→(DR ((Ib J).to (uO C)) iov ob nw).ob oc=x.ob R)
  (hio: ∀z,io=some z→a.tmps.getD z undef=u1∧b.has z=true∧(∃t,x.sl z= .one (.c t)∧iov=some t)∧(b.kd (.s z 0 0)).hand true (m.kd (.s 1 0 0))=true∧((m.kd (.s 1 0 0)).hold=true→Be F rs C io (.s z 0 0)= .s 1 0 0))(hio0:io=none→m.has 1=false)
  (hb2: ∀i,m.has i=true→i<2): ∃us:List Value,rs.length=us.length∧(∀(k:Nat) r u,rs[k]? =some r→us[k]? =some u→(vM a.tmps r).run P w= .ok u w)∧ ∃g',bP g0 w0 (m.S 2 (DR ((Ib J).to (uO C)) iov ob nw)) ⟨#[xB us,u1],[]⟩ g' w:=by
 let σ:=Be F rs C io
 have hσ:Na σ:=Ml F rs C io; let β':Nat→Nat:=fun o=>if par≤o then g.β o else(C.map g.β).getD 0
 have hβp: ∀o,par≤o→β' o=g.β o:=fun o h=>by simp only[β',z17 h]
 have hβ: ∀o o',uO C o=some o'→β' o'=g.β o:=by
  intro o o' h; simp only[uO]at h; split at h
  ·rename_i Z; cases h; exact hβp o Z
  ·split at h
   ·rename_i h1; cases h
    simp only[β',z11 Gx,h1,z33,z62]
   ·cases h
 have hok':GOk (g.relab σ β') w:=⟨fun b X=>h.ok.own b (fun e=>X (by show σ (g.own b)= .none; rw[e]; exact hσ.none))⟩
 obtain⟨hlen,hget⟩:=Iq hws; have hone: ∀(k:Nat) r,rs[k]? =some r→ ∃u A,J[k]? =some A∧(vM a.tmps r).run P w= .ok u w∧RW (g.relab σ β') w (fun j=>m.kd (.s 0 k j)) (fun j=> .s 0 k j) u (A.to (uO C)):=by
  intro k r E; obtain⟨A,hwk,f⟩:=hget k r E; have l:=Is hr E; rw[z30]at l; have M:=fun j=>PX l j
  simp only[IR,z7]at l; have l:=l.2; cases r with
  | tmp t=>
   simp only[z7]at l; obtain⟨c1,c2⟩:=l; unfold Qv at f; simp only at f; split at f<;>try cases f
   rename_i hx; have H:=h.slots t; rw[qO c1,hx]at H; have H:RW g w (fun j=>b.kd (.s t 0 j)) (fun j=> .s t 0 j) (a.tmps.getD t undef) A:=H
   refine⟨a.tmps.getD t undef,A,hwk,by simp [vM],H.to (fun o o' ho=>hβ o o' ho) (fun j z u _ _ _ K=>K.relab hσ h.ok rfl (M j).1 (M j).2) (fun zs e bb off hc=> ?_)⟩
   have K:=hA.fits c1 (by rw[hx]; simp)
   rw[hx,e]at K; cases hs2:F.shOf t with
   | tup J=>rw[hs2]at K; simp [Own.fits]at K
   | one y=>
    rw[hs2]at K c2; cases y<;>simp [Own.fits,bO]at K
    exact hc.relab hσ (M 0).1 (Wt c2)
  | cell t ty=>
   simp only[z7]at l; obtain⟨c1,c2⟩:=l; unfold Qv at f; simp only at f; split at f<;>try cases f
   rename_i i o p hi hx; split at f<;>try cases f
   rename_i cells L; split at f<;>try cases f
   rename_i d; have N:=Kb hA (v:= .tmp t) c1 hx; have N:F.shOf t= .one (.ptr o p):=N; rw[N]at c2; have hsrc: ∀j,QT F (.cell t ty) j= .oc o (p+j):=fun j=>by simp only[QT,N]
   have H:=h.slots t; rw[qO c1,hx]at H; have hptr:a.tmps.getD t undef= .pointer (some ⟨g.β o,p,none⟩):=H; obtain⟨arr,ty',k1,k2,k3,k4⟩:=h.obs o cells (by rw[Lc c2]; exact L)
   have I: ∀(j:Nat) z,(cells.drop p)[j]? =some z→ ∃c,w.cell? ⟨g.β o,p+j,none⟩=some c∧nV c∧LF (g.relab σ β') w (m.kd (.s 0 k j)) (.s 0 k j) c z:=fun j z hz=>by
    rw[z47]at hz
    obtain⟨c,d1,d2,d3⟩:=k4 _ z hz; refine⟨c,by rw[cJ w _ _ arr ty' _ k1]; exact d1,d2, ?_⟩
    have q:=M j; rw[hsrc]at q; exact LF.relab hσ h.ok rfl d3 q.1 q.2
   obtain⟨u,r1,r2,r3,r4⟩:=sR hT hi (l':=fun _ j=> .s 0 k j) I d (fun j c z K=>K.cp hok' rfl)
   refine⟨u,A,hwk, ?_, ?_⟩
   ·simp only[vM,hptr,asAddr,Sem.run_bind,Sem.run_pure,Result.andThen_ok,r1]
   ·have r2':RV (g.relab σ β') w (fun _ j=>if jP i.zero j then .S else(m.kd (.s 0 k j)).cp) (fun _ j=> .s 0 k j) u (.one A):=r2
    have hto:A.to (uO C)=A:=by
     unfold pF at d; split at d<;>try cases d
     split at d
     ·cases d; rfl
     ·split at d<;>cases d; rfl
    rw[hto]; have:=r2'.map (g':=g.relab σ β') (w':=w) (κ':=fun _ j=>m.kd (.s 0 k j)) (l':=fun _ j=> .s 0 k j) (fun _=>rfl) (fun k' j z u' hz hu hn K=>by
     obtain⟨q0,_⟩:=wF d hz; subst q0; obtain⟨q1,q2⟩:=r4 j z hz; obtain⟨c,d1,d2,d3⟩:=I j z q1; rw[hu]at q2; have q2:some u'=some c:=q2.trans d1; cases q2; exact d3) (fun k' zs hz=>by
     exfalso
     unfold pF at d; split at d<;>try cases d
     split at d
     ·cases d; cases k'<;>simp [V.comp]at hz
     ·split at d<;>cases d
      cases k'<;>simp [V.comp]at hz)
    exact this
 obtain⟨us,hul,hus⟩:=ET (rs:=rs) (Q:=fun k u=> ∃r A,rs[k]? =some r∧J[k]? =some A∧(vM a.tmps r).run P w= .ok u w∧RW (g.relab σ β') w (fun j=>m.kd (.s 0 k j)) (fun j=> .s 0 k j) u (A.to (uO C))) (fun k r E=>by
  obtain⟨u,A,h1,h2,h3⟩:=hone k r E; exact⟨u,r,A,E,h1,h2,h3⟩)
 refine⟨us,hul,fun k r u E hu=> ?_,g.relab σ β', ?_⟩
 ·obtain⟨r',A,h1,_,h3,_⟩:=hus k u hu
  rw[E]at h1; cases h1; exact h3
 have f:RV (g.relab σ β') w (fun k j=>m.kd (.s 0 k j)) (fun k j=> .s 0 k j) (xB us) ((Ib J).to (uO C)):=by
  have hwl:J.length=us.length:=by omega
  have E: ∀(k:Nat) u A,us[k]? =some u→J[k]? =some A→RW (g.relab σ β') w (fun j=>m.kd (.s 0 k j)) (fun j=> .s 0 k j) u (A.to (uO C)):=fun k u A hu hw=>by
   obtain⟨r',wk',_,h2,_,h4⟩:=hus k u hu; rw[hw]at h2; cases h2; exact h4
  have tuple:RV (g.relab σ β') w (fun k j=>m.kd (.s 0 k j)) (fun k j=> .s 0 k j) (.tuple us.toArray) ((V.tup J).to (uO C)):=by
   refine⟨us.toArray,rfl,by simp [hwl],fun k A hw=> ?_⟩
   rw[z28]at hw
   obtain⟨w0',hw0,rfl⟩:=z22.1 hw; have hlt:k<us.length:=by have:=cK hw0; omega
   exact⟨us[k],by simp [hlt],E k us[k] w0' (z16 hlt) hw0⟩
  match us,J,hwl,E,tuple with
  | [u],[w1],_,E,_=>exact E 0 u w1 rfl rfl
  | [],[],_,_,t=>exact t
  | u::u'::us',w1::w2::ws',_,_,t=>exact t
 refine h.relab hσ _ _ hβp (by simp [B.S]) (by show 2≤par; unfold par; omega) rfl (fun i=> ?_) (fun i=> ?_) (fun oc cells hc=> ?_)
 ·show aI (if m.has i=true then(DR _ iov ob nw).sl i else .one .junk)= .none
  split
  ·match i with
   | 0=>exact V.to_root
   | 1=>simp only[DR]; cases iov<;>rfl
   | i+2=>rfl
  ·rfl
 ·show RV _ w (fun k j=>m.kd (.s i k j)) _ (#[xB us,u1].getD i undef) (if m.has i=true then(DR _ iov ob nw).sl i else .one .junk)
  by_cases X:m.has i=true
  ·rw[z17 X]
   match i,hb2 i X with
   | 0,_=>exact f
   | 1,_=>
    cases hz:io with
    | none=>rw[hio0 hz]at X; cases X
    | some z=>
     obtain⟨z1,z2,⟨t,z3,z4⟩,z5,z6⟩:=hio z hz; have H:=h.slots z; rw[qO z2,z3]at H; rw[z1]at H; simp only[DR,z4]; exact⟨H.1,LF.relab hσ h.ok rfl H.2 z5 z6⟩
  ·rw[z11 X]; trivial
 ·have Y:(if m.hasO oc=true then(DR _ iov ob nw).ob oc else none)=some cells:=hc
  split at Y<;>try cases Y
  rename_i hoc; obtain⟨R,U,p2,p3⟩:=RT hob hoc; have O:σ (.obj R)= .obj oc∧ ∀j,σ (.oc R j)= .oc oc j:=by
   simp only[uO]at U; split at U
   ·rename_i Z; cases U
    exact⟨by show Be _ _ _ _ _=_; simp only[Be,z17 Z],fun j=>by show Be _ _ _ _ _=_; simp only[Be,z17 Z]⟩
   ·rename_i Z
    split at U
    ·rename_i hn; cases U
     exact⟨by show Be _ _ _ _ _=_; simp only[Be,z11 Z,z17 hn],fun j=>by show Be _ _ _ _ _=_; simp only[Be,z11 Z,z17 hn]⟩
    ·cases U
  refine⟨R, ?_,hβ R oc U,O.1,fun j=>⟨p3 j,fun _=>O.2 j⟩⟩
  rw[Lc p2, ←hobd oc R hoc U]; exact Y

inductive Ek where
 | n | r | e (i:Nat)
 deriving DecidableEq
def Ek.exit:Ek→Exit
 | .n=> .normal
 | .r=> .ret
 | .e i=> .exit i

def bJ(ds:List (Option Nat))(x:D):Option (Nat×Bool)→Option Bool
 | none=>some true
 | some (j,want)=>match ds[j]? with
  | some (some t)=>(match x.sl t with
   | .one (.c (.bool b))=>some (b == want)
   | .tup []=>some false
   | _=>none)
  | _=>some false
def sO(x:D):Option Nat→D
 | some d=>x.put d (.tup [])
 | none=>x

def objsW:W→List Nat
 | .ptr o _=> [o]
 | .fn _ cs=>cs.map (·.1)
 | _=> []
def OG:List Nat→List Nat→List Nat
 | [],d=>d
 | o::r,d=>bif mem o d then OG r d else OG r (d++[o])
def SV(F:FA)(v:Operand):List Nat:=match nU F v with | .one w=>objsW w | _=> []
def uX(F:FA)(c:Call):Bool:=match c.args.toList with
 | .tmp t::_=>mem t F.ioa
 | _=>false
def nP(F:FA)(c:Call)(v:Operand):List Nat:=bif uX F c then [0,0]else OG (c.args.toList.flatMap (SV F)++SV F v) []
def vE(F:FA)(d:Option Nat):Option Nat:=match d with | some d=>bif mem d F.nw then some d else none | none=>none

def pG(F:FA):Nat→List V→Bool
 | _,[]=>true
 | i,v::r=>fits v (F.shOf i)&&pG F (i+1) r
def qK(F:FA):Nat→List (List T)→Bool
 | _,[]=>true
 | i,cs::r=>iG cs (F.obOf (par+i))&&qK F (i+1) r
def xU(x:D):Nat→List (List T)→Option (List (List T))
 | _,[]=>some []
 | i,_::r=>match x.ob (par+i),xU x (i+1) r with
  | some cs,some css=>some (cs::css)
  | _,_=>none

inductive Jd where
 | code (F:FA) (c:Code) (x:D) (e:Ek) (x':D)
 | ops (F:FA) (ds:List (Option Nat)) (os:List Oper) (x x':D)
 | fn (f:FuncId) (vs:List V) (ob:List (List T)) (r:V) (io:Option T) (ob':List (List T)) (nw:Option (List T))

def TJ(z:Option Nat)(x:D):Option (Option T):=match z with
 | none=>some none
 | some z=>(match x.sl z with | .one (.c t)=>some (some t) | _=>none)

def qF(id:Nat)(e:Ek):Ek:=if e= .e id then .n else e

def Sz:Nat→List (List (List K))→List (Nat×List (List K))
 | _,[]=> []
 | i,κ::r=>(i,κ)::Sz (i+1) r
def Qg(q:List (List (List K))×List (List K)×Bool):Sg:= { bi:= { sl:=Sz 0 q.1,ob:=[] },bo:= { sl:=[(0,q.2.1)],ob:=[] },np:=q.1.length,ext:=q.2.2 }
inductive Big (P:Program) (τ:TypeId→Option TI) (An:FuncId→FA):Jd→Prop
 | skip (F:FA) (x:D):Big P τ An (.code F .skip x .n x)
 | label (F:FA) (l:Nat) (x:D):Big P τ An (.code F (.label l) x .n x)
 | exit (F:FA) (i:Nat) (x:D):Big P τ An (.code F (.exit i) x (.e i) x)
 | ret (F:FA) (x:D):Big P τ An (.code F .ret x .r x)
 | seqN {F:FA} {a b:Code} {x x1 x2:D} {e:Ek} (h1:Big P τ An (.code F a x .n x1)) (h2:Big P τ An (.code F b x1 e x2)):Big P τ An (.code F (.seq a b) x e x2)
 | seqX {F:FA} {a b:Code} {x x1:D} {e:Ek} (h1:Big P τ An (.code F a x e x1)) (he:e≠ .n):Big P τ An (.code F (.seq a b) x e x1)
 | cond {F:FA} {c:Operand} {a b:Code} {x x1:D} {e:Ek} {t:Bool} (hc:ev x.sl c= .one (.c (.bool t))) (h1:Big P τ An (.code F (if t then a else b) x e x1)):Big P τ An (.code F (.cond c a b) x e x1)
 | block {F:FA} {id:Nat} {c:Code} {x x1:D} {e:Ek} (h1:Big P τ An (.code F c x e x1)):Big P τ An (.code F (.block id c) x (qF id e) x1)
 | loopX {F:FA} {c:Code} {x x1:D} {e:Ek} (h1:Big P τ An (.code F c x e x1)) (he:e≠ .n):Big P τ An (.code F (.loop c) x e x1)
 | loopN {F:FA} {c:Code} {x x1 x2:D} {e:Ek} (h1:Big P τ An (.code F c x .n x1)) (h2:Big P τ An (.code F (.loop c) x1 e x2)):Big P τ An (.code F (.loop c) x e x2)
 | regionM {F:FA} {id:Nat} {x:D} {S:TypeId} {i:TI} {f:FuncId} {c:Call} {o p0 tp tk t t' r r0 r2:Nat} {cells cells':List T} {k k':Int} {rs:List MR} {t1 t2 t3 t4:TypeId} {p1 p2 p3 p4:String} {f1 f2 f3 f4:Array Edge} (hmk:dL id F.mks=some (rs.map fun m=>(m.off,m.g))) (hi:τ S=some i) (h1:i.agg=false→i.size=1)
   (hM:tT P f i.agg i.size (rs.map fun m=>(m.off,m.g))) (hle:p0+i.size≤cells.length) (hc1:c.callee= .value (.func f)) (hc2:c.args= #[.tmp t, .tmp t']) (hr2:r2=r) (htp:x.sl tp= .one (.ptr o p0)) (htk:x.sl tk=vI k) (hob:x.ob o=some cells) (hch:BK p0 rs cells k cells' k')
   (hB: ∀m∈rs,Big P τ An (.fn m.g [.one (.c (.sl m.es)), .one (.c (.int .i64 m.k))] [] (.one (.c (.int .i64 m.k1))) (some (.sl m.es')) [] none)):
   Big P τ An (.code F (.region id #[⟨some t, .load S (.tmp tp),t1,p1,f1,none⟩,⟨some t', .move (.tmp tk),t2,p2,f2,none⟩,⟨some r, .call c,t3,p3,f3,none⟩,⟨some r0, .assign (.tmp r2),t4,p4,f4,none⟩] false) x .n ((D.updM o p0 rs x).put r0 (vI k')))
 | region {F:FA} {id:Nat} {ops:Array Oper} {dr:Bool} {x x1:D} (hmk:dL id F.mks=none) (h1:Big P τ An (.ops F (ops.toList.map (·.dst)) ops.toList x x1)):Big P τ An (.code F (.region id ops dr) x .n x1)
 | opsNil (F:FA) (ds:List (Option Nat)) (x:D):Big P τ An (.ops F ds [] x x)
 | opsSkip {F:FA} {ds:List (Option Nat)} {o:Oper} {r:List Oper} {x x2:D} (hg:bJ ds x o.guard=some false) (h2:Big P τ An (.ops F ds r (sO x o.dst) x2)):Big P τ An (.ops F ds (o::r) x x2)
 | opsRun {F:FA} {ds:List (Option Nat)} {o:Oper} {r:List Oper} {x x1 x2:D} (hg:bJ ds x o.guard=some true) (h1:dOp τ F x o=some x1) (h2:Big P τ An (.ops F ds r x1 x2)):Big P τ An (.ops F ds (o::r) x x2)
 | opsCall {F:FA} {ds:List (Option Nat)} {o:Oper} {rs:List Oper} {x x2:D} {c:Call} {v:Operand} {f:FuncId} {caps:List (Nat×Nat)} {ob ob':List (List T)} {r:V} {nw:Option (List T)} (hg:bJ ds x o.guard=some true) (ho:o.op= .call c) (hcal:c.callee= .value v) (hni:uX F c=false)
   (hx:ev x.sl v= .one (.fn f caps)) (hth:c.args.toList.all (fun v=>gC (ev x.sl v))=true) (hob:ob.map some=(nP F c v).map x.ob) (h1:Big P τ An (.fn f (inV x c caps (nP F c v)) ob r none ob' nw))
   (hsh:bQ F (x.call o.dst (vE F o.dst) (nP F c v) (DR r none ob' nw)) o.dst (vE F o.dst) (nP F c v)=true) (h2:Big P τ An (.ops F ds rs (x.call o.dst (vE F o.dst) (nP F c v) (DR r none ob' nw)) x2)):Big P τ An (.ops F ds (o::rs) x x2)
 | opsIo {F:FA} {ds:List (Option Nat)} {o:Oper} {rs:List Oper} {x x2:D} {c:Call} {v:Operand} {f:FuncId} {r:V} {t:Nat} {xs:List Operand} {l:Loc} {p:List (Nat×Nat)} {x0:T} {es es':List (List T)} (hg:bJ ds x o.guard=some true) (ho:o.op= .call c) (hcal:c.callee= .value v) (hio:uX F c=true)
   (hx:ev x.sl v= .one (.fn f [])) (hth:c.args.toList.all (fun v=>gC (ev x.sl v))=true) (hargs:c.args.toList= .tmp t::xs) (hal:x.sl t= .one (.al l p)) (hat:x.at l=some x0) (hnav:nav x0 p=some (.sl es)) (h1:Big P τ An (.fn f (inV x c [] []) [] r (some (.sl es')) [] none))
   (hsh:bQ F (x.call o.dst none [] (DR r (some (.sl es')) [] none)) o.dst none []=true) (h2:Big P τ An (.ops F ds rs ((x.call o.dst none [] (DR r (some (.sl es')) [] none)).upd l (bV x0 p (.sl es'))) x2)):Big P τ An (.ops F ds (o::rs) x x2)
 | fn {f:FuncId} {fn:Func} {c:Code} {vs:List V} {ob ob':List (List T)} {e:Ek} {x':D} {ws:List W} {iov:Option T} (hf:P.funcs[f]? =some fn) (hb:fn.body=some c) (hsh:pG (An f) 0 vs=true) (hso:qK (An f) 0 ob=true) (h1:Big P τ An (.code (An f) c (DA vs ob) e x'))
   (he:e= .n∨e= .r) (hws:DV τ x' fn.results.toList=some ws) (hio:TJ (An f).io x'=some iov) (hob:xU x' 0 ob=some ob'):Big P τ An (.fn f vs ob ((Ib ws).to (uO (An f).n0)) iov ob' ((An f).n0.bind x'.ob))
 | lib {f:FuncId} {fn:Func} {c:Code} {vs:List V} {r:V} {q:List (List (List K))×List (List K)×Bool} (hf:P.funcs[f]? =some fn) (hb:fn.body=some c) (hq:(An f).lb=some q) (h1:TC P f (Qg q) vs [] r none [] none):Big P τ An (.fn f vs [] r none [] none)
def Hj(o:Oper):Bool:=match o.dst,o.guard with
 | none,none=>(match o.op with | .panic _=>true | _=>false)
 | _,_=>false

def Bw:List K→List K→Bool
 | _,[]=>true
 | [],q::r=>decide (q= .D)&&Bw [] r
 | p::ps,q::r=>p.lo q&&Bw ps r
def xW:List (List K)→List (List K)→Bool
 | _,[]=>true
 | [],q::r=>Bw [] q&&xW [] r
 | p::ps,q::r=>Bw p q&&xW ps r

theorem CZ: ∀ {ps qs:List K},Bw ps qs=true→ ∀ {j:Nat} {q:K},qs[j]? =some q→(match ps[j]? with | some p=>p | none=> .D).lo q=true
 | _,[],_,j,q,h=>by simp at h
 | [],q::r,h,0,b,a=>by
  simp only[Bw,z7]at h; simp only[z20,z9]at a
  subst a; rw[of_decide_eq_true h.1]; rfl
 | [],q::r,h,j+1,b,a=>by
  simp only[Bw,z7]at h; simp only[z21]at a
  have:=CZ h.2 a; simpa using this
 | p::ps,q::r,h,0,b,a=>by
  simp only[Bw,z7]at h; simp only[z20,z9]at a
  subst a; exact h.1
 | p::ps,q::r,h,j+1,b,a=>by
  simp only[Bw,z7]at h; simp only[z21]at a ⊢
  exact CZ h.2 a

theorem Dn: ∀ {ps qs:List (List K)},xW ps qs=true→ ∀ {k:Nat} {r:List K},qs[k]? =some r→Bw (match ps[k]? with | some p=>p | none=> []) r=true
 | _,[],_,j,q,h=>by simp at h
 | [],q::r,h,0,b,a=>by
  simp only[xW,z7]at h; simp only[z20,z9]at a
  subst a; exact h.1
 | [],q::r,h,j+1,b,a=>by
  simp only[xW,z7]at h; simp only[z21]at a
  have:=Dn h.2 a; simpa using this
 | p::ps,q::r,h,0,b,a=>by
  simp only[xW,z7]at h; simp only[z20,z9]at a
  subst a; exact h.1
 | p::ps,q::r,h,j+1,b,a=>by
  simp only[xW,z7]at h; simp only[z21]at a ⊢
  exact Dn h.2 a

def leB(a b:B):Bool:=a.sl.all (fun p=>match dL p.1 b.sl with | some κ=>xW κ p.2 | none=>false)&&a.ob.all (fun p=>match dL p.1 b.ob with | some r=>Bw r p.2 | none=>false)

theorem Nu{a b:B}(h:leB a b=true):(∀i,a.has i=true→b.has i=true)∧(∀o,a.hasO o=true→b.hasO o=true)∧ ∀l,(b.kd l).lo (a.kd l)=true:=by
 simp only[leB,z7]at h; refine⟨fun i f=> ?_,fun o ho=> ?_,fun l=> ?_⟩
 ·simp only[B.has]at f ⊢
  cases hl:dL i a.sl with
  | none=>rw[hl]at f; cases f
  | some κ=>
   have:=z18.1 h.1 _ (iM hl); simp only at this; split at this
   ·rename_i c; rw[c]; rfl
   ·cases this
 ·simp only[B.hasO]at ho ⊢
  cases hl:dL o a.ob with
  | none=>rw[hl]at ho; cases ho
  | some κ=>
   have:=z18.1 h.2 _ (iM hl); simp only at this; split at this
   ·rename_i c; rw[c]; rfl
   ·cases this
 ·cases hg:a.get l with
  | none=>
   have:a.kd l= .D:=by simp only[B.kd,hg]
   rw[this]; exact Ic _
  | some q=>
   have g:a.kd l=q:=by simp only[B.kd,hg]
   rw[g]; cases l with
   | s i k j=>
    simp only[B.get]at hg; cases hl:dL i a.sl with
    | none=>rw[hl]at hg; cases hg
    | some κ=>
     rw[hl]at hg; simp only[CI]at hg; have:=z18.1 h.1 _ (iM hl); simp only at this; cases c:dL i b.sl with
     | none=>rw[c]at this; cases this
     | some κ2=>
      rw[c]at this; have this:xW κ2 κ=true:=this; cases hr:κ[k]? with
      | none=>rw[hr]at hg; cases hg
      | some r=>
       rw[hr]at hg; have d:=CZ (Dn this hr) hg; have e:b.kd (.s i k j)=(match(match κ2[k]? with | some p=>p | none=> [])[j]? with | some p=>p | none=> .D):=by
        simp only[B.kd,B.get,c,CI]; cases κ2[k]? with
        | none=>rfl
        | some r0=>simp only; cases r0[j]? <;>rfl
       rw[e]; exact d
   | oc o j=>
    simp only[B.get]at hg; cases hl:dL o a.ob with
    | none=>rw[hl]at hg; cases hg
    | some r=>
     rw[hl]at hg; have:=z18.1 h.2 _ (iM hl); simp only at this; cases c:dL o b.ob with
     | none=>rw[c]at this; cases this
     | some r2=>
      rw[c]at this; have d:=CZ this hg; have e:b.kd (.oc o j)=(match r2[j]? with | some p=>p | none=> .D):=by
       simp only[B.kd,B.get,c]; cases r2[j]? <;>rfl
      rw[e]; exact d
   | _=>cases hg

def Cv(F:FA)(b c:B):Prop:= ∀x,Ag F b x→Ag F c x∧ ∀g0 w0 a w,Sim g0 w0 (b.S F.n x) a w→Sim g0 w0 (c.S F.n x) a w
theorem Cv.refl(F:FA)(b:B):Cv F b b:=fun _ h=>⟨h,fun _ _ _ _ h=>h⟩
theorem Cv.trans{F:FA}{a b c:B}(h:Cv F a b)(k:Cv F b c):Cv F a c:=fun x e=>by
 obtain⟨h1,d⟩:=h x e; obtain⟨g,i⟩:=k x h1; exact⟨g,fun g0 w0 a w f=>i g0 w0 a w (d g0 w0 a w f)⟩

theorem Og{a b:K}(h:a.lo b=true)(c:b≠ .D):a≠ .D:=fun e=>by subst e; cases b<;>simp [K.lo]at h c

theorem FP{F:FA}{d b:B}(h:leB d b=true):Cv F b (d.nrm F):=fun x j=>by
 obtain⟨h1,g,e⟩:=Nu h; have c:Ag F d x:=⟨fun i f=>j.sl i (h1 i f),fun o ho=>j.ob o (g o ho)⟩
 refine⟨c.nrm,fun g0 w0 a w p=>p.relax (Low.le c ⟨rfl,fun i f=>qO (h1 i f),fun o ho=>Lc (g o ho),fun l t _ _=>e l,fun i k xs _ _=>e _,fun i _ _ m=>Og (e _) m⟩)⟩

def IY{α β:Type}(f:α→Option β):List α→Option β
 | []=>none
 | a::r=>match f a with | some b=>some b | none=>IY f r
theorem Ds{α β:Type}{f:α→Option β}: ∀ {l:List α} {b:β},IY f l=some b→ ∃a∈l,f a=some b
 | [],b,h=>by cases h
 | a::r,b,h=>by
  unfold IY at h; split at h
  ·rename_i g e; cases h; exact⟨a,z27,e⟩
  ·obtain⟨c,h1,d⟩:=Ds h; exact⟨c,z23 _ h1,d⟩

def fzX(F:FA)(b:B)(d:Nat):List (Nat×Nat)→List Loc
 | []=> []
 | (i,t)::r=>(bif Nat.beq i d then(holds F b t).map fun m=> .s t m.1 m.2 else [])++fzX F b d r
def fzL(F:FA)(b:B):Option Nat→List Loc
 | some d=>(bif mem d F.fz then(holds F b d).map fun m=> .s d m.1 m.2 else [])++fzX F b d F.fx
 | none=> []
def Ki(a:List (Option Nat))(b:B):Option (Nat×Bool)→Bool
 | none=>true
 | some (j,_)=>match a[j]? with
  | some (some t)=>b.has t
  | _=>true
def Gr(F:FA)(b b1:B)(d:Option Nat):Bool:=match d with
 | some d=>Nat.blt d F.n&&leB (b1.filt fun i=> !(Nat.beq i d)) b&&b1.sl.all (fun p=>Nat.beq p.1 d|| !(aS d (aI (F.shOf p.1))))
 | none=>false

def TO(Sg:FuncId→List Sg)(F:FA)(b:B)(o:Oper)(c:Call)(v:Operand):Option B:=match nU F v with
 | .one (.fn f caps)=>IY (fun sg=>bif Nat.beq sg.np (c.args.toList.length+caps.length)&&Nat.beq sg.no (nP F c v).length then Qn F b sg c v o.dst (vE F o.dst) (nP F c v)else none) (Sg f)
 | _=>none
def ioC(Sg:FuncId→List Sg)(F:FA)(b:B)(o:Oper)(c:Call)(v:Operand):Option B:=match nU F v with
 | .one (.fn f caps)=>IY (fun sg=>bif Nat.beq sg.np c.args.toList.length&&Nat.beq caps.length 0&&Nat.beq sg.no 0 then cIo F b sg c v o.dst else none) (Sg f)
 | _=>none
def dQ(o:Oper):Option (Call×Operand):=match o.op with
 | .call c=>(match c.callee with | .value v=>some (c,v) | _=>none)
 | _=>none
def Qt(τ:TypeId→Option TI)(Sg:FuncId→List Sg)(F:FA)(b:B)(o:Oper):Option B:=match dQ o with
 | some (c,v)=>bif uX F c then ioC Sg F b o c v else TO Sg F b o c v
 | none=>cOp τ F b o
def tQ(τ:TypeId→Option TI)(Sg:FuncId→List Sg)(F:FA)(a:List (Option Nat))(b:B)(o:Oper):Option B:=match Qt τ Sg F b o with
 | some b1=>bif Ki a b o.guard&&(match o.guard with | none=>true | some _=>Gr F b (b1.frz F (fzL F b1 o.dst)) o.dst)then some ((b1.frz F (fzL F b1 o.dst)).nrm F)else none
 | none=>none
def Qw(τ:TypeId→Option TI)(Sg:FuncId→List Sg)(F:FA)(a:List (Option Nat)):B→List Oper→Option B
 | b,[]=>some b
 | b,o::r=>match tQ τ Sg F a b o with | some b1=>Qw τ Sg F a b1 r | none=>none

theorem Nx{F:FA}(L:List Loc)(b:B):Cv F b (b.frz F L):=fun x d=>by
 obtain⟨h1,c⟩:=TN (n:=F.n) L d; exact⟨h1,fun g0 w0 a w e=>c e⟩

theorem WS{F:FA}{b b1:B}{x:D}{d:Option Nat}(y:Ag F b x)(h:Gr F b b1 d=true):Ag F (b1.nrm F) (sO x d)∧ ∀g0 w0 a w,Sim g0 w0 (b.S F.n x) a w→Sim g0 w0 ((b1.nrm F).S F.n (sO x d)) (a.put d undef) w:=by
 cases d with
 | none=>cases h
 | some d=>
  simp only[Gr,z7]at h; obtain⟨⟨h0,h1⟩,K⟩:=h; obtain⟨O,I,J⟩:=Nu h1; have c: ∀i,i≠d→b1.has i=true→b.has i=true:=fun i e m=>O i (by rw[eU,m,dO e]; rfl)
  have p: ∀i,i≠d→b1.has i=true→aS d (aI (F.shOf i))=false:=fun i e m=>by
   simp only[B.has]at m; cases hl:dL i b1.sl with
   | none=>rw[hl]at m; cases m
   | some κ=>
    have:=z18.1 K _ (iM hl); simp only[dO e,z56]at this; simpa using this
  have v: ∀i k j,i≠d→(b.kd (.s i k j)).lo (b1.kd (.s i k j))=true:=fun i k j e=>by
   have:=J (.s i k j); rwa[gN (by rw[dO e]; rfl)]at this
  have z:Ag F b1 (sO x (some d)):=by
   refine⟨fun i m=> ?_,fun o ho=>y.ob o (I o ho)⟩
   by_cases e:i=d
   ·subst e; left; simp [sO,D.put]
   ·have:=y.sl i (c i e m)
    simpa [sO,D.put,e]using this
  refine⟨z.nrm,fun g0 w0 a w G=> ?_⟩
  obtain⟨g,G⟩:=G; have L:=G.set (u:=undef) (r:= .tup []) (κ:=fun _ _=> .D) (bK h0) ⟨#[],rfl,rfl,fun k x H=>by simp at H⟩ (fun h=>absurd rfl h)
  refine⟨g,L.relax (Low.le z ⟨rfl,fun i m=> ?_,fun o ho=>Lc (n:=F.n) (I o ho),fun l t C N=> ?_,fun i k xs m H=> ?_,fun i m M A=> ?_⟩)⟩
  ·by_cases e:i=d
   ·subst e; simp [St.put,sO,D.put]
   ·simp only[St.put,sO,D.put,z11 e]; exact qO (c i e m)
  ·cases l with
   | s i k j=>
    by_cases e:i=d
    ·subst e
     exfalso
     simp [D.at,atL,sO,D.put,V.leaf]at N
    ·have A:((b.S F.n x).put d (.tup []) (fun _ _=> .D)).fl (.s i k j)=b.kd (.s i k j):=by
      simp only[St.put,z11 e]; rw[z11]
      ·rfl
      ·rintro ⟨_,_,f⟩
       rw[qO (c i e C)]at f; rcases y.sl i (c i e C)with q | q
       ·rw[q]at f; cases f
       ·rw[eF q,p i e C]at f; cases f
     rw[A]; exact v i k j e
   | oc o j=>exact J (.oc o j)
   | _=>cases C
  ·by_cases e:i=d
   ·subst e
    simp [sO,D.put,V.comp]at H
   ·have A:((b.S F.n x).put d (.tup []) (fun _ _=> .D)).fl (.s i k 0)=b.kd (.s i k 0):=by
     simp only[St.put,z11 e]; rw[z11]
     ·rfl
     ·rintro ⟨_,_,f⟩
      rw[qO (c i e m)]at f; rcases y.sl i (c i e m)with q | q
      ·rw[q]at f; cases f
      ·rw[eF q,p i e m]at f; cases f
    rw[A]; exact v i k 0 e
  ·by_cases e:i=d
   ·subst e
    exact absurd (show aI ((sO x (some i)).sl i)= .none by simp [sO,D.put,aI]) M
   ·have E:((b.S F.n x).put d (.tup []) (fun _ _=> .D)).fl (.s i 0 0)=b.kd (.s i 0 0):=by
     simp only[St.put,z11 e]; rw[z11]
     ·rfl
     ·rintro ⟨_,_,f⟩
      rw[qO (c i e m)]at f; rcases y.sl i (c i e m)with q | q
      ·rw[q]at f; cases f
      ·rw[eF q,p i e m]at f; cases f
    rw[E]; exact Og (v i 0 0 e) A

structure Eff where
  d:Option Nat
  u:V
  ob:Nat→Option (Option (List T))
def Eff.on(E:Eff)(x:D):D:=
  { sl:=fun i=>if E.d=some i then E.u else x.sl i
    ob:=fun o=>match E.ob o with | some c=>c | none=>x.ob o }
def Eff.put(d:Nat)(u:V):Eff:=⟨some d,u,fun _=>none⟩
def Eff.skip(d:Option Nat):Eff:=⟨d, .tup [],fun _=>none⟩
def Eff.new(d:Nat)(u:V)(cs:List T):Eff:=⟨some d,u,fun o=>if o=d then some (some cs)else none⟩
def Eff.call(d nd:Option Nat)(os:List Nat)(y:D):Eff:=⟨d,(y.sl 0).to (wW os nd),fun o=>match rV os nd o with | some oc=>some (y.ob oc) | none=>none⟩

theorem D.ext{x y:D}(h1: ∀i,x.sl i=y.sl i)(a: ∀o,x.ob o=y.ob o):x=y:=by
  cases x; cases y; simp only[D.mk.injEq]; exact⟨funext h1,funext a⟩

theorem Eff.put_on(d:Nat)(u:V)(x:D):(Eff.put d u).on x=x.put d u:=D.ext (fun i=>by
  simp only[Eff.on,Eff.put,D.put,z9]; by_cases e:d=i
  · rw[z17 e,z17 e.symm]
  · rw[z11 e,z11 (fun h=>e h.symm)]) (fun _=>rfl)
theorem Eff.skip_on(d:Option Nat)(x:D):(Eff.skip d).on x=sO x d:=D.ext (fun i=>by
  cases d with
  | none=>simp [Eff.on,Eff.skip,sO]
  | some d=>
    simp only[Eff.on,Eff.skip,sO,D.put,z9]; by_cases e:d=i
    · rw[z17 e,z17 e.symm]
    · rw[z11 e,z11 (fun h=>e h.symm)]) (fun _=>by cases d<;>rfl)
theorem Eff.new_on(d:Nat)(u:V)(cs:List T)(x:D):(Eff.new d u cs).on x=(x.put d u).setO d cs:=D.ext (fun i=>by
  simp only[Eff.on,Eff.new,D.put,D.setO,z9]; by_cases e:d=i
  · rw[z17 e,z17 e.symm]
  · rw[z11 e,z11 (fun h=>e h.symm)]) (fun o=>by
  simp only[Eff.on,Eff.new,D.put,D.setO]; by_cases e:o=d
  · rw[z17 e,z17 e]
  · rw[z11 e,z11 e])
theorem Eff.call_on(d nd:Option Nat)(os:List Nat)(y x:D):(Eff.call d nd os y).on x=x.call d nd os y:=D.ext (fun _=>rfl) (fun o=>by
  simp only[Eff.on,Eff.call,D.call]; cases rV os nd o<;>rfl)

def sK(x y:D)(v:Operand):Prop:=ev y.sl v=ev x.sl v∧(match ev x.sl v with
  | .one (.ptr ob _)=>y.ob ob=x.ob ob
  | .one (.pp l _ _ _)=>y.at l=x.at l
  | .one (.al l _)=>y.at l=x.at l
  | _=>True)

theorem sK.evD{x y:D}{v:Operand}(h:sK x y v):evD y v=evD x v:=by
  unfold Own.evD; rw[h.1]; have a:=h.2; unfold vD; split
  · rename_i l p e
    rw[e]at a; have a:atL y.sl y.ob l=atL x.sl x.ob l:=a; rw[a]
  · rfl

section
variable {τ:TypeId→Option TI} {F:FA} {x y x1:D} {o:Oper}

def rN(f:D→Option D)(x y x1:D)(d:Nat):Prop:= ∃u,x1=x.put d u∧f y=some (y.put d u)

theorem fT{d:Nat}{v:V}{f:D→Option D}(h:sM F x d v=some x1)(a:f y=sM F y d v):rN f x y x1 d:=by
  obtain⟨h1,rfl⟩:=cH h; exact⟨v,rfl,by rw[a]; unfold sM; rw[h1]; rfl⟩

theorem Gy{d:Nat}{v:Operand}(b:ev y.sl v=ev x.sl v)(h:yN F x d v=some x1):rN (fun y=>yN F y d v) x y x1 d:=by
  unfold yN at h; obtain⟨a,h⟩:=aK h; exact fT h (by simp only[yN,b,a,z15])
theorem MX{d:Nat}{v:Operand}(a:ev y.sl v=ev x.sl v)(h:uC F x d v=some x1):rN (fun y=>uC F y d v) x y x1 d:=by
  unfold uC at h; split at h<;>try cases h
  rename_i t; split at h<;>try cases h
  rename_i e; have h1:y.sl t=x.sl t:=a; exact fT h (by simp only[uC,h1,e])
theorem NF{d k:Nat}{v:Operand}(b:sK x y v)(h:qM F x d k v=some x1):rN (fun y=>qM F y d k v) x y x1 d:=by
  unfold qM at h; split at h<;>try cases h
  rename_i t; split at h<;>try cases h
  rename_i c e; split at h<;>try cases h
  rename_i w a; have h1:y.sl t=x.sl t:=b.1; exact fT h (by simp only[qM,h1,e,a])
theorem Tm{d:Nat}{c v z:Operand}(h1:sK x y c)(b:sK x y v)(f:sK x y z)(h:FH F x d c v z=some x1):rN (fun y=>FH F y d c v z) x y x1 d:=by
  unfold FH at h; split at h<;>try cases h
  all_goals
    rename_i e; split at h<;>try cases h
    rename_i a; obtain⟨g,h⟩:=aK h; exact fT h (by simp only[FH,h1.1,b.1,f.1,e,a,g,z15])
theorem MO{d:Nat}{s:TypeId}{v:Operand}{f:Nat}(c:ev y.sl v=ev x.sl v)(h:vQ τ F x d s v f=some x1):rN (fun y=>vQ τ F y d s v f) x y x1 d:=by
  unfold vQ at h; split at h<;>try cases h
  rename_i e; split at h<;>try cases h
  rename_i a; split at h<;>try cases h
  rename_i b; exact fT h (by simp only[vQ,c,e,a,b])
theorem SW{d:Nat}{v:Operand}(a:ev y.sl v=ev x.sl v)(h:Mg F x d v=some x1):rN (fun y=>Mg F y d v) x y x1 d:=by
  unfold Mg at h; split at h<;>try cases h
  all_goals
    rename_i e; exact fT h (by simp only[Mg,a,e])
theorem UI{d:Nat}{f:FuncId}{caps:Array Operand}(a: ∀v∈caps.toList,sK x y v)(h:Je F x d f caps=some x1):rN (fun y=>Je F y d f caps) x y x1 d:=by
  unfold Je at h; split at h<;>try cases h
  rename_i e; have:caps.toList.map (ev y.sl)=caps.toList.map (ev x.sl):=z52 fun v b=>(a v b).1
  exact fT h (by simp only[Je,this,e])
theorem Ti{d:Nat}{op:Op}(a: ∀v∈op.operands,sK x y v)(h:pT τ F x d op=some x1):rN (fun y=>pT τ F y d op) x y x1 d:=by
  unfold pT at h; split at h<;>try cases h
  rename_i e; exact fT h (by simp only[pT,yH op (fun v b=>(a v b).evD),e])
theorem Pq{d:Nat}{t:TypeId}{v i:Operand}(h1:sK x y v)(g:sK x y i)(h:qR τ F x d t v i=some x1):rN (fun y=>qR τ F y d t v i) x y x1 d:=by
  unfold qR at h; split at h<;>try cases h
  rename_i s e k n j a b c; split at h<;>try cases h
  rename_i row f; exact fT h (by simp only[qR,h1.1,g.1,a,b,c,f])
theorem Rj{d:Nat}{t:TypeId}{v i:Operand}(h1:sK x y v)(j:sK x y i)(h:pD τ F x d t v i=some x1):rN (fun y=>pD τ F y d t v i) x y x1 d:=by
  unfold pD at h; split at h<;>try cases h
  · rename_i c e
    split at h<;>try cases h
    · rename_i l p a
      split at h<;>try cases h
      rename_i k g; split at h<;>try cases h
      rename_i b; have f:=h1.2; rw[a]at f; have f:y.at l=x.at l:=f; exact fT h (by simp only[pD,h1.1,j.1,c,e,a,f,g,b])
    · rename_i k a
      split at h<;>try cases h
      rename_i b; exact fT h (by simp only[pD,h1.1,j.1,c,e,a,b])
  · rename_i c e
    split at h<;>try cases h
    rename_i a g; split at h<;>try cases h
    rename_i b; exact fT h (by simp only[pD,h1.1,j.1,c,e,a,g]; rw[z17 b])
theorem Tx{d:Nat}{t:TypeId}{v:Operand}{al:Bool}(h1:sK x y v)(h:nS τ F x d t v al=some x1):rN (fun y=>nS τ F y d t v al) x y x1 d:=by
  unfold nS at h; split at h<;>try cases h
  · rename_i c b
    have a:=h1.2; rw[b]at a; split at h<;>try cases h
    rename_i e; simp only at a; cases al with
    | true=>
      simp only[z15]at h; obtain⟨g,h⟩:=aK h; exact fT h (by simp only[nS,h1.1,c,b,a,e,z15,g])
    | false=>
      simp only[z12]at h; split at h<;>try cases h
      rename_i f; exact fT h (by simp only[nS,h1.1,c,b,a,e,z12,f])
  · rename_i c b
    split at h<;>try cases h
    rename_i e; exact fT h (by simp only[nS,h1.1,c,b,e])
  · rename_i l p n j c b
    have a:=h1.2; rw[b]at a; have a:y.at l=x.at l:=a; split at h<;>try cases h
    rename_i e; split at h<;>try cases h
    rename_i f; cases al with
    | true=>
      simp only[z15]at h; obtain⟨g,h⟩:=aK h; exact fT h (by simp only[nS,h1.1,c,b,a,e,f,z15,g])
    | false=>
      simp only[z12]at h; split at h<;>try cases h
      rename_i i; exact fT h (by simp only[nS,h1.1,c,b,a,e,f,z12,i])
theorem QE{d:Nat}{t u:TypeId}{v z:Operand}(h1:sK x y v)(f:sK x y z)(h:tE τ F x d t u v z=some x1):rN (fun y=>tE τ F y d t u v z) x y x1 d:=by
  unfold tE at h; split at h<;>try cases h
  rename_i a; split at h<;>try cases h
  rename_i b c e; obtain⟨g,h⟩:=aK h; exact fT h (by simp only[tE,h1.1,f.1,a,b,c,e,g,z15])
theorem Wj{d:Nat}{t:TypeId}{n:Nat}{a:Array (Nat×Operand)}(g: ∀v∈a.toList.map (·.2),sK x y v)(h:Nn τ F x d t n a=some x1):rN (fun y=>Nn τ F y d t n a) x y x1 d:=by
  unfold Nn at h; split at h<;>try cases h
  rename_i b; split at h<;>try cases h
  rename_i c e; obtain⟨f,h⟩:=aK h; have:(a.toList.map (·.2)).map (ev y.sl)=(a.toList.map (·.2)).map (ev x.sl):=z52 fun v i=>(g v i).1
  exact fT h (by simp only[Nn,this,b,c,e,f,z15])
theorem Tu{d:Nat}{t:TypeId}{v z:Operand}(h1:sK x y v)(g:sK x y z)(h:FI τ F x d t v z=some x1):rN (fun y=>FI τ F y d t v z) x y x1 d:=by
  unfold FI at h; split at h<;>try cases h
  rename_i a; split at h<;>try cases h
  rename_i b c e; split at h<;>try cases h
  rename_i f; exact fT h (by simp only[FI,h1.1,g.1,a,b,c,e]; rw[z17 f])
theorem SB{d:Nat}{t:TypeId}{a:Array (Nat×Operand)}(g: ∀v∈a.toList.map (·.2),sK x y v)(h:xZ τ F x d t a=some x1):rN (fun y=>xZ τ F y d t a) x y x1 d:=by
  unfold xZ at h; split at h<;>try cases h
  rename_i b; split at h<;>try cases h
  rename_i c; split at h<;>try cases h
  rename_i e; have:a.toList.map (fun p=>(p.1,ev y.sl p.2))=a.toList.map (fun p=>(p.1,ev x.sl p.2)):=z52 fun p f=>by rw[(g p.2 (z49.2 ⟨p,f,rfl⟩)).1]
  exact fT h (by simp only[xZ,this,b,c,e])

def Nk(o:Oper):List Nat:=match o.dst,o.op with
  | some d, .alloc _=> [d]
  | some d, .box _ _=> [d]
  | _,_=> []
def xC(o:Oper):Bool:=match o.op with | .store _ _ _=>true | _=>false
def GB(F:FA)(o:Oper):Bool:=match o.dst,o.op with
  | some d, .load _ v=>mem d F.tk&&(!(mem d F.al)&&KC F v)
  | _,_=>false
def noTk(F:FA)(x:D)(o:Oper):Prop:= ∀d t v,o.dst=some d→o.op= .load t v→(mem d F.tk&&(!(mem d F.al)&&fW (ev x.sl v)))=false

theorem rN.eff{f:D→Option D}{d:Nat}(h:rN f x y x1 d)(b:o.dst=some d)(c:f y=dOp τ F y o): ∃E:Eff,E.d=o.dst∧(∀z,(E.ob z).isSome=true→z∈Nk o)∧x1=E.on x∧dOp τ F y o=some (E.on y):=by
  obtain⟨u,rfl,a⟩:=h; exact⟨Eff.put d u,b.symm,(fun z hz=>by cases hz),(Eff.put_on d u x).symm,(by rw[←c,a,Eff.put_on])⟩

theorem Rx(h:dOp τ F x o=some x1)(A:xC o=false)(I:noTk F x o)(g: ∀v∈o.op.operands,sK x y v): ∃E:Eff,E.d=o.dst∧(∀z,(E.ob z).isSome=true→z∈Nk o)∧x1=E.on x∧dOp τ F y o=some (E.on y):=by
  have h0:=h; unfold dOp at h; cases hd:o.dst with
  | none=>
    rw[hd]at h; simp only at h; split at h<;>try cases h
    rename_i ho; rw[xC,ho]at A; cases A
  | some d=>
    rw[hd]at h; simp only at h; rw[←hd]; have q: ∀op,o.op=op→(∀y,dOp τ F y o=pT τ F y d op)→pT τ F x d op=some x1→ ∃E:Eff,E.d=o.dst∧(∀z,(E.ob z).isSome=true→z∈Nk o)∧x1=E.on x∧dOp τ F y o=some (E.on y):=fun op C r G=>
      rN.eff (Ti (y:=y) (by rw[←C]; exact g) G) hd (r y).symm
    cases ho:o.op with
    | assign v=>rw[ho]at h g; exact(Gy (g v (by simp [Op.operands])).1 h).eff hd (by simp only[dOp,hd,ho])
    | move v=>
      rw[ho]at h g; simp only at h; cases j:mem d F.al with
      | true=>rw[j]at h; exact(MX (g v (by simp [Op.operands])).1 h).eff hd (by simp only[dOp,hd,ho,j,z15])
      | false=>rw[j]at h; exact(Gy (g v (by simp [Op.operands])).1 h).eff hd (by simp only[dOp,hd,ho,j,z12])
    | extract v k=>rw[ho]at h g; exact(NF (g v (by simp [Op.operands])) h).eff hd (by simp only[dOp,hd,ho])
    | pick c a b=>rw[ho]at h g; exact(Tm (g c (by simp [Op.operands])) (g a (by simp [Op.operands])) (g b (by simp [Op.operands])) h).eff hd (by simp only[dOp,hd,ho])
    | fieldAddr s v f=>rw[ho]at h g; exact(MO (g v (by simp [Op.operands])).1 h).eff hd (by simp only[dOp,hd,ho])
    | nilCheck v=>rw[ho]at h g; exact(SW (g v (by simp [Op.operands])).1 h).eff hd (by simp only[dOp,hd,ho])
    | makeFunc fn first caps=>
      rw[ho]at h g; cases fn with
      | func f=>
        simp only at h; obtain⟨L,h⟩:=aK h; exact(UI (fun v B=>g v (by simp [Op.operands]; exact .inr (by simpa using B))) h).eff hd (by simp only[dOp,hd,ho,L,z15])
      | _=>simp only[pT,iN]at h; cases h
    | indexAddr t v i=>
      rw[ho]at h g; have l:=g v (by simp [Op.operands])
      simp only at h; cases j:(fW (F.shOf d)&&qE (ev x.sl v))with
      | true=>
        have m:(fW (F.shOf d)&&qE (ev y.sl v))=true:=by rw[l.1]; exact j
        rw[j]at h; exact(Pq l (g i (by simp [Op.operands])) h).eff hd (by simp only[dOp,hd,ho,m,z15])
      | false=>
        have m:(fW (F.shOf d)&&qE (ev y.sl v))=false:=by rw[l.1]; exact j
        rw[j]at h; exact(Rj l (g i (by simp [Op.operands])) h).eff hd (by simp only[dOp,hd,ho,m,z12])
    | load t v=>
      rw[ho]at h g; have j:=I d t v hd ho; have l:=g v (by simp [Op.operands])
      have m:(mem d F.tk&&(!(mem d F.al)&&fW (ev y.sl v)))=false:=by rw[l.1]; exact j
      simp only[j,z12]at h; exact(Tx l h).eff hd (by simp only[dOp,hd,ho,m,z12])
    | alloc t=>
      rw[ho]at h; simp only at h; unfold CT at h; split at h<;>try cases h
      rename_i i e; obtain⟨H,h⟩:=aK h; cases h; refine⟨Eff.new d (.one (.ptr d 0)) i.zero,hd.symm,fun z hz=> ?_,(Eff.new_on _ _ _ x).symm, ?_⟩
      · simp only[Nk,hd,ho,z72]
        simp only[Eff.new]at hz; by_cases e:z=d
        · exact e
        · rw[z11 e]at hz; cases hz
      · simp only[dOp,hd,ho,CT,e,H,z15,Eff.new_on]
    | box t v=>
      rw[ho]at h g; simp only at h; unfold RA at h; split at h<;>try cases h
      rename_i J; split at h<;>try cases h
      rename_i xs e; obtain⟨H,h⟩:=aK h; cases h; have h1:y.sl J=x.sl J:=(g (.tmp J) (by simp [Op.operands])).1
      refine⟨Eff.new d (.one (.ptr d 0)) xs,hd.symm,fun z hz=> ?_,(Eff.new_on _ _ _ x).symm, ?_⟩
      · simp only[Nk,hd,ho,z72]
        simp only[Eff.new]at hz; by_cases e:z=d
        · exact e
        · rw[z11 e]at hz; cases hz
      · simp only[dOp,hd,ho,RA,h1,e,H,z15,Eff.new_on]
    | buildSlice t n p=>rw[ho]at h g; exact(Wj (fun v B=>g v (by simpa [Op.operands]using B)) h).eff hd (by simp only[dOp,hd,ho])
    | makeSlice t v z=>rw[ho]at h g; exact(Tu (g v (by simp [Op.operands])) (g z (by simp [Op.operands])) h).eff hd (by simp only[dOp,hd,ho])
    | build t p=>rw[ho]at h g; exact(SB (fun v B=>g v (by simpa [Op.operands]using B)) h).eff hd (by simp only[dOp,hd,ho])
    | call c=>
      rw[ho]at h g; simp only at h; split at h
      · rename_i v z t u C r G
        have j: ∀w,w∈c.args.toList→sK x y w:=fun w N=>g w (by simp only[Op.operands,Call.operands]; simp; exact .inr (by simpa using N))
        exact(QE (j v (by rw[r]; simp)) (j z (by rw[r]; simp)) h).eff hd (by simp only[dOp,hd,ho,C,r,G])
      · rename_i M
        refine q (.call c) ho (fun y=> ?_) h
        simp only[dOp,hd,ho]
    | store t v z=>rw[ho]at h; simp only[pT,iN]at h; cases h
    | binOp a b c K e=>rw[ho]at h; exact q _ ho (fun y=>by simp only[dOp,hd,ho]) h
    | unOp a b c=>rw[ho]at h; exact q _ ho (fun y=>by simp only[dOp,hd,ho]) h
    | convert a b c=>rw[ho]at h; exact q _ ho (fun y=>by simp only[dOp,hd,ho]) h
    | index a b c=>rw[ho]at h; exact q _ ho (fun y=>by simp only[dOp,hd,ho]) h
    | slice a b c K e=>rw[ho]at h; exact q _ ho (fun y=>by simp only[dOp,hd,ho]) h
    | _=>rw[ho]at h; simp only[pT,iN]at h; cases h
def GA(o:Oper):Bool:=match o.op with
  | .move _=>true
  | .assign _=>true
  | .nilCheck _=>true
  | .fieldAddr _ _ _=>true
  | _=>false
def yQ(l:Bool)(x y:D)(v:Operand):Prop:=match l with
  | true=>ev y.sl v=ev x.sl v
  | false=>sK x y v
theorem yQ.ev{l:Bool}{v:Operand}(h:yQ l x y v):ev y.sl v=ev x.sl v:=by
  cases l with
  | true=>exact h
  | false=>exact h.1
theorem Ox(h:dOp τ F x o=some x1)(b:xC o=false)(c:noTk F x o)(a: ∀v∈o.op.operands,yQ (GA o) x y v): ∃E:Eff,E.d=o.dst∧(∀z,(E.ob z).isSome=true→z∈Nk o)∧x1=E.on x∧dOp τ F y o=some (E.on y):=by
  cases hl:GA o with
  | false=>
    rw[hl]at a; exact Rx h b c a
  | true=>
    rw[hl]at a; have a: ∀v∈o.op.operands,Own.ev y.sl v=Own.ev x.sl v:=a; unfold dOp at h; cases hd:o.dst with
    | none=>
      rw[hd]at h; simp only at h; split at h<;>try cases h
      rename_i ho; unfold GA at hl; rw[ho]at hl; cases hl
    | some d=>
      rw[hd]at h; simp only at h; rw[←hd]; cases ho:o.op with
      | assign v=>rw[ho]at h a; exact(Gy (a v (by simp [Op.operands])) h).eff hd (by simp only[dOp,hd,ho])
      | move v=>
        rw[ho]at h a; simp only at h; cases hm:mem d F.al with
        | true=>rw[hm]at h; exact(MX (a v (by simp [Op.operands])) h).eff hd (by simp only[dOp,hd,ho,hm,z15])
        | false=>rw[hm]at h; exact(Gy (a v (by simp [Op.operands])) h).eff hd (by simp only[dOp,hd,ho,hm,z12])
      | fieldAddr s v f=>rw[ho]at h a; exact(MO (a v (by simp [Op.operands])) h).eff hd (by simp only[dOp,hd,ho])
      | nilCheck v=>rw[ho]at h a; exact(SW (a v (by simp [Op.operands])) h).eff hd (by simp only[dOp,hd,ho])
      | _=>unfold GA at hl; rw[ho]at hl; cases hl
end

def SD(P:Program)(τ:TypeId→Option TI)(Sgs:FuncId→List Sg)(F:FA)(ds:List (Option Nat))(o:Oper)(x x1:D):Prop:=
 (bJ ds x o.guard=some false∧x1=sO x o.dst)∨
 (bJ ds x o.guard=some true∧dOp τ F x o=some x1)∨
 (bJ ds x o.guard=some true∧ ∃c v f caps ob a r nw,o.op= .call c∧c.callee= .value v∧uX F c=false∧ev x.sl v= .one (.fn f caps)∧c.args.toList.all (fun v=>gC (ev x.sl v))=true∧ob.map some=(nP F c v).map x.ob∧
  (∀sg∈Sgs f,sg.np=(inV x c caps (nP F c v)).length→sg.no=ob.length→TC P f sg (inV x c caps (nP F c v)) ob r none a nw)∧
  bQ F (x.call o.dst (vE F o.dst) (nP F c v) (DR r none a nw)) o.dst (vE F o.dst) (nP F c v)=true∧x1=x.call o.dst (vE F o.dst) (nP F c v) (DR r none a nw))∨
 (bJ ds x o.guard=some true∧ ∃c v f r t xs l p x0 b es',o.op= .call c∧c.callee= .value v∧uX F c=true∧ev x.sl v= .one (.fn f [])∧c.args.toList.all (fun v=>gC (ev x.sl v))=true∧c.args.toList= .tmp t::xs∧x.sl t= .one (.al l p)∧x.at l=some x0∧nav x0 p=some (.sl b)∧
  (∀sg∈Sgs f,sg.np=(inV x c [] []).length→sg.no=0→TC P f sg (inV x c [] []) [] r (some (.sl es')) [] none)∧bQ F (x.call o.dst none [] (DR r (some (.sl es')) [] none)) o.dst none []=true∧x1=(x.call o.dst none [] (DR r (some (.sl es')) [] none)).upd l (bV x0 p (.sl es')))
def Qb(F:FA)(o:Oper):Bool:=match o.op with
 | .store _ v _=>(match nU F v with | .one (.ptr _ _)=>true | .one (.pp (.s _ _ _) _ _ _)=>true | .one (.pp (.oc _ _) _ _ _)=>true | _=>false)
 | _=>false
def stL(F:FA)(o:Oper):Option Loc:=match o.op with
 | .store _ v _=>(match nU F v with | .one (.pp l _ _ _)=>some l | _=>none)
 | _=>none
def rS(F:FA)(o:Oper):Option Nat:=match stL F o with
 | some (.s i _ _)=>some i
 | _=>none
def wD(F:FA)(o:Oper):Option Nat:=match o.dst with
 | some d=>some d
 | none=>rS F o
def tkO(F:FA)(o:Oper):Option Nat:=match o.op with
 | .load _ v=>(match nU F v with | .one (.pp (.oc ob _) _ _ _)=>some ob | _=>none)
 | _=>none
def KE(F:FA)(o:Oper):Bool:=match o.dst,o.op with
 | some d, .load _ v=>mem d F.al&&(match nU F v with | .one (.ptr _ _)=>true | _=>false)
 | _,_=>false
def slC(o:Option (List T))(p:Nat):Bool:=match o with
 | some cs=>slT (cs[p]?)
 | none=>false
def Ji(x y:D)(v:Operand):Prop:=ev y.sl v=ev x.sl v∧ ∀ob p,ev x.sl v= .one (.ptr ob p)→slC (y.ob ob) p=slC (x.ob ob) p
def Sr(F:FA)(o:Oper):Bool:=(xC o&& !(Qb F o))||((GB F o&&(tkO F o).isNone)||(match dQ o with | some (c,_)=>uX F c | none=>false))

def TM(ds:List (Option Nat)):Option (Nat×Bool)→Option Nat
 | none=>none
 | some (j,_)=>match ds[j]? with
  | some (some t)=>some t
  | _=>none
def stO(F:FA)(o:Oper):List Nat:=match o.op with
 | .store _ v _=>(match nU F v with | .one (.ptr ob _)=> [ob] | .one (.pp (.oc ob _) _ _ _)=> [ob] | _=> [])
 | .load _ _=>bif GB F o then(match tkO F o with | some ob=> [ob] | none=> [])else []
 | _=> []
def wO(F:FA)(o:Oper):List Nat:=match dQ o with
 | some (c,v)=>yI (nP F c v) (vE F o.dst)
 | none=>Nk o++stO F o
def rO(F:FA)(o:Oper):List Nat:=match dQ o with
 | some (c,v)=>nP F c v
 | none=>stO F o

def Nm(F:FA)(x:D):Operand→Prop
 | .tmp t=>x.sl t= .tup []∨fits (x.sl t) (F.shOf t)=true
 | _=>True
def CK(F:FA)(x:D)(o:Oper):Prop:= ∀v∈o.op.operands,Nm F x v

def yB(d:Option Nat)(a:List Nat):Loc→Bool
 | .s i _ _=>decide (d=some i)
 | .oc o _=>mem o a
 | _=>false
def NW(F:FA)(d:Option Nat)(a:List Nat)(v:Operand):Bool:=
 (match v with | .tmp t=>decide (d=some t) | _=>false)||
 (match nU F v with
  | .one (.ptr ob _)=>mem ob a
  | .one (.pp l _ _ _)=>yB d a l
  | .one (.al l _)=>yB d a l
  | _=>false)
def NQ(d:Option Nat)(v:Operand):Bool:=match v with | .tmp t=>decide (d=some t) | _=>false
def OB(l:Bool)(F:FA)(d:Option Nat)(a:List Nat)(v:Operand):Bool:=bif l then NQ d v else NW F d a v
theorem ES{l:Bool}{F:FA}{d:Option Nat}{a:List Nat}{v:Operand}(h:OB l F d a v=false):NQ d v=false:=by
 cases l with
 | true=>exact h
 | false=>
  have h:NW F d a v=false:=h; unfold NW at h; simp only[z61]at h; exact h.1
def DI(F:FA)(ds:List (Option Nat))(a b:Oper):Bool:=
 b.op.operands.toList.any (OB (GA b||(GB F a&&KE F b)) F (wD F a) (wO F a))||(match TM ds b.guard with | some t=>decide (wD F a=some t) | none=>false)||((rO F b).any (fun z=>mem z (wO F a))||(match rS F b with | some t=>decide (wD F a=some t) | none=>false))
def Qj(F:FA)(ds:List (Option Nat))(a b:Oper):Bool:=
 !(Sr F a)&& !(Sr F b)&&(match wD F a with | some d=> !(decide (wD F b=some d)) | none=>true)&& !(DI F ds a b)&& !(DI F ds b a)&&(wO F a).all (fun z=> !(mem z (wO F b)))

theorem Uj{z:Nat}: ∀ {l:List Nat},z∈l→mem z l=true
 | y::r,h=>by
  simp only[mem,z48]; cases h with
  | head=>exact .inl (z42 _)
  | tail _ h=>exact .inr (Uj h)

section
variable {P:Program} {τ:TypeId→Option TI} {Sgs:FuncId→List Sg} {F:FA} {ds:List (Option Nat)} {x y x1 x2:D} {o:Oper}

theorem Qo{E:Eff}{a:Option Nat}{b:List Nat}(f: ∀d,E.d=some d→a=some d)(m: ∀z,(E.ob z).isSome=true→z∈b){l:Loc}(h:yB a b l=false):(E.on x).at l=x.at l:=by
 cases l with
 | s i k j=>
  simp only[yB,z39]at h; simp only[D.at,atL,Eff.on,z11 (fun e=>h (f i e))]
 | oc ob j=>
  simp only[yB]at h; have:E.ob ob=none:=by
   cases he:E.ob ob with
   | none=>rfl
   | some c=>rw[Uj (m ob (by rw[he]; rfl))]at h; cases h
  simp only[D.at,atL,Eff.on,this]
 | _=>rfl

theorem Tb{E:Eff}{wd:Option Nat}{wo:List Nat}(hD: ∀d,E.d=some d→wd=some d)(hE: ∀z,(E.ob z).isSome=true→z∈wo){v:Operand}(hf:Nm F x v)(h:NW F wd wo v=false):sK x (E.on x) v:=by
 have hob: ∀ob,mem ob wo=false→(E.on x).ob ob=x.ob ob:=fun ob hm=>by
  have:E.ob ob=none:=by
   cases he:E.ob ob with
   | none=>rfl
   | some c=>rw[Uj (hE ob (by rw[he]; rfl))]at hm; cases hm
  simp only[Eff.on,this]
 simp only[NW,z61]at h; cases v with
 | tmp t=>
  obtain⟨h1,h2⟩:=h; have h1:wd≠some t:=by simpa using h1
  have e0:(E.on x).sl t=x.sl t:=by simp only[Eff.on,z11 (fun e=>h1 (hD t e))]
  refine⟨e0, ?_⟩
  have h2:(match F.shOf t with | .one (.ptr ob _)=>mem ob wo | .one (.pp l _ _ _)=>yB wd wo l | .one (.al l _)=>yB wd wo l | _=>false)=false:=h2
  have hf:x.sl t= .tup []∨fits (x.sl t) (F.shOf t)=true:=hf; show match x.sl t with | .one (.ptr ob _)=>_ | .one (.pp l _ _ _)=>_ | .one (.al l _)=>_ | _=>True
  rcases hf with e | hf
  ·rw[e]; trivial
  ·split
   ·rename_i ob p e
    rw[e]at hf; cases hs:F.shOf t with
    | tup ws=>rw[hs]at hf; simp [Own.fits]at hf
    | one w=>
     rw[hs]at hf h2; cases w<;>simp [Own.fits,bO]at hf
     obtain⟨rfl,_⟩:=hf; exact hob _ h2
   ·rename_i l p i j e
    rw[e]at hf; cases hs:F.shOf t with
    | tup ws=>rw[hs]at hf; simp [Own.fits]at hf
    | one w=>
     rw[hs]at hf h2; cases w<;>simp [Own.fits,bO]at hf
     obtain⟨⟨rfl,_⟩,_⟩:=hf; exact Qo hD hE h2
   ·rename_i l p e
    rw[e]at hf; cases hs:F.shOf t with
    | tup ws=>rw[hs]at hf; simp [Own.fits]at hf
    | one w=>
     rw[hs]at hf h2; cases w<;>simp [Own.fits,bO]at hf
     obtain⟨rfl,_⟩:=hf; exact Qo hD hE h2
   ·trivial
 | const u=>
  refine⟨rfl, ?_⟩
  obtain⟨_,h2⟩:=h; show match bE u with | .one (.ptr ob _)=>_ | .one (.pp l _ _ _)=>_ | .one (.al l _)=>_ | _=>True
  have h2:(match bE u with | .one (.ptr ob _)=>mem ob wo | .one (.pp l _ _ _)=>yB wd wo l | .one (.al l _)=>yB wd wo l | _=>false)=false:=h2
  split
  ·rename_i e; rw[e]at h2; exact hob _ h2
  ·rename_i e; rw[e]at h2; exact Qo hD hE h2
  ·rename_i e; rw[e]at h2; exact Qo hD hE h2
  ·trivial
 | func f=>exact⟨rfl,trivial⟩
 | global i=>exact⟨rfl,trivial⟩

theorem sK.refl(x:D)(v:Operand):sK x x v:=⟨rfl,by split<;>trivial⟩
theorem sK.symm{v:Operand}(h:sK x y v):sK y x v:=by
 refine⟨h.1.symm, ?_⟩
 rw[h.1]; have a:=h.2; split<;>rename_i e<;>first | trivial | (rw[e]at a; exact a.symm)

theorem yQ.refl(l:Bool)(x:D)(v:Operand):yQ l x x v:=by
 cases l with
 | true=>exact rfl
 | false=>exact sK.refl x v
theorem yQ.symm{l:Bool}{v:Operand}(h:yQ l x y v):yQ l y x v:=by
 cases l with
 | true=>exact Eq.symm h
 | false=>exact sK.symm h
theorem yQ.fit{l:Bool}{v:Operand}(h:yQ l x y v)(a:Nm F x v):Nm F y v:=by
 cases v with
 | tmp t=>
  have e:y.sl t=x.sl t:=h.ev; show y.sl t= .tup []∨fits (y.sl t) (F.shOf t)=true; rw[e]; exact a
 | _=>trivial
structure wY (F:FA) (ds:List (Option Nat)) (x y:D) (o:Oper):Prop where
 vs: ∀v∈o.op.operands,yQ (GA o) x y v∨(KE F o=true∧Ji x y v)
 g: ∀t,TM ds o.guard=some t→y.sl t=x.sl t
 os: ∀z∈rO F o,y.ob z=x.ob z
 ps: ∀t,rS F o=some t→y.sl t=x.sl t

theorem Ji.symm{v:Operand}(h:Ji x y v):Ji y x v:=⟨h.1.symm,fun ob p e=>(h.2 ob p (by rw[←h.1]; exact e)).symm⟩
theorem Ji.fit{v:Operand}(h:Ji x y v)(hf:Nm F x v):Nm F y v:=by
 cases v with
 | tmp t=>
  have e:y.sl t=x.sl t:=h.1; show y.sl t= .tup []∨fits (y.sl t) (F.shOf t)=true; rw[e]; exact hf
 | _=>trivial
theorem wY.refl(x:D)(o:Oper):wY F ds x x o:=⟨fun v _=> .inl (.refl _ x v),fun _ _=>rfl,fun _ _=>rfl,fun _ _=>rfl⟩
theorem wY.symm(h:wY F ds x y o):wY F ds y x o:=⟨fun v hv=>(h.vs v hv).imp (·.symm) (fun q=>⟨q.1,q.2.symm⟩),fun t ht=>(h.g t ht).symm,fun z hz=>(h.os z hz).symm,fun t ht=>(h.ps t ht).symm⟩
theorem wY.fit(h:wY F ds x y o)(hf:CK F x o):CK F y o:=fun v hv=>by
 rcases h.vs v hv with q | q
 ·exact q.fit (hf v hv)
 ·exact q.2.fit (hf v hv)

theorem wY.guard(h:wY F ds x y o):bJ ds y o.guard=bJ ds x o.guard:=by
 have a:=h.g; cases hq:o.guard with
 | none=>rfl
 | some p=>
  obtain⟨j,w⟩:=p; rw[hq]at a; simp only[TM]at a; simp only[bJ]; split
  ·rename_i t e
   rw[e]at a; simp only at a; rw[a t rfl]
  ·rfl

theorem Ln{a:Oper}{E:Eff}(hd: ∀d,E.d=some d→wD F a=some d)(hE: ∀z,(E.ob z).isSome=true→z∈wO F a)(hf:CK F x o)(hkp:GB F a=true→ ∀z p,slC ((E.on x).ob z) p=slC (x.ob z) p)(h:DI F ds a o=false):wY F ds x (E.on x) o:=by
 simp only[DI,z61]at h; obtain⟨⟨h1,h2⟩,h3,h4⟩:=h; refine⟨fun v hv=> ?_,fun t ht=> ?_,fun z hz=> ?_,fun t ht=> ?_⟩
 ·have h4:=Vw.1 h1 v (by simpa using hv)
  have h5:OB (GA o||(GB F a&&KE F o)) F (wD F a) (wO F a) v=false:=by simpa using h4
  have h6:=ES h5; have hev:Own.ev (E.on x).sl v=Own.ev x.sl v:=by
   cases v with
   | tmp t=>
    have h6:wD F a≠some t:=by simpa [NQ]using h6
    show(E.on x).sl t=x.sl t; simp only[Eff.on,z11 (fun e=>h6 (hd t e))]
   | _=>exact rfl
  cases hl:GA o with
  | true=>exact .inl hev
  | false=>
   cases ha:(GB F a&&KE F o)with
   | true=>
    simp only[z7]at ha; exact .inr ⟨ha.2,hev,fun ob p _=>hkp ha.1 ob p⟩
   | false=>
    rw[hl,ha]at h5; exact .inl (Tb hd hE (hf v hv) h5)
 ·rw[ht]at h2
  simp only[z39]at h2; simp only[Eff.on,z11 (fun e=>h2 (hd t e))]
 ·have:=Vw.1 h3 z hz
  have hn:E.ob z=none:=by
   cases he:E.ob z with
   | none=>rfl
   | some c=>exact absurd (Uj (hE z (by rw[he]; rfl))) this
  simp only[Eff.on,hn]
 ·rw[ht]at h4
  simp only[z39]at h4; simp only[Eff.on,z11 (fun e=>h4 (hd t e))]

theorem wJ{c:Call}{v:Operand}(ho:o.op= .call c)(a:c.callee= .value v):dQ o=some (c,v):=by
 unfold dQ; rw[ho]; simp only[a]
theorem pI(h:dOp τ F x o=some x1):dQ o=none:=by
 unfold dQ; split
 ·rename_i c ho
  split
  ·rename_i v a
   exfalso
   unfold dOp at h; cases hd:o.dst with
   | none=>rw[hd,ho]at h; simp at h
   | some d=>
    rw[hd,ho]at h; simp only[a]at h; simp only[pT,iN,a]at h; cases h
  ·rfl
 ·rfl

theorem Pd{os:List Nat}{nd:Option Nat}{z:Nat}{y:D}{d:Option Nat}(h:((Eff.call d nd os y).ob z).isSome=true):z∈yI os nd:=by
 simp only[Eff.call]at h; cases hi:rV os nd z with
 | none=>rw[hi]at h; cases h
 | some oc=>exact sZ.1 (by rw[hi]; rfl)

theorem Ht{d nd:Option Nat}{os:List Nat}{r:D}:bQ F (y.call d nd os r) d nd os=bQ F (x.call d nd os r) d nd os:=by
 simp only[bQ]; congr 1
 ·cases d with
  | none=>rfl
  | some d=>simp [D.call]
 ·rw[Vu,z18,z18]
  have: ∀z∈yI os nd,(y.call d nd os r).ob z=(x.call d nd os r).ob z:=fun z hz=>by
   simp only[D.call]; cases hi:rV os nd z with
   | none=>have:=sZ.2 hz; rw[hi]at this; cases this
   | some oc=>rfl
  exact⟨fun h z hz=>by rw[←this z hz]; exact h z hz,fun h z hz=>by rw[this z hz]; exact h z hz⟩

theorem SQ{v:Operand}{ob p:Nat}(a:Nm F x v)(h:ev x.sl v= .one (.ptr ob p)):nU F v= .one (.ptr ob p):=by
 cases v with
 | tmp b=>
  have h:x.sl b= .one (.ptr ob p):=h; have a:x.sl b= .tup []∨fits (x.sl b) (F.shOf b)=true:=a; rw[h]at a; rcases a with a | a
  ·cases a
  ·show F.shOf b=_
   cases hs:F.shOf b with
   | tup d=>rw[hs]at a; simp [fits]at a
   | one w=>
    rw[hs]at a; cases w<;>simp [fits,bO]at a
    rw[a.1,a.2]
 | const c=>exact h
 | func f=>cases h
 | global g=>cases h
theorem TD{v:Operand}{l:Loc}{p:List (Nat×Nat)}{n j:Nat}(a:Nm F x v)(h:ev x.sl v= .one (.pp l p n j)): ∃e n' d,nU F v= .one (.pp l e n' d):=by
 cases v with
 | tmp b=>
  have h:x.sl b= .one (.pp l p n j):=h; have a:x.sl b= .tup []∨fits (x.sl b) (F.shOf b)=true:=a; rw[h]at a; rcases a with a | a
  ·cases a
  ·show ∃e n' d,F.shOf b=_
   cases hs:F.shOf b with
   | tup i=>rw[hs]at a; simp [fits]at a
   | one w=>
    rw[hs]at a; cases w<;>simp [fits,bO]at a
    rw[a.1.1]; exact⟨_,_,_,rfl⟩
 | const c=>exact⟨_,_,_,h⟩
 | func f=>cases h
 | global g=>cases h
theorem PS(h:dOp τ F x o=some x1)(hst:Qb F o=true)(hfit:CK F x o)(hs: ∀v∈o.op.operands,sK x y v)(hos: ∀z∈stO F o,y.ob z=x.ob z)(hps: ∀t,rS F o=some t→y.sl t=x.sl t): ∃E:Eff,(∀d,E.d=some d→wD F o=some d)∧(∀z,(E.ob z).isSome=true→z∈stO F o)∧x1=E.on x∧dOp τ F y o=some (E.on y):=by
 unfold Qb at hst; split at hst<;>try cases hst
 rename_i t v w ho; have h0:=h; unfold dOp at h; cases hd:o.dst with
 | some d=>rw[hd]at h; simp only at h; rw[ho]at h; simp only[pT,iN]at h; cases h
 | none=>
  rw[hd,ho]at h; simp only at h; have hfv:=hfit v (by rw[ho]; simp [Op.operands])
  have h1:=hs v (by rw[ho]; simp [Op.operands])
  have h2:=hs w (by rw[ho]; simp [Op.operands])
  split at h<;>try cases h
  ·rename_i i ob' p' xs hi hv hy
   have hsh:=SQ hfv hv; have e1:ev y.sl v= .one (.ptr ob' p'):=h1.1.trans hv; have e2:aT (ev y.sl w)=some xs:=by rw[h2.1]; exact hy
   have e3:y.ob ob'=x.ob ob':=by
    have:=h1.2; rw[hv]at this; exact this
   unfold tD at h; split at h<;>try cases h
   rename_i cells hcl; obtain⟨hc,h⟩:=aK h; cases h; have hon: ∀z:D,(Eff.on ⟨none, .tup [],fun o'=>if o'=ob' then some (some (cells.take p'++xs++cells.drop (p'+xs.length)))else none⟩ z)=z.setO ob' (cells.take p'++xs++cells.drop (p'+xs.length)):=fun z=>D.ext (fun i=>by simp [Eff.on,D.setO]) (fun i=>by
    simp only[Eff.on,D.setO]; by_cases e:i=ob'
    ·rw[z17 e,z17 e]
    ·rw[z11 e,z11 e])
   refine⟨⟨none, .tup [],fun o'=>if o'=ob' then some (some (cells.take p'++xs++cells.drop (p'+xs.length)))else none⟩,(fun d hd=>by cases hd),fun z hz=> ?_,(hon x).symm, ?_⟩
   ·simp only at hz
    by_cases e:z=ob'
    ·unfold stO; rw[ho]; simp only[hsh]; simp [e]
    ·rw[z11 e]at hz; cases hz
   ·rw[hon y]
    unfold dOp; rw[hd,ho]; simp only[hi,e1,e2,tD,e3,hcl,hc,z15]
  ·rename_i i l pp n j xs hi hv hy
   obtain⟨p',n',j',hsh⟩:=TD hfv hv; have e1:ev y.sl v= .one (.pp l pp n j):=h1.1.trans hv; have e2:aT (ev y.sl w)=some xs:=by rw[h2.1]; exact hy
   have e3:y.at l=x.at l:=by
    have:=h1.2; rw[hv]at this; exact this
   have hstL:stL F o=some l:=by unfold stL; rw[ho]; simp only[hsh]
   unfold sE at h; split at h<;>try cases h
   rename_i x0 hx0; split at h<;>try cases h
   rename_i es hes; split at h<;>try cases h
   rename_i row hrow; obtain⟨hc,h⟩:=aK h; cases h; have hy2:dOp τ F y o=some (y.upd l (bV x0 pp (.sl (es.set n (row.take j++xs++row.drop (j+xs.length)))))):=by
    unfold dOp; rw[hd,ho]; simp only[hi,e1,e2,sE,e3,hx0,hes,hrow,hc,z15]
   generalize bV x0 pp (.sl (es.set n (row.take j++xs++row.drop (j+xs.length))))=q at hy2; rw[hsh]at hst; cases l with
   | s i0 k0 j0=>
    have e4:y.sl i0=x.sl i0:=hps i0 (by unfold rS; rw[hstL])
    have hon: ∀z:D,z.sl i0=x.sl i0→(Eff.on ⟨some i0,(x.sl i0).setLeaf k0 j0 q,fun _=>none⟩ z)=z.upd (.s i0 k0 j0) q:=fun z hz=>D.ext (fun i=>by
     simp only[Eff.on,D.upd,lR,z9]; by_cases e:i0=i
     ·subst e; rw[z17 rfl,z17 rfl,hz]
     ·rw[z11 e,z11 (fun e2=>e e2.symm)]) (fun i=>rfl)
    refine⟨⟨some i0,(x.sl i0).setLeaf k0 j0 q,fun _=>none⟩,fun d e=> ?_,(fun z hz=>by cases hz),(hon x rfl).symm,by rw[hon y e4]; exact hy2⟩
    cases e; unfold wD rS; rw[hd,hstL]
   | oc ob j0=>
    have hmem:ob∈stO F o:=by unfold stO; rw[ho]; simp only[hsh]; simp
    have e4:y.ob ob=x.ob ob:=hos ob hmem; have hon: ∀z:D,z.ob ob=x.ob ob→(Eff.on ⟨none, .tup [],fun o'=>if o'=ob then some ((x.ob ob).map (·.set j0 q))else none⟩ z)=z.upd (.oc ob j0) q:=fun z hz=>D.ext (fun i=>by simp [Eff.on,D.upd,lR]) (fun i=>by
     simp only[Eff.on,D.upd,sF]; by_cases e:i=ob
     ·rw[z17 e,z17 e,e,hz]
     ·rw[z11 e,z11 e])
    refine⟨⟨none, .tup [],fun o'=>if o'=ob then some ((x.ob ob).map (·.set j0 q))else none⟩,(fun d e=>by cases e),(fun z hz=> ?_),(hon x rfl).symm,by rw[hon y e4]; exact hy2⟩
    simp only at hz; by_cases e:z=ob
    ·rw[e]; exact hmem
    ·rw[z11 e]at hz; cases hz
   | _=>cases hst
def tkC(c:Nat)(p:List (Nat×Nat))(n j:Nat):List Nat→List T→List T
 | [],cs=>cs
 | k::r,cs=>tkC c p n j r (cs.set c (bV ((cs[c]?).getD .hole) (p++[(n,j+k)]) .hole))
theorem PU{z w:T}{q:List (Nat×Nat)}(hq:q≠[]):slT (some (bV z q w))=slT (some z):=by
 cases q with
 | nil=>exact absurd rfl hq
 | cons a r=>cases z<;>rfl
theorem SL{c:Nat}{p:List (Nat×Nat)}{n j:Nat}: ∀(L:List Nat) (cs:List T) (i:Nat),slT ((tkC c p n j L cs)[i]?)=slT (cs[i]?)
 | [],cs,i=>rfl
 | k::r,cs,i=>by
  unfold tkC; rw[SL r]; by_cases e:c=i
  ·subst e
   cases hc:cs[c]? with
   | none=>rw[z67 (by rw[z88]; exact List.getElem?_eq_none_iff.1 hc)]
   | some z=>
    rw[z60 (z74.1 hc).1]
    simp only[z62]; exact PU (by simp)
  ·rw[WB e]
theorem HQ{ob c:Nat}{p:List (Nat×Nat)}{n j:Nat}: ∀(L:List Nat) (x:D) (cs:List T),x.ob ob=some cs→D.takes (.oc ob c) p n j L x=x.setO ob (tkC c p n j L cs)
 | [],x,cs,h=>D.ext (fun _=>rfl) (fun o=>by
  simp only[D.takes,tkC,D.setO]; by_cases e:o=ob
  ·rw[z17 e,e,h]
  ·rw[z11 e])
 | k::r,x,cs,h=>by
  have e1:x.at (.oc ob c)=cs[c]? :=by simp only[D.at,atL,h,z8]
  unfold D.takes tkC; rw[e1]; generalize bV ((cs[c]?).getD .hole) (p++[(n,j+k)]) .hole=z; rw[HQ r _ (cs.set c z) (by simp only[D.upd,sF,z17,h,z33])]
  refine D.ext (fun _=>rfl) (fun o=> ?_)
  simp only[D.setO,D.upd,sF]; by_cases e:o=ob
  ·rw[z17 e,z17 e]
  ·rw[z11 e,z11 e,z11 e]
def Eff.tk(d:Nat)(u:V)(ob:Nat)(cs:List T):Eff:=⟨some d,u,fun o=>if o=ob then some (some cs)else none⟩
theorem Eff.tk_on(d:Nat)(u:V)(ob:Nat)(cs:List T)(x:D):(Eff.tk d u ob cs).on x=(x.put d u).setO ob cs:=D.ext (fun i=>by
 simp only[Eff.on,Eff.tk,D.setO,D.put,z9]; by_cases e:d=i
 ·rw[z17 e,z17 e.symm]
 ·rw[z11 e,z11 (Ne.symm e)]) (fun o=>by
 simp only[Eff.on,Eff.tk,D.setO,D.put]; by_cases e:o=ob
 ·simp [e]
 ·simp [e])
theorem WQ(h:dOp τ F x o=some x1)(ht:GB F o=true){ob:Nat}(hto:tkO F o=some ob)(hfit:CK F x o)(hs: ∀v∈o.op.operands,Own.ev y.sl v=Own.ev x.sl v)(hos:y.ob ob=x.ob ob):
  ∃E:Eff,E.d=o.dst∧(∀z,(E.ob z).isSome=true→z=ob)∧x1=E.on x∧dOp τ F y o=some (E.on y)∧(∀z p,slC ((E.on x).ob z) p=slC (x.ob z) p)∧(∀z p,slC ((E.on y).ob z) p=slC (y.ob z) p):=by
 unfold GB at ht; split at ht<;>try cases ht
 rename_i d t v hd ho; simp only[z7,z35]at ht; obtain⟨t1,t2,t3⟩:=ht; have hfv:=hfit v (by rw[ho]; simp [Op.operands])
 have hsv:=hs v (by rw[ho]; simp [Op.operands])
 have hto:(match nU F v with | .one (.pp (.oc ob _) _ _ _)=>some ob | _=>none)=some ob:=by
  have:=hto; unfold tkO at this; rw[ho]at this; exact this
 unfold dOp at h ⊢; rw[hd,ho]at h ⊢; simp only[t1,t2,z97,z41,hsv]at h ⊢; cases hp:fW (ev x.sl v)with
 | false=>
  exfalso
  rw[hp,z12]at h; unfold nS at h; split at h<;>try cases h
  ·rename_i e; rw[SQ hfv e]at hto; cases hto
  ·rename_i e
   cases v with
   | tmp tt=>
    have e:x.sl tt=_:=e; have hfv:x.sl tt= .tup []∨fits (x.sl tt) (F.shOf tt)=true:=hfv; have hto:(match F.shOf tt with | .one (.pp (.oc ob _) _ _ _)=>some ob | _=>none)=some ob:=hto
    rw[e]at hfv; rcases hfv with hfv | hfv
    ·cases hfv
    ·split at hto<;>try cases hto
     rename_i e2; rw[e2]at hfv; simp [fits,bO]at hfv
   | const c=>have e:bE c=_:=e; unfold bE at e; (repeat' split at e)<;>cases e
   | func f=>cases e
   | global g=>cases e
  ·rename_i e; rw[e]at hp; cases hp
 | true=>
  rw[hp,z15]at h; rw[z15]; obtain⟨l,p,n,j,e⟩:=Ca hp; obtain⟨p',n',j',e2⟩:=TD hfv e; rw[e2]at hto; have hl: ∃c,l= .oc ob c:=by
   cases l with
   | oc o' c=>simp only[z9]at hto; exact⟨c,by rw[hto]⟩
   | _=>cases hto
  obtain⟨c,rfl⟩:=hl; unfold uB at h ⊢; cases hti:τ t with
  | none=>simp only[hti]at h; cases h
  | some i=>
   simp only[hti,e]at h; simp only[hsv,e]; have hat:y.at (.oc ob c)=x.at (.oc ob c):=by simp only[D.at,atL,hos]
   rw[hat]; split at h<;>try cases h
   rename_i es hnav; split at h<;>try cases h
   rename_i row hrow; split at h<;>try cases h
   rename_i r hr; obtain⟨hf,h⟩:=aK h; simp only[z9]at h; obtain⟨cs,hcs⟩: ∃cs,x.ob ob=some cs:=by
    cases hx:x.ob ob with
    | some cs=>exact⟨cs,rfl⟩
    | none=>simp only[D.at,atL,hx,Option.bind_none]at hnav; cases hnav
   have hcy:y.ob ob=some cs:=by rw[hos,hcs]
   have k: ∀(w:D),w.ob ob=some cs→ ∀z q,slC (((Eff.tk d r ob (tkC c p n j (tkM F d) cs)).on w).ob z) q=slC (w.ob z) q:=fun w hw z q=>by
    rw[Eff.tk_on]; simp only[D.setO,D.put]; by_cases ez:z=ob
    ·rw[z17 ez,ez,hw]; exact SL _ _ _
    ·rw[z11 ez]
   refine⟨Eff.tk d r ob (tkC c p n j (tkM F d) cs),rfl,fun z hz=> ?_, ?_, ?_,k x hcs,k y hcy⟩
   ·simp only[Eff.tk]at hz
    split at hz
    ·assumption
    ·cases hz
   ·rw[Eff.tk_on, ←h,HQ _ _ cs (by simpa [D.put]using hcs)]
   ·simp only[hf,z15]
    rw[Eff.tk_on,HQ _ _ cs (by simpa [D.put]using hcy)]
theorem Xd(h:dOp τ F x o=some x1)(ha:KE F o=true)(hfit:CK F x o)(hs: ∀v∈o.op.operands,Ji x y v): ∃E:Eff,E.d=o.dst∧(∀z,(E.ob z).isSome=true→z∈Nk o)∧x1=E.on x∧dOp τ F y o=some (E.on y):=by
 unfold KE at ha; split at ha<;>try cases ha
 rename_i d t v hd ho; simp only[z7]at ha; obtain⟨a1,a2⟩:=ha; have hfv:=hfit v (by rw[ho]; simp [Op.operands])
 have hsv:=hs v (by rw[ho]; simp [Op.operands])
 have hdy: ∀w:D,dOp τ F w o=nS τ F w d t v true:=fun w=>by
  unfold dOp; rw[hd,ho]; simp only[a1,z31,Bool.false_and,z83,z12]
 rw[hdy]at h; refine rN.eff (f:=fun w=>nS τ F w d t v true) ?_ hd (hdy y).symm
 unfold nS at h; split at h<;>try cases h
 ·rename_i i ob p e0 e1
  split at h<;>try cases h
  rename_i cells e2; simp only[z15]at h; obtain⟨hc,h⟩:=aK h; simp only[z7]at hc; have q:=hsv.2 ob p e1; rw[e2]at q; have q:slC (y.ob ob) p=true:=q.trans hc.2; unfold slC at q; split at q<;>try cases q
  rename_i cs hcy; exact fT h (by simp only[nS,hsv.1,e0,e1,hcy,z15,hc.1,q,z95])
 ·rename_i e0 e1
  exfalso
  cases v with
  | tmp tt=>
   have e1:x.sl tt=_:=e1; have hfv:x.sl tt= .tup []∨fits (x.sl tt) (F.shOf tt)=true:=hfv; have a2:(match F.shOf tt with | .one (.ptr _ _)=>true | _=>false)=true:=a2
   rw[e1]at hfv; rcases hfv with hfv | hfv
   ·cases hfv
   ·split at a2<;>try cases a2
    rename_i e3; rw[e3]at hfv; simp [fits,bO]at hfv
  | const c=>have e:bE c=_:=e1; unfold bE at e; (repeat' split at e)<;>cases e
  | func f=>cases e1
  | global g=>cases e1
 ·rename_i e0 e1
  exfalso
  obtain⟨p',n',j',e2⟩:=TD hfv e1; rw[e2]at a2; cases a2
theorem IM{E:Eff}(h:E.d=o.dst): ∀d,E.d=some d→wD F o=some d:=fun d e=>by
 rw[h]at e; unfold wD; rw[e]
theorem SD.eff(h:SD P τ Sgs F ds o x x1)(hfit:CK F x o)(hst:Sr F o=false)(hs:wY F ds x y o): ∃E:Eff,(∀d,E.d=some d→wD F o=some d)∧(∀z,(E.ob z).isSome=true→z∈wO F o)∧x1=E.on x∧SD P τ Sgs F ds o y (E.on y)∧(GB F o=true→(∀z p,slC ((E.on x).ob z) p=slC (x.ob z) p)∧ ∀z p,slC ((E.on y).ob z) p=slC (y.ob z) p):=by
 rcases h with⟨hg,rfl⟩ | ⟨hg,h⟩ | ⟨hg,c,v,f,caps,ob,ob',r,nw,h1,h2,h0,h3,h4,h5,h6,h7,rfl⟩ | ⟨hg,c,v,f,r,t,xs,l,p,x0,es,es',h1,h2,h3,_⟩
 ·exact⟨Eff.skip o.dst,IM rfl,(fun z hz=>by cases hz),(Eff.skip_on _ x).symm, .inl ⟨by rw[hs.guard,hg],Eff.skip_on _ y⟩,fun _=>⟨fun _ _=>rfl,fun _ _=>rfl⟩⟩
 ·have hsv0:KE F o=false→ ∀v∈o.op.operands,yQ (GA o) x y v:=fun hf v hv=>by
   rcases hs.vs v hv with q | q
   ·exact q
   ·rw[hf]at q; cases q.1
  by_cases htk:GB F o=true
  ·cases hto:tkO F o with
   | none=>simp only[Sr,htk,hto,Option.isNone_none,z95,Bool.true_or,z167]at hst; cases hst
   | some ob=>
    have hst0:stO F o=[ob]:=by
     unfold stO; have h1:=htk; unfold GB at h1; split at h1<;>try cases h1
     rename_i d t v hd ho; rw[ho]; simp only[htk,hto,z15]
    obtain⟨E,e1,e2,e3,e4,e5,e6⟩:=WQ (y:=y) h htk hto hfit (fun v hv=>by
     rcases hs.vs v hv with q | q
     ·exact q.ev
     ·exact q.2.1) (hs.os ob (by simp only[rO,pI h,hst0,z72]))
    exact⟨E,IM e1,(fun z hz=>by simp only[wO,pI h,hst0]; exact z158 _ (by rw[e2 z hz]; exact z72.2 rfl)),e3, .inr (.inl ⟨by rw[hs.guard,hg],e4⟩),fun _=>⟨e5,e6⟩⟩
  by_cases hal:KE F o=true
  ·obtain⟨E,e1,e2,e3,e4⟩:=Xd (y:=y) h hal hfit (fun v hv=>by
    rcases hs.vs v hv with q | q
    ·cases hl:GA o with
     | true=>
      exfalso
      unfold KE at hal; split at hal<;>try cases hal
      rename_i ho; unfold GA at hl; rw[ho]at hl; cases hl
     | false=>
      rw[hl]at q; refine⟨q.1,fun ob p e=> ?_⟩
      have q2:=q.2; rw[e]at q2; exact congrArg (slC · p) q2
    ·exact q.2)
   exact⟨E,IM e1,(fun z hz=>by simp only[wO,pI h]; exact List.mem_append_left _ (e2 z hz)),e3, .inr (.inl ⟨by rw[hs.guard,hg],e4⟩),fun e=>absurd e htk⟩
  have hal:KE F o=false:=by simpa using hal
  have htk0:GB F o=false:=by simpa using htk
  cases hs2:xC o with
  | false=>
   obtain⟨E,e1,e2,e3,e4⟩:=Ox h hs2 (fun d t v hd ho=>by
    have htk:=htk0; unfold GB at htk; rw[hd,ho]at htk; have htk:(mem d F.tk&&(!(mem d F.al)&&KC F v))=false:=htk; cases hp:fW (ev x.sl v)with
    | false=>rw[z83,z83]
    | true=>
     obtain⟨l,p,n,j,e⟩:=Ca hp; have:KC F v=true:=by
      cases v with
      | tmp tt=>
       have hf:x.sl tt= .tup []∨fits (x.sl tt) (F.shOf tt)=true:=hfit (.tmp tt) (by rw[ho]; simp [Op.operands])
       have e:x.sl tt= .one (.pp l p n j):=e; rw[e]at hf; rcases hf with hf | hf
       ·cases hf
       ·unfold KC
        show(match F.shOf tt with | .one (.pp _ _ _ _)=>true | _=>false)=true
        cases hs3:F.shOf tt with
        | tup ws=>rw[hs3]at hf; simp [fits]at hf
        | one w=>rw[hs3]at hf; cases w<;>simp [fits,bO]at hf; rfl
      | const c=>
       have e:bE c= .one (.pp l p n j):=e; unfold bE at e; (repeat' split at e)<;>cases e
      | func f=>cases e
      | global g=>cases e
     rw[this]at htk; exact htk) (hsv0 hal)
   exact⟨E,IM e1,(fun z hz=>by simp only[wO,pI h]; exact List.mem_append_left _ (e2 z hz)),e3, .inr (.inl ⟨by rw[hs.guard,hg],e4⟩),fun e=>absurd e htk⟩
  | true=>
   have hp:Qb F o=true:=by
    simp only[Sr,z61,hs2,z41,Bool.not_eq_false']at hst; exact hst.1
   have hlf:GA o=false:=by
    unfold xC at hs2; unfold GA; split at hs2<;>try cases hs2
    rename_i e; rw[e]
   obtain⟨E,e1,e2,e3,e4⟩:=PS h hp hfit (fun v hv=>by have:=hsv0 hal v hv; rw[hlf]at this; exact this) (fun z hz=>hs.os z (by simp only[rO,pI h]; exact hz)) hs.ps
   exact⟨E,e1,(fun z hz=>by simp only[wO,pI h]; exact z158 _ (e2 z hz)),e3, .inr (.inl ⟨by rw[hs.guard,hg],e4⟩),fun e=>absurd e htk⟩
 ·have hc:=wJ h1 h2
  have hlf:GA o=false:=by unfold GA; rw[h1]
  have hal:KE F o=false:=by unfold KE; rw[h1]; split<;>first | rfl | (rename_i e; cases e)
  have htk:GB F o=false:=by unfold GB; rw[h1]; split<;>first | rfl | (rename_i e; cases e)
  have hsv: ∀v∈o.op.operands,sK x y v:=fun v hv=>by
   rcases hs.vs v hv with q | q
   ·rw[hlf]at q; exact q
   ·rw[hal]at q; cases q.1
  have hv: ∀w,(w=v∨w∈c.args.toList)→sK x y w:=fun w hw=>hsv w (by
   rw[h1]; simp only[Op.operands,Call.operands,h2]; simp; rcases hw with rfl | hw
   ·exact .inl rfl
   ·exact .inr (by simpa using hw))
  have e1:inV y c caps (nP F c v)=inV x c caps (nP F c v):=by
   simp only[inV]; congr 1
   exact z52 fun w hw=>by rw[(hv w (.inr hw)).evD]
  have e2:(nP F c v).map y.ob=(nP F c v).map x.ob:=z52 fun z hz=>hs.os z (by simp only[rO,hc]; exact hz)
  refine⟨Eff.call o.dst (vE F o.dst) (nP F c v) (DR r none ob' nw),IM rfl,(fun z hz=>by simp only[wO,hc]; exact Pd hz),(Eff.call_on _ _ _ _ x).symm, .inr (.inr (.inl ⟨by rw[hs.guard,hg],c,v,f,caps,ob,ob',r,nw,h1,h2,h0,by rw[(hv v (.inl rfl)).1,h3], ?_,by rw[e2,h5], ?_, ?_,Eff.call_on _ _ _ _ y⟩)),fun e=>by rw[htk]at e; cases e⟩
  ·rw[z18]at h4 ⊢
   exact fun w hw=>by rw[(hv w (.inr hw)).1]; exact h4 w hw
  ·rw[e1]; exact h6
  ·rw[Ht (x:=x)]; exact h7
 ·simp only[Sr,wJ h1 h2,h3,z167]at hst
  cases hst

theorem Eff.comm{E E':Eff}{z:D}(a: ∀d,E.d=some d→E'.d≠some d)(ho: ∀o,(E.ob o).isSome=true→E'.ob o=none):E.on (E'.on z)=E'.on (E.on z):=by
 refine D.ext (fun i=> ?_) (fun o=> ?_)
 ·simp only[Eff.on]
  by_cases e:E.d=some i
  ·rw[z17 e,z11 (a i e),z17 e]
  ·rw[z11 e,z11 e]
 ·simp only[Eff.on]
  cases h:E.ob o with
  | none=>rfl
  | some c=>rw[ho o (by rw[h]; rfl)]

theorem SD.swap{a b:Oper}(h1:SD P τ Sgs F ds a x x1)(h2:SD P τ Sgs F ds b x1 x2)(ha:CK F x a)(hb:CK F x1 b)(hi:Qj F ds a b=true):CK F x b∧ ∃y,SD P τ Sgs F ds b x y∧CK F y a∧SD P τ Sgs F ds a y x2:=by
 simp only[Qj,z7,z35]at hi; obtain⟨⟨⟨⟨⟨sa,sb⟩,hd⟩,hab⟩,hba⟩,hw⟩:=hi; obtain⟨A,a1,a2,a3,_,a5⟩:=h1.eff ha sa (wY.refl x a); have hfb:CK F x b:=fun v hv=>by
  have hc:NQ (wD F a) v=false:=by
   simp only[DI,z61]at hab; have:=Vw.1 hab.1.1 v (by simpa using hv)
   exact ES (by simpa using this)
  have:=hb v hv; cases v with
  | tmp t=>
   simp only[NQ,z39]at hc; have e:x1.sl t=x.sl t:=by rw[a3]; simp only[Eff.on,z11 (fun e=>hc (a1 t e))]
   have this:x1.sl t= .tup []∨fits (x1.sl t) (F.shOf t)=true:=this; rw[e]at this; exact this
  | _=>trivial
 have hsb:wY F ds x x1 b:=by rw[a3]; exact Ln a1 a2 hfb (fun e=>(a5 e).1) hab
 obtain⟨B,b1,b2,b3,b4,b5⟩:=h2.eff hb sb hsb.symm; have hsa:wY F ds x (B.on x) a:=Ln b1 b2 ha (fun e=>(b5 e).2) hba
 obtain⟨A',c1,c2,c3,c4,_⟩:=h1.eff ha sa hsa; refine⟨hfb,B.on x,b4,hsa.fit ha, ?_⟩
 rw[b3,c3, ←Eff.comm (E:=A') (E':=B)]
 ·exact c4
 ·intro d e1 e2
  have e1:=c1 d e1; have e2:=b1 d e2; rw[e1]at hd; simp [e2]at hd
 ·intro z hz
  cases hB:B.ob z with
  | none=>rfl
  | some c=>
   have m1:=c2 z hz; have m2:=b2 z (by rw[hB]; rfl)
   have:=z18.1 hw z m1; rw[Uj m2]at this; cases this

def EX(P:Program)(τ:TypeId→Option TI)(Sgs:FuncId→List Sg)(F:FA)(ds:List (Option Nat))(ops:Array Oper):List Nat→D→D→Prop
 | [],x,x'=>x=x'
 | i::r,x,x'=> ∃o x1,ops[i]? =some o∧CK F x o∧SD P τ Sgs F ds o x x1∧EX P τ Sgs F ds ops r x1 x'

theorem EX.front{ops:Array Oper}{i:Nat}(ho:ops[i]? =some o){f:List Nat}{x':D}: ∀ {b:List Nat} {x:D},EX P τ Sgs F ds ops (b++i::f) x x'→(∀j∈b, ∀a,ops[j]? =some a→Qj F ds a o=true)→
  CK F x o∧ ∃x1,SD P τ Sgs F ds o x x1∧EX P τ Sgs F ds ops (b++f) x1 x'
 | [],x,h,_=>by
  obtain⟨B,x1,h1,c,d,e⟩:=h; rw[ho]at h1; cases h1; exact⟨c,x1,d,e⟩
 | j::r,x,h,k=>by
  obtain⟨a,x1,h1,c,d,e⟩:=h; obtain⟨m,x2,p,q⟩:=EX.front ho e (fun j l=>k j (z23 _ l))
  obtain⟨s,y,u,w,A⟩:=d.swap p c m (k j z27 a h1); exact⟨s,y,u,a,x2,h1,w,A,q⟩
end

abbrev Lvl:=List (Nat×B)
def rL(m:Nat):Lvl→Option B
 | []=>none
 | (a,b)::r=>bif Nat.beq m a then some b else rL m r
def Um(F:FA)(m:Nat)(b:B)(mt:B→B→B):Lvl→Option Lvl
 | []=>some [(m,b)]
 | (c,a)::r=>bif Nat.beq m c then(bif leB (mt a b) a&&leB (mt a b) b then some ((c,(mt a b).nrm F)::r)else none)
  else(match Um F m b mt r with | some r'=>some ((c,a)::r') | none=>none)
def jQ(m:Nat)(o:Oper):Bool:=o.after.toList.all fun e=> !(Region.binds .any e)||m.testBit e.on

section
variable (τ:TypeId→Option TI) (Sgs:FuncId→List Sg) (F:FA) (ds:List (Option Nat)) (mt:B→B→B)
def xE(m:Nat)(b:B):Nat→List Oper→Lvl→Option Lvl
 | _,[],a=>some a
 | i,o::r,a=>bif m.testBit i|| !(jQ m o)then xE m b (i+1) r a
  else(match tQ τ Sgs F ds b o with
   | some b1=>(match Um F (m||| 2 ^ i) b1 mt a with | some acc'=>xE m b (i+1) r acc' | none=>none)
   | none=>none)
def FT(os:List Oper):Lvl→Lvl→Option Lvl
 | [],a=>some a
 | (m,b)::r,a=>match xE τ Sgs F ds mt m b 0 os a with | some acc'=>FT os r acc' | none=>none
def IW(os:List Oper):Nat→Lvl→Option Lvl
 | 0,L=>some L
 | n+1,L=>match FT τ Sgs F ds mt os L []with | some L'=>IW os n L' | none=>none
def KB:B→List Oper→Option B
 | b,[]=>some b
 | b,o::r=>bif o.op.operands.toList.all (dN b)then(match tQ τ Sgs F ds b o with | some b1=>KB b1 r | none=>none)else none
end

def pB(F:FA)(ds:List (Option Nat))(ops:Array Oper):Bool:=
 (List.range ops.size).all (fun j=>match ops[j]? with | some o=>o.after.all (fun e=> !Region.binds .any e||Nat.blt e.on j) | none=>true)&&
 (List.range ops.size).all (fun j=>(List.range j).all fun i=>match ops[i]?,ops[j]? with
  | some a,some b=>((Region.before ops).getD j 0).testBit i||Qj F ds a b
  | _,_=>true)

def TA(F:FA)(v:Operand):Bool:=match nU F v with
 | .one (.ptr _ _)=>true
 | .one (.pp _ _ _ _)=>true
 | .one (.cp _)=>true
 | _=>false
def Ss(F:FA)(o:Oper):Bool:=o.guard.isNone&&(match o.dst,o.op with
 | some _, .move _=>true
 | some _, .assign _=>true
 | some _, .nilCheck v=>TA F v
 | some _, .fieldAddr _ v _=>TA F v
 | _,_=>false)
def Ql(F:FA)(ops:Array Oper)(i:Nat):Bool:=match ops[i]? with
 | some o=>Ss F o&&(List.range ops.size).all (fun j=>Nat.beq j i||((Region.before ops).getD i 0).testBit j||(match ops[j]? with
   | some p=>p.after.any (fun e=>Region.binds .any e&&Nat.beq e.on i)||o.apart ops p
   | none=>true))
 | none=>false
def WI(F:FA)(ops:Array Oper):List Bool:=bif Region.noSelect ops then(List.range ops.size).map (Ql F ops)else []
def DW(m:Nat):Nat→List Oper→List Bool→Option (Nat×Oper)
 | i,o::r,e::a=>bif e&&(!(m.testBit i)&&jQ m o)then some (i,o)else DW m (i+1) r a
 | _,_,_=>none
section
variable (τ:TypeId→Option TI) (Sgs:FuncId→List Sg) (F:FA) (ds:List (Option Nat)) (mt:B→B→B)
def DN(E:List Bool)(os:List Oper):Lvl→Lvl→Option Lvl
 | [],a=>some a
 | (m,b)::r,a=>match DW m 0 os E with
  | some (i,o)=>(match tQ τ Sgs F ds b o with
   | some b1=>(match Um F (m||| 2 ^ i) b1 mt a with | some acc'=>DN E os r acc' | none=>none)
   | none=>none)
  | none=>(match xE τ Sgs F ds mt m b 0 os a with | some acc'=>DN E os r acc' | none=>none)
def HD(E:List Bool)(os:List Oper):Nat→Lvl→Option Lvl
 | 0,L=>some L
 | n+1,L=>match DN τ Sgs F ds mt E os L []with | some L'=>HD E os n L' | none=>none
end
def Qz(d:Nat):Operand→Bool
 | .tmp t=> !(Nat.beq d t)
 | _=>true
def QW(F:FA)(v y:Operand)(o:Oper):Bool:=o.guard.isNone&&(match o.dst,o.op with
 | some d, .indexAddr _ z _=>Qz d v&&Qz d y&&(fW (F.shOf d)&&uA F z)
 | none, .store _ (.tmp tx) _=>(match F.shOf tx with | .one (.pp (.s k _ _) _ _ _)=>Qz k v | _=>false)
 | _,_=>false)
def xX(n:Nat)(o:Oper):Oper:= { o with after:=((List.range n).map fun j=>⟨j, .data⟩).toArray }
def mF:List Oper→Nat→List Oper
 | [],_=> []
 | [o],n=> [xX n o]
 | o::p::r,n=>o::mF (p::r) (n+1)
section
variable (τ:TypeId→Option TI) (Sgs:FuncId→List Sg) (F:FA) (ds:List (Option Nat)) (mt:B→B→B)
def sC(q:Nat→B→Bool)(os:List Oper):Nat→Lvl→Option Lvl
 | 0,L=>some L
 | n+1,L=>bif L.all (fun p=>q p.1 p.2)then(match FT τ Sgs F ds mt os L []with | some L'=>sC q os n L' | none=>none)else none
end
def Ja(A:Oper)(v y:Operand)(ob:Nat)(m:Nat)(b:B):Bool:= !(jQ m A)||(dN b v&&dN b y&&b.hasO ob)

def TG(τ:TypeId→Option TI)(Sgs:FuncId→List Sg)(F:FA)(mt:B→B→B)(b:B)(ops:Array Oper):Option B:=match ops.toList.drop (ops.size - 1)with
 | [A]=>(match A.dst,A.op,A.guard with
  | none, .store _ (.tmp tv) y,none=>(match F.shOf tv with
   | .one (.ptr ob _)=>
    bif A.after.all (fun e=> !(Region.binds .any e)||Nat.blt e.on (ops.size - 1))&&((List.range (ops.size - 1)).all (fun j=>((Region.before ops).getD (ops.size - 1) 0).testBit j||(match ops[j]? with | some o=>QW F (.tmp tv) y o | none=>true))&&
     (pB F ((mF ops.toList 0).map (·.dst)) (mF ops.toList 0).toArray&&(KB τ Sgs F (ops.toList.map (·.dst)) b ops.toList).isSome))then
     (match sC τ Sgs F ((mF ops.toList 0).map (·.dst)) mt (Ja A (.tmp tv) y ob) (mF ops.toList 0) ops.size [(0,b)]with | some [(_,b1)]=>some b1 | _=>none)else none
   | _=>none)
  | _,_,_=>none)
 | _=>none
def anyC(τ:TypeId→Option TI)(Sgs:FuncId→List Sg)(F:FA)(mt:B→B→B)(b:B)(ops:Array Oper):Option B:=
 bif pB F (ops.toList.map (·.dst)) ops&&(KB τ Sgs F (ops.toList.map (·.dst)) b ops.toList).isSome then
  (match HD τ Sgs F (ops.toList.map (·.dst)) mt (WI F ops) ops.toList ops.size [(0,b)]with | some [(_,b1)]=>some b1 | _=>none)else TG τ Sgs F mt b ops

def meetK(a b:K):K:=if a.lo b then b else if b.lo a then a else if a.lo .V&&b.lo .V then .V else .D
def KP:List K→List K→List K
 | p::ps,q::qs=>meetK p q::KP ps qs
 | _,_=> []
def Ly:List (List K)→List (List K)→List (List K)
 | p::ps,q::qs=>KP p q::Ly ps qs
 | _,_=> []
def TE(b2:List (Nat×List (List K))):List (Nat×List (List K))→List (Nat×List (List K))
 | []=> []
 | p::r=>match dL p.1 b2 with | some κ=>(p.1,Ly p.2 κ)::TE b2 r | none=>TE b2 r
def TF(b2:List (Nat×List K)):List (Nat×List K)→List (Nat×List K)
 | []=> []
 | p::r=>match dL p.1 b2 with | some κ=>(p.1,KP p.2 κ)::TF b2 r | none=>TF b2 r
def Kz(b1 b2:B):B:= { sl:=TE b2.sl b1.sl,ob:=TF b2.ob b1.ob }

def Mf:Ek→Ek→Bool
 | .n, .n=>true
 | .r, .r=>true
 | .e i, .e j=>Nat.beq i j
 | _,_=>false
theorem DP{a b:Ek}:Mf a b=true↔a=b:=by
 cases a<;>cases b<;>simp [Mf]

abbrev CJ:=List (Ek×B)
def tH(e:Ek):CJ→Option B
 | []=>none
 | (a,b)::r=>bif Mf e a then some b else tH e r
def DX(e:Ek):CJ→CJ
 | []=> []
 | (a,b)::r=>bif Mf e a then DX e r else(a,b)::DX e r

theorem sT{e a:Ek}(h:a≠e): ∀ {o:CJ},tH a (DX e o)=tH a o
 | []=>rfl
 | (c,b)::r=>by
  simp only[DX]; cases h2:Mf e c with
  | true=>
   have:=DP.1 h2; subst this; simp only[z15,tH]; rw[sT h]; cases h3:Mf a e with
   | true=>exact absurd (DP.1 h3) h
   | false=>rfl
  | false=>
   simp only[z12,tH]; rw[sT h]

theorem AJ(e:Ek):Mf e e=true:=DP.2 rfl
theorem Ot{a b:Ek}(h:a≠b):Mf a b=false:=by
 cases h2:Mf a b with
 | true=>exact absurd (DP.1 h2) h
 | false=>rfl

def WK(F:FA)(e:Ek)(b:B)(o:CJ):Option CJ:=match tH e o with
 | none=>some ((e,b)::o)
 | some b0=>bif leB (Kz b0 b) b0&&leB (Kz b0 b) b then some ((e,(Kz b0 b).nrm F)::DX e o)else none
def IV(F:FA):CJ→CJ→Option CJ
 | [],o=>some o
 | (e,b)::r,o=>match WK F e b o with | some o'=>IV F r o' | none=>none

def Sub(F:FA)(o c:CJ):Prop:= ∀e b,tH e o=some b→ ∃a,tH e c=some a∧Cv F b a
theorem Sub.refl(F:FA)(o:CJ):Sub F o o:=fun _ b h=>⟨b,h,Cv.refl F b⟩
theorem Sub.trans{F:FA}{a b c:CJ}(h:Sub F a b)(k:Sub F b c):Sub F a c:=fun e x f=>by
 obtain⟨y,h1,d⟩:=h e x f; obtain⟨z,g,i⟩:=k e y h1; exact⟨z,g,d.trans i⟩

theorem PG{F:FA}{e:Ek}{b:B}{o i:CJ}(h:WK F e b o=some i):Sub F o i∧ ∃j,tH e i=some j∧Cv F b j:=by
 unfold WK at h; split at h
 ·rename_i g
  cases h; refine⟨fun d b2 c=> ?_,b,by simp [tH,AJ],Cv.refl F b⟩
  have a:d≠e:=fun k=>by subst k; rw[g]at c; cases c
  exact⟨b2,by simp only[tH,Ot a,z12]; exact c,Cv.refl F b2⟩
 ·rename_i l g
  obtain⟨f,h⟩:=aK h; simp only[z7]at f; cases h; refine⟨fun d b2 c=> ?_,_,by simp [tH,AJ],FP f.2⟩
  by_cases a:d=e
  ·subst a
   rw[g]at c; cases c; exact⟨_,by simp [tH,AJ],FP f.1⟩
  ·exact⟨b2,by simp only[tH,Ot a,z12]; rw[sT a]; exact c,Cv.refl F b2⟩

theorem AF{F:FA}: ∀ {l o c:CJ},IV F l o=some c→Sub F o c∧Sub F l c
 | [],o,c,h=>by cases h; exact⟨Sub.refl F o,fun e b h=>by cases h⟩
 | (e,b)::r,o,c,h=>by
  unfold IV at h; split at h<;>try cases h
  rename_i p h1; obtain⟨a1,i,a2,a3⟩:=PG h1; obtain⟨g,j⟩:=AF h; refine⟨a1.trans g,fun f b2 a=> ?_⟩
  simp only[tH]at a; cases h3:Mf f e with
  | true=>
   have:=DP.1 h3; subst this; rw[h3]at a; cases a; obtain⟨d,k,m⟩:=g _ i a2; exact⟨d,k,a3.trans m⟩
  | false=>
   rw[h3]at a; exact j f b2 a

def Qe(F:FA)(b:B):Bool:=b.sl.all fun p=>LZ F b p.1
theorem RU{F:FA}{b:B}(h:Qe F b=true)(n:Nat)(x:D):(b.nrm F).S n x=b.S n x:=by
 have e: ∀i,b.has i=true→LZ F b i=true:=fun i a=>by
  simp only[B.has]at a; cases hl:dL i b.sl with
  | none=>rw[hl]at a; cases a
  | some κ=>exact z18.1 h _ (iM hl)
 have c: ∀i,(b.nrm F).has i=b.has i:=fun i=>by
  rw[xV,eU]; cases a:b.has i with
  | false=>simp
  | true=>rw[e i a]; rfl
 have d:(b.nrm F).kd=b.kd:=funext fun l=>by
  cases l with
  | s i k j=>
   by_cases a:b.has i=true
   ·rw[xV]; exact gN (e i a)
   ·rw[Sa (show(b.nrm F).hasL (.s i k j)=false by show(b.nrm F).has i=false; rw[c]; simpa using a),Sa (show b.hasL (.s i k j)=false by show b.has i=false; simpa using a)]
  | _=>rfl
 simp only[B.S,c,d]; rfl
theorem Kf(F:FA)(b:B):Cv F b (b.nrm F):=fun x c=>⟨c.nrm,fun g0 w0 a w d=>d.relax ((Low.self F.n b x).le c)⟩
theorem Tz{F:FA}{c b:B}(h:leB c b=true)(hn:Qe F c=true):Cv F b c:=fun x d=>by
 obtain⟨h1,f,k⟩:=Nu h; have e:Ag F c x:=⟨fun i g=>d.sl i (h1 i g),fun o ho=>d.ob o (f o ho)⟩
 obtain⟨_,q⟩:=FP h x d; exact⟨e,fun g0 w0 a w j=>by rw[←RU hn]; exact q g0 w0 a w j⟩

def Jb(F:FA)(f:B→Option CJ):Nat→B→Option CJ
 | 0,_=>none
 | n+1,h=>match f h with
  | none=>none
  | some o=>match tH .n o with
   | none=>some (DX .n o)
   | some b1=>bif leB h b1&&Qe F h then some (DX .n o)else bif leB (Kz h b1) h then Jb F f n ((Kz h b1).nrm F)else none

theorem HY{F:FA}{f:B→Option CJ}: ∀ {n:Nat} {h:B} {b:CJ},Jb F f n h=some b→ ∃c o,Cv F h c∧f c=some o∧b=DX .n o∧(∀b1,tH .n o=some b1→Cv F b1 c)∧ ∀k,Jb F f (k+1) c=some b
 | 0,h,b,a=>by cases a
 | n+1,h,b,a=>by
  have d:=a; unfold Jb at a; cases hf:f h with
  | none=>rw[hf]at a; cases a
  | some o=>
   rw[hf]at a; simp only at a; cases hg:tH .n o with
   | none=>
    rw[hg]at a; cases a; exact⟨h,o,Cv.refl F h,hf,rfl,fun b1 e=>(by rw[hg]at e; cases e),fun k=>by unfold Jb; rw[hf]; simp only[hg]⟩
   | some b1=>
    rw[hg]at a; simp only at a; cases hc:(leB h b1&&Qe F h)with
    | true=>
     rw[hc]at a; cases a; simp only[z7]at hc; refine⟨h,o,Cv.refl F h,hf,rfl,fun b2 e=>(by rw[hg]at e; cases e; exact Tz hc.1 hc.2),fun k=> ?_⟩
     unfold Jb; rw[hf]; simp only[hg,hc.1,hc.2,z95,z15]
    | false=>
     rw[hc]at a; simp only[z12]at a; obtain⟨g,a⟩:=aK a; obtain⟨c,i,j,l⟩:=HY a; exact⟨c,i,(FP g).trans j,l⟩

def TH(F:FA)(id:Nat)(b:B):B:=match dL id F.keep with
 | some l=>b.filt fun i=>mem i l
 | none=>b
theorem HG(F:FA)(id:Nat)(b:B):Cv F b ((TH F id b).nrm F):=fun x f=>by
 unfold TH; split
 ·rename_i l _
  have d:=f.filt (F:=F) (fun i=>mem i l)
  refine⟨d.nrm,fun g0 w0 a w h=>h.relax (Low.le d ⟨rfl,fun i c=>qO ?_,fun o ho=>Lc (n:=F.n) ho,fun l' t e _=> ?_,fun i k xs c _=> ?_,fun i c _ g=> ?_⟩)⟩
  ·rw[eU,z7]at c; exact c.2
  ·cases l' with
   | s i k j=>
    have e:(b.filt fun i=>mem i l).has i=true:=e
    rw[eU,z7]at e; rw[gN e.1]; exact dP _
   | oc o j=>exact dP _
   | _=>cases e
  ·rw[eU,z7]at c
   rw[gN c.1]; exact dP _
  ·rw[eU,z7]at c
   rw[gN c.1]at g; exact g
 ·exact Kf F b x f

def tS(τ:TypeId→Option TI)(Sg:FuncId→List Sg)(F:FA):Code→B→Option CJ
 | .skip,b=>some [(.n,b)]
 | .label _,b=>some [(.n,b)]
 | .exit i,b=>some [(.e i,b)]
 | .ret,b=>some [(.r,b)]
 | .seq x y,b=>match tS τ Sg F x b with
  | none=>none
  | some o1=>match tH .n o1 with
   | none=>some o1
   | some b1=>match tS τ Sg F y b1 with
    | none=>none
    | some o2=>IV F (DX .n o1) o2
 | .cond c x y,b=>bif dN b c then(match tS τ Sg F x b,tS τ Sg F y b with
  | some o1,some o2=>IV F o1 o2
  | _,_=>none)else none
 | .block id c,b=>match tS τ Sg F c b with
  | none=>none
  | some o=>match tH (.e id) o with
   | none=>some o
   | some b1=>WK F .n b1 (DX (.e id) o)
 | .loop c,b=>Jb F (tS τ Sg F c) 4 b
 | .region id ops a,b=>bif ops.toList.any Hj then some []else match(match dL id F.mks with | some L=>bif a then none else mkC τ Sg F b L ops.toList | none=>bif a then anyC τ Sg F Kz b ops else Qw τ Sg F (ops.toList.map (·.dst)) b ops.toList)with
  | some b1=>some [(.n,(TH F id b1).nrm F)]
  | none=>none
 | _,_=>some []

theorem KF{g:G}{w:World}{κ:Nat→Nat→K}{l:Nat→Nat→Loc}{v:Value}{b:Bool}(h:RV g w κ l v (.one (.c (.bool b)))):v= .bool b:=by
 have:=LF.scal (g':=g) (w':=w) (κ':= .F) (l':= .none) h.2 rfl; have this:Rd _ _ _ _:=this; cases this; rfl

theorem Jj{F:FA}{b:B}{x:D}{n:Nat}{g0:G}{w0:World}{ops:Array Oper}{o:Oper}{g:G}{w:World}{a:Act}{t:Bool}(m:bP g0 w0 (b.S n x) a g w)(e:Ki (ops.toList.map (·.dst)) b o.guard=true)(h:bJ (ops.toList.map (·.dst)) x o.guard=some t):
  Region.wanted o (yielded ops a.tmps)=t:=by
 have _:=F; unfold Region.wanted; cases hg:o.guard with
 | none=>rw[hg]at h; simp only[bJ,z9]at h; exact h
 | some p=>
  obtain⟨j,i⟩:=p; rw[hg]at h e; simp only[bJ,z28,z26]at h
  simp only[Ki,z28,z26]at e
  simp only[yielded]; cases ho:ops[j]? with
  | none=>rw[ho]at h; simp only[Uf,z9]at h; subst h; simp
  | some oj=>
   rw[ho]at h e; simp only[z33]at h e; simp only[z8]; cases hd:oj.dst with
   | none=>rw[hd]at h; simp only[z9]at h; subst h; simp
   | some d=>
    rw[hd]at h e; simp only at h e; simp only[z8]; have f:=m.slots d; rw[qO e]at f; split at h
    ·rename_i l k
     rw[k]at f; have c:=KF f; simp only[z9]at h; rw[z43]at c; cases ht:a.tmps[d]? with
     | none=>rw[ht]at c; simp [undef]at c
     | some u=>
      rw[ht]at c; simp only[z62]at c; subst c; simp only; rw[←h]; cases l<;>cases i<;>rfl
    ·rename_i k
     rw[k]at f; obtain⟨vs,c,hn,_⟩:=f; simp only[z9]at h; subst h; rw[z43]at c; cases ht:a.tmps[d]? with
     | none=>simp
     | some u=>
      rw[ht]at c; simp only[z62]at c; subst c; simp
    ·cases h

def yR(z:Nat):List Oper→Bool
 | []=>true
 | o::r=> !(decide (o.dst=some z))&&yR z r
def noD(z:Nat):Code→Bool
 | .seq a b=>noD z a&&noD z b
 | .cond _ a b=>noD z a&&noD z b
 | .block _ c=>noD z c
 | .loop c=>noD z c
 | .region _ ops _=>yR z ops.toList
 | _=>true

theorem zZ{a:Act}{d:Option Nat}{u:Value}{z:Nat}(h:d≠some z):(a.put d u).tmps.getD z undef=a.tmps.getD z undef:=pW a d u z h

def Qi(F:FA)(b a:B)(rs:List ResultVar)(c:Code):Bool:=match F.io with
 | none=>true
 | some z=>b.has z&&(b.kd (.s z 0 0)).hand true (a.kd (.s 1 0 0))&&(!(a.kd (.s 1 0 0)).hold||decide (Be F rs F.n0 F.io (.s z 0 0)= .s 1 0 0))&&noD z c
def libC(F:FA)(q:List (List (List K))×List (List K)×Bool)(sg:Sg):Bool:=
 F.sh.isEmpty&&decide (sg.bi.sl=Sz 0 q.1)&&sg.bi.ob.isEmpty&&decide (sg.bo.sl=[(0,q.2.1)])&&sg.bo.ob.isEmpty&&Nat.beq sg.np q.1.length&&Nat.ble 1 sg.np&&decide (sg.io=none)&&decide (sg.ext=q.2.2)&&Nat.beq sg.no 0
def fnC(τ:TypeId→Option TI)(An:FuncId→FA)(Sgs:FuncId→List Sg)(f:FuncId)(sg:Sg)(fn:Func)(c:Code):Bool:=match(An f).lb with
 | some q=>libC (An f) q sg
 | none=>
 Nat.beq (An f).n fn.ntmps&&Nat.ble fn.ntmps par&&Nat.ble sg.np fn.ntmps&& !(fn.name == "runtime.NumGoroutine")&&sg.bi.sl.all (fun p=>Nat.blt p.1 sg.np)&&sg.bi.ob.all (fun p=>Nat.ble par p.1&&Nat.blt p.1 (par+sg.no))&&
 decide (sg.io=(An f).io)&&sg.bo.sl.all (fun p=>Nat.beq p.1 0||(Nat.beq p.1 1&&(An f).io.isSome))&&sg.bo.ob.all (fun p=>Nat.beq p.1 0||sg.bi.hasO p.1)&&
 (match tS τ Sgs (An f) c sg.bi with
  | none=>false
  | some outs=>(match tH .n outs with | none=>true | some b=>BG (An f) b sg.bo (Be (An f) fn.results.toList (An f).n0 (An f).io) 0 fn.results.toList&&NT (An f) b sg.bo (An f).n0&&Qi (An f) b sg.bo fn.results.toList c)&&
   (match tH .r outs with | none=>true | some b=>BG (An f) b sg.bo (Be (An f) fn.results.toList (An f).n0 (An f).io) 0 fn.results.toList&&NT (An f) b sg.bo (An f).n0&&Qi (An f) b sg.bo fn.results.toList c))

def Mot(P:Program)(τ:TypeId→Option TI)(Sgs:FuncId→List Sg):Jd→Prop
 | .code F c x e x'=> ∀b d,tS τ Sgs F c b=some d→Ag F b x→ ∃(h:B) (k:Nat),tH e d=some h∧Ag F h x'∧ ∀g0 w0 (Q:Exit→Act→World→Prop) a w,Sim g0 w0 (b.S F.n x) a w→
   (∀g w',Sim g0 w0 (h.S F.n x') g w'→(∀z,noD z c=true→g.tmps.getD z undef=a.tmps.getD z undef)→Q e.exit g w')→c.wp P Q a w∧ ∀c',c= .loop c'→Code.rounds P c' Q k a w
 | .ops F j os x x'=> ∀(ops:Array Oper) i,ops.toList.drop i=os→j=ops.toList.map (·.dst)→ ∀b h,Qw τ Sgs F j b os=some h→Ag F b x→Ag F h x'∧(∀g0 w0 (Q:Exit→Act→World→Prop) a w,Sim g0 w0 (b.S F.n x) a w→
   (∀g w',Sim g0 w0 (h.S F.n x') g w'→(∀z,yR z os=true→g.tmps.getD z undef=a.tmps.getD z undef)→Q .normal g w')→wpOps P ops Q (List.range' i os.length) a w)∧ ∀b2,KB τ Sgs F j b os=some b2→EX P τ Sgs F j ops (List.range' i os.length) x x'
 | .fn f vs ob r io l nw=> ∀sg∈Sgs f,sg.np=vs.length→sg.no=ob.length→TC P f sg vs ob r io l nw

theorem DH{P:Program}{ops:Array Oper}{o:Oper}{i:Nat}{Q:Exit→Act→World→Prop}{K:Act→World→Prop}{a:Act}{w:World}(b:ops[i]? =some o)(t:Bool)(c:Region.wanted o (yielded ops a.tmps)=t)(h:if t then o.wp P a w K Q else K (a.put o.dst undef) w):wpOp P ops Q i K a w:=by
 unfold Go.wpOp; simp only[b]; rw[c]; cases t with
 | true=>exact .inl h
 | false=>exact h

theorem HR{τ:TypeId→Option TI}{Sgs:FuncId→List Sg}{F:FA}{d:List (Option Nat)}{b c:B}{o:Oper}(h:tQ τ Sgs F d b o=some c): ∃b1,Qt τ Sgs F b o=some b1∧c=(b1.frz F (fzL F b1 o.dst)).nrm F∧Ki d b o.guard=true∧(o.guard≠none→Gr F b (b1.frz F (fzL F b1 o.dst)) o.dst=true):=by
 unfold tQ at h; split at h<;>try cases h
 rename_i b1 h1; obtain⟨a,h⟩:=aK h; cases h; simp only[z7]at a; refine⟨b1,h1,rfl,a.1,fun f=> ?_⟩
 have:=a.2; split at this
 ·rename_i e; exact absurd e f
 ·exact this
theorem Rw{P:Program}{τ:TypeId→Option TI}{An:FuncId→FA}{J:Jd}(h:Big P τ An J):match J with | .ops _ _ os _ _=>os.any Hj=false | _=>True:=by
 induction h with
 | opsNil F ds x=>rfl
 | @opsSkip F ds o r x x2 hg h2 ih2=>
  simp only[Ud,z61]; refine⟨?_,ih2⟩
  unfold Hj; split
  ·rename_i e1 e2
   rw[e2]at hg; cases hg
  ·rfl
 | @opsRun F ds o r x x1 x2 hg h1 h2 ih2=>
  simp only[Ud,z61]; refine⟨?_,ih2⟩
  unfold Hj; split
  ·rename_i e1 e2
   split
   ·rename_i v e3
    unfold dOp at h1; rw[e1]at h1; simp only[e3]at h1; cases h1
   ·rfl
  ·rfl
 | @opsCall F ds o rs x x2 c v f caps ob ob' r nw hg ho hcal hni hx hth hob h1 hsh h2 ih1 ih2=>
  simp only[Ud,z61]; refine⟨?_,ih2⟩
  unfold Hj; rw[ho]; split<;>rfl
 | @opsIo F ds o rs x x2 c v f r t xs l p x0 es es' hg ho hcal hio hx hth hargs hal hat hnav h1 hsh h2 ih1 ih2=>
  simp only[Ud,z61]; refine⟨?_,ih2⟩
  unfold Hj; rw[ho]; split<;>rfl
 | _=>trivial
theorem UN{P:Program}{τ:TypeId→Option TI}{An:FuncId→FA}{F:FA}{a:List (Option Nat)}{os:List Oper}{x x':D}(h:Big P τ An (.ops F a os x x')):os.any Hj=false:=Rw h
theorem Oi{F:FA}{q:List (List (List K))×List (List K)×Bool}{sg:Sg}(h:libC F q sg=true):sg=Qg q∧F.sh=[]∧1≤sg.np:=by
 unfold libC at h; simp only[z7,z153,z36]at h; obtain⟨⟨⟨⟨⟨⟨⟨⟨⟨h1,c⟩,d⟩,e⟩,f⟩,b⟩,g⟩,i⟩,j⟩,a⟩:=h; obtain⟨⟨k,l⟩,⟨m,o⟩,p,r,s,t⟩:=sg; simp only at c d e f b g i j a; have b:=z14 b; have a:=z14 a; subst c d e f b i j a; exact⟨rfl,h1,z29 g⟩
set_option linter.unusedVariables false

theorem tX{P:Program}{o:Oper}{a:Act}{w w':World}{v:Value}{K:Act→World→Prop}{Q:Exit→Act→World→Prop}(h:(execOp a.eval o).run P w= .ok (.value v) w')(c:K (a.put o.dst v) w'):o.wp P a w K Q:=by
 unfold Oper.wp; rw[h]; exact c
theorem Le{P:Program}{o:Oper}{a:Act}{w:World}{c:Call}{g:FuncId}{K:Act→World→Prop}{Q:Exit→Act→World→Prop}(ho:o.op= .call c)(hc:c.callee= .value (.func g))(h:sJ P ((callFunc g (c.args.map a.eval)).run P w) (fun u w'=>K (a.put o.dst u) w')):o.wp P a w K Q:=by
 have hrun:(execOp a.eval o).run P w=(callFunc g (c.args.map a.eval)).run P w:=by
  obtain⟨dst,op,ty,pos,after,guard⟩:=o; simp only at ho; subst ho; have hfv:a.eval (.func g)= .func (.func g) #[] #[]:=rfl; simp only[execOp,resolve,hc,hfv,Deferred.ofValue,Sem.run_bind,Sem.run_pure,Result.andThen_ok,invoke]; congr 2
  apply Nd
  simp
 unfold Oper.wp; rw[hrun]; revert h
 generalize (callFunc g _).run P w=r; intro hC; unfold sJ at hC; split at hC
 ·exact hC
 ·rw[Oper.upon_enter]
  refine Calls.mono hC ?_
  rintro e w' ⟨v,rfl,h⟩
  exact h
 ·exact hC.elim
theorem HS{P:Program}{ρ:Operand→Value}{o:Oper}{x:Operand}{w:World}(ho:o.op= .move x):(execOp ρ o).run P w= .ok (.value (ρ x)) w:=by
 obtain⟨e,op,ty,f,c,d⟩:=o; simp only at ho; subst ho; rfl
theorem wC{P:Program}{ρ:Operand→Value}{o:Oper}{x:Operand}{w:World}(ho:o.op= .assign x):(execOp ρ o).run P w= .ok (.value (ρ x)) w:=by
 obtain⟨e,op,ty,f,c,d⟩:=o; simp only at ho; subst ho; rfl
theorem Tf{P:Program}{ρ:Operand→Value}{o:Oper}{x:Operand}{ty:TypeId}{w:World}(ho:o.op= .box ty x):(execOp ρ o).run P w= .ok (.value (.pointer (some ⟨w.heap.size,0,none⟩))) (w.alloc (.cells (ρ x).cells ty)):=by
 obtain⟨e,op,g,f,c,d⟩:=o; simp only at ho; subst ho; simp only[execOp,Instr.box,newVar,newRow,Sem.run_bind,run_newObj,World.alloc_eq,Result.andThen_ok,Sem.run_pure]

theorem fK{P:Program}{ops:Array Oper}{o:Oper}{i:Nat}{Q:Exit→Act→World→Prop}{K:Act→World→Prop}{a:Act}{w:World}(d:ops[i]? =some o)(c:o.guard=none)(h:o.wp P a w K Q):wpOp P ops Q i K a w:=
 DH d true (by unfold Region.wanted; rw[c]) h

section
variable {P:Program} {τ:TypeId→Option TI}
structure RB (a:Act) (w:World) (N b:Nat) (cs:List Value) (ty:TypeId) (k:Int) (Bx:Nat→Prop):Prop where
 size:a.tmps.size=N
 defers:a.defers=[]
 k:a.tmps.getD 1 undef= .int .i64 k
 ptr:a.tmps.getD 2 undef= .pointer (some ⟨b,0,none⟩)
 row:w.heap[b]? =some (.cells cs.toArray ty (0,0))
 box:Bx b
 bs: ∀b,Bx b→b<w.heap.size

theorem rY(a:Act)(d:Nat)(u:Value):(a.put (some d) u).tmps.size=a.tmps.size:=by simp [Act.put]
theorem Pb(hT:aX P τ){S T:TypeId}{fi off sz:Nat}{ag:Bool}{fs:List (Nat×Nat×Bool)}{i:TI}{g:FuncId}{V W:List (Nat×FuncId)}{N b id o h l m:Nat}{cs:List Value}{ty:TypeId}{k:Int}{Bx:Nat→Prop}{a:Act}{w:World}{R:Value→World→Prop}{Q:Exit→Act→World→Prop}
  {t1 t2 t3 t4 t5:TypeId}{p1 p2 p3 p4 p5:String}{f1 f2 f3 f4 f5:Array Edge}{c:Call}(hS:tk τ S=some (.struct fs))(hf:fs[fi]? =some (off,sz,ag))(hi:τ T=some i)(h1:i.agg=false→i.size=1)(hM:tT P g i.agg i.size V)(K:off+i.size≤cs.length)
  (I:c.callee= .value (.func g))(J:c.args= #[.tmp h, .tmp l])(hd:(Nat.blt 2 o&&Nat.blt o h&&Nat.blt h l&&Nat.blt l m&&Nat.blt m N)=true)
  (d:RB a w N b cs ty k Bx)(z:bX P (Nq off V++W) cs k w Bx R)(hK: ∀f X w',RB X w' N b cs ty f Bx→bX P W cs f w' Bx R→Q .normal X w'):
  (Code.region id #[⟨some o, .fieldAddr S (.tmp 2) fi,t1,p1,f1,none⟩,⟨some h, .load T (.tmp o),t2,p2,f2,none⟩,⟨some l, .move (.tmp 1),t3,p3,f3,none⟩,⟨some m, .call c,t4,p4,f4,none⟩,⟨some 1, .assign (.tmp m),t5,p5,f5,none⟩] false).wp P Q a w:=by
 simp only[z7]at hd; obtain⟨⟨⟨⟨Y,Z⟩,e3⟩,e4⟩,e5⟩:=hd; have Y:=bK Y; have Z:=bK Z; have e3:=bK e3; have e4:=bK e4; have e5:=bK e5; refine wp_region ?_
 show wpOps P _ Q [0,1,2,3,4] a w; rw[wpOps_cons]; refine fK rfl rfl (tX (v:= .pointer (some ⟨b,0+off,none⟩)) (oT hT hS hf (ρ:=a.eval) (x:= .tmp 2) d.ptr rfl w) ?_)
 rw[z30]; obtain⟨u,hu,hv⟩:=MC hT hi (p:=off) d.row (by simpa using K) h1
 have L:(a.put (some o) (.pointer (some ⟨b,off,none⟩))).tmps.size=N:=by rw[rY]; exact d.size
 show wpOps P _ Q [1,2,3,4] (a.put (some o) (.pointer (some ⟨b,off,none⟩))) w; have A: ∀j,(a.put (some o) (.pointer (some ⟨b,off,none⟩))).tmps.getD j undef=if j=o then .pointer (some ⟨b,off,none⟩)else a.tmps.getD j undef:=fun j=>Act.put_getD a o _ j (by rw[d.size]; omega)
 generalize G:a.put (some o) (.pointer (some ⟨b,off,none⟩))=a1 at L A; have E:a1.defers=[]:=by rw[←G]; exact d.defers
 rw[wpOps_cons]; refine fK rfl rfl (tX (v:=u) (qL (ρ:=a1.eval) (x:= .tmp o) rfl (by show a1.tmps.getD o undef=_; rw[A,z17 rfl]) hu) ?_)
 show wpOps P _ Q [2,3,4] (a1.put (some h) u) w; have M:(a1.put (some h) u).tmps.size=N:=by rw[rY]; exact L
 have B: ∀j,(a1.put (some h) u).tmps.getD j undef=if j=h then u else a1.tmps.getD j undef:=fun j=>Act.put_getD a1 h _ j (by rw[L]; omega)
 have s:(a1.put (some h) u).defers=[]:=E; generalize a1.put (some h) u=a2 at M B s; rw[wpOps_cons]
 refine fK rfl rfl (tX (v:= .int .i64 k) (by
  rw[HS (x:= .tmp 1) rfl]; show Result.ok (Next.value (a2.tmps.getD 1 undef)) w=_; rw[B,z11 (by omega),A,z11 (by omega),d.k]) ?_)
 show wpOps P _ Q [3,4] (a2.put (some l) (.int .i64 k)) w; have O:(a2.put (some l) (.int .i64 k)).tmps.size=N:=by rw[rY]; exact M
 have C: ∀j,(a2.put (some l) (.int .i64 k)).tmps.getD j undef=if j=l then .int .i64 k else a2.tmps.getD j undef:=fun j=>Act.put_getD a2 l _ j (by rw[M]; omega)
 have t:(a2.put (some l) (.int .i64 k)).defers=[]:=s; generalize a2.put (some l) (.int .i64 k)=a3 at O C t; rw[wpOps_cons]; refine fK rfl rfl (Le (c:=c) rfl I ?_)
 have r:c.args.map a3.eval= #[u, .int .i64 k]:=by
  rw[J]; have q1:a3.eval (.tmp h)=u:=by
   show a3.tmps.getD h undef=_; rw[C,z11 (by omega),B,z17 rfl]
  have q2:a3.eval (.tmp l)= .int .i64 k:=by
   show a3.tmps.getD l undef=_; rw[C,z17 rfl]
  simp [q1,q2]
 rw[r]; have H:=bX.app z d.bs; refine(hM.2 u _ k w Bx _ hv (by simp; omega) d.bs (bX.shift hM.1 H)).mono fun v D ⟨f,e,q,hn⟩=> ?_
 subst e; show wpOps P _ Q [4] (a3.put (some m) (.int .i64 f)) D; have U:(a3.put (some m) (.int .i64 f)).tmps.size=N:=by rw[rY]; exact O
 have F: ∀j,(a3.put (some m) (.int .i64 f)).tmps.getD j undef=if j=m then .int .i64 f else a3.tmps.getD j undef:=fun j=>Act.put_getD a3 m _ j (by rw[O]; omega)
 have y:(a3.put (some m) (.int .i64 f)).defers=[]:=t; generalize a3.put (some m) (.int .i64 f)=a4 at U F y; rw[wpOps_cons]
 refine fK rfl rfl (tX (v:= .int .i64 f) (by
  rw[wC (x:= .tmp m) rfl]; show Result.ok (Next.value (a4.tmps.getD m undef)) D=_; rw[F,z17 rfl]) ?_)
 show Q .normal (a4.put (some 1) (.int .i64 f)) D; have g5: ∀j,(a4.put (some 1) (.int .i64 f)).tmps.getD j undef=if j=1 then .int .i64 f else a4.tmps.getD j undef:=fun j=>Act.put_getD a4 1 _ j (by rw[U]; omega)
 refine hK f _ D ⟨by rw[rY]; exact U,y,by rw[g5,z17 rfl], ?_, ?_,d.box,fun b hb=>(q b hb).1⟩ hn
 ·rw[g5,z11 (by omega),F,z11 (by omega),C,z11 (by omega),B,z11 (by omega),A,z11 (by omega)]; exact d.ptr
 ·rw[(q b d.box).2]; exact d.row

theorem Tr{S:TypeId}{N id r:Nat}{cs:List Value}{k:Int}{Bx:Nat→Prop}{a:Act}{w:World}{Q:Exit→Act→World→Prop}{f:Value}{E H:TypeId}{D G:String}{f1 f2:Array Edge}(C:(Nat.blt 2 r&&Nat.blt r N)=true)(l:a.tmps.size=N)(t:a.defers=[])(h0:a.tmps.getD 0 undef= .agg cs.toArray)(h1:a.tmps.getD 1 undef= .int .i64 k)(s: ∀b,Bx b→b<w.heap.size)
  (F: ∀y w',RB y w' N w.heap.size cs S k (fun b=>Bx b∨b=w.heap.size)→CL w w'→Q .normal y w'):
  (Code.region id #[⟨some 2, .box S (.tmp 0),E,D,f1,none⟩,⟨some r, .assign (.const f),H,G,f2,none⟩] false).wp P Q a w:=by
 simp only[z7]at C; obtain⟨z,A⟩:=C; have z:=bK z; have A:=bK A; refine wp_region ?_
 show wpOps P _ Q [0,1] a w; rw[wpOps_cons]; have e:=Tf (P:=P) (ρ:=a.eval) (o:=⟨some 2, .box S (.tmp 0),E,D,f1,none⟩) (x:= .tmp 0) (ty:=S) (w:=w) rfl; refine fK rfl rfl (tX e ?_)
 have d:(a.eval (.tmp 0)).cells=cs.toArray:=by
  show(a.tmps.getD 0 undef).cells=_; rw[h0]; rfl
 rw[d]; have m:(w.alloc (.cells cs.toArray S)).heap.size=w.heap.size+1:=z159 ..; have q:CL w (w.alloc (.cells cs.toArray S)):=⟨by rw[m]; omega,fun b e=>heap_alloc_old w _ b e,rfl,rfl,rfl⟩
 have c:(w.alloc (.cells cs.toArray S)).heap[w.heap.size]? =some (.cells cs.toArray S (0,0)):=heap_alloc_new w _; have i:w.heap.size<(w.alloc (.cells cs.toArray S)).heap.size:=by
  rcases z94 w.heap.size (w.alloc (.cells cs.toArray S)).heap.size with h | h
  ·exact h
  ·rw[z121 h]at c; cases c
 generalize w.alloc (.cells cs.toArray S)=w1 at q c i; show wpOps P _ Q [1] (a.put (some 2) (.pointer (some ⟨w.heap.size,0,none⟩))) w1; have u:(a.put (some 2) (.pointer (some ⟨w.heap.size,0,none⟩))).tmps.size=N:=by rw[rY]; exact l
 have p: ∀j,(a.put (some 2) (.pointer (some ⟨w.heap.size,0,none⟩))).tmps.getD j undef=if j=2 then .pointer (some ⟨w.heap.size,0,none⟩)else a.tmps.getD j undef:=fun j=>Act.put_getD a 2 _ j (by rw[l]; omega)
 have g:(a.put (some 2) (.pointer (some ⟨w.heap.size,0,none⟩))).defers=[]:=t; generalize a.put (some 2) (.pointer (some ⟨w.heap.size,0,none⟩))=a1 at u p g; rw[wpOps_cons]; refine fK rfl rfl (tX (v:=f) (wC (x:= .const f) rfl) ?_)
 show Q .normal (a1.put (some r) f) w1; have B: ∀j,(a1.put (some r) f).tmps.getD j undef=if j=r then f else a1.tmps.getD j undef:=fun j=>Act.put_getD a1 r _ j (by rw[u]; omega)
 refine F _ w1 ⟨by rw[rY]; exact u,g, ?_, ?_,c, .inr rfl,fun b e=> ?_⟩ q
 ·rw[B,z11 (by omega),p,z11 (by omega)]; exact h1
 ·rw[B,z11 (by omega),p,z17 rfl]
 ·rcases e with e | rfl
  ·exact z46 (s b e) q.size
  ·exact i

theorem Oc{fn:Func}{N b id r e:Nat}{cs:List Value}{ty:TypeId}{k:Int}{Bx:Nat→Prop}{a:Act}{w:World}{R:Value→World→Prop}{E F:TypeId}{C D:String}{f1 f2:Array Edge}(t:(Nat.blt 2 r&&Nat.blt r N&&Nat.blt 2 e&&Nat.blt e N)=true)(d:fn.results.toList=[.tmp r])(c:RB a w N b cs ty k Bx)(g:bX P [] cs k w Bx R):
  (Code.seq (.region id #[⟨some e, .move (.tmp 1),E,C,f1,none⟩,⟨some r, .assign (.tmp e),F,D,f2,none⟩] false) .ret).wp P (bodyPost P fn (fun z w'=> ∃v,z= .returned v∧R v w')) a w:=by
 simp only[z7]at t; obtain⟨⟨⟨l,m⟩,o⟩,p⟩:=t; have l:=bK l; have m:=bK m; have o:=bK o; have p:=bK p; refine wp_seq (wp_region ?_)
 show wpOps P _ _ [0,1] a w; rw[wpOps_cons]
 refine fK rfl rfl (tX (v:= .int .i64 k) (by
  rw[HS (x:= .tmp 1) rfl]; show Result.ok (Next.value (a.tmps.getD 1 undef)) w=_; rw[c.k]) ?_)
 show wpOps P _ _ [1] (a.put (some e) (.int .i64 k)) w; have y:(a.put (some e) (.int .i64 k)).tmps.size=N:=by rw[rY]; exact c.size
 have s: ∀j,(a.put (some e) (.int .i64 k)).tmps.getD j undef=if j=e then .int .i64 k else a.tmps.getD j undef:=fun j=>Act.put_getD a e _ j (by rw[c.size]; omega)
 have f:(a.put (some e) (.int .i64 k)).defers=[]:=c.defers; generalize a.put (some e) (.int .i64 k)=a1 at y s f; rw[wpOps_cons]
 refine fK rfl rfl (tX (v:= .int .i64 k) (by
  rw[wC (x:= .tmp e) rfl]; show Result.ok (Next.value (a1.tmps.getD e undef)) w=_; rw[s,z17 rfl]) ?_)
 have A: ∀j,(a1.put (some r) (.int .i64 k)).tmps.getD j undef=if j=r then .int .i64 k else a1.tmps.getD j undef:=fun j=>Act.put_getD a1 r _ j (by rw[y]; omega)
 refine wp_ret ?_
 have i:=EE (P:=P) (w:=w) (fn:=fn) (tmps:=(a1.put (some r) (.int .i64 k)).tmps) (us:=[.int .i64 k]) (by rw[d]; rfl) (fun q x u h B=>by
  rw[d]at h; cases q with
  | zero=>
   cases h; cases B; show(vM _ (.tmp r)).run P w=_; have:=A r; rw[z17 rfl]at this; simp only[vM,this,Sem.run_pure]
  | succ q=>cases h)
 exact⟨f,_,i,_,rfl,g w (CL.refl w)⟩

theorem tT.of{f:FuncId}{fn:Func}{c:Code}{S:TypeId}{n:Nat}{L:List (Nat×FuncId)}(j:P.funcs[f]? =some fn)(i:fn.body=some c)(e:(fn.name == "runtime.NumGoroutine")=false)(s:2≤fn.ntmps)(o: ∀x∈L,x.1<n)
  (h: ∀(cs:List Value) (k:Int) (w:World) (Bx:Nat→Prop) (R:Value→World→Prop) (a:Act),cs.length=n→a.tmps.size=fn.ntmps→a.defers=[]→a.tmps.getD 0 undef= .agg cs.toArray→a.tmps.getD 1 undef= .int .i64 k→(∀b,Bx b→b<w.heap.size)→bX P L cs k w Bx R→c.wp P (bodyPost P fn (fun m w'=> ∃v,m= .returned v∧R v w')) a w):tT P f true n L:=by
 refine⟨o,fun v cs k w Bx Q l p r q=> ?_⟩
 simp only[Sl,if_true]at l; subst l; have d:(callFunc f #[.agg cs.toArray, .int .i64 k]).run P w= .ok (.enter f #[.agg cs.toArray, .int .i64 k]) w:=by
  have g:fn.name≠ "runtime.NumGoroutine" :=by simpa using e
  simp [callFunc,run_program,j,g,i]
 rw[d]; show Calls P f _ w _; refine calls_of_wp j i (h cs k w Bx Q _ p ?_ rfl ?_ ?_ r q)
 ·simp; omega
 ·simp [z43,WE]
 ·simp [z43,WE]
end
theorem bX.more{P:Program}{L:List (Nat×FuncId)}{cs:List Value}{k:Int}{w m:World}{Bx c:Nat→Prop}{Q:Value→World→Prop}(h:bX P L cs k w Bx Q)(i:CL w m)(h1: ∀b,Bx b→c b)(o: ∀b,c b→ ¬ Bx b→w.heap.size≤b):bX P L cs k m c Q:=by
 cases L with
 | nil=>exact fun l f=>h l (i.trans f)
 | cons x L=>
  obtain⟨off,g⟩:=x; refine fun l d f p q r=>h l d (i.trans f) (fun b j=>p b (h1 b j)) (fun b j hn=> ?_) r
  by_cases e:c b
  ·exact o b e hn
  ·exact z93 i.size (q b j e)
section
variable {P:Program} {τ:TypeId→Option TI}
theorem Lx{S:TypeId}{N id r:Nat}{cs:List Value}{k:Int}{L:List (Nat×FuncId)}{Bx:Nat→Prop}{a:Act}{w:World}{R:Value→World→Prop}{Q:Exit→Act→World→Prop}{m:Value}{v x:TypeId}{t u:String}{f1 f2:Array Edge}{c:Code}(s:(Nat.blt 2 r&&Nat.blt r N)=true)(l:a.tmps.size=N)(i:a.defers=[])(h0:a.tmps.getD 0 undef= .agg cs.toArray)(h1:a.tmps.getD 1 undef= .int .i64 k)(g: ∀b,Bx b→b<w.heap.size)
  (q:bX P L cs k w Bx R)(p: ∀e w' b d,RB e w' N b cs S k d→bX P L cs k w' d R→c.wp P Q e w'):
  (Code.seq (.region id #[⟨some 2, .box S (.tmp 0),v,t,f1,none⟩,⟨some r, .assign (.const m),x,u,f2,none⟩] false) c).wp P Q a w:=
 wp_seq (Tr s l i h0 h1 g fun e w' j o=>p e w' _ _ j (q.more o (fun _ h=> .inl h) fun b f hn=>by
  rcases f with f | rfl
  ·exact absurd f hn
  ·exact z59 _))
theorem KO(E:aX P τ){S T:TypeId}{u off sz:Nat}{x:Bool}{fs:List (Nat×Nat×Bool)}{i:TI}{g:FuncId}{r:List (Nat×FuncId)}(s:List (Nat×FuncId)){N b id f h j l:Nat}{cs:List Value}{ty:TypeId}{k:Int}{Bx:Nat→Prop}{a:Act}{w:World}{R:Value→World→Prop}{Q:Exit→Act→World→Prop}
  {O U V W X:TypeId}{I J K L M:String}{f1 f2 y z A:Array Edge}{c:Call}{d:Code}(D:tk τ S=some (.struct fs))(G:fs[u]? =some (off,sz,x))(H:τ T=some i)(h1:i.agg=false→i.size=1)(C:tT P g i.agg i.size r)(p:off+i.size≤cs.length)
  (m:c.callee= .value (.func g))(o:c.args= #[.tmp h, .tmp j])(F:(Nat.blt 2 f&&Nat.blt f h&&Nat.blt h j&&Nat.blt j l&&Nat.blt l N)=true)
  (q:RB a w N b cs ty k Bx)(e:bX P (Nq off r++s) cs k w Bx R)(B: ∀v t w',RB t w' N b cs ty v Bx→bX P s cs v w' Bx R→d.wp P Q t w'):
  (Code.seq (.region id #[⟨some f, .fieldAddr S (.tmp 2) u,O,I,f1,none⟩,⟨some h, .load T (.tmp f),U,J,f2,none⟩,⟨some j, .move (.tmp 1),V,K,y,none⟩,⟨some l, .call c,W,L,z,none⟩,⟨some 1, .assign (.tmp l),X,M,A,none⟩] false) d).wp P Q a w:=
 wp_seq (Pb E D G H h1 C p m o F q e B)
end
set_option linter.unusedVariables false

def TCm(P:Program)(m:MR):Prop:= ∃sg:Sg,TC P m.g sg [.one (.c (.sl m.es)), .one (.c (.int .i64 m.k))] [] (.one (.c (.int .i64 m.k1))) (some (.sl m.es')) [] none∧sg.io=some 0∧sg.np=2∧sg.bi=biM∧sg.bo.has 0=true∧sg.bo.has 1=true∧sg.bo.kd (.s 1 0 0)= .U 0
def turnM(o a:Nat):List MR→St→St
 | [],st=>st
 | m::r,st=>turnM o a r (st.turn (.oc o (a+m.off)) (.U 0) (.sl m.es'))

theorem TV{st:St}{o j:Nat}{κ:K}{z:T}(a:Nat):(st.turn (.oc o j) κ z).ob a=if a=o then(st.ob a).map (·.set j z)else st.ob a:=rfl
theorem TW{st:St}{o j:Nat}{κ:K}{z:T}(b a:Nat):(st.turn (.oc o j) κ z).fl (.oc b a)=if Loc.oc b a= .oc o j then κ else if st.fl (.oc b a)= .V then .D else st.fl (.oc b a):=by
 show(if Loc.oc b a= .oc o j then κ else _)=_
 by_cases e:Loc.oc b a= .oc o j
 ·rw[z17 e,z17 e]
 ·rw[z11 e,z11 e]
  show(if isL (.oc o j) (.oc b a)=true then K.D else st.killV.fl (.oc b a))=_
  rw[z11 (by simpa [isL]using e)]
  rfl

theorem OV{P:Program}{g0:G}{w0:World}{a:Act}{o q:Nat}{cs:List Value}{f:List T}{N:Int}{Q:Value→World→Prop}: ∀(rs:List MR) {st:St} {g:G} {w:World} {s:Nat→Prop} {cells:List T} {k:Int},bP g0 w0 st a g w→st.ob o=some cells→(∀m∈rs,TCm P m)→(∀m∈rs, ∃n,st.fl (.oc o (q+m.off))= .U n)→
  BK q rs cells k f N→(∀b,s b→b<w.heap.size∧g.own b= .none)→(∀m∈rs,cs[m.off]? =w.cell? ⟨g.β o,q+m.off,none⟩)→(∀z L D,bP g0 w0 (turnM o q rs st) a D z→D.β=g.β→CL z L→Q (.int .i64 N) L)→
  bX P (rs.map fun m=>(m.off,m.g)) cs k w s Q
 | [],st,g,w,s,cells,k,p,i,E,J,d,M,l,H=>fun z F=>by
  obtain⟨rfl,rfl⟩:=d; exact H w z g p rfl F
 | m::r,st,g,w,s,cells,k,p,i,E,J,d,M,l,H=>fun z C F h2 h3 A=>by
  obtain⟨I,rfl,d⟩:=d; obtain⟨sg,V,W,X,Y,Z,c6,c7⟩:=E m z27; obtain⟨n,hn⟩:=J m z27; have t:st.at (.oc o (q+m.off))=some (.sl m.es):=by rw[St.at_oc,i]; exact I
  obtain⟨R,v,_,_⟩:=p.get t; have j:cs[m.off]? =some R:=(l m z27).trans v; refine⟨R,j,(UD p F V W X Y Z c6 c7 rfl hn t v).mono fun u L ⟨e,D,q1,O,q3,B⟩=> ?_⟩
  have h: ∀b,C b→g.own b= .none:=fun b c=>by
   by_cases e:s b
   ·exact(M b e).2
   ·have hge:=h3 b c e
    cases hg:g.own b with
    | none=>rfl
    | _=>
     exfalso
     have:=p.ok.own b (by rw[hg]; simp)
     omega
  obtain⟨S,ty,r1,r2,r3,_⟩:=p.obs o cells i; refine⟨m.k1,e,fun b c=>⟨(B b (A b c) (h b c)).1,(B b (A b c) (h b c)).2.1⟩, ?_⟩
  refine OV r q1 (cells:=cells.set (q+m.off) (.sl m.es')) (by rw[TV,z17 rfl,i]; rfl) (fun x y=>E x (z23 _ y)) (fun x y=> ?_) d (fun b c=>⟨(B b (A b c) (h b c)).1,(B b (A b c) (h b c)).2.2⟩) (fun x y=> ?_) (fun w3 w4 gc h5 h6 h7=>H w3 w4 gc h5 (h6.trans O) h7)
  ·obtain⟨n',K⟩:=J x (z23 _ y)
   rw[TW]; split
   ·exact⟨0,rfl⟩
   ·rw[K]; exact⟨n',by simp⟩
  ·rw[l x (z23 _ y),O]
   exact(cI (q3 o _ r3)).symm
set_option linter.unusedVariables false

theorem CL.calm{g:G}{w d:World}(c:GOk g w)(h:CL w d)(st:St):zW g w g d (fun _=>False) st:=
 ⟨⟨h.size,fun b a _=>⟨rfl,h.keep b a⟩⟩,fun _ h=>h.elim, .inl fun b a=>⟨⟨z46 a.1 h.size,a.2⟩,h.keep b a.1⟩,h.os,h.tape,h.output,⟨fun b a=>z46 (c.own b a) h.size⟩⟩

def kS(_ _:Nat):K:= .S
theorem Sy(g:G)(w:World)(l:Nat→Nat→Loc)(k:Int):RV g w kS l (.int .i64 k) (vI k):=⟨⟨by simp,by simp⟩,rfl, .int .i64 k⟩
theorem vI_ev{g:G}{w:World}{κ:Nat→Nat→K}{l:Nat→Nat→Loc}{v:Value}{k:Int}(h:RV g w κ l v (vI k)):v= .int .i64 k:=by
 have:=LF.scal (g':=g) (w':=w) (κ':= .F) (l':= .none) h.2 rfl; have this:Rd _ _ _ _:=this; cases this; rfl

def St.mkSt(st:St)(o b t d r c:Nat)(rs:List MR)(k a:Int):St:=
 ((turnM o b rs ((st.put t (.one .junk) (fun _ _=> .D)).put d (vI k) kS)).put r (vI a) kS).put c (vI a) kS

theorem Gs{o a:Nat}: ∀ {rs:List MR} {st:St},(turnM o a rs st).n=st.n
 | [],st=>rfl
 | m::r,st=>by simp only[turnM]; rw[Gs]; rfl

theorem RZ{P:Program}{τ:TypeId→Option TI}(hT:aX P τ){g0:G}{w0:World}{st:St}{S:TypeId}{i:TI}{f:FuncId}{c:Call}{o q F tk t e r l id:Nat}{cells s:List T}{k b:Int}{rs:List MR}{a:Act}{w:World}{Q:Exit→Act→World→Prop}
  {t1 t2 t3 t4:TypeId}{p1 p2 p3 p4:String}{f1 f2 f3 f4:Array Edge}(A:Sim g0 w0 st a w)(hi:τ S=some i)(h1:i.agg=false→i.size=1)(hM:tT P f i.agg i.size (rs.map fun m=>(m.off,m.g)))(hle:q+i.size≤cells.length)
  (Z:c.callee= .value (.func f))(hc2:c.args= #[.tmp t, .tmp e])(hd:(Nat.blt t e&&Nat.blt e r&&Nat.blt r st.n&&Nat.blt l st.n&& !(Nat.beq tk t)&& !(Nat.beq F t))=true)
  (htp:st.sl F= .one (.ptr o q))(htk:st.sl tk=vI k)(L:st.ob o=some cells)(hC: ∀m∈rs,TCm P m)(hk: ∀m∈rs, ∃n,st.fl (.oc o (q+m.off))= .U n)(hch:BK q rs cells k s b)
  (hQ: ∀W w',Sim g0 w0 (st.mkSt o q t e r l rs k b) W w'→(∀z,z≠t→z≠e→z≠r→z≠l→W.tmps.getD z undef=a.tmps.getD z undef)→Q .normal W w'):
  (Code.region id #[⟨some t, .load S (.tmp F),t1,p1,f1,none⟩,⟨some e, .move (.tmp tk),t2,p2,f2,none⟩,⟨some r, .call c,t3,p3,f3,none⟩,⟨some l, .assign (.tmp r),t4,p4,f4,none⟩] false).wp P Q a w:=by
 obtain⟨g,A⟩:=A; simp only[z7,z35]at hd; obtain⟨⟨⟨⟨⟨e1,e2⟩,e3⟩,e4⟩,O⟩,e6⟩:=hd; have e1:=bK e1; have e2:=bK e2; have e3:=bK e3; have e4:=bK e4; have O:tk≠t:=fun h=>by rw[h,z42]at O; cases O
 have hst1:(st.put t (.one .junk) (fun _ _=> .D)).n=st.n:=rfl
 obtain⟨I,ty,r1,r2,r3,_⟩:=A.obs o cells L; obtain⟨u,hu,hv⟩:=MC hT hi (p:=q) r1 (by rw[r2]; exact hle) h1
 have N:a.tmps.getD F undef= .pointer (some ⟨g.β o,q,none⟩):=by
  have:=A.slots F; rw[htp]at this; exact this
 have hkv:a.tmps.getD tk undef= .int .i64 k:=by
  have:=A.slots tk; rw[htk]at this; exact vI_ev this
 refine wp_region ?_
 show wpOps P _ Q [0,1,2,3] a w; rw[wpOps_cons]; refine fK rfl rfl (tX (v:=u) (qL (ρ:=a.eval) (x:= .tmp F) rfl N hu) ?_)
 show wpOps P _ Q [1,2,3] (a.put (some t) u) w; have R: ∀j,(a.put (some t) u).tmps.getD j undef=if j=t then u else a.tmps.getD j undef:=fun j=>Act.put_getD a t _ j (by rw[A.size]; omega)
 have B:=A.set (d:=t) (u:=u) (r:= .one .junk) (κ:=fun _ _=> .D) (by omega) trivial (fun h=>absurd rfl h)
 generalize a.put (some t) u=a1 at R B; rw[wpOps_cons]
 refine fK rfl rfl (tX (v:= .int .i64 k) (by
  rw[HS (x:= .tmp tk) rfl]; show Result.ok (Next.value (a1.tmps.getD tk undef)) w=_; rw[R,z11 O,hkv]) ?_)
 show wpOps P _ Q [2,3] (a1.put (some e) (.int .i64 k)) w; have V: ∀j,(a1.put (some e) (.int .i64 k)).tmps.getD j undef=if j=e then .int .i64 k else a1.tmps.getD j undef:=fun j=>Act.put_getD a1 e _ j (by rw[B.size]; show e<st.n; omega)
 have C:=B.set (d:=e) (u:= .int .i64 k) (r:=vI k) (κ:=kS) (by show e<st.n; omega) (Sy g w _ k) (fun h=>absurd rfl h)
 generalize a1.put (some e) (.int .i64 k)=a2 at V C; rw[wpOps_cons]; refine fK rfl rfl (Le (c:=c) rfl Z ?_)
 have y:c.args.map a2.eval= #[u, .int .i64 k]:=by
  have q1:a2.eval (.tmp t)=u:=by
   show a2.tmps.getD t undef=_; rw[V,z11 (by omega),R,z17 rfl]
  have q2:a2.eval (.tmp e)= .int .i64 k:=by
   show a2.tmps.getD e undef=_; rw[V,z17 rfl]
  rw[hc2]; simp [q1,q2]
 rw[y]; have J:((I.toList.drop q).take i.size).length=i.size:=by simp; omega
 have M: ∀m∈rs,m.off<i.size:=fun m K=>hM.1 (m.off,m.g) (z49.2 ⟨m,K,rfl⟩)
 refine hM.2 u _ k w (fun _=>False) _ hv J (fun _ h=>h.elim) (OV rs (cells:=cells) C L hC (fun m K=> ?_) hch (fun _ h=>h.elim) (fun m K=> ?_) (fun w1 H Y h5 h6 hE=> ?_))
 ·obtain⟨n,hn⟩:=hk m K
  exact⟨n,hn⟩
 ·rw[z66,z17 (M m K),z47,cJ w _ _ I ty _ r1]; simp
 ·show wpOps P _ Q [3] (a2.put (some r) (.int .i64 b)) H
  have X: ∀j,(a2.put (some r) (.int .i64 b)).tmps.getD j undef=if j=r then .int .i64 b else a2.tmps.getD j undef:=fun j=>Act.put_getD a2 r _ j (by rw[C.size]; show r<st.n; omega)
  have E:=h5.put (hE.calm h5.ok _) (fun _=>rfl) (d:=r) (by rw[Gs]; show r<st.n; omega) (fun _ _ _ _ h=>h) (u:= .int .i64 b) (r:=vI b) (κ:=kS) (Sy Y H _ b) (fun h=>absurd rfl h)
  generalize a2.put (some r) (.int .i64 b)=a3 at X E; rw[wpOps_cons]
  refine fK rfl rfl (tX (v:= .int .i64 b) (by
   rw[wC (x:= .tmp r) rfl]; show Result.ok (Next.value (a3.tmps.getD r undef)) H=_; rw[X,z17 rfl]) ?_)
  have g4: ∀j,(a3.put (some l) (.int .i64 b)).tmps.getD j undef=if j=l then .int .i64 b else a3.tmps.getD j undef:=fun j=>Act.put_getD a3 l _ j (by
   rw[E.size]; show l<(turnM o q rs _).n; rw[Gs]; show l<st.n; omega)
  have hs4:=E.set (d:=l) (u:= .int .i64 b) (r:=vI b) (κ:=kS) (by
   show l<(turnM o q rs _).n; rw[Gs]; show l<st.n; omega) (Sy Y H _ b) (fun h=>absurd rfl h)
  show Q .normal (a3.put (some l) (.int .i64 b)) H; refine hQ _ H ⟨Y,hs4⟩ (fun z z1 z2 z3 z4=> ?_)
  rw[g4,z11 z4,X,z11 z3,V,z11 z2,R,z11 z1]
set_option linter.unusedVariables false

theorem yM{F:FA}{n:Nat}{b:B}{x:D}{s:St}(A:Ag F b x)(h:Low n b x s){d:Nat}{r:V}{κ:Nat→Nat→K}:Low n (b.filt (sH F d)) x (s.put d r κ):=by
 have a: ∀i,(b.filt (sH F d)).has i=true→b.has i=true∧i≠d∧aS d (aI (F.shOf i))=false:=fun i c=>by
  rw[eU,z7]at c; have h1:=c.1; simp only[sH,z7,z35]at h1; exact⟨c.2,(fun e=>by rw[e,z42]at h1; cases h1.1),h1.2⟩
 have m: ∀i,(b.filt (sH F d)).has i=true→aS d (aI (s.sl i))=false:=fun i c=>by
  obtain⟨h1,_,z⟩:=a i c; rw[h.sl i h1]; rcases A.sl i h1 with q | q
  ·rw[q]; rfl
  ·rw[eF q]; exact z
 have g: ∀i k j,(b.filt (sH F d)).has i=true→(b.filt (sH F d)).kd (.s i k j)=b.kd (.s i k j):=fun i k j c=>gN (by rw[eU,z7]at c; exact c.1)
 have f: ∀i k j,(b.filt (sH F d)).has i=true→(s.put d r κ).fl (.s i k j)=s.fl (.s i k j):=fun i k j c=>by
  simp only[St.put,z11 (a i c).2.1]; rw[z11]; rintro ⟨_,_,v⟩
  rw[m i c]at v; cases v
 refine⟨h.n,fun i c=> ?_,fun o ho=>h.ob o ho,fun l t p y=> ?_,fun i k xs c C=> ?_,fun i c u w=> ?_⟩
 ·simp only[St.put,z11 (a i c).2.1]; exact h.sl i (a i c).1
 ·cases l with
  | s i k j=>rw[f i k j p,g i k j p]; exact h.fl (.s i k j) t (a i p).1 y
  | oc o j=>exact h.fl (.oc o j) t p y
  | _=>cases p
 ·rw[f i k 0 c,g i k 0 c]; exact h.cp i k xs (a i c).1 C
 ·rw[f i 0 0 c]
  rw[g i 0 0 c]at w; exact h.al i (a i c).1 u w

theorem PL{F:FA}{b:B}{l:Loc}{o:Nat}:(b.turn F l).hasO o=b.hasO o:=by
 unfold B.turn B.killV; rw[gO,AI,gO,gO]
theorem UP(a es':List (List T))(u:T):tI (.sl a) u=tI (.sl es') u:=by cases u<;>rfl
theorem RE{F:FA}{n:Nat}{b:B}{x:D}{s:St}(y:Ag F b x)(h:Low n b x s){o j:Nat}{w es':List (List T)}(G: ∀i,b.has i=true→s.fl (.s i 0 0)= .V→b.kd (.s i 0 0)= .V)(E:b.hasO o=true)(t:x.at (.oc o j)=some (.sl w)):
  Ag F (b.turn F (.oc o j)) (x.upd (.oc o j) (.sl es'))∧Low n (b.turn F (.oc o j)) (x.upd (.oc o j) (.sl es')) (s.turn (.oc o j) (.U 0) (.sl es')):=by
 have v:isL (.oc o j) .none=false:=rfl; have g:Ag F (b.killV F) x:=y.setf _ _; have h1:Low n (b.killV F) x s.killV:=kU y h rfl (fun l _ a=>by
  by_cases e:b.kd l= .V
  ·rw[z17 e]; exact Ic _
  ·rw[z11 e]
   by_cases d:s.fl l= .V
   ·rw[d]at a
    have:b.kd l= .D:=by
     revert a e
     cases b.kd l<;>simp [K.lo]
    rw[this]; exact Ic _
   ·rw[z11 d]; exact a) (fun i H a c=>by
   by_cases e:b.kd (.s i 0 0)= .V
   ·rw[z17 e]at c; exact absurd rfl c
   ·rw[z11 e]at c
    have:=a c; by_cases d:s.fl (.s i 0 0)= .V
    ·exact absurd (G i H d) e
    ·rw[z11 d]; exact this)
 have k:Ag F ((b.killV F).setf F (isL (.oc o j)) (fun m q=>if isL (.oc o j) m=true then .D else q)) x:=g.setf _ _
 have A:Low n ((b.killV F).setf F (isL (.oc o j)) (fun m q=>if isL (.oc o j) m=true then .D else q)) x (s.killV.drop (isL (.oc o j))):=kU g h1 v (fun m _ a=>by
   by_cases e:isL (.oc o j) m=true
   ·rw[z17 e,z17 e]; exact dP _
   ·rw[z11 e,z11 e]; exact a) (fun i _ a c=>by
   by_cases e:isL (.oc o j) (.s i 0 0)=true
   ·rw[z17 e]at c; exact absurd rfl c
   ·rw[z11 e]at c ⊢; exact a c)
 have r:((b.killV F).setf F (isL (.oc o j)) (fun m q=>if isL (.oc o j) m=true then .D else q)).hasL (.oc o j)=true:=by
  show B.hasO _ o=true; unfold B.killV; rw[gO,gO]; exact E
 have C:=Gq (z:= .sl es') k A r t (by simp)
 have p:=(k.upd (z:= .sl es') r t (fun u=>UP w es' u)).filt (fU F (.oc o j))
 refine⟨p.setf _ _,kU (R:=isL (.oc o j)) (f:=fun m=>if m= .oc o j then .U 0 else((s.killV.drop (isL (.oc o j))).upd (.oc o j) (.sl es')).fl m) p C v (fun m _ a=> ?_) (fun i _ a c=> ?_)⟩
 ·by_cases e:m= .oc o j
  ·rw[z17 e,z17 e]; exact dP _
  ·rw[z11 e,z11 e]; exact a
 ·rw[z11 (by simp)]at c ⊢; exact a c
theorem RD{st:St}{l:Loc}{κ:K}{z:T}(a:κ≠ .V)(m:Loc):(st.turn l κ z).fl m≠ .V:=by
 unfold St.turn St.raise; refine rW (fun m=> ?_) m
 split
 ·exact a
 ·show((st.killV.drop (isL l)).upd l z).fl m≠ .V
  have h0: ∀m,(st.killV.drop (isL l)).fl m≠ .V:=fun m=>by
   refine rW (fun m=> ?_) m
   split
   ·simp
   ·exact sS st m
  cases m with
  | s i k j=>
   simp only[St.upd]; split
   ·simp
   ·exact h0 _
  | none=>exact h0 .none
  | ext=>exact h0 .ext
  | obj o=>exact h0 (.obj o)
  | oc o j=>exact h0 (.oc o j)
theorem In{F:FA}{n o c:Nat}{a:List T}{t:Int}: ∀(rs:List MR) {b:B} {x:D} {s:St} {cells:List T} {k:Int},Ag F b x→Low n b x s→(∀i,b.has i=true→s.fl (.s i 0 0)= .V→b.kd (.s i 0 0)= .V)→b.hasO o=true→x.ob o=some cells→BK c rs cells k a t→
  Ag F (B.turnM F o c (rs.map (·.off)) b) (D.updM o c rs x)∧Low n (B.turnM F o c (rs.map (·.off)) b) (D.updM o c rs x) (turnM o c rs s)
 | [],b,x,s,cells,k,f,h,_,_,_,_=>⟨f,h⟩
 | m::r,b,x,s,cells,k,f,h,q,l,d,j=>by
  obtain⟨h1,rfl,p⟩:=j; have g:x.at (.oc o (c+m.off))=some (.sl m.es):=by
   show(x.ob o).bind (·[c+m.off]?)=_
   rw[d]; exact h1
  obtain⟨u,v⟩:=RE (es':=m.es') f h q l g; refine In r u v (fun i _ e=>absurd e (RD (by simp) _)) (by rw[PL]; exact l) ?_ p
  show sF x.ob (.oc o (c+m.off)) (.sl m.es') o=_; simp only[sF,if_true,d]; rfl
set_option linter.unusedVariables false

theorem UJ(k:Int)(s:V):Own.fits (vI k) s=Own.fits (vI 0) s:=by
 cases s with
 | tup a=>rfl
 | one w=>cases w<;>first | rfl | (rename_i y; cases y<;>rfl)

theorem Ts{P:Program}{τ:TypeId→Option TI}{Sgs:FuncId→List Sg}(hT:aX P τ){F:FA}{b b':B}{x:D}(hA:Ag F b x){S:TypeId}{i:TI}{f:FuncId}{c:Call}{o H tp tk t j r q r2 id:Nat}{cells l:List T}{k v:Int}{rs:List MR}
  {t1 t2 t3 t4:TypeId}{p1 p2 p3 p4:String}{f1 f2 f3 f4:Array Edge}(Z:τ S=some i)(h1:i.agg=false→i.size=1)(hM:tT P f i.agg i.size (rs.map fun m=>(m.off,m.g)))(hle:H+i.size≤cells.length)
  (hc1:c.callee= .value (.func f))(hc2:c.args= #[.tmp t, .tmp j])(hr2:r2=r)(u:x.sl tp= .one (.ptr o H))(htk:x.sl tk=vI k)(X:x.ob o=some cells)
  (hC: ∀m∈rs, ∀sg∈Sgs m.g,sg.np=2→sg.no=0→TC P m.g sg [.one (.c (.sl m.es)), .one (.c (.int .i64 m.k))] [] (.one (.c (.int .i64 m.k1))) (some (.sl m.es')) [] none)(R:BK H rs cells k l v)
  (C:mkC τ Sgs F b (rs.map fun m=>(m.off,m.g)) [⟨some t, .load S (.tmp tp),t1,p1,f1,none⟩,⟨some j, .move (.tmp tk),t2,p2,f2,none⟩,⟨some r, .call c,t3,p3,f3,none⟩,⟨some q, .assign (.tmp r2),t4,p4,f4,none⟩]=some b'):
  Ag F b' ((D.updM o H rs x).put q (vI v))∧ ∀g0 w0 (Q:Exit→Act→World→Prop) a w,Sim g0 w0 (b.S F.n x) a w→(∀I w',Sim g0 w0 (b'.S F.n ((D.updM o H rs x).put q (vI v))) I w'→(∀z,z≠t→z≠j→z≠r→z≠q→I.tmps.getD z undef=a.tmps.getD z undef)→Q .normal I w')→
   (Code.region id #[⟨some t, .load S (.tmp tp),t1,p1,f1,none⟩,⟨some j, .move (.tmp tk),t2,p2,f2,none⟩,⟨some r, .call c,t3,p3,f3,none⟩,⟨some q, .assign (.tmp r2),t4,p4,f4,none⟩] false).wp P Q a w:=by
 subst hr2; simp only[mkC]at C; split at C<;>try cases C
 rename_i o' y hsh; obtain⟨hq,C⟩:=aK C; simp only[z7]at hq; obtain⟨⟨⟨⟨⟨c1,c2⟩,c3⟩,c4⟩,c5⟩,c6⟩:=hq; have hop:o'=o∧y=H:=by
  have Y:=hA.fits c1 (by rw[u]; simp)
  rw[u,hsh]at Y; simp only[Own.fits,bO,z7]at Y; exact⟨(z14 Y.1).symm,(z14 Y.2).symm⟩
 obtain⟨rfl,rfl⟩:=hop; cases C; have O: ∀m∈rs,(∃n,b.kd (.oc o' (y+m.off))= .U n)∧ ∃sg∈Sgs m.g,okSg sg=true:=fun m E=>by
  have:=z18.1 c4 (m.off,m.g) (z49.2 ⟨m,E,rfl⟩); simp only[z7]at this; refine⟨?_,z151.1 this.2⟩
  revert this
  cases b.kd (.oc o' (y+m.off))<;>simp [isU]
 have hTC: ∀m∈rs,TCm P m:=fun m E=>by
  obtain⟨sg,J,A⟩:=(O m E).2; simp only[okSg,z7]at A; obtain⟨⟨⟨⟨⟨⟨q1,q2⟩,q3⟩,q4⟩,q5⟩,q6⟩,q7⟩:=A; exact⟨sg,hC m E sg J (z14 q2) (z14 q3),of_decide_eq_true q1,z14 q2,To q4,q5,q6,of_decide_eq_true q7⟩
 have hl0:=Low.self F.n b x; have hl1:=yM (d:=t) (r:= .one .junk) (κ:=fun _ _=> .D) hA hl0
 have K:=hA.filt (sH F t); have hl2:=yM (d:=j) (r:=vI k) (κ:=kS) K hl1; have hA2:=K.filt (sH F j); have hV: ∀i,((b.filt (sH F t)).filt (sH F j)).has i=true→(((b.S F.n x).put t (.one .junk) (fun _ _=> .D)).put j (vI k) kS).fl (.s i 0 0)= .V→((b.filt (sH F t)).filt (sH F j)).kd (.s i 0 0)= .V:=fun i Z G=>by
  rw[eU,eU,z7,z7]at Z; obtain⟨J,A,h4⟩:=Z; rw[gN J,gN A]; have e1:i≠j:=fun e=>by rw[e]at J; simp [sH,z42]at J
  have e2:i≠t:=fun e=>by rw[e]at A; simp [sH,z42]at A
  simp only[St.put,z11 e1,z11 e2]at G; split at G
  ·cases G
  ·split at G
   ·cases G
   ·exact G
 obtain⟨L,hl3⟩:=In rs hA2 hl2 hV c2 X R; have hl4:=yM (d:=r2) (r:=vI v) (κ:=kS) L hl3; have M:=L.filt (sH F r2); have p:Own.fits (vI v) (F.shOf q)=true:=by rw[UJ]; exact c6
 have hl5:=Gv (d:=q) (r:=vI v) (κ:=kS) (f:=fun _ _=> .S) M hl4 (.inr p) (fun _ _ _ _=>rfl) (fun kk xs h=>by cases kk<;>simp [vI,V.comp]at h) (fun h=>absurd rfl h)
 have N:=M.put (d:=q) (r:=vI v) (f:=fun _ _=> .S) (.inr p)
 have W:(rs.map fun m=>(m.off,m.g)).map (·.1)=rs.map (·.off):=by rw[Vn]; rfl
 rw[W]; refine⟨N.nrm,fun g0 w0 Q a w hs hQ=> ?_⟩
 exact RZ hT hs Z h1 hM hle hc1 hc2 (by simp only[z7]; exact c5) (by rw[qO c1]; exact u) (by rw[qO c3]; exact htk) (by rw[Lc c2]; exact X) hTC (fun m E=>(O m E).1) R (fun I w' hs' hz=>hQ I w' (hs'.relax (hl5.le N)) hz)

theorem bP.drawn{g0:G}{w0:World}{st:St}{a:Act}{g:G}{w:World}(n:Nat)(h:bP g0 w0 st a g w):bP g0 w0 st a g { w with drawn:=n }:=by
 have k:Evo g w g { w with drawn:=n } (fun _=>False):=⟨z59 _,fun b _ _=>⟨rfl,rfl⟩⟩
 have d:zW g w g { w with drawn:=n } (fun _=>False) st:= { evo:=k,X:=fun _ h=>h.elim,V:= .inl fun b y=>⟨y,rfl⟩,os:=rfl,tape:=rfl,output:=rfl,ok:=⟨h.ok.own⟩ }
 refine⟨h.framed.trans (d.framed h.framed.now),d.ok,h.size,h.defers,fun i=>RV.calm d h.ok (fun _=>rfl) (fun _ _ _ h=>h) (h.slots i),fun o cells z=> ?_,fun i E C=> ?_,h.bp,h.nle⟩
 ·obtain⟨e,ty,h1,f,u,v⟩:=h.obs o cells z
  refine⟨e,ty,h1,f,u,fun j x H=> ?_⟩
  obtain⟨c,l,m,q⟩:=v j x H; exact⟨c,l,m,d.lf h.ok (by simp) (fun _ h=>h) q⟩
 ·obtain⟨h1,f⟩:=h.pls i E C
  refine⟨h1,f.congr ?_ rfl (fun I x0 p v' x' r s t=>h.pl_evo k (fun h=>h) h1 (fun h=>h) r s t)⟩
  cases aI (st.sl i)<;>rfl
theorem Sim.drawn{g0:G}{w0:World}{s:St}{a:Act}{w:World}(n:Nat)(h:Sim g0 w0 s a w):Sim g0 w0 s a { w with drawn:=n }:=by
 obtain⟨g,h⟩:=h; exact⟨g,h.drawn n⟩
def pP(ops:Array Oper)(D:Nat→Prop):Prop:= ∀j o,ops[j]? =some o→D j→ ∀e∈o.after,Region.binds .any e=true→D e.on

theorem Gk(ops:Array Oper)(D:Nat→Prop)(C:pP ops D): ∀(l:List Oper) (a:Array Nat),(∀k o,l[k]? =some o→ops[a.size+k]? =some o)→
  (∀j i,D j→j<a.size→(a.getD j 0).testBit i=true→D i)→
  ∀j i,D j→((l.foldl (init:=a) fun a o=>a.push (o.after.foldl (fun s e=>if Region.binds .any e then s||| 2 ^ e.on||| a.getD e.on 0 else s) 0)).getD j 0).testBit i=true→D i
 | [],a,_,u,j,i,m,d=>by
  simp only[List.foldl_nil]at d; by_cases c:j<a.size
  ·exact u j i m c d
  ·have:a.getD j 0=0:=by simp [Array.getD,c]
   rw[this]at d; simp at d
 | o::r,a,h1,u,j,i,m,d=>by
  rw[Vt]at d; refine Gk ops D C r _ (fun k G E=> ?_) (fun j i m c d=> ?_) j i m d
  ·rw[z159,Qr,z166 1 k]
   exact h1 (k+1) G (by simpa using E)
  ·rw[z159]at c
   by_cases e:j=a.size
   ·have ho:ops[j]? =some o:=by
     have:=h1 0 o rfl; rw[e]; exact this
    subst e; have q:((o.after.foldl (fun s e=>if Region.binds .any e then s||| 2 ^ e.on||| a.getD e.on 0 else s) 0)).testBit i=true:=by
     simpa [Array.getD]using d
    rw[←Vy]at q; have z: ∀(p:List Edge) (s:Nat),(∀e∈p,e∈o.after)→(s.testBit i=true→D i)→(p.foldl (fun s e=>if Region.binds .any e then s||| 2 ^ e.on||| a.getD e.on 0 else s) s).testBit i=true→D i:=by
     intro p; induction p with
     | nil=>intro s _ v h; exact v h
     | cons e p ih=>
      intro s g v h; rw[Vt]at h; refine ih _ (fun e y=>g e (z23 _ y)) (fun h=> ?_) h
      split at h
      ·rename_i w
       have t:=C _ o ho m e (g e z27) w; rw[Sk,Sk,z48,z48]at h; rcases h with(h | h) | h
       ·exact v h
       ·rw[z96]at h
        have:e.on=i:=by simpa using h
        rw[←this]; exact t
       ·by_cases c:e.on<a.size
        ·exact u _ _ t c h
        ·have:a.getD e.on 0=0:=by simp [Array.getD,c]
         rw[this]at h; simp at h
      ·exact v h
    exact z _ 0 (fun e y=>z40.1 y) (by simp) q
   ·refine u j i m (by omega) ?_
    have f:j<a.size:=by omega
    rw[z43,Array.getElem?_push_lt f]at d
    rw[z43,z68 f]; exact d

theorem oU{ops:Array Oper}{D:Nat→Prop}(c:pP ops D){j i:Nat}(d:D j)(h:((Region.before ops).getD j 0).testBit i=true):D i:=by
 unfold Region.before at h; rw[←Vy]at h; exact Gk ops D c ops.toList #[] (fun k o e=>by simpa using e) (fun j i _ a=>by simp at a) j i d h

def Ih(F:FA)(L c:Lvl):Prop:= ∀m b,rL m L=some b→ ∃a,rL m c=some a∧Cv F b a
theorem Ih.refl(F:FA)(L:Lvl):Ih F L L:=fun _ b h=>⟨b,h,Cv.refl F b⟩
theorem Ih.trans{F:FA}{a b c:Lvl}(h:Ih F a b)(k:Ih F b c):Ih F a c:=fun e x f=>by
 obtain⟨y,h1,d⟩:=h e x f; obtain⟨z,g,i⟩:=k e y h1; exact⟨z,g,d.trans i⟩

theorem KZ{F:FA}{m:Nat}{b:B}{mt:B→B→B}: ∀ {L c:Lvl},Um F m b mt L=some c→Ih F L c∧ ∃d,rL m c=some d∧Cv F b d
 | [],c,h=>by
  cases h; exact⟨fun _ _ h=>(by cases h),b,by simp [rL],Cv.refl F b⟩
 | (i,q)::r,c,h=>by
  unfold Um at h; cases hm:Nat.beq m i with
  | true=>
   rw[hm]at h; simp only[z15]at h; obtain⟨g,h⟩:=aK h; simp only[z7]at g; cases h; have e:=z14 hm; subst e; refine⟨fun f b2 a=> ?_,_,by simp [rL],FP g.2⟩
   simp only[rL]at a ⊢; cases h3:Nat.beq f m with
   | true=>rw[h3]at a; cases a; exact⟨_,rfl,FP g.1⟩
   | false=>rw[h3]at a; exact⟨b2,a,Cv.refl F b2⟩
  | false=>
   rw[hm]at h; simp only[z12]at h; split at h<;>try cases h
   rename_i s j; obtain⟨k,d,l,p⟩:=KZ j; refine⟨fun f b2 a=> ?_,d,by simp only[rL,hm,z12]; exact l,p⟩
   simp only[rL]at a ⊢; cases h3:Nat.beq f i with
   | true=>rw[h3]at a; cases a; exact⟨_,rfl,Cv.refl F _⟩
   | false=>rw[h3]at a; exact k f b2 a

section
variable {τ:TypeId→Option TI} {Sgs:FuncId→List Sg} {F:FA} {ds:List (Option Nat)} {mt:B→B→B}

theorem wI{m:Nat}{b:B}: ∀ {r:List Oper} {i:Nat} {c a:Lvl},xE τ Sgs F ds mt m b i r c=some a→Ih F c a∧ ∀k o,r[k]? =some o→m.testBit (i+k)=false→jQ m o=true→
  ∃b1 b2,tQ τ Sgs F ds b o=some b1∧rL (m||| 2 ^ (i+k)) a=some b2∧Cv F b1 b2
 | [],i,c,a,h=>by cases h; exact⟨Ih.refl F c,fun k o d=>by simp at d⟩
 | o::r,i,c,a,h=>by
  unfold xE at h; cases hc:(m.testBit i|| !(jQ m o))with
  | true=>
   rw[hc]at h; obtain⟨h1,g⟩:=wI (show xE τ Sgs F ds mt m b (i+1) r c=some a from h); refine⟨h1,fun k l d e f=> ?_⟩
   cases k with
   | zero=>
    simp only[z20,z9]at d
    subst d; rw[z69]at e; rw[e,f]at hc; cases hc
   | succ k=>
    rw[show i+(k+1)=i+1+k by omega]at e ⊢
    exact g k l (by simpa using d) e f
  | false=>
   rw[hc]at h; simp only[z12]at h; split at h<;>try cases h
   rename_i b1 j; split at h<;>try cases h
   rename_i p s; obtain⟨a1,b2,a2,a3⟩:=KZ s; obtain⟨h1,g⟩:=wI h; refine⟨a1.trans h1,fun k l d e f=> ?_⟩
   cases k with
   | zero=>
    simp only[z20,z9]at d
    subst d; rw[z69]; obtain⟨q,t,u⟩:=h1 _ b2 a2; exact⟨b1,q,j,t,a3.trans u⟩
   | succ k=>
    rw[show i+(k+1)=i+1+k by omega]at e ⊢
    exact g k l (by simpa using d) e f

theorem uU{os:List Oper}: ∀ {L a c:Lvl},FT τ Sgs F ds mt os L a=some c→Ih F a c∧ ∀m b,rL m L=some b→ ∀(k:Nat) o,os[k]? =some o→m.testBit k=false→jQ m o=true→
  ∃b1 b2,tQ τ Sgs F ds b o=some b1∧rL (m||| 2 ^ k) c=some b2∧Cv F b1 b2
 | [],a,c,h=>by cases h; exact⟨Ih.refl F a,fun m b h=>by cases h⟩
 | (t,z)::r,a,c,h=>by
  unfold FT at h; split at h<;>try cases h
  rename_i f s; obtain⟨a1,a2⟩:=wI s; obtain⟨h1,q⟩:=uU h; refine⟨a1.trans h1,fun m b d k o i g j=> ?_⟩
  simp only[rL]at d; cases h3:Nat.beq m t with
  | true=>
   rw[h3]at d; cases d; have e:=z14 h3; subst e; obtain⟨b1,b2,u,l,v⟩:=a2 k o i (by rw[z30]; exact g) j
   rw[z30]at l; obtain⟨p,w,y⟩:=h1 _ b2 l; exact⟨b1,p,u,w,v.trans y⟩
  | false=>
   rw[h3]at d; exact q m b d k o i g j
end

section
variable {P:Program} {τ:TypeId→Option TI} {Sgs:FuncId→List Sg} {F:FA} {x x1 x2:D} {o:Oper} {b b1:B}

theorem SD.step(hT:aX P τ)(U:Ag F b x){ops:Array Oper}{i:Nat}(hi:ops[i]? =some o)(h:SD P τ Sgs F (ops.toList.map (·.dst)) o x x1)(hc:tQ τ Sgs F (ops.toList.map (·.dst)) b o=some b1):
  Ag F b1 x1∧ ∀g0 w0 (Q:Exit→Act→World→Prop) (K:Act→World→Prop) a w,Sim g0 w0 (b.S F.n x) a w→(∀v w',Sim g0 w0 (b1.S F.n x1) (a.put o.dst v) w'→K (a.put o.dst v) w')→wpOp P ops Q i K a w:=by
 obtain⟨I,E,Y,Z,hun⟩:=HR hc
 have J: ∀(t:Bool),bJ (ops.toList.map (·.dst)) x o.guard=some t→(∀g0 w0 (Q:Exit→Act→World→Prop) (K:Act→World→Prop) a w,Sim g0 w0 (b.S F.n x) a w→(∀v w',Sim g0 w0 (b1.S F.n x1) (a.put o.dst v) w'→K (a.put o.dst v) w')→if t then o.wp P a w K Q else K (a.put o.dst undef) w)→
   ∀g0 w0 (Q:Exit→Act→World→Prop) (K:Act→World→Prop) a w,Sim g0 w0 (b.S F.n x) a w→(∀v w',Sim g0 w0 (b1.S F.n x1) (a.put o.dst v) w'→K (a.put o.dst v) w')→wpOp P ops Q i K a w:=fun t y V g0 w0 Q K a w s L=>by
  have hw:Region.wanted o (yielded ops a.tmps)=t:=by
   obtain⟨g,H⟩:=s; exact Jj (F:=F) H Z y
  exact DH hi t hw (V g0 w0 Q K a w s L)
 rcases h with⟨y,rfl⟩ | ⟨y,h1⟩ | ⟨y,c,v,f,caps,ob,ob',r,nw,ho,hcal,hni,hx,hth,hob,O,hsh,rfl⟩ | ⟨y,c,v,f,r,t,xs,l,p,x0,es,es',ho,hcal,hio,hx,hth,hargs,hal,hat,hnav,O,hsh,rfl⟩
 ·have hgn:o.guard≠none:=fun e=>by rw[e]at y; cases y
  obtain⟨k,X⟩:=WS U (hun hgn); rw[←Y]at k X; exact⟨k,J false y (fun g0 w0 Q K a w s L=>L undef w (X _ _ _ _ s))⟩
 ·have m:cOp τ F b o=some I:=by
   unfold Qt at E; rw[pI h1]at E; exact E
  have u:=op_S hT U h1 m; obtain⟨k,cs⟩:=((Nx (F:=F) (fzL F I o.dst) I).trans (Kf F _)) x1 u.ag; rw[←Y]at k cs; exact⟨k,J true y (fun g0 w0 Q K a w s L=>(u.ok g0 w0).w Q K a w s (fun v w' G=>L v w' (cs _ _ _ _ G)))⟩
 ·have m:TO Sgs F b o c v=some I:=by
   unfold Qt at E; rw[wJ ho hcal]at E; simp only[hni,z12]at E; exact E
  unfold TO at m; split at m<;>try cases m
  rename_i f' j q; obtain⟨sg,H,d⟩:=Ds m; obtain⟨hn,d⟩:=aK d; simp only[z7]at hn; have T:dN b v=true:=by
   have d:=d; unfold Qn at d; obtain⟨W,_⟩:=aK d; simp only[z7]at W; exact W.1.1.1.1.1.1.1.1.1.1
  have R:f'=f∧j=caps:=by
   rcases AW U T hx (by simp)with M | ⟨_,s⟩
   ·rw[q]at M
    simp only[Own.fits,bO,z7]at M; exact⟨(z14 M.1).symm,(of_decide_eq_true M.2).symm⟩
   ·rw[q]at s
    cases s; exact⟨rfl,rfl⟩
  obtain⟨rfl,rfl⟩:=R; have z:(inV x c j (nP F c v)).length=c.args.toList.length+j.length:=by simp [inV]
  have hol:ob.length=(nP F c v).length:=by have:=congrArg List.length hob; simpa using this
  have C:sg.np=(inV x c j (nP F c v)).length:=by rw[z]; exact z14 hn.1
  have O:=O sg H C (by rw[hol]; exact z14 hn.2)
  obtain⟨N,u⟩:=Xb (P:=P) U ho hcal hx O rfl hob C hth hsh d; obtain⟨k,cs⟩:=((Nx (F:=F) (fzL F I o.dst) I).trans (Kf F _)) _ N; rw[←Y]at k cs; exact⟨k,J true y (fun g0 w0 Q K a w s L=>u g0 w0 Q K a w s (fun v w' G=>L v w' (cs _ _ _ _ G)))⟩
 ·have m:ioC Sgs F b o c v=some I:=by
   unfold Qt at E; rw[wJ ho hcal]at E; simp only[hio,z15]at E; exact E
  unfold ioC at m; split at m<;>try cases m
  rename_i f' j q; obtain⟨sg,H,d⟩:=Ds m; obtain⟨hn,d⟩:=aK d; simp only[z7]at hn; have T:dN b v=true:=by
   have d:=d; unfold cIo at d; rw[hargs]at d; simp only at d; split at d<;>try cases d
   obtain⟨W,_⟩:=aK d; simp only[z7]at W; exact W.1.1.1.1.1.1.1.1.1.1.1.1.1.1.1.1
  have R:f'=f:=by
   rcases AW U T hx (by simp)with M | ⟨_,s⟩
   ·rw[q]at M
    simp only[Own.fits,bO,z7]at M; exact(z14 M.1).symm
   ·rw[q]at s
    cases s; rfl
  subst R; have z:(inV x c [] []).length=c.args.toList.length:=by simp [inV]
  have C:sg.np=(inV x c [] []).length:=by rw[z]; exact z14 hn.1.1
  have O:=O sg H C (z14 hn.2); obtain⟨N,u⟩:=Rz (P:=P) U ho hcal hx O rfl C hth hargs hal hat hnav hsh d; obtain⟨k,cs⟩:=((Nx (F:=F) (fzL F I o.dst) I).trans (Kf F _)) _ N; rw[←Y]at k cs; exact⟨k,J true y (fun g0 w0 Q K a w s L=>u g0 w0 Q K a w s (fun v w' G=>L v w' (cs _ _ _ _ G)))⟩

theorem BU{ops:Array Oper}{a:Array Bool}{i:Nat}(g:a.size=ops.size)(h:i<ops.size)(e:a.getD i true=false): ∃A C:List Nat,(List.range ops.size).filter (fun j=> !a.getD j true)=A++i::C∧
  (List.range ops.size).filter (fun j=> !(a.setIfInBounds i true).getD j true)=A++C∧ ∀j∈A,j<i∧a.getD j true=false:=by
 have f:List.range ops.size=List.range' 0 i++i::List.range' (i+1) (ops.size - i - 1):=by
  rw[WA,show ops.size=i+(1+(ops.size - i - 1))by omega, ←List.range'_append_1, ←List.range'_append_1]
  simp
 have h1: ∀j,j≠i→(a.setIfInBounds i true).getD j true=a.getD j true:=fun j c=>getD_set_ne true (Ne.symm c)
 have d:(a.setIfInBounds i true).getD i true=true:=by
  have:i<a.size:=by omega
  simp [Array.getD,this]
 refine⟨(List.range' 0 i).filter (fun j=> !a.getD j true),(List.range' (i+1) (ops.size - i - 1)).filter (fun j=> !a.getD j true), ?_, ?_,fun j c=> ?_⟩
 ·rw[f,z136,z149 (by simp [e])]
 ·rw[f,z136,List.filter_cons_of_neg (by simp [d])]
  congr 1
  ·exact List.filter_congr fun j c=>by
    have:=z145.1 c; rw[h1 j (by omega)]
  ·exact List.filter_congr fun j c=>by
    have:=z145.1 c; rw[h1 j (by omega)]
 ·rw[z73]at c
  have:=z145.1 c.1; exact⟨by omega,by simpa using c.2⟩

theorem Pf(K:aX P τ){ops:Array Oper}(E:pB F (ops.toList.map (·.dst)) ops=true){mt:B→B→B}{G:Nat}{C:B}{xn:D}:
  ∀(k j m:Nat) (L:Lvl) (b:B) (x:D),j+k=ops.size→IW τ Sgs F (ops.toList.map (·.dst)) mt ops.toList k L=some [(G,C)]→rL m L=some b→(∀i,i<ops.size→m.testBit i=decide (i<j))→Ag F b x→
   EX P τ Sgs F (ops.toList.map (·.dst)) ops (List.range' j k) x xn→Ag F C xn:=by
 simp only[pB,z7,z18,z57]at E; obtain⟨d,_⟩:=E; intro k; induction k with
 | zero=>
  intro j m L b x y l f a t c; have O:x=xn:=c; subst O; cases l; simp only[rL]at f; cases p:Nat.beq m G with
  | true=>rw[p]at f; cases f; exact t
  | false=>rw[p]at f; cases f
 | succ k Q=>
  intro j m L b x y l f a t c; unfold IW at l; split at l<;>try cases l
  rename_i H v; rw[z154]at c; obtain⟨o,x1,ho,_,z,g⟩:=c; have q:j<ops.size:=by omega
  have r:jQ m o=true:=by
   simp only[jQ,z18]; intro e M; have s:=d j q; rw[ho]at s; simp only[z80]at s; have p:=s e (z40.1 M); cases hb:Region.binds .any e with
   | false=>rfl
   | true=>
    simp only[hb,z31,z56]at p; have J:=bK p; simp only[z31,z56]; rw[a e.on (by omega)]; exact z13 J
  obtain⟨b1,b2,R,S,I⟩:=(uU v).2 m b f j o (by rw[z26]; exact ho) (by rw[a j q]; simp) r
  obtain⟨u,_⟩:=z.step K t ho R; refine Q (j+1) (m||| 2 ^ j) H b2 x1 (by omega) l S (fun i N=> ?_) (I x1 u).1 g
  rw[Sk,z96,a i N]; by_cases w:i=j
  ·subst w; simp
  ·have:(decide (i<j+1))=decide (i<j):=by
    by_cases h:i<j
    ·rw[z13 h,z13 (by omega)]
    ·rw[z10 h,z10 (by omega)]
   rw[this]; simp; omega

theorem AA{ds:List (Option Nat)}: ∀ {os:List Oper} {b b2:B},KB τ Sgs F ds b os=some b2→Qw τ Sgs F ds b os=some b2
 | [],b,b2,h=>h
 | o::r,b,b2,h=>by
  unfold KB at h; obtain⟨_,h⟩:=aK h; unfold Qw; split at h<;>try cases h
  rename_i b1 h1
  first
   | (rw[h1]; exact AA h)
   | exact AA h
theorem PY{ds:List (Option Nat)}{os:List Oper}{b b2:B}(h:KB τ Sgs F ds b (o::os)=some b2):o.op.operands.toList.all (dN b)=true∧ ∃b1,tQ τ Sgs F ds b o=some b1∧KB τ Sgs F ds b1 os=some b2:=by
 unfold KB at h; obtain⟨h0,h⟩:=aK h; split at h<;>try cases h
 rename_i b1 h1; exact⟨h0,b1,h1,h⟩
theorem CK.of(a:Ag F b x)(h:o.op.operands.toList.all (dN b)=true):CK F x o:=fun v c=>by
 have:=z18.1 h v (by simpa using c)
 cases v with
 | tmp t=>exact a.sl t this
 | _=>trivial
end

section
variable {P:Program} {τ:TypeId→Option TI} {Sgs:FuncId→List Sg} {F:FA} {x x1 xn:D} {o:Oper} {b b1:B} {g0:G} {w0:World} {a:Act} {g:G} {w:World} {ds:List (Option Nat)} {mt:B→B→B}
theorem Lr{m:Nat}: ∀ {r:List Oper} {c:List Bool} {i j:Nat} {o:Oper},DW m i r c=some (j,o)→ ∃k,j=i+k∧r[k]? =some o∧c[k]? =some true∧m.testBit j=false∧jQ m o=true
 | [],_,i,j,o,h=>by simp [DW]at h
 | _::_,[],i,j,o,h=>by simp [DW]at h
 | o'::r,e::c,i,j,o,h=>by
  simp only[DW]at h; cases hc:(e&&(!(m.testBit i)&&jQ m o'))with
  | true=>
   rw[hc]at h; cases h; simp only[z7,z35]at hc; obtain⟨rfl,h1,d⟩:=hc; exact⟨0,rfl,rfl,rfl,h1,d⟩
  | false=>
   rw[hc]at h; obtain⟨k,rfl,d,f,l⟩:=Lr (show DW m (i+1) r c=some (j,o)from h); exact⟨k+1,by omega,by simpa using d,by simpa using f,l⟩
theorem BW{E:List Bool}{os:List Oper}: ∀ {L c f:Lvl},DN τ Sgs F ds mt E os L c=some f→Ih F c f∧ ∀m b,rL m L=some b→
  (∃i o,DW m 0 os E=some (i,o)∧ ∃b1 b2,tQ τ Sgs F ds b o=some b1∧rL (m||| 2 ^ i) f=some b2∧Cv F b1 b2)∨
  (DW m 0 os E=none∧ ∀(k:Nat) o,os[k]? =some o→m.testBit k=false→jQ m o=true→ ∃b1 b2,tQ τ Sgs F ds b o=some b1∧rL (m||| 2 ^ k) f=some b2∧Cv F b1 b2)
 | [],c,f,h=>by cases h; exact⟨Ih.refl F c,fun m b h=>by cases h⟩
 | (v,K)::r,c,f,h=>by
  unfold DN at h; cases hp:DW v 0 os E with
  | some p=>
   obtain⟨i,o⟩:=p; rw[hp]at h; simp only at h; split at h<;>try cases h
   rename_i b1 u; split at h<;>try cases h
   rename_i j t; obtain⟨a1,b2,a2,a3⟩:=KZ t; obtain⟨h1,s⟩:=BW h; refine⟨a1.trans h1,fun m b d=> ?_⟩
   simp only[rL]at d; cases h3:Nat.beq m v with
   | true=>
    rw[h3]at d; cases d; have e:=z14 h3; subst e; obtain⟨q,y,l⟩:=h1 _ b2 a2; exact .inl ⟨i,o,hp,b1,q,u,y,a3.trans l⟩
   | false=>rw[h3]at d; exact s m b d
  | none=>
   rw[hp]at h; simp only at h; split at h<;>try cases h
   rename_i j t; obtain⟨a1,a2⟩:=wI t; obtain⟨h1,s⟩:=BW h; refine⟨a1.trans h1,fun m b d=> ?_⟩
   simp only[rL]at d; cases h3:Nat.beq m v with
   | true=>
    rw[h3]at d; cases d; have e:=z14 h3; subst e; refine .inr ⟨hp,fun k o A z C=> ?_⟩
    obtain⟨b1,b2,y,l,H⟩:=a2 k o A (by rw[z30]; exact z) C
    rw[z30]at l; obtain⟨q,I,J⟩:=h1 _ b2 l; exact⟨b1,q,y,I,H.trans J⟩
   | false=>rw[h3]at d; exact s m b d

theorem OW(y:Ag F b x){v:Operand}{d:Nat}(k:bP g0 w0 (b.S F.n x) a g w)(h:dN b v=true)(A:Ia F b d v=true)(c:(∃ob p,ev x.sl v= .one (.ptr ob p))∨(∃xs,ev x.sl v= .one (.cp xs))∨ ∃l p i j,ev x.sl v= .one (.pp l p i j)): ∃b off,a.eval v= .pointer (some ⟨b,off,none⟩):=by
 have h1:=k.ev_rv v (fun _ _=> .none)
 rcases c with⟨ob,p,c⟩ | ⟨xs,c⟩ | ⟨l,p,i,j,c⟩
 ·rw[pU h,c]at h1
  exact⟨_,_,h1⟩
 ·rw[pU h,c]at h1
  obtain⟨b,off,e,_⟩:=h1; exact⟨b,off,e⟩
 ·obtain⟨a1,a2,a3⟩:=Cc y h A c
  cases v with
  | tmp t=>
   have m:(b.S F.n x).sl t= .one (.pp l p i j):=(qO h).trans c
   have z:(b.S F.n x).fl (.s t 0 0)≠ .D:=fun e=>a3 (by
    have e:b.kd (.s t 0 0)= .D:=e; simp [Fz,e,K.cp])
   have:=k.pls t (by rw[m]; exact a1) z
   rw[m]at this; obtain⟨C,N,x0,b,M,len,q,L,e,E,H,I,J,r⟩:=this; exact⟨_,_,r⟩
  | const u=>
   exfalso
   have:bE u= .one (.pp l p i j):=c; unfold bE at this
   (repeat' split at this)<;>simp at this
  | func f=>simp [ev]at c
  | global n=>simp [ev]at c
theorem UM(Q:aX P τ)(E:Ag F b x)(k:Ss F o=true)(C:bP g0 w0 (b.S F.n x) a g w)(h1:dOp τ F x o=some x1)(t:cOp τ F b o=some b1): ∃v, ∀u,(execOp a.eval o).run P u= .ok (.value v) u:=by
 unfold Ss at k; simp only[z7]at k; obtain⟨_,k⟩:=k; unfold dOp at h1; unfold cOp at t; split at k
 ·rename_i d v z ho
  exact⟨a.eval v,fun u=>by
   obtain⟨y,op,ty,A,c,h⟩:=o; simp only at ho; subst ho; rfl⟩
 ·rename_i d v z ho
  exact⟨a.eval v,fun u=>by
   obtain⟨y,op,ty,A,c,h⟩:=o; simp only at ho; subst ho; rfl⟩
 ·rename_i d v z ho
  rw[z,ho]at h1 t; simp only at h1 t; obtain⟨m,_⟩:=aK t; simp only[z7]at m; have J:(∃ob p,ev x.sl v= .one (.ptr ob p))∨(∃xs,ev x.sl v= .one (.cp xs))∨ ∃l p i j,ev x.sl v= .one (.pp l p i j):=by
   unfold Mg at h1; split at h1<;>try cases h1
   ·rename_i e; exact .inl ⟨_,_,e⟩
   ·rename_i e; exact .inr (.inl ⟨_,e⟩)
   ·rename_i f cs e
    exfalso
    unfold TA at k; rcases AW E m.1.2 e (by simp)with K | ⟨_,C⟩
    ·split at k<;>try cases k
     all_goals (rename_i O; rw[O]at K; simp [Own.fits,bO]at K)
    ·rw[C]at k; cases k
   ·rename_i e; exact .inr (.inr ⟨_,_,_,_,e⟩)
  obtain⟨N,off,e⟩:=OW E C m.1.2 m.2 J; refine⟨a.eval v,fun u=> ?_⟩
  obtain⟨y,op,ty,A,c,h⟩:=o; simp only at ho; subst ho; simp only[execOp,e]; rfl
 ·rename_i d s v f z ho
  rw[z,ho]at h1 t; simp only at h1 t; obtain⟨m,_⟩:=aK t; simp only[z7]at m; unfold vQ at h1; split at h1<;>try cases h1
  rename_i fs H; split at h1<;>try cases h1
  rename_i q R; split at h1<;>try cases h1
  rename_i r I; obtain⟨off,size,M⟩:=q; have J:(∃ob p,ev x.sl v= .one (.ptr ob p))∨(∃xs,ev x.sl v= .one (.cp xs))∨ ∃l p i j,ev x.sl v= .one (.pp l p i j):=by
   unfold BJ at I; split at I<;>try cases I
   ·rename_i e; exact .inl ⟨_,_,e⟩
   ·rename_i e; exact .inr (.inl ⟨_,e⟩)
   ·rename_i e; exact .inr (.inr ⟨_,_,_,_,e⟩)
  obtain⟨N,L,e⟩:=OW E C m.1.2 m.2 J; exact⟨_,fun u=>oT Q H R (ρ:=a.eval) e ho u⟩
 ·cases k
end

def NoQ':Exit→Act→World→Prop:=fun _ _ _=>False
theorem WN{P:Program}{ops:Array Oper}{i:Nat}{o:Oper}{K:Act→World→Prop}{a:Act}{w:World}(h:wpOp P ops NoQ' i K a w)(d:ops[i]? =some o)(c:o.guard=none):o.wp P a w K NoQ':=by
 unfold wpOp at h; simp only[d,Region.wanted,c,if_true]at h; exact h.resolve_right (fun e=>e.2.elim fun _ h=>h.elim fun _ h=>h)
theorem Mo{ops:Array Oper}{c:Array Bool}(q:c.size=ops.size)(m: ∀j o,ops[j]? =some o→ ∀e∈o.after,Region.binds .any e=true→e.on<j)(p:Region.ready .any ops c=[]): ∀j,j<ops.size→c.getD j false=true:=by
 have f: ∀j,j<ops.size→c.getD j true=c.getD j false:=fun j s=>by
  have:j<c.size:=by omega
  simp [Array.getD,this]
 intro j; induction j using Nat.strongRecOn with
 | _ j r=>
  intro i; rcases z146 (c.getD j false)with h | h
  ·exact h
  ·exfalso
   have:j∈Region.ready .any ops c:=by
    rw[mem_ready]; refine⟨by rw[f j i]; exact h,ops[j],z68 i,fun e d l=> ?_⟩
    have k:=m j _ (z68 i) e d l
    exact r e.on k (by omega)
   rw[p]at this; cases this

section
variable {P:Program} {τ:TypeId→Option TI} {Sgs:FuncId→List Sg} {F:FA} {ds:List (Option Nat)} {x x1:D} {o:Oper}
theorem WU(h:SD P τ Sgs F ds o x x1)(e:o.guard=none)(d: ∀c,o.op≠ .call c):dOp τ F x o=some x1:=by
 rcases h with⟨h,_⟩ | ⟨_,h⟩ | ⟨_,c,v,f,caps,ob,i,r,nw,h,_⟩ | ⟨_,c,v,f,r,t,xs,l,p,x0,j,es',h,_⟩
 ·rw[e]at h; cases h
 ·exact h
 ·exact absurd h (d c)
 ·exact absurd h (d c)
theorem UU{ds:List (Option Nat)}{b b1:B}{o:Oper}(h:tQ τ Sgs F ds b o=some b1)(f: ∀c,o.op≠ .call c): ∃b2,cOp τ F b o=some b2:=by
 obtain⟨b2,d,_⟩:=HR h; refine⟨b2, ?_⟩
 unfold Qt at d; have:dQ o=none:=by
  unfold dQ; split
  ·rename_i c e; exact absurd e (f c)
  ·rfl
 rw[this]at d; exact d
end
def NoP(Q:Exit→Act→World→Prop):Exit→Act→World→Prop:=fun e a w=>e= .normal∧Q e a w
theorem Lw{Q:Exit→Act→World→Prop}: ¬ LetsOut (NoP Q):=fun⟨_,_,h,_⟩=>by cases h
theorem TU{P:Program}{o:Oper}{a:Act}{K K':Act→World→Prop}{Q:Exit→Act→World→Prop}(d: ∀a w,K a w→K' a w){r:Result Next}(h:o.upon P a K (NoP Q) r):o.upon P a K' Q r:=by
 cases r with
 | ok n w'=>
  cases n<;>simp only[Oper.upon]at h ⊢ <;>first
   | exact d _ _ h
   | exact Calls.mono h (fun e f c=>by
     cases e
     ·exact d _ _ c
     ·cases c.1
     ·exact absurd c Lw)
   | exact Rows.mono h (fun v f c=>d _ _ c)
   | exact h
 | halt x w'=>
  cases x<;>simp only[Oper.upon]at h ⊢ <;>first | exact h | cases h.1
theorem TS{P:Program}{ops:Array Oper}{Q:Exit→Act→World→Prop}{i:Nat}{K K':Act→World→Prop}{a:Act}{w:World}(c: ∀a w,K a w→K' a w)(h:wpOp P ops (NoP Q) i K a w):wpOp P ops Q i K' a w:=by
 unfold wpOp at h ⊢; split
 ·rename_i e; rw[e]at h; exact c _ _ h
 ·rename_i o e
  rw[e]at h; simp only at h; split
  ·rename_i d
   rw[z17 d]at h; rcases h with h | ⟨_,h⟩
   ·exact .inl (TU c h)
   ·exact absurd h Lw
  ·rename_i d
   rw[z11 d]at h; exact c _ _ h
theorem Lf{P:Program}{d:Region.Mode}{ops:Array Oper}{Q:Exit→Act→World→Prop}: ∀ {k:Nat} {c:Array Bool} {a:Act} {w:World},wpAny P d ops (NoP Q) k c a w→wpAny P d ops Q k c a w
 | 0,_,_,_,h=>⟨h.1,h.2.2⟩
 | k+1,_,_,_,h=>⟨fun f=>(h.1 f).2,fun i e=>TS (fun _ _ h=>Lf h) (h.2 i e)⟩

section
variable {P:Program} {τ:TypeId→Option TI} {Sgs:FuncId→List Sg} {F:FA} {xn:D} {g0:G} {w0:World} {mt:B→B→B}
theorem LJ{ops:Array Oper}{i:Nat}{o:Oper}(u:ops[i]? =some o)(h:Ql F ops i=true):Ss F o=true∧ ∀(c:Array Bool),pP ops (fun j=>c.getD j false=true)→(∀e∈o.after,Region.binds .any e=true→c.getD e.on false=true)→
  ∀j m,ops[j]? =some m→j≠i→c.getD j false=false→(∀e∈m.after,Region.binds .any e=true→e.on≠i)→o.apart ops m=true:=by
 unfold Ql at h; rw[u]at h; simp only[z7,z18,z57]at h; refine⟨h.1,fun c p t j m v f z s=> ?_⟩
 have h1:=h.2 j (z25.1 v).1
 rw[v]at h1; simp only[z48]at h1; rcases h1 with(h1 | h1) | h1 | h1
 ·exact absurd (z14 h1) f
 ·exfalso
  have y:pP ops (fun j=>j=i∨c.getD j false=true):=by
   intro k A r q e l d; rcases q with rfl | q
   ·rw[u]at r
    cases r; exact .inr (t e l d)
   ·exact .inr (p k A r q e l d)
  rcases oU y (.inl rfl) h1 with e | e
  ·exact f e
  ·rw[z]at e; cases e
 ·exfalso
  obtain⟨e,l,d⟩:=Array.any_eq_true'.1 h1; simp only[z7]at d; exact s e l d.1 (z14 d.2)
 ·exact h1
theorem Ru{ops:Array Oper}{i:Nat}(h:(WI F ops)[i]? =some true):Region.noSelect ops=true∧Ql F ops i=true:=by
 unfold WI at h; cases hs:Region.noSelect ops with
 | false=>rw[hs]at h; simp at h
 | true=>
  rw[hs]at h; simp only[z15,z28]at h
  obtain⟨k,d,e⟩:=z22.1 h; have:k=i:=by
   have h1:=z74.1 d
   obtain⟨f,c⟩:=h1; simpa using c.symm
  subst this; exact⟨rfl,e⟩
theorem UX(hT:aX P τ){ops:Array Oper}(hO:pB F (ops.toList.map (·.dst)) ops=true){mf:Nat}{bf:B}:
  ∀(k:Nat) (listed:Array Bool) (m:Nat) (L:Lvl) (b:B) (x:D),HD τ Sgs F (ops.toList.map (·.dst)) mt (WI F ops) ops.toList k L=some [(mf,bf)]→rL m L=some b→listed.size=ops.size→(∀i,i<ops.size→m.testBit i=listed.getD i false)→
   pP ops (fun j=>listed.getD j false=true)→(List.range ops.size).countP (fun i=> !listed.getD i true)=k→Ag F b x→EX P τ Sgs F (ops.toList.map (·.dst)) ops ((List.range ops.size).filter fun j=> !listed.getD j true) x xn→
   Ag F bf xn∧ ∀ {Q:Exit→Act→World→Prop} {a0:Act},(∀a w,Sim g0 w0 (bf.S F.n xn) a w→(∀z,yR z ops.toList=true→a.tmps.getD z undef=a0.tmps.getD z undef)→Q .normal a w)→
    ∀(a:Act) (w:World),Sim g0 w0 (b.S F.n x) a w→(∀z,yR z ops.toList=true→a.tmps.getD z undef=a0.tmps.getD z undef)→wpAny P .any ops (NoP Q) k listed a w:=by
 simp only[pB,z7,z18,z57]at hO; obtain⟨hedge,hpair⟩:=hO; have hgd: ∀(listed:Array Bool) j,listed.size=ops.size→j<ops.size→listed.getD j true=listed.getD j false:=by
  intro listed j h1 h2; have:j<listed.size:=by omega
  simp [Array.getD,this]
 have hedge': ∀j o,ops[j]? =some o→ ∀e∈o.after,Region.binds .any e=true→e.on<j:=fun j o ho e he hb=>by
  have h1:=hedge j (z25.1 ho).1
  rw[ho]at h1; simp only[z80]at h1; have h2:=h1 e he; simp only[hb,z31,z56]at h2; exact bK h2
 intro k; induction k with
 | zero=>
  intro listed m L b x hL hm hsz hbit hcl hcount hA hrun; have hlist: ∀j,j<ops.size→listed.getD j true=true:=fun j hj=>by
   rw[List.countP_eq_zero]at hcount; have:=hcount j (z57.2 hj); simpa using this
  have hr:Region.ready .any ops listed=[]:=by
   apply z124.2
   intro j hj; obtain⟨h1,o,ho,_⟩:=mem_ready.1 hj; rw[hlist j (z25.1 ho).1]at h1; cases h1
  have hf:(List.range ops.size).filter (fun j=> !listed.getD j true)=[]:=z98.2 fun j hj=>by rw[hlist j (z57.1 hj)]; simp
  rw[hf]at hrun; have hx:x=xn:=hrun; subst hx; cases hL; simp only[rL]at hm; cases h3:Nat.beq m mf with
  | true=>rw[h3]at hm; cases hm; exact⟨hA,fun hQ a w hs hz=>⟨hr,rfl,hQ a w hs hz⟩⟩
  | false=>rw[h3]at hm; cases hm
 | succ k ih=>
  intro listed m L b x hL hm hsz hbit hcl hcount hA hrun; unfold HD at hL; split at hL<;>try cases hL
  rename_i L' hL'
  have take: ∀(i:Nat) (o:Oper),ops[i]? =some o→listed.getD i false=false→(∀e∈o.after,Region.binds .any e=true→listed.getD e.on false=true)→(∃b1 b2,tQ τ Sgs F (ops.toList.map (·.dst)) b o=some b1∧rL (m||| 2 ^ i) L'=some b2∧Cv F b1 b2)→
    ∃(x1:D) (b1 b2:B),SD P τ Sgs F (ops.toList.map (·.dst)) o x x1∧tQ τ Sgs F (ops.toList.map (·.dst)) b o=some b1∧(∀g0 w0 (Q:Exit→Act→World→Prop) (K:Act→World→Prop) a w,Sim g0 w0 (b.S F.n x) a w→(∀v w',Sim g0 w0 (b2.S F.n x1) (a.put o.dst v) w'→K (a.put o.dst v) w')→wpOp P ops Q i K a w)∧
     Ag F bf xn∧ ∀ {Q:Exit→Act→World→Prop} {a0:Act},(∀a w,Sim g0 w0 (bf.S F.n xn) a w→(∀z,yR z ops.toList=true→a.tmps.getD z undef=a0.tmps.getD z undef)→Q .normal a w)→
      ∀(a:Act) (v:Value) (w:World),Sim g0 w0 (b2.S F.n x1) (a.put o.dst v) w→(∀z,yR z ops.toList=true→a.tmps.getD z undef=a0.tmps.getD z undef)→wpAny P .any ops (NoP Q) k (listed.setIfInBounds i true) (a.put o.dst v) w:=by
   intro i o ho hun' hafter ⟨b1,b2,s1,s2,cv⟩; have hlt:i<ops.size:=(z25.1 ho).1
   have hun:listed.getD i true=false:=by rw[hgd listed i hsz hlt]; exact hun'
   obtain⟨A,C,f1,f2,f3⟩:=BU hsz hlt hun; have hcl':pP ops (fun j=>(listed.setIfInBounds i true).getD j false=true):=by
    intro j oj hoj hj e he hb; by_cases hij:i=j
    ·subst hij
     rw[ho]at hoj; cases hoj; exact getD_set_true (hafter e he hb)
    ·rw[getD_set_ne false hij]at hj
     exact getD_set_true (hcl j oj hoj hj e he hb)
   have hset:(listed.setIfInBounds i true).getD i false=true:=by
    have:i<listed.size:=by omega
    simp [Array.getD,this]
   rw[f1]at hrun; obtain⟨hfo,x1,hsd,hrun1⟩:=hrun.front ho (fun j hj a' ha'=>by
    obtain⟨j1,j2⟩:=f3 j hj; have h1:=hpair i hlt j j1; rw[ha',ho]at h1; simp only[z48]at h1; refine h1.resolve_left (fun h2=> ?_)
    have:=oU (D:=fun j=>(listed.setIfInBounds i true).getD j false=true) hcl' hset h2
    rw[getD_set_ne false (by omega)]at this
    rw[hgd listed j hsz (by omega)]at j2
    rw[j2]at this; cases this)
   obtain⟨hA1,hw1⟩:=hsd.step (P:=P) hT hA ho s1; obtain⟨hA2,cs⟩:=cv x1 hA1; have hnx:=ih (listed.setIfInBounds i true) (m||| 2 ^ i) L' b2 x1 hL s2 (by simpa using hsz) (fun j hj=>by
    rw[Sk,z96,hbit j hj]; by_cases hij:i=j
    ·subst hij; rw[hset]; simp
    ·rw[getD_set_ne false hij]; simp [hij]) hcl' (by
    rw[z58]at hcount ⊢; rw[f1]at hcount; rw[f2]; simp only[z32,z34]at hcount ⊢; omega) hA2 (by rw[f2]; exact hrun1)
   refine⟨x1,b1,b2,hsd,s1,fun g0 w0 Q K a w hs hK=>hw1 g0 w0 Q K a w hs (fun v w' hs'=>hK v w' (cs _ _ _ _ hs')),hnx.1,fun {Q a0} hQ a v w hs hz=>hnx.2 hQ _ w hs (fun z hno=> ?_)⟩
   have hne:o.dst≠some z:=by
    have key: ∀l:List Oper,yR z l=true→ ∀o∈l,o.dst≠some z:=by
     intro l; induction l with
     | nil=>intro _ o h; cases h
     | cons p r ihl=>
      intro h o hm; simp only[yR,z7,z35,z39]at h; cases hm with
      | head=>exact h.1
      | tail _ hm=>exact ihl h.2 o hm
    exact key ops.toList hno o (z40.2 (z125 ho))
   rw[zZ hne]; exact hz z hno
  have hnr:Region.ready .any ops listed≠[]:=fun hr=>by
   have hall:=Mo hsz hedge' hr; have:(List.range ops.size).countP (fun i=> !listed.getD i true)=0:=List.countP_eq_zero.2 fun j hj=>by
    rw[hgd listed j hsz (z57.1 hj),hall j (z57.1 hj)]; simp
   omega
  rcases (BW hL').2 m b hm with⟨i,o,hp,hst⟩ | ⟨_,hst⟩
  ·obtain⟨i',rfl,ho,he,hb,hr⟩:=Lr hp
   rw[z30]at*; rw[z26]at ho
   have hlt:i'<ops.size:=(z25.1 ho).1
   have hun':listed.getD i' false=false:=by rw[←hbit i' hlt]; exact hb
   have hafter: ∀e∈o.after,Region.binds .any e=true→listed.getD e.on false=true:=fun e hee hbb=>by
    simp only[jQ,z18]at hr; have h1:=hr e (z40.2 hee); simp only[hbb,z31,z56]at h1; rw[←hbit e.on (by have:=hedge' i' o ho e hee hbb; omega)]; exact h1
   obtain⟨hns,hea⟩:=Ru he; obtain⟨hek,hap⟩:=LJ ho hea; obtain⟨x1,b1,b2,hsd,s1,hw1,hAg,hgo⟩:=take i' o ho hun' hafter hst; refine⟨hAg,fun {Q a0} hQ a w hs hz=> ?_⟩
   have hg:o.guard=none:=by
    unfold Ss at hek; simp only[z7,z84]at hek; exact hek.1
   have hnc: ∀c,o.op≠ .call c:=fun c e=>by
    unfold Ss at hek; rw[e]at hek; simp at hek
   obtain⟨b3,hb3⟩:=UU s1 hnc; obtain⟨g,hsg⟩:=hs; obtain⟨v,hv⟩:=UM (P:=P) hT hA hek hsg (WU hsd hg hnc) hb3; have hw2:=hw1 g0 w0 NoQ' (fun a' w'=>a'=a.put o.dst v→Sim g0 w0 (b2.S F.n x1) a' w') a w ⟨g,hsg⟩ (fun _ _ hs' _=>hs')
   have hwp:=WN hw2 ho hg; unfold Oper.wp at hwp; rw[hv w]at hwp; have hS:Sim g0 w0 (b2.S F.n x1) (a.put o.dst v) w:=hwp rfl; have hwant:Region.wanted o (yielded ops a.tmps)=true:=by unfold Region.wanted; rw[hg]
   refine wpAny_first ho (Region.noSelect_spec hns) (fun c a w h=>by cases h.1) k listed a w (fun j oj hj hne hu hno=>hap listed hcl hafter j oj hj hne (by rw[←hgd listed j hsz (z25.1 hj).1]; exact hu) hno) ?_ (.inl ⟨hwant,hv⟩) (hgo hQ a v w hS hz)
   exact mem_ready.2 ⟨by rw[hgd listed i' hsz hlt]; exact hun',o,ho,hafter⟩
  ·have one: ∀i∈Region.ready .any ops listed, ∃o,ops[i]? =some o∧listed.getD i false=false∧(∀e∈o.after,Region.binds .any e=true→listed.getD e.on false=true)∧ ∃b1 b2,tQ τ Sgs F (ops.toList.map (·.dst)) b o=some b1∧rL (m||| 2 ^ i) L'=some b2∧Cv F b1 b2:=fun i hi=>by
    obtain⟨hun,o,ho,hafter⟩:=mem_ready.1 hi; have hlt:i<ops.size:=(z25.1 ho).1
    have hun':listed.getD i false=false:=by rw[←hgd listed i hsz hlt]; exact hun
    refine⟨o,ho,hun',hafter,hst i o (by rw[z26]; exact ho) (by rw[hbit i hlt]; exact hun') ?_⟩
    simp only[jQ,z18]; intro e he; cases hb:Region.binds .any e with
    | false=>rfl
    | true=>
     have h1:=hafter e (z40.1 he) hb; have h4:=hedge' i o ho e (z40.1 he) hb; simp only[z31,z56]; rw[hbit e.on (by omega)]; exact h1
   obtain⟨i0,hi0⟩:=List.exists_mem_of_ne_nil _ hnr; obtain⟨o0,ho0,hu0,ha0,hs0⟩:=one i0 hi0; obtain⟨_,_,_,_,_,_,hAg,_⟩:=take i0 o0 ho0 hu0 ha0 hs0; refine⟨hAg,fun {Q a0} hQ a w hs hz=>⟨fun hr=>absurd hr hnr,fun i hi=> ?_⟩⟩
   obtain⟨o,ho,hu,haf,hs'⟩:=one i hi; obtain⟨x1,b1,b2,_,_,hw1,_,hgo⟩:=take i o ho hu haf hs'; exact hw1 g0 w0 (NoP Q) _ a w hs (fun v w' hs2=>hgo hQ a v w' hs2 hz)
end
end Go.Own
