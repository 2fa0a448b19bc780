/- A calculus for runs on plain data (part 3): whoever runs code on data, with its owners checked, runs the program. No conditions. -/
import Derived.Test.YtjfgchodolnmcaaOwn1
import Derived.LoopN
set_option linter.unusedVariables false
set_option linter.unusedSimpArgs false
set_option linter.unnecessarySimpa false
namespace Go.Own
open Go.RowKit
set_option linter.unusedVariables false

def isL(l m:Loc):Bool:=decide (m=l)
def St.raise(st:St)(l:Loc)(κ:K):St:=st.setf (isL l) (fun m=>if m=l then κ else st.fl m)
def St.callIo(st:St)(sg:Sg)(xs:List Operand)(d:Option Nat)(l:Loc)(κ:K)(y:D)(z:T):St:=
 ((((st.pre sg xs []).drop (isL l)).call d none [] sg.ext sg.bo y).upd l z).raise l κ

theorem RE{st:St}{l:Loc}{d:Option Nat}{y:D}{ext:Bool}{bo:B}{i n j:Nat}(h:((st.drop (isL l)).call d none [] ext bo y).sl i= .one (.pp l [] n j)):((st.drop (isL l)).call d none [] ext bo y).fl (.s i 0 0)= .D:=by
 simp only[St.call]at h ⊢; by_cases e:d=some i
 ·rw[z19 e]at h
  cases hy:y.sl 0 with
  | tup ws=>rw[hy]at h; cases h
  | one w=>
   rw[hy]at h; simp only[V.to,V.one.injEq]at h; cases w<;>simp [W.to]at h
   ·rename_i o off
    cases hq:rX [] none o<;>rw[hq]at h<;>cases h
   ·rename_i f caps
    cases hq:zD (rX [] none) caps<;>rw[hq]at h<;>cases h
 ·rw[z13 e]at h ⊢
  split
  ·rfl
  ·have h':st.sl i= .one (.pp l [] n j):=by
    have:xW none ((st.drop (isL l)).sl i)=(st.drop (isL l)).sl i:=by
     first | rfl | (unfold xW; rfl) | simp [xW]
    rw[this]at h; exact h
   simp only[St.drop,St.setf,h']; exact z19 ⟨trivial,trivial,by simp [aH,isL]⟩
theorem Kg{P:Program}{g0:G}{w0:World}{st:St}{o:Oper}{c:Call}{x:Operand}{f:FuncId}{sg:Sg}{vs:List V}{r:V}{y0 y' x0:T}{t n n1:Nat}{xs':List Operand}{l:Loc}{p:List (Nat×Nat)}{κ:K}
  (ho:o.op= .call c)(hcal:c.callee= .value x)(hx:ev st.sl x= .one (.fn f []))(hC:TC P f sg vs [] r (some y') [] none)(hsg:sg.io=some 0)(hext:sg.ext=true)(hd: ∀i,o.dst=some i→i<st.n)
  (hnp:sg.np=vs.length)(hle:sg.np≤par)(hb0:sg.bo.has 0=true)(hvs:vs=c.args.toList.map (fun v=>(evR st v).to (mV [])))(hargs:c.args.toList= .tmp t::xs')
  (hsl:st.sl t= .one (.al l p))(hln:l≠ .none)(hft:st.fl (.s t 0 0)≠ .D)(hfl:st.fl l= .U n)(hat:st.at l=some x0)(hnav:nav x0 p=some y0)
  (hbi:sg.bi.kd (.s 0 0 0)= .U 0)(hb1:sg.bo.has 1=true)(hbo:sg.bo.kd (.s 1 0 0)= .U n1)(hκ:κ=if p=[]then .U n1 else .U n)(hnd: ∀i k j,l= .s i k j→o.dst≠some i)
  (harg: ∀(i:Nat) v,xs'[i]? =some v→JE st sg c.args.toList (i+1) v)(hnh: ∀i k j,i≠0→(sg.bi.kd (.s i k j)).hold=false)(hnl:p≠[]→n1=0):
  OpW P g0 w0 o st (st.callIo sg c.args.toList o.dst l κ (DR r (some y') [] none) (cJ x0 p y')):=by
 intro Q K a w ⟨g,hs⟩ hK; have hlp:=at_isPlace hat; obtain⟨hh,v0,x0',y0',hv0,hx0',hpl⟩:(st.fl l).hold=true∧ ∃v0 x0' y0',vAt a.tmps g.β w l=some v0∧st.at l=some x0'∧Pl w v0 x0' p (a.tmps.getD t undef) y0':=by
  have hp:=hs.pls t (by rw[hsl]; exact hln) hft
  rw[hsl]at hp; exact hp
 rw[hat]at hx0'; cases hx0'; have e0:=hpl.nav; rw[hnav]at e0; cases e0; obtain⟨v0',hv0',hna0,hlf0⟩:=hs.get hat; rw[hv0]at hv0'; cases hv0'; rw[hfl]at hlf0; have hlf0:Ow (frz g w) true w (gC n) (fun b=>g.own b=l) v0 x0:=hlf0
 obtain⟨Fp,q1,q2,q3⟩:=hlf0.part hpl; have q2:Ow (frz g w) true w none Fp (a.tmps.getD t undef) y0:=by
  by_cases e:p=[]
  ·rw[z19 e]at q2; exact q2.any
  ·rw[z13 e]at q2; exact q2
 have hFpl: ∀b,Fp b→(g.own b).place=true:=fun b hb=>by rw[q1 b hb]; exact hlp
 have hlt: ∀k j,l≠ .s t k j:=fun k j e=>by
  rw[e,St.at_s,hsl]at hat; cases k<;>simp [V.leaf,W.leaf]at hat
 have harg0: ∀(t' i k j:Nat),DG c.args.toList t'=some i→(sg.bi.kd (.s i k j)).hold=true→i=0∧t'=t:=fun t' i k j h1 h2=>by
  have hi:i=0:=Decidable.byContradiction fun e=>by rw[hnh i k j e]at h2; cases h2
  subst hi; refine⟨rfl, ?_⟩
  unfold DG at h1; rw[hargs]at h1; split at h1
  ·simp only[z10,List.findIdx_cons]at h1
   cases hh:vY t' (.tmp t)with
   | true=>simp only[vY]at hh; exact(by simpa using hh:t=t').symm
   | false=>rw[hh]at h1; simp at h1
  ·cases h1
 have hinto: ∀m:Loc,m≠ .none→(∀k j,m≠ .s t k j)→(∀o,m≠ .obj o)→gZ sg c.args.toList [] m= .ext:=fun m h1 h2 h3=>by
  have hr:qJ sg.ext= .ext:=by rw[hext]; rfl
  cases m with
  | none=>exact absurd rfl h1
  | ext=>exact hr
  | obj o=>exact absurd rfl (h3 o)
  | s t' k j=>
   simp only[gZ]; split
   ·rename_i i hi
    split
    ·rename_i hk
     exact absurd (by rw[(harg0 t' i k j hi hk).2]) (h2 k j)
    ·exact hr
   ·exact hr
  | oc o j=>simp only[gZ,mV]; simp [hr]
 have hintol:gZ sg c.args.toList [] l= .ext:=hinto l hln hlt (Loc.place_ne hlp).2.2; have hrv0:RV (g.into sg c.args.toList [] Fp) w (fun k j=>sg.bi.kd (.s 0 k j)) (fun k j=> .s 0 k j) (a.eval (.tmp t)) ((evR st (.tmp t)).to (mV [])):=by
  have e:evR st (.tmp t)= .one (.c y0):=by
   show uU st.sl st.ob (st.sl t)=_; rw[hsl]; have hat':atL st.sl st.ob l=some x0:=hat; simp [uU,hat',hnav]
  rw[e]; show mL _∧LF _ w (sg.bi.kd (.s 0 0 0)) (.s 0 0 0) (a.tmps.getD t undef) y0; have hrd:=hs.pl_rd hh hv0 hat hpl; refine⟨hrd.not_agg, ?_⟩
  rw[hbi]; show Ow _ true w none _ _ _; exact q2.mono id (fun e=>by cases e) (fun b hb=>⟨by simp only[G.into]; rw[z19 hb,hsg]; rfl,rfl⟩)
 have he:=hs.enter (sg:=sg) (xs:=c.args.toList) (caps:=[]) (os:=[]) (Fp:=Fp) TG hnp hle hFpl (fun e=>by rw[hext]at e; cases e) (fun t' i k j h1 h2 b hb hf=>by
  obtain⟨rfl,rfl⟩:=harg0 t' i k j h1 h2; rw[q1 b hf]at hb; exact hlt k j hb) (fun o oc j h _ _ _=>by simp [mV]at h) (vs:=vs) (ob:=[]) (by rw[hvs]; simp) rfl (fun i v hv hio=>by
  cases i with
  | zero=>exact absurd hsg hio
  | succ i=>rw[hargs]at hv; exact harg i v (by simpa using hv)) (fun o oc j h=>by simp [mV]at h) (fun i v hv hio=>by
  rw[hsg]at hio; cases hio; rw[hargs]at hv; simp only[z20,z10]at hv
  subst hv; exact hrv0)
 have hC:=hC _ _ _ he; have hfv:a.eval x= .func (.func f) #[] (([]:List (Nat×Nat)).map fun c=>Value.pointer (some ⟨g.β c.1,c.2,none⟩)).toArray:=by
  have:=hs.ev_rv x (fun _ _=> .none)
  rw[hx]at this; exact this
 have hrun:(execOp a.eval o).run P w=(callFunc f (c.args.toList.map a.eval++([]:List (Nat×Nat)).map fun c=>Value.pointer (some ⟨g.β c.1,c.2,none⟩)).toArray).run P w:=by
  obtain⟨dst,op,ty,pos,after,guard⟩:=o; simp only at ho; subst ho; simp only[execOp,resolve,hcal,hfv,Deferred.ofValue,Sem.run_bind,Sem.run_pure,Result.andThen_ok,invoke]; congr 2
  apply LC
  simp
 have hq0:(fun m=> !(fH (gZ sg c.args.toList [] m))&& !(fH m)) Loc.none=false:=by simp [fH]
 have hpure: ¬ AG sg=true:=fun h=>by
  have:=Ez h (.s 0 0 0); rw[hbi]at this; cases this
 have hs1:bM g0 w0 (st.pre sg c.args.toList []) a g w:=by
  unfold St.pre; rw[z13 hpure]; exact hs.killV.drop _ hq0
 have hl0:isL l .none=false:=by simp only[isL]; exact z9 (Ne.symm hln)
 have hs2:bM g0 w0 ((st.pre sg c.args.toList []).drop (isL l)) a g w:=hs1.drop _ hl0; have hat1:(st.pre sg c.args.toList []).at l=some x0:=by unfold St.pre; rw[z13 hpure]; exact hat
 have key: ∀v w',(∃g',bM (g.into sg c.args.toList [] Fp) w (sg.bo.S 2 (DR r (some y') [] none)) ⟨#[v,(c.args.toList.map a.eval++([]:List (Nat×Nat)).map fun c=>Value.pointer (some ⟨g.β c.1,c.2,none⟩)).toArray.getD (sg.io.getD 0) undef],[]⟩ g' w')→
   Sim g0 w0 (st.callIo sg c.args.toList o.dst l κ (DR r (some y') [] none) (cJ x0 p y')) (a.put o.dst v) w':=by
  rintro v w' ⟨g',h1⟩
  have h3:=hs2.leave (v:=v) (d:=o.dst) (nd:=none) (iol:=l) TG (by unfold St.pre; rw[z13 hpure]; exact hd) (fun _ e=>by cases e) hFpl ⟨hln,(Loc.place_ne hlp).2.2⟩ h1 rfl hb0 (fun m z hm1 hm2=>by
   have hmp:=at_isPlace hm2; have hm2':(st.pre sg c.args.toList []).at m=some z:=hm2; rw[BX hl0 hm2']at hm1; by_cases e:isL l m=true
   ·rw[z19 e]at hm1; cases hm1
   ·rw[z13 e]at hm1
    have hml:m≠l:=by simpa [isL]using e
    refine⟨?_,fun b hb hf=>hml (by rw[←hb]; exact q1 b hf)⟩
    cases hq:fH (gZ sg c.args.toList [] m)with
    | true=>rfl
    | false=>
     exfalso
     have hmp2:fH m=false:=by cases m<;>first | rfl | cases hmp
     have hm3:st.killV.at m=some z:=by unfold St.pre at hm2'; rw[z13 hpure]at hm2'; exact hm2'
     unfold St.pre at hm1; rw[z13 hpure,BX hq0 hm3,hq,hmp2]at hm1; simp [Own.K.hold]at hm1) (.inl fun m=>by
   have h0: ∀m,(st.pre sg c.args.toList []).fl m≠ .V:=by
    unfold St.pre; rw[z13 hpure]; refine pF (fun m=> ?_)
    split
    ·simp
    ·exact qL st m
   refine pF (fun m=> ?_) m
   split
   ·simp
   ·exact h0 m)
  generalize hgb:g.back (g.into sg c.args.toList [] Fp) g' w o.dst none [] l=gb at h3; generalize hst3:((st.pre sg c.args.toList []).drop (isL l)).call o.dst none [] sg.ext sg.bo (DR r (some y') [] none)=st3 at h3; have hat3:st3.at l=some x0:=by
   rw[←hst3]; cases l with
   | s i k j=>
    have:=hnd i k j rfl; rw[St.at_s]; simp only[St.call,z13 this,xW]; have h9:((st.pre sg c.args.toList []).drop (isL (.s i k j))).at (.s i k j)=some x0:=hat1; rw[St.at_s]at h9; exact h9
   | oc o j=>
    rw[St.at_oc]; simp only[St.call,oV,RU,if_false]; have h9:((st.pre sg c.args.toList []).drop (isL (.oc o j))).at (.oc o j)=some x0:=hat1; rw[St.at_oc]at h9; simpa using h9
   | _=>cases hlp
  have hkeep: ∀b,b<w.heap.size→fH ((g.into sg c.args.toList [] Fp).own b)=true→g'.own b=(g.into sg c.args.toList [] Fp).own b∧w'.heap[b]? =w.heap[b]? ∧gb.own b=g.own b:=fun b hb hf=>by
   obtain⟨k1,k2⟩:=h1.framed.evo.keep b hb (fun h=>h (Gu.1 hf))
   refine⟨k1,k2, ?_⟩
   rw[←hgb]; simp only[G.back]; rw[z19 (by rw[k1]; exact hf),z19 ⟨hb,hf⟩]
  have hrest: ∀b,g.own b=l→ ¬ Fp b→gb.own b=l∧w'.heap[b]? =w.heap[b]? ∧fH (g'.own b)=true:=fun b hb hf=>by
   have hlt:b<w.heap.size:=hs.ok.own b (by rw[hb]; exact hln)
   have hfo:fH ((g.into sg c.args.toList [] Fp).own b)=true:=by rw[hJ hf,hb,hintol]; rfl
   obtain⟨k1,k2,k3⟩:=hkeep b hlt hfo; exact⟨k3.trans hb,k2,by rw[k1]; exact hfo⟩
  have hN: ∀b,g'.own b= .s 1 0 0→gb.own b=l:=fun b hb=>by
   rw[←hgb]; simp only[G.back]; rw[z13 (by rw[hb]; simp [fH]),hb]
   rfl
  have hu1:(c.args.toList.map a.eval++([]:List (Nat×Nat)).map fun c=>Value.pointer (some ⟨g.β c.1,c.2,none⟩)).toArray.getD (sg.io.getD 0) undef=a.tmps.getD t undef:=by
   rw[hsg,hargs]; simp only[z63,z61]; rfl
  have hy:Ow (frz g' w') true w' (gC n1) (fun b=>g'.own b= .s 1 0 0) (a.tmps.getD t undef) y':=by
   have h5:=h1.slots 1; rw[show(sg.bo.S 2 (DR r (some y') [] none)).sl 1= .one (.c y')from oK hb1]at h5; have h6:=h5.2; have h7:LF g' w' (sg.bo.kd (.s 1 0 0)) (.s 1 0 0) _ y':=h6; rw[hbo]at h7; have e1:(#[v,(c.args.toList.map a.eval++([]:List (Nat×Nat)).map fun c=>Value.pointer (some ⟨g.β c.1,c.2,none⟩)).toArray.getD (sg.io.getD 0) undef]:Array Value).getD 1 undef=a.tmps.getD t undef:=by rw[hu1]; rfl
   have h7:Ow (frz g' w') true w' (gC n1) (fun b=>g'.own b= .s 1 0 0) _ y':=h7
   rw[e1]at h7; exact h7
  have hnew:LF gb w' κ l v0 (cJ x0 p y'):=by
   have hκU: ∃m,κ= .U m∧gC m=(if p=[]then gC n1 else gC n):=by
    by_cases e:p=[]
    ·rw[z19 e]at hκ; exact⟨n1,hκ,by rw[z19 e]⟩
    ·rw[z13 e]at hκ; exact⟨n,hκ,by rw[z13 e]⟩
   obtain⟨m,rfl,hm⟩:=hκU; show Ow (frz gb w') true w' (gC m) (fun b=>gb.own b=l) v0 (cJ x0 p y')
   by_cases e:p=[]
   ·have hse: ∀z:T,cJ z [] y'=y':=fun z=>by cases z<;>rfl
    subst e; rw[hse,hm,z19 rfl]; cases hpl; exact hy.mono id (fun e=>by cases e) (fun b hb=>⟨hN b hb,rfl⟩)
   ·rw[hm,z13 e]
    refine q3 (frz gb w') w' (fun b=>g'.own b= .s 1 0 0) (fun b=>gb.own b=l) y' (fun b hb hf=>⟨(hrest b hb hf).1,(hrest b hb hf).2.1⟩) hN (fun b hb1 hb2=>Classical.byContradiction fun hf=>by
     have:=(hrest b hb2 hf).2.2; rw[hb1]at this; cases this) ?_
    rw[z13 e]; have:=hnl e; subst this; exact hy.mono id (fun e=>by cases e) (fun b hb=>⟨hb,rfl⟩)
  have hv3:vAt (a.put o.dst v).tmps gb.β w' l=some v0:=by
   cases l with
   | s i k j=>
    simp only[vAt]at hv0 ⊢; rw[nD a o.dst v i (hnd i k j rfl)]; exact hv0
   | oc o' j=>
    simp only[vAt]at hv0 ⊢; have hb:gb.β o'=g.β o':=by rw[←hgb]; simp [G.back]
    rw[hb]; obtain⟨cells,hcl,_⟩: ∃cells,st.ob o'=some cells∧True:=by
     rw[St.at_oc,z18]at hat; obtain⟨cells,hcl,_⟩:=hat; exact⟨cells,hcl,trivial⟩
    obtain⟨arr,ty,_,_,k3,_⟩:=hs.obs o' cells hcl; have hlt:g.β o'<w.heap.size:=hs.ok.own _ (by rw[k3]; simp)
    have hfo:fH ((g.into sg c.args.toList [] Fp).own (g.β o'))=true:=by
     rw[hJ (fun hf=>by have:=hFpl _ hf; rw[k3]at this; cases this),k3]
     simp [gZ,mV,fH]
    rw[bV (hkeep _ hlt hfo).2.1]; exact hv0
   | _=>cases hlp
  have hfl3:st3.fl l= .D:=by
   rw[←hst3]; have e1:((st.pre sg c.args.toList []).drop (isL l)).fl l= .D:=by
    rw[BX hl0 hat1,z19 (by simp [isL])]
   cases l with
   | s i k j=>
    have:=hnd i k j rfl; simp only[St.call,z13 this]; split
    ·rfl
    ·exact e1
   | oc o' j=>
    simp only[St.call,oV,RU,if_false]; simpa using e1
   | _=>cases hlp
  have h4:=h3.upd (g':=gb) (w':=w') (X:=fun _=>False) (wT.refl h3.ok st3) (fun _=>rfl) (z:=cJ x0 p y') hat3 hv3 (fun _ _ _ _ _ h=>h) (.inl (fun i n j hsl=>by
   rw[←hst3]at hsl ⊢; exact RE hsl)) (by
   rw[hfl3]; intro hsc; exact(LF.scal (g':=gb) (w':=w') (κ':= .D) (l':=l) hnew hsc) hsc)
  refine⟨gb, ?_⟩
  unfold St.callIo St.raise; rw[hst3]; refine h4.setf (g':=gb) hl0 (fun _=>rfl) h4.ok (fun _ _=>rfl) (fun _ _ h=>h) (fun _ h=>h) (fun m z u hz hu hf=> ?_) (fun i k zs b off hcx hc=> ?_) (fun i hi hR hf=> ?_)
  ·by_cases e:m=l
   ·rw[z19 e]
    subst e; rw[upd_at hat3,z19 rfl]at hz; cases hz; rw[hv3]at hu; cases hu; exact hnew
   ·rw[z13 e]; exact hf
  ·by_cases e:Loc.s i k 0=l
   ·exfalso
    have h9:((st3.upd l (cJ x0 p y')).sl i).leaf k 0=some (cJ x0 p y'):=by
     have:=upd_at (z:=cJ x0 p y') (m:=l) hat3; rw[z19 rfl, ←e,St.at_s]at this; rw[←e]; exact this
    cases hsi:(st3.upd l (cJ x0 p y')).sl i with
    | one u=>
     rw[hsi]at hcx h9; cases k with
     | zero=>simp only[V.comp,z10]at hcx; subst hcx; simp [V.leaf,W.leaf]at h9
     | succ k=>simp [V.comp]at hcx
    | tup ws=>
     rw[hsi]at hcx h9; simp only[V.comp]at hcx; simp [V.leaf,hcx,W.leaf]at h9
   ·rw[z13 e]; exact hc
  ·by_cases e:Loc.s i 0 0=l
   ·exfalso
    have h9:=upd_at (z:=cJ x0 p y') (m:=l) hat3; rw[z19 rfl, ←e]at h9; rw[←e]at hi; exact hi (sG h9)
   ·rw[z13 e]at hf
    refine⟨hf,fun hh=> ?_⟩
    split
    ·obtain⟨m,hm⟩: ∃m,κ= .U m:=by
      by_cases e:p=[]
      ·exact⟨n1,by rw[hκ,z19 e]⟩
      ·exact⟨n,by rw[hκ,z13 e]⟩
     rw[hm]; rfl
    ·exact hh
 unfold Oper.wp; rw[hrun]; revert hC
 generalize (callFunc f _).run P w=r; intro hC; unfold pY at hC; split at hC
 ·exact hK _ _ (key _ _ hC)
 ·rw[Oper.upon_enter]
  refine Calls.mono hC ?_
  rintro e w' ⟨v,rfl,h⟩
  exact hK _ _ (key _ _ h)
 ·exact hC.elim
end Go.Own

namespace Go.Own
open Go.RowKit
set_option linter.unusedVariables false

def ioB(F:FA)(b:B)(d:Option Nat)(sg:Sg)(xs:List Operand)(l:Loc):B:=
 (((b.pre F sg xs []).setf F (isL l) (fun m q=>if isL l m=true then .D else q)).call F d none [] sg)
def zA(b:B)(sg:Sg)(l:Loc):Nat→K
 | 0=>sg.bo.kd (.s 1 0 0)
 | _=>b.kd l
def Ls(sg:Sg):Bool:=sg.bi.sl.all fun p=>Nat.beq p.1 0||p.2.all (fun r=>r.all fun q=> !q.hold)
theorem KR{sg:Sg}(h:Ls sg=true)(i k j:Nat)(hi:i≠0):(sg.bi.kd (.s i k j)).hold=false:=by
 simp only[B.kd,B.get]; cases hl:cQ i sg.bi.sl with
 | none=>rfl
 | some κ=>
  have h1:=z15.1 h _ (fX hl); simp only[cU hi,z54]at h1; simp only[AU]; cases hr:κ[k]? with
  | none=>rfl
  | some r=>
   cases hq:r[j]? with
   | none=>simp [hq,K.hold]
   | some q=>
    have:=z15.1 (z15.1 h1 r (bI hr)) q (bI hq); simp only[hq]; simpa using this
def Lr(d:Option Nat)(l:Loc):Bool:=match d with | some d=> !(aS d l) | none=>true
def cIo(F:FA)(b:B)(sg:Sg)(c:Call)(v:Operand)(d:Option Nat):Option B:=
 match c.args.toList with
 | .tmp t::xs=>(match F.shOf t with
  | .one (.al l p)=>bif cR b v&&c.args.toList.all (kn b F)&&Ac F b F.n (.tmp t)&&isU (b.kd l)&&Iv F b sg c.args.toList 1 xs&&decide (sg.io=some 0)&&sg.ext&&decide (sg.bi.kd (.s 0 0 0)= .U 0)&&sg.bo.has 0&&sg.bo.has 1&&isU (sg.bo.kd (.s 1 0 0))&&
    (Nat.beq p.length 0||decide (sg.bo.kd (.s 1 0 0)= .U 0))&&(match d with | some d=>Nat.blt d F.n | none=>true)&&Lr d l&&Ls sg&&Nat.ble sg.np par&&(ioB F b d sg c.args.toList l).hasL l then
    some ((((ioB F b d sg c.args.toList l).filt (eO F l)).setf F (isL l) (fun m q=>if m=l then zA b sg l p.length else q)).nrm F)else none
  | _=>none)
 | _=>none

section
variable {P:Program} {τ:TypeId→Option TI} {F:FA} {o:Oper} {b b':B} {x x':D}

theorem Oz(hA:Ag F b x){c:Call}{v:Operand}{f:FuncId}{sg:Sg}{vs:List V}{r:V}{t:Nat}{xs:List Operand}{l:Loc}{p:List (Nat×Nat)}{x0:T}{es es':List (List T)}(ho:o.op= .call c)(hcal:c.callee= .value v)(hx:ev x.sl v= .one (.fn f []))
  (hC:TC P f sg vs [] r (some (.sl es')) [] none)(hvs:vs=inV x c [] [])(hnp:sg.np=vs.length)(hth:c.args.toList.all (fun v=>fY (ev x.sl v))=true)(hargs:c.args.toList= .tmp t::xs)(hal:x.sl t= .one (.al l p))(hat:x.at l=some x0)(hnav:nav x0 p=some (.sl es))
  (h1:bJ F (x.call o.dst none [] (DR r (some (.sl es')) [] none)) o.dst none []=true)(h2:cIo F b sg c v o.dst=some b'):
  Ag F b' ((x.call o.dst none [] (DR r (some (.sl es')) [] none)).upd l (cJ x0 p (.sl es')))∧ ∀g0 w0,OpW P g0 w0 o (b.S F.n x) (b'.S F.n ((x.call o.dst none [] (DR r (some (.sl es')) [] none)).upd l (cJ x0 p (.sl es')))):=by
 unfold cIo at h2; rw[hargs]at h2; simp only at h2; split at h2<;>try cases h2
 rename_i l' p' hsh; obtain⟨hc,h2⟩:=aI h2; rw[←hargs]at hc h2; simp only[z7]at hc; obtain⟨⟨⟨⟨⟨⟨⟨⟨⟨⟨⟨⟨⟨⟨⟨⟨c1,c2⟩,c3⟩,c4⟩,c5⟩,c6⟩,c7⟩,c8⟩,c9⟩,c10⟩,c11⟩,c12⟩,c13⟩,c14⟩,c15⟩,c16⟩,c17⟩:=hc; cases h2; have hbt:b.has t=true:=by
  have:=z15.1 c2 (.tmp t) (by rw[hargs]; exact z29)
  simp only[kn,z7]at this; exact this.1
 obtain⟨a1,_,a3,a4⟩:=qO hA hbt c3 (.inl ⟨p,hal⟩); have hfit:=hA.fits hbt (by rw[hal]; simp)
 rw[hal,hsh]at hfit; simp only[Own.fits,bP,z7,z28]at hfit; obtain⟨hll,hpl⟩:=hfit; subst hll; have hpl:=z16 hpl; obtain⟨n,hn⟩: ∃n,b.kd l= .U n:=by
  revert c4
  cases b.kd l<;>simp [isU]
 obtain⟨n1,hn1⟩: ∃n,sg.bo.kd (.s 1 0 0)= .U n:=by
  revert c11
  cases sg.bo.kd (.s 1 0 0)<;>simp [isU]
 have hl0:isL l .none=false:=z9 (Ne.symm a1); have hAp:=hA.pre sg c.args.toList []; have hAd:Ag F ((b.pre F sg c.args.toList []).setf F (isL l) (fun m q=>if isL l m=true then .D else q)) x:=hAp.setf _ _
 have hAc:Ag F (ioB F b o.dst sg c.args.toList l) (x.call o.dst none [] (DR r (some (.sl es')) [] none)):=hAd.call h1; have hds: ∀i k j,l= .s i k j→o.dst≠some i:=fun i k j e h=>by
  rw[h,e]at c14; simp [Lr,aS,z42]at c14
 have hat2:(x.call o.dst none [] (DR r (some (.sl es')) [] none)).at l=some x0:=by
  cases l with
  | s i k j=>
   have:=hds i k j rfl; simp only[D.at,atL,D.call,z13 this]at hat ⊢; exact hat
  | oc o' j=>
   simp only[D.at,atL,D.call,oV,RU,if_false]at hat ⊢; simpa using hat
  | _=>cases a4
 have hAu:=(hAc.upd (z:=cJ x0 p (.sl es')) c17 hat2 (EC hnav)).filt (eO F l); have hAr:=hAu.setf (isL l) (fun m q=>if m=l then zA b sg l p'.length else q)
 refine⟨hAr.nrm,fun g0 w0=> ?_⟩
 have hfitd: ∀i,o.dst=some i→Own.fits (((DR r (some (.sl es')) [] none).sl 0).to (rX [] none)) (F.shOf i)=true:=fun i e=>by
  simp only[bJ,z7]at h1; have h:=h1.1; rw[e]at h; simp only[D.call,if_true]at h; exact h
 have hmap:c.args.toList.map (fun v=>(evR (b.S F.n x) v).to (mV []))=c.args.toList.map (fun v=>(evD x v).to (mV [])):=z49 fun v hv=>by rw[Ky hA (z15.1 c2 v hv)]
 have hkind:zA b sg l p'.length=if p=[]then K.U n1 else K.U n:=by
  rw[←hpl]; cases p with
  | nil=>simp [zA,hn1]
  | cons a p=>simp [zA,hn]
 have h3:=Kg (g0:=g0) (w0:=w0) (st:=b.S F.n x) (κ:=zA b sg l p'.length) (l:=l) (p:=p) (x0:=x0) (y0:= .sl es) (y':= .sl es') (t:=t) (n:=n) (n1:=n1) (xs':=xs) ho hcal (by rw[mW c1]; exact hx) hC (of_decide_eq_true c6) c7
  (fun i e=>by rw[e]at c13; exact cD c13) hnp (z33 c16) c9 (by rw[hmap,hvs]; simp [inV]) hargs (by rw[oK hbt]; exact hal) a1 a3 hn (by rw[Hr a4]; exact hat) hnav (of_decide_eq_true c8) c10 hn1 hkind hds
  (fun i v hv=>by
   have:=FO c5 hv; rw[Nat.add_comm]at this; exact MO hA this (z15.1 hth v (by rw[hargs]; exact z25 _ (bI hv)))) (KR c15) (fun e=>by
   simp only[z50,z28]at c12; rcases c12 with h | h
   ·have:=z16 h
    rw[←hpl]at this; exact absurd (z71.1 this) e
   ·rw[hn1]at h; cases h; rfl)
 refine h3.relax (fun a w hs=>hs.relax ?_)
 have hlow1:=Lo (n:=F.n) hA sg c.args.toList []
 have hlow2:Low F.n ((b.pre F sg c.args.toList []).setf F (isL l) (fun m q=>if isL l m=true then .D else q)) x (((b.S F.n x).pre sg c.args.toList []).drop (isL l)):=
  iR hAp hlow1 hl0 (fun m _ h=>by
   by_cases e:isL l m=true
   ·rw[z19 e,z19 e]; exact cV _
   ·rw[z13 e,z13 e]; exact h) (fun i _ h hf=>by
   by_cases e:isL l (.s i 0 0)=true
   ·rw[z19 e]at hf; exact absurd rfl hf
   ·rw[z13 e]at hf ⊢; exact h hf)
 have hlow3:=Jw (nd:=none) (os:=[]) (sg:=sg) (y:=DR r (some (.sl es')) [] none) hAd hlow2 hfitd; have hlow4:=EV (z:=cJ x0 p (.sl es')) hAc hlow3 c17 hat2 a1; have hlow5:=iR (R:=isL l) (f:=fun m=>if m=l then zA b sg l p'.length else(((((b.S F.n x).pre sg c.args.toList []).drop (isL l)).call o.dst none [] sg.ext sg.bo (DR r (some (.sl es')) [] none)).upd l (cJ x0 p (.sl es'))).fl m) (f':=fun m q=>if m=l then zA b sg l p'.length else q) hAu hlow4 hl0 (fun m _ h=>by
   by_cases e:m=l
   ·rw[z19 e,z19 e]; exact cV _
   ·rw[z13 e,z13 e]; exact h) (fun i _ h hf=>by
   by_cases e:Loc.s i 0 0=l
   ·rw[z19 e]at hf ⊢; exact hf
   ·rw[z13 e]at hf ⊢; exact h hf)
 exact hlow5.le hAr
end
end Go.Own

namespace Go.Own
open Go.RowKit
set_option linter.unusedVariables false

structure Pq (w w1:World):Prop where
 size:w.heap.size≤w1.heap.size
 keep: ∀b,b<w.heap.size→w1.heap[b]? =w.heap[b]?
 os:w1.os=w.os
 tape:w1.tape=w.tape
 output:w1.output=w.output
def St.turn(st:St)(l:Loc)(κ:K)(z:T):St:=((st.killV.drop (isL l)).upd l z).raise l κ

open Classical in
noncomputable def G.one (g:G) (l:Loc):G:= { β:=g.β,own:=fun b=>if g.own b=l then .s 0 0 0 else if g.own b= .none then .none else .ext }
open Classical in
noncomputable def G.two (g gc:G) (w:World) (l:Loc):G:= { β:=g.β,own:=fun b=>if gc.own b= .s 1 0 0 then l else if b<w.heap.size∧g.own b≠l then g.own b else if gc.own b= .none then .none else .ext }

theorem Qs{P:Program}{g0:G}{w0:World}{st:St}{a:Act}{g:G}{w w1:World}(hs:bM g0 w0 st a g w)(hE:Pq w w1){f:FuncId}{sg:Sg}{y0 y':T}{k k':Int}{l:Loc}{n n1:Nat}{v0:Value}(hC:TC P f sg [.one (.c y0), .one (.c (.int .i64 k))] [] (.one (.c (.int .i64 k'))) (some y') [] none)
  (hio:sg.io=some 0)(hnp:sg.np=2)(hbi:sg.bi=⟨[(0,[[.U 0]]),(1,[[.S]])],[]⟩)(hb0:sg.bo.has 0=true)(hb1:sg.bo.has 1=true)(hbo:sg.bo.kd (.s 1 0 0)= .U n1)(hln:l.place=true)(hfl:st.fl l= .U n)(hat:st.at l=some y0)(hv:vAt a.tmps g.β w l=some v0):
  pY P ((callFunc f #[v0, .int .i64 k]).run P w1) (fun u w'=>u= .int .i64 k'∧ ∃gb,bM g0 w0 (st.turn l (.U n1) y') a gb w'∧gb.β=g.β∧(∀o b,g.own b= .obj o→w'.heap[b]? =w.heap[b]?)∧(∀b,b<w1.heap.size→g.own b= .none→b<w'.heap.size∧w'.heap[b]? =w1.heap[b]? ∧gb.own b= .none)):=by
 have hl3:=Loc.place_ne hln; obtain⟨v0',hv',hna,hlf⟩:=hs.get hat; rw[hv]at hv'; cases hv'; rw[hfl]at hlf; have hlf:Ow (frz g w) true w (gC n) (fun b=>g.own b=l) v0 y0:=hlf
 have hlt: ∀b,g.own b≠ .none→b<w.heap.size:=hs.ok.own; have hin:bM (g.one l) w1 (sg.bi.S sg.np (DA [.one (.c y0), .one (.c (.int .i64 k))] [])) ⟨#[v0, .int .i64 k],[]⟩ (g.one l) w1:=by
  refine⟨oO.refl _ _,⟨fun b hb=> ?_⟩, ?_,rfl,fun i=> ?_,fun o cells hc=> ?_,fun i hi _=> ?_,fun _ _=>rfl, ?_⟩
  ·refine z60 (hlt b fun e=>hb ?_) hE.size
   simp only[G.one]; rw[e,z13 (Ne.symm hl3.1),z19 rfl]
  ·rw[hnp]; rfl
  ·rw[hbi]
   match i with
   | 0=>
    show mL v0∧LF (g.one l) w1 (.U 0) (.s 0 0 0) v0 y0; refine⟨hna, ?_⟩
    show Ow _ true w1 none _ v0 y0; exact hlf.any.mono id (fun e=>by cases e) (fun b hb=>⟨by simp only[G.one]; rw[z19 hb],hE.keep b (hlt b (by rw[hb]; exact hl3.1))⟩)
   | 1=>
    show mL (.int .i64 k)∧LF (g.one l) w1 .S (.s 1 0 0) (.int .i64 k) (.int .i64 k); exact⟨⟨by simp,by simp⟩,rfl, .int .i64 k⟩
   | i+2=>trivial
  ·exfalso
   have hc:(if sg.bi.hasO o=true then(DA [.one (.c y0), .one (.c (.int .i64 k))] []).ob o else none)=some cells:=hc
   rw[hbi]at hc; simp [B.hasO,cQ]at hc
  ·exfalso
   apply hi
   show aH (if sg.bi.has i=true then _ else _)=_
   split
   ·match i with
    | 0=>rfl
    | 1=>rfl
    | i+2=>rfl
   ·rfl
  ·rw[hnp]; show 2≤par; unfold par; omega
 have hC:=hC _ _ _ hin
 have key: ∀u w',(∃g',bM (g.one l) w1 (sg.bo.S 2 (DR (.one (.c (.int .i64 k'))) (some y') [] none)) ⟨#[u,(#[v0, .int .i64 k]:Array Value).getD (sg.io.getD 0) undef],[]⟩ g' w')→
   u= .int .i64 k'∧ ∃gb,bM g0 w0 (st.turn l (.U n1) y') a gb w'∧gb.β=g.β∧(∀o b,g.own b= .obj o→w'.heap[b]? =w.heap[b]?)∧(∀b,b<w1.heap.size→g.own b= .none→b<w'.heap.size∧w'.heap[b]? =w1.heap[b]? ∧gb.own b= .none):=by
  rintro u w' ⟨g',h1⟩
  have hu:u= .int .i64 k':=by
   have h5:=h1.slots 0; rw[show(sg.bo.S 2 (DR (.one (.c (.int .i64 k'))) (some y') [] none)).sl 0= .one (.c (.int .i64 k'))from oK hb0]at h5; have:=LF.scal (g':=g') (w':=w') (κ':= .F) (l':= .none) h5.2 rfl; have this:Rd _ _ _ _:=this; cases this; rfl
  have hy:Ow (frz g' w') true w' (gC n1) (fun b=>g'.own b= .s 1 0 0) v0 y':=by
   have h5:=h1.slots 1; rw[show(sg.bo.S 2 (DR (.one (.c (.int .i64 k'))) (some y') [] none)).sl 1= .one (.c y')from oK hb1]at h5; have h7:LF g' w' (sg.bo.kd (.s 1 0 0)) (.s 1 0 0) _ y':=h5.2; rw[hbo]at h7; have h7:Ow (frz g' w') true w' (gC n1) (fun b=>g'.own b= .s 1 0 0) _ y':=h7
   have e1:(#[u,(#[v0, .int .i64 k]:Array Value).getD (sg.io.getD 0) undef]:Array Value).getD 1 undef=v0:=by rw[hio]; rfl
   rw[e1]at h7; exact h7
  have hfor: ∀b,b<w.heap.size→g.own b≠l→g'.own b=(g.one l).own b∧w'.heap[b]? =w.heap[b]? ∧(g'.own b= .none∨g'.own b= .ext):=fun b hb hne=>by
   have hf:(g.one l).own b= .none∨(g.one l).own b= .ext:=by
    simp only[G.one]; rw[z13 hne]; split
    ·exact .inl rfl
    ·exact .inr rfl
   obtain⟨k1,k2⟩:=h1.framed.evo.keep b (z60 hb hE.size) (fun h=>h hf)
   exact⟨k1,k2.trans (hE.keep b hb),by rw[k1]; exact hf⟩
  have hown: ∀b,b<w.heap.size→g.own b≠l→(g.two g' w l).own b=g.own b:=fun b hb hne=>by
   obtain⟨_,_,k3⟩:=hfor b hb hne; simp only[G.two]; rw[z13 (fun e=>by rcases k3 with k3 | k3<;>(rw[k3]at e; cases e)),z19 ⟨hb,hne⟩]
  have hNl: ∀b,g'.own b= .s 1 0 0→(g.two g' w l).own b=l:=fun b hb=>by simp only[G.two]; rw[z19 hb]
  have hsz:w.heap.size≤w'.heap.size:=z41 hE.size h1.framed.evo.size; have hok:GOk (g.two g' w l) w':=⟨fun b hb=>by
   by_cases e1:g'.own b= .s 1 0 0
   ·exact h1.ok.own b (by rw[e1]; simp)
   ·by_cases e2:b<w.heap.size∧g.own b≠l
    ·exact z60 e2.1 hsz
    ·refine h1.ok.own b fun e3=>hb ?_
     simp only[G.two]; rw[z13 e1,z13 e2,z19 e3]⟩
  have hnew:LF (g.two g' w l) w' (.U n1) l v0 y':=by
   show Ow _ true w' (gC n1) _ v0 y'; exact hy.mono id (fun e=>by cases e) (fun b hb=>⟨hNl b hb,rfl⟩)
  have hobj: ∀o b,g.own b= .obj o→w'.heap[b]? =w.heap[b]? :=fun o b hb=>(hfor b (hlt b (by rw[hb]; simp)) (by rw[hb]; exact Ne.symm (hl3.2.2 o))).2.1
  have hv3:vAt a.tmps g.β w' l=some v0:=by
   cases l with
   | s i kk j=>exact hv
   | oc o j=>
    simp only[vAt]at hv ⊢; rw[St.at_oc,z18]at hat; obtain⟨cells,hcl,_⟩:=hat; obtain⟨arr,ty,_,_,k3,_⟩:=hs.obs o cells hcl; rw[bV (hobj o _ k3)]; exact hv
   | _=>cases hln
  have hl0:isL l .none=false:=z9 (Ne.symm hl3.1); have hsk:=hs.killV; have hatk:st.killV.at l=some y0:=hat; have hsd:=hsk.drop (isL l) hl0; have hatd:(st.killV.drop (isL l)).at l=some y0:=hat; have hfld:(st.killV.drop (isL l)).fl l= .D:=by rw[BX hl0 hatk,z19 (by simp [isL])]
  have hnoV: ∀m,(st.killV.drop (isL l)).fl m≠ .V:=fun m=>by
   refine pF (fun m=> ?_) m
   split
   ·simp
   ·exact qL st m
  have hcalm:wT g w (g.two g' w l) w' (fun m=>m=l) (st.killV.drop (isL l)):=⟨⟨hsz,fun b hb hne=>⟨hown b hb hne,(hfor b hb hne).2.1⟩⟩,fun m e=>by subst e; exact⟨fun h=>by rcases h with h | h; exact hl3.1 h; exact hl3.2.1 h,hl3.2.2⟩, .inr hnoV,h1.framed.os.trans hE.os,h1.framed.tape.trans hE.tape,h1.framed.output.trans hE.output,hok⟩
  have h4:=hsd.upd (g':=g.two g' w l) (w':=w') hcalm (fun _=>rfl) (z:=y') hatd hv (fun _ _ _ _ h=>h) (.inl (fun i n j hsl=>by
   have hsl':st.sl i= .one (.pp l [] n j):=hsl; have e:st.killV.sl i=st.sl i:=rfl; simp only[St.drop,St.setf,e,hsl']; exact z19 ⟨trivial,trivial,by simp [aH,isL]⟩)) (by
   rw[hfld]; intro hsc; exact(LF.scal (g':=g.two g' w l) (w':=w') (κ':= .D) (l':=l) hnew hsc) hsc)
  refine⟨hu,g.two g' w l, ?_,rfl,hobj,fun b hb hn=> ?_⟩
  rotate_left
  ·have hbl:g.own b≠l:=by rw[hn]; exact Ne.symm hl3.1
   have e1:(g.one l).own b= .none:=by simp only[G.one]; rw[z13 hbl,z19 hn]
   obtain⟨k1,k2⟩:=h1.framed.evo.keep b hb (fun h=>h (.inl e1))
   refine⟨z60 hb h1.framed.evo.size,k2, ?_⟩
   simp only[G.two]; rw[z13 (by rw[k1,e1]; simp)]
   split
   ·exact hn
   ·rw[z19 (by rw[k1,e1])]
  unfold St.turn St.raise; refine h4.setf (g':=g.two g' w l) hl0 (fun _=>rfl) h4.ok (fun _ _=>rfl) (fun _ _ h=>h) (fun _ h=>h) (fun m z u' hz hu' hf=> ?_) (fun i kk zs b off hcx hc=> ?_) (fun i hi hR hf=> ?_)
  ·by_cases e:m=l
   ·rw[z19 e]
    subst e; rw[upd_at hatd,z19 rfl]at hz; cases hz; have hu'':vAt a.tmps g.β w' m=some u':=hu'; rw[hv3]at hu''; cases hu''; exact hnew
   ·rw[z13 e]; exact hf
  ·by_cases e:Loc.s i kk 0=l
   ·exfalso
    have h9:=upd_at (z:=y') (m:=l) hatd; rw[z19 rfl, ←e,St.at_s]at h9; rw[←e]at hcx; cases hsi:((st.killV.drop (isL (.s i kk 0))).upd (.s i kk 0) y').sl i with
    | one u=>
     rw[hsi]at hcx h9; cases kk with
     | zero=>simp only[V.comp,z10]at hcx; subst hcx; simp [V.leaf,W.leaf]at h9
     | succ kk=>simp [V.comp]at hcx
    | tup ws=>
     rw[hsi]at hcx h9; simp only[V.comp]at hcx; simp [V.leaf,hcx,W.leaf]at h9
   ·rw[z13 e]; exact hc
  ·by_cases e:Loc.s i 0 0=l
   ·exfalso
    have h9:=upd_at (z:=y') (m:=l) hatd; rw[z19 rfl, ←e]at h9; rw[←e]at hi; exact hi (sG h9)
   ·rw[z13 e]at hf
    refine⟨hf,fun hh=> ?_⟩
    split
    ·rfl
    ·exact hh
 unfold pY at hC ⊢; split at hC
 ·exact key _ _ hC
 ·refine Calls.mono hC ?_
  rintro e w' ⟨v,rfl,h⟩
  exact⟨v,rfl,key _ _ h⟩
 ·exact hC.elim
end Go.Own

namespace Go.Own
open Go.RowKit
set_option linter.unusedVariables false

def Ht(P:Program):List (Nat×FuncId)→List Value→Int→World→(Nat→Prop)→(Value→World→Prop)→Prop
 | [],cs,k,w,Bx,Q=> ∀w1,Pq w w1→Q (.int .i64 k) w1
 | (off,g)::L,cs,k,w,Bx,Q=> ∀w1 (Bx1:Nat→Prop),Pq w w1→(∀b,Bx b→Bx1 b)→(∀b,Bx1 b→ ¬ Bx b→w.heap.size≤b)→(∀b,Bx1 b→b<w1.heap.size)→
   ∃c,cs[off]? =some c∧pY P ((callFunc g #[c, .int .i64 k]).run P w1) (fun u w2=> ∃k',u= .int .i64 k'∧(∀b,Bx1 b→b<w2.heap.size∧w2.heap[b]? =w1.heap[b]?)∧Ht P L cs k' w2 Bx1 Q)

theorem pY.mono{P:Program}{n:Result Next}{R R':Value→World→Prop}(h:pY P n R)(hR: ∀u w,R u w→R' u w):pY P n R':=by
 unfold pY at h ⊢; split at h
 ·exact hR _ _ h
 ·exact Calls.mono h fun e w ⟨v,e1,h1⟩=>⟨v,e1,hR _ _ h1⟩
 ·exact h.elim

def TU(agg:Bool)(v:Value)(cs:List Value):Prop:=if agg=true then v= .agg cs.toArray else cs=[v]
def QH(P:Program)(f:FuncId)(agg:Bool)(n:Nat)(L:List (Nat×FuncId)):Prop:=
 (∀x∈L,x.1<n)∧ ∀(v:Value) (cs:List Value) (k:Int) (w:World) (Bx:Nat→Prop) (Q:Value→World→Prop),TU agg v cs→cs.length=n→(∀b,Bx b→b<w.heap.size)→Ht P L cs k w Bx Q→pY P ((callFunc f #[v, .int .i64 k]).run P w) Q
theorem OV{P:Program}{τ:TypeId→Option TI}(hT:aY P τ){t:TypeId}{i:TI}(hi:τ t=some i){w:World}{b p:Nat}{arr:Array Value}{ty:TypeId}(hh:w.heap[b]? =some (.cells arr ty (0,0)))(hle:p+i.size≤arr.size)(h1:i.agg=false→i.size=1):
  ∃u,(loadVar t ⟨b,p,none⟩).run P w= .ok u w∧TU i.agg u ((arr.toList.drop p).take i.size):=by
 obtain⟨info,d,z,q1,q2,q3,q4,q5,q6,q7,q8,q9⟩:=hT.get hi; have hcell: ∀j,w.cell? ⟨b,p+j,none⟩=arr[p+j]? :=fun j=>by rw[bX w b _ arr ty _ hh]
 cases hag:i.agg with
 | true=>
  rw[hag]at q9; have hlen:((arr.toList.drop p).take i.size).length=i.size:=by simp; omega
  have hval: ∀(j:Nat) v,((arr.toList.drop p).take i.size)[j]? =some v→w.cell? ((⟨b,p,none⟩:Addr).add j)=some v:=by
   intro j v hv; rw[z73]at hv
   split at hv
   ·rw[z56,z26]at hv
    rw[iS,hcell,hv]
   ·cases hv
  have hrun:=run_loadCells_list (P:=P) w ⟨b,p,none⟩ _ hval; rw[hlen]at hrun; have hisagg:(isAgg t).run P w= .ok true w:=by
   simp only[isAgg,Sem.run_bind,run_underlying q2,Result.andThen_ok]; cases d<;>first | (simp at q9; done) | rfl
  refine⟨.agg ((arr.toList.drop p).take i.size).toArray, ?_,by simp [TU]⟩
  simp only[loadVar,Sem.run_bind,hisagg,Result.andThen_ok,if_true,sizeOf,typeInfo,run_program,q1,Sem.run_pure,q3,hrun]
 | false=>
  rw[hag]at q9; have hs:=h1 hag; have hlt:p<arr.size:=by omega
  have hc':w.cell? ⟨b,p,none⟩=some arr[p]:=by
   have:=hcell 0; rw[z69]at this; rw[this,z66 hlt]
  have hisagg:(isAgg t).run P w= .ok false w:=by
   simp only[isAgg,Sem.run_bind,run_underlying q2,Result.andThen_ok]; cases d<;>first | (simp at q9; done) | rfl
  refine⟨arr[p], ?_, ?_⟩
  ·simp only[loadVar,Sem.run_bind,hisagg,Result.andThen_ok,z52,if_false,run_load,hc']
  ·simp only[TU,z52,if_false,hs]
   have:arr.toList.drop p=arr[p]::arr.toList.drop (p+1):=by
    rw[z142 (by simpa using hlt)]; simp
   rw[this]; rfl
end Go.Own

namespace Go.Own
open Go.RowKit
structure MR where
 off:Nat
 g:FuncId
 es:List (List T)
 es':List (List T)
 k:Int
 k1:Int
def DU(p0:Nat):List MR→List T→Int→List T→Int→Prop
 | [],cells,k,cells',k'=>cells'=cells∧k'=k
 | m::r,cells,k,cells',k'=>cells[p0+m.off]? =some (.sl m.es)∧m.k=k∧DU p0 r (cells.set (p0+m.off) (.sl m.es')) m.k1 cells' k'
def biM:B:=⟨[(0,[[.U 0]]),(1,[[.S]])],[]⟩
def pU(F:FA)(d i:Nat):Bool:= !(Nat.beq i d)&& !(aS d (aH (F.shOf i)))
def B.turn(F:FA)(b:B)(l:Loc):B:=((((b.killV F).setf F (isL l) (fun m q=>if isL l m=true then .D else q)).filt (eO F l)).setf F (isL l) (fun m q=>if m=l then .U 0 else q))
def B.turnM(F:FA)(o p0:Nat):List Nat→B→B
 | [],b=>b
 | j::r,b=>B.turnM F o p0 r (b.turn F (.oc o (p0+j)))
def D.updM(o p0:Nat):List MR→D→D
 | [],x=>x
 | m::r,x=>D.updM o p0 r (x.upd (.oc o (p0+m.off)) (.sl m.es'))
def vI(k:Int):V:= .one (.c (.int .i64 k))
def okBi:B→Bool
 | ⟨[(0,[[.U 0]]),(1,[[.S]])],[]⟩=>true
 | _=>false
theorem Qc{b:B}(h:okBi b=true):b=biM:=by
 unfold okBi at h; split at h
 ·rfl
 ·cases h
def okSg(sg:Sg):Bool:=decide (sg.io=some 0)&&Nat.beq sg.np 2&&Nat.beq sg.no 0&&okBi sg.bi&&sg.bo.has 0&&sg.bo.has 1&&decide (sg.bo.kd (.s 1 0 0)= .U 0)
def B.mkReg(F:FA)(b:B)(o p0 t t' r r0:Nat)(L:List Nat):B:=((((b.filt (pU F t)).filt (pU F t')).turnM F o p0 L).filt (pU F r)).put F r0 (fun _ _=> .S)
def mkC(τ:TypeId→Option TI)(Sgs:FuncId→List Sg)(F:FA)(b:B)(L:List (Nat×FuncId)):List Oper→Option B
 | [⟨some t, .load S (.tmp tp),_,_,_,none⟩,⟨some t', .move (.tmp tk),_,_,_,none⟩,⟨some r, .call _,_,_,_,none⟩,⟨some r0, .assign (.tmp _),_,_,_,none⟩]=>
  (match F.shOf tp with
  | .one (.ptr o p0)=>bif b.has tp&&b.hasO o&&b.has tk&&L.all (fun x=>isU (b.kd (.oc o (p0+x.1)))&&(Sgs x.2).any okSg)&&(Nat.blt t t'&&Nat.blt t' r&&Nat.blt r F.n&&Nat.blt r0 F.n&& !(Nat.beq tk t)&& !(Nat.beq tp t))&&Own.fits (vI 0) (F.shOf r0)then some ((b.mkReg F o p0 t t' r r0 (L.map (·.1))).nrm F)else none
  | _=>none)
 | _=>none
end Go.Own

namespace Go.Own
open Go.RowKit

def G.relab(g:G)(σ:Loc→Loc)(β':Nat→Nat):G:= { β:=β',own:=fun b=>σ (g.own b) }

structure Kz (σ:Loc→Loc):Prop where
 none:σ .none= .none
 ext:σ .ext= .ext
 obj: ∀l,(∀o,l≠ .obj o)→ ∀o,σ l≠ .obj o

theorem LF.relab{g:G}{w:World}{σ:Loc→Loc}{β':Nat→Nat}(hσ:Kz σ)(hok:GOk g w){c q:K}{l l':Loc}{v:Value}{x:T}(hl:l.place=true)(h:LF g w c l v x)(hh:c.hand true q=true)(hm:q.hold=true→σ l=l'):LF (g.relab σ β') w q l' v x:=
 h.hand (ext:=true) hok hl hh (fun b hb=>by show σ (g.own b)=_; rw[hb]; exact hσ.none) (fun e=>by cases e) (fun b hb o=>hσ.obj _ hb o) (fun hq b hb=>by show σ (g.own b)=l'; rw[hb]; exact hm hq)

theorem CpR.relab{g:G}{w:World}{σ:Loc→Loc}{β':Nat→Nat}(hσ:Kz σ){c q:K}{b off:Nat}{xs:List T}(h:CpR g w c b off xs)(hh:c.hand true q=true)(hq:q= .D∨q= .F∨q= .V):CpR (g.relab σ β') w q b off xs:=
 h.hand (ext:=true) hh (fun b hb=>by show σ (g.own b)=_; rw[hb]; exact hσ.none) (fun e=>by cases e) (fun b hb o=>hσ.obj _ hb o) hq

theorem bM.relab{g0:G}{w0:World}{st:St}{a:Act}{g:G}{w:World}(h:bM g0 w0 st a g w){σ:Loc→Loc}(hσ:Kz σ){β':Nat→Nat}(a2:Act)(st2:St)(hβp: ∀o,par≤o→β' o=g.β o)
  (hsz:a2.tmps.size=st2.n)(hn:st2.n≤par)(hd:a2.defers=[])(hroot: ∀i,aH (st2.sl i)= .none)(hsl: ∀i,RV (g.relab σ β') w (fun k j=>st2.fl (.s i k j)) (fun k j=> .s i k j) (a2.tmps.getD i undef) (st2.sl i))
  (hob: ∀o cells,st2.ob o=some cells→ ∃o1,st.ob o1=some cells∧β' o=g.β o1∧σ (.obj o1)= .obj o∧ ∀j,(st.fl (.oc o1 j)).hand true (st2.fl (.oc o j))=true∧((st2.fl (.oc o j)).hold=true→σ (.oc o1 j)= .oc o j)):
  bM g0 w0 st2 a2 (g.relab σ β') w:=by
 refine⟨⟨h.framed.os,h.framed.tape,h.framed.output,h.framed.evo.size,fun b hb hX=> ?_⟩,⟨fun b hb=>h.ok.own b (fun e=>hb ?_)⟩,hsz,hd,hsl,fun o cells hc=> ?_,fun i hi=>absurd (hroot i) hi,fun o ho=>(hβp o ho).trans (h.bp o ho),hn⟩
 ·obtain⟨e1,e2⟩:=h.framed.evo.keep b hb hX
  have hf:nT (g0.own b):=z146.1 hX; refine⟨?_,e2⟩
  show σ (g.own b)=_; rw[e1]; rcases hf with e | e
  ·rw[e]; exact hσ.none
  ·rw[e]; exact hσ.ext
 ·show σ (g.own b)= .none
  rw[e]; exact hσ.none
 ·obtain⟨o1,h1,h2,h3,h4⟩:=hob o cells hc
  obtain⟨arr,ty,k1,k2,k3,k4⟩:=h.obs o1 cells h1; have hb:(g.relab σ β').β o=g.β o1:=h2; rw[hb]; refine⟨arr,ty,k1,k2, ?_,fun j x hx=> ?_⟩
  ·show σ (g.own (g.β o1))= .obj o
   rw[k3,h3]
  ·obtain⟨c,c1,c2,c3⟩:=k4 j x hx
   exact⟨c,c1,c2,c3.relab hσ h.ok rfl (h4 j).1 (h4 j).2⟩

theorem bM.body{bi:B}{x:D}{np:Nat}{g:G}{w:World}{vs:Array Value}{n:Nat}(h:bM g w (bi.S np x) ⟨vs,[]⟩ g w)(hn:np≤n)(hp:n≤par):
  bM g w (bi.S n x) ⟨vs++Array.replicate (n - vs.size) undef,[]⟩ g w:=by
 have hsz:vs.size=np:=h.size; have hget: ∀i,(vs++Array.replicate (n - vs.size) undef).getD i undef=vs.getD i undef:=by
  intro i; simp only[z55,z164]
  split
  ·rfl
  ·rename_i hi
   rw[z161 (xs:=vs) (by omega)]
   simp only[z147]
   split<;>rfl
 have hv: ∀l,vAt (vs++Array.replicate (n - vs.size) undef) g.β w l=vAt vs g.β w l:=fun l=>by
  cases l with
  | s i k j=>simp only[vAt]; rw[hget]
  | _=>rfl
 refine⟨h.framed,h.ok, ?_,rfl,fun i=> ?_,h.obs,fun i hi hf=> ?_,h.bp,hp⟩
 ·show(vs++Array.replicate (n - vs.size) undef).size=n
  simp; omega
 ·show RV g w _ _ ((vs++Array.replicate (n - vs.size) undef).getD i undef) _
  rw[hget]; exact h.slots i
 ·obtain⟨p1,p2⟩:=h.pls i hi hf
  refine⟨p1, ?_⟩
  show Dy _ _ _ _ ((vs++Array.replicate (n - vs.size) undef).getD i undef) _; rw[hget]; exact p2.congr (hv _) rfl (fun _ _ _ _ _ _ _ h=>h)

def Nn(τ:TypeId→Option TI)(x:D):ResultVar→Option W
 | .tmp t=>(match x.sl t with | .one w=>some w | _=>none)
 | .cell t ty=>(match τ ty,x.sl t with
  | some i, .one (.ptr o p)=>(match x.ob o with
   | some cells=>(match nV i (cells.drop p)with | some (.one w)=>some w | _=>none)
   | none=>none)
  | _,_=>none)
def Cx(τ:TypeId→Option TI)(x:D):List ResultVar→Option (List W)
 | []=>some []
 | r::rs=>match Nn τ x r,Cx τ x rs with
  | some w,some ws=>some (w::ws)
  | _,_=>none
def Hl(ws:List W):V:=match ws with
 | [w]=> .one w
 | ws=> .tup ws

def NK(F:FA):ResultVar→Nat→Loc
 | .tmp t,j=> .s t 0 j
 | .cell t _,j=>match F.shOf t with | .one (.ptr o p)=> .oc o (p+j) | _=> .none

theorem Ga{τ:TypeId→Option TI}{x:D}: ∀ {rs:List ResultVar} {ws:List W},Cx τ x rs=some ws→rs.length=ws.length∧ ∀(k:Nat) r,rs[k]? =some r→ ∃w,ws[k]? =some w∧Nn τ x r=some w
 | [],ws,h=>by cases h; exact⟨rfl,fun k r h=>by simp at h⟩
 | r::rs,ws,h=>by
  unfold Cx at h; split at h<;>try cases h
  rename_i w ws' h1 h2; obtain⟨q1,q2⟩:=Ga h2; refine⟨by simp [q1],fun k r' hk=> ?_⟩
  cases k with
  | zero=>simp only[z20,z10]at hk ⊢; subst hk; exact⟨w,rfl,h1⟩
  | succ k=>simp only[z23]at hk ⊢; exact q2 k r' hk

def yW(tmps:Array Value):ResultVar→Sem Value
 | .tmp t=>pure (tmps.getD t undef)
 | .cell a t=>do loadVar t (←asAddr (tmps.getD a undef))

theorem JP{α:Type}{P:Program}{w:World}(f:α→Sem Value): ∀ {l:List α} {us:List Value},l.length=us.length→(∀(k:Nat) x u,l[k]? =some x→us[k]? =some u→(f x).run P w= .ok u w)→(l.mapM f).run P w= .ok us w
 | [],us,h,_=>by
  cases us with
  | nil=>simp
  | cons u us=>simp at h
 | x::l,us,h,hf=>by
  cases us with
  | nil=>simp at h
  | cons u us=>
   have h1:=hf 0 x u rfl rfl; have h2:=JP f (l:=l) (us:=us) (by simpa using h) (fun k y v hy hv=>hf (k+1) y v (by simpa using hy) (by simpa using hv))
   simp [List.mapM_cons,Sem.run_bind,h1,h2]

def uO(us:List Value):Value:=match us with
 | [u]=>u
 | us=> .tuple us.toArray

theorem Ia{P:Program}{w:World}{fn:Func}{tmps:Array Value}{us:List Value}(h:fn.results.toList.length=us.length)(hf: ∀(k:Nat) x u,fn.results.toList[k]? =some x→us[k]? =some u→(yW tmps x).run P w= .ok u w):
  (results fn tmps).run P w= .ok (uO us) w:=by
 have h1:=JP (P:=P) (w:=w) (yW tmps) h hf; have h2:(results fn tmps)=(fn.results.mapM (yW tmps) >>=fun vs=>pure (if h:vs.size=1 then vs[0]else .tuple vs)):=by
  unfold results; congr 1
 rw[h2,z140]; simp [h1]; match us with
 | []=>simp [uO]
 | [u]=>simp [uO]
 | u::v::r=>simp [uO]

def LV(t:Nat):List ResultVar→Nat→Option Nat
 | [],_=>none
 | .tmp t'::r,i=>bif Nat.beq t' t then some i else LV t r (i+1)
 | _::r,i=>LV t r (i+1)
def Ei(F:FA)(o j:Nat):List ResultVar→Nat→Option (Nat×Nat)
 | [],_=>none
 | .cell t _::r,i=>(match F.shOf t with
  | .one (.ptr o' p)=>bif Nat.beq o' o&&Nat.ble p j then some (i,j - p)else Ei F o j r (i+1)
  | _=>Ei F o j r (i+1))
 | _::r,i=>Ei F o j r (i+1)
def zP(F:FA)(rs:List ResultVar)(n0 io:Option Nat):Loc→Loc
 | .s t k j=>bif Nat.beq k 0 then(match LV t rs 0 with | some i=> .s 0 i j | none=>if io=some t∧j=0 then .s 1 0 0 else .ext)else .ext
 | .oc o j=>if par≤o then .oc o j else if n0=some o then .oc 0 j else(match Ei F o j rs 0 with | some (i,j')=> .s 0 i j' | none=> .ext)
 | .obj o=>if par≤o then .obj o else if n0=some o then .obj 0 else .ext
 | .none=> .none
 | .ext=> .ext

theorem KJ(F:FA)(rs:List ResultVar)(n0 io:Option Nat):Kz (zP F rs n0 io):=by
 refine⟨rfl,rfl,fun l hl o=> ?_⟩
 cases l with
 | obj o'=>exact absurd rfl (hl o')
 | none=>simp [zP]
 | ext=>simp [zP]
 | s t k j=>
  simp only[zP]; cases Nat.beq k 0 with
  | false=>simp
  | true=>
   simp only[z17]; split
   ·simp
   ·split<;>simp
 | oc o' j=>
  simp only[zP]
  (repeat' split)<;>simp

def sZ(n0:Option Nat)(o:Nat):Option Nat:=if par≤o then some o else if n0=some o then some 0 else none

def GF(F:FA)(b:B)(σ:Loc→Loc)(r:ResultVar)(k:Nat):Nat→List K→Bool
 | _,[]=>true
 | j,q::row=>(b.kd (NK F r j)).hand true q&&(!q.hold||decide (σ (NK F r j)= .s 0 k j))&&GF F b σ r k (j+1) row
theorem Gb{F:FA}{b:B}{σ:Loc→Loc}{r:ResultVar}{k:Nat}: ∀ {l:List K} {j0:Nat},GF F b σ r k j0 l=true→ ∀ {j:Nat} {q:K},l[j]? =some q→(b.kd (NK F r (j0+j))).hand true q=true∧(q.hold=true→σ (NK F r (j0+j))= .s 0 k (j0+j))
 | [],_,_,j,q,h=>by simp at h
 | p::l,j0,h,0,q,h2=>by
  simp only[GF,z7]at h; simp only[z20,z10]at h2
  subst h2; refine⟨h.1.1,fun hq=> ?_⟩
  have:=h.1.2; rw[hq]at this; simpa using this
 | p::l,j0,h,j+1,q,h2=>by
  simp only[GF,z7]at h; simp only[z23]at h2
  have:=Gb h.2 h2; rwa[show j0+1+j=j0+(j+1)by omega]at this

def GG(F:FA)(b:B)(bo:B)(σ:Loc→Loc)(k:Nat)(r:ResultVar):Bool:=
 (match cQ 0 bo.sl with | some κ=>(match κ[k]? with | some row=>GF F b σ r k 0 row | none=>true) | none=>true)&&
 (match r with
  | .tmp t=>b.has t&&(match F.shOf t with | .one (.cp _)=>dfv (bo.kd (.s 0 k 0)) | .one (.al _ _)=>false | .one (.pp _ _ _ _)=>false | _=>true)
  | .cell t _=>b.has t&&(match F.shOf t with | .one (.ptr o _)=>b.hasO o | _=>false))
def yX(F:FA)(b:B)(bo:B)(σ:Loc→Loc):Nat→List ResultVar→Bool
 | _,[]=>true
 | k,r::rs=>GG F b bo σ k r&&yX F b bo σ (k+1) rs
theorem Gc{F:FA}{b bo:B}{σ:Loc→Loc}: ∀ {l:List ResultVar} {k0:Nat},yX F b bo σ k0 l=true→ ∀ {k:Nat} {r:ResultVar},l[k]? =some r→GG F b bo σ (k0+k) r=true
 | [],_,_,k,r,h=>by simp at h
 | p::l,k0,h,0,r,h2=>by
  simp only[yX,z7]at h; simp only[z20,z10]at h2
  subst h2; exact h.1
 | p::l,k0,h,k+1,r,h2=>by
  simp only[yX,z7]at h; simp only[z23]at h2
  have:=Gc h.2 h2; rwa[show k0+1+k=k0+(k+1)by omega]at this

theorem MY{F:FA}{b bo:B}{σ:Loc→Loc}{k:Nat}{r:ResultVar}(h:GG F b bo σ k r=true)(j:Nat):(b.kd (NK F r j)).hand true (bo.kd (.s 0 k j))=true∧((bo.kd (.s 0 k j)).hold=true→σ (NK F r j)= .s 0 k j):=by
 simp only[GG,z7]at h; have h:=h.1; simp only[B.kd,B.get]at h ⊢; cases hl:cQ 0 bo.sl with
 | none=>exact⟨rfl,fun e=>by cases e⟩
 | some κ=>
  rw[hl]at h; simp only[AU]at h ⊢; cases hr:κ[k]? with
  | none=>exact⟨rfl,fun e=>by cases e⟩
  | some row=>
   rw[hr]at h; cases hq:row[j]? with
   | none=>simp only[hq]; exact⟨rfl,fun e=>by cases e⟩
   | some q=>
    have:=Gb h hq; simp only[z32]at this; simp only[hq]; exact this
end Go.Own

namespace Go.Own
open Go.RowKit

theorem UI{q:K}(h:dfv q=true):q= .D∨q= .F∨q= .V:=by cases q<;>simp_all [dfv]

def Kq(F:FA)(b bo:B)(n0:Option Nat):Bool:=bo.ob.all fun p=>
 if par≤p.1 then b.hasO p.1&&pO true (fun j=>b.kd (.oc p.1 j)) 0 p.2
 else Nat.beq p.1 0&&(match n0 with | some o=> !(decide (par≤o))&&b.hasO o&&pO true (fun j=>b.kd (.oc o j)) 0 p.2 | none=>false)

theorem OO{F:FA}{b bo:B}{n0:Option Nat}(h:Kq F b bo n0=true){oc:Nat}(ho:bo.hasO oc=true): ∃o1,sZ n0 o1=some oc∧b.hasO o1=true∧ ∀j,(b.kd (.oc o1 j)).hand true (bo.kd (.oc oc j))=true:=by
 simp only[B.hasO]at ho; cases hl:cQ oc bo.ob with
 | none=>rw[hl]at ho; cases ho
 | some r=>
  have hm:=z15.1 h _ (fX hl); simp only at hm; have key: ∀o1,pO true (fun j=>b.kd (.oc o1 j)) 0 r=true→ ∀j,(b.kd (.oc o1 j)).hand true (bo.kd (.oc oc j))=true:=fun o1 h1 j=>by
   simp only[B.kd,B.get,hl]at h1 ⊢; cases hq:r[j]? with
   | none=>simp only[hq]; rfl
   | some q=>
    have:=tZ h1 hq; simp only[z32]at this; simp only[hq]; exact this
  by_cases hp:par≤oc
  ·rw[z19 hp,z7]at hm
   exact⟨oc,by simp [sZ,hp],hm.1,key oc hm.2⟩
  ·rw[z13 hp,z7]at hm
   have h0:=z16 hm.1; subst h0; have hm2:=hm.2; cases hn:n0 with
   | none=>rw[hn]at hm2; cases hm2
   | some o=>
    rw[hn]at hm2; simp only[z7]at hm2; obtain⟨⟨m1,m2⟩,m3⟩:=hm2; have m1': ¬ par≤o:=by simpa using m1
    exact⟨o,by simp [sZ,m1'],m2,key o m3⟩

theorem CU{α:Type}: ∀ {rs:List α} {Q:Nat→Value→Prop},(∀(k:Nat) r,rs[k]? =some r→ ∃u,Q k u)→ ∃us:List Value,rs.length=us.length∧ ∀(k:Nat) u,us[k]? =some u→Q k u
 | [],Q,_=>⟨[],rfl,fun k u h=>by simp at h⟩
 | r::rs,Q,h=>by
  obtain⟨u,hu⟩:=h 0 r rfl; obtain⟨us,h1,h2⟩:=CU (rs:=rs) (Q:=fun k u=>Q (k+1) u) (fun k r hk=>h (k+1) r (by simpa using hk))
  refine⟨u::us,by simp [h1],fun k v hv=> ?_⟩
  cases k with
  | zero=>simp only[z20,z10]at hv; subst hv; exact hu
  | succ k=>exact h2 k v (by simpa using hv)

theorem bM.ret{P:Program}{τ:TypeId→Option TI}(hT:aY P τ){F:FA}{g0:G}{w0:World}{b:B}{x:D}{a:Act}{g:G}{w:World}{n:Nat}(h:bM g0 w0 (b.S n x) a g w)(hA:Ag F b x){rs:List ResultVar}{ws:List W}{bo:B}{n0 io:Option Nat}{ob:List (List T)}{nw:Option (List T)}{iov:Option T}{u1:Value}
  (hws:Cx τ x rs=some ws)(hr:yX F b bo (zP F rs n0 io) 0 rs=true)(hob:Kq F b bo n0=true)(hobd: ∀oc o1,bo.hasO oc=true→sZ n0 o1=some oc→(DR ((Hl ws).to (sZ n0)) iov ob nw).ob oc=x.ob o1)
  (hio: ∀z,io=some z→a.tmps.getD z undef=u1∧b.has z=true∧(∃t,x.sl z= .one (.c t)∧iov=some t)∧(b.kd (.s z 0 0)).hand true (bo.kd (.s 1 0 0))=true∧((bo.kd (.s 1 0 0)).hold=true→zP F rs n0 io (.s z 0 0)= .s 1 0 0))(hio0:io=none→bo.has 1=false)
  (hb2: ∀i,bo.has i=true→i<2): ∃us:List Value,rs.length=us.length∧(∀(k:Nat) r u,rs[k]? =some r→us[k]? =some u→(yW a.tmps r).run P w= .ok u w)∧ ∃g',bM g0 w0 (bo.S 2 (DR ((Hl ws).to (sZ n0)) iov ob nw)) ⟨#[uO us,u1],[]⟩ g' w:=by
 let σ:=zP F rs n0 io
 have hσ:Kz σ:=KJ F rs n0 io; let β':Nat→Nat:=fun o=>if par≤o then g.β o else(n0.map g.β).getD 0
 have hβp: ∀o,par≤o→β' o=g.β o:=fun o h=>by simp only[β',z19 h]
 have hβ: ∀o o',sZ n0 o=some o'→β' o'=g.β o:=by
  intro o o' h; simp only[sZ]at h; split at h
  ·rename_i hp; cases h; exact hβp o hp
  ·split at h
   ·rename_i h1; cases h
    simp only[β',z13 Eb,h1,z35,z63]
   ·cases h
 have hok':GOk (g.relab σ β') w:=⟨fun b hb=>h.ok.own b (fun e=>hb (by show σ (g.own b)= .none; rw[e]; exact hσ.none))⟩
 obtain⟨hlen,hget⟩:=Ga hws; have hone: ∀(k:Nat) r,rs[k]? =some r→ ∃u wk,ws[k]? =some wk∧(yW a.tmps r).run P w= .ok u w∧RW (g.relab σ β') w (fun j=>bo.kd (.s 0 k j)) (fun j=> .s 0 k j) u (wk.to (sZ n0)):=by
  intro k r hk; obtain⟨wk,hwk,hres⟩:=hget k r hk; have hchk:=Gc hr hk; rw[z32]at hchk; have hkd:=fun j=>MY hchk j
  simp only[GG,z7]at hchk; have hchk:=hchk.2; cases r with
  | tmp t=>
   simp only[z7]at hchk; obtain⟨c1,c2⟩:=hchk; unfold Nn at hres; simp only at hres; split at hres<;>try cases hres
   rename_i hx; have hs:=h.slots t; rw[oK c1,hx]at hs; have hs:RW g w (fun j=>b.kd (.s t 0 j)) (fun j=> .s t 0 j) (a.tmps.getD t undef) wk:=hs
   refine⟨a.tmps.getD t undef,wk,hwk,by simp [yW],hs.to (fun o o' ho=>hβ o o' ho) (fun j z u _ _ _ hf=>hf.relab hσ h.ok rfl (hkd j).1 (hkd j).2) (fun zs e bb off hc=> ?_)⟩
   have hf:=hA.fits c1 (by rw[hx]; simp)
   rw[hx,e]at hf; cases hs2:F.shOf t with
   | tup ws=>rw[hs2]at hf; simp [Own.fits]at hf
   | one y=>
    rw[hs2]at hf c2; cases y<;>simp [Own.fits,bP]at hf
    exact hc.relab hσ (hkd 0).1 (UI c2)
  | cell t ty=>
   simp only[z7]at hchk; obtain⟨c1,c2⟩:=hchk; unfold Nn at hres; simp only at hres; split at hres<;>try cases hres
   rename_i i o p hi hx; split at hres<;>try cases hres
   rename_i cells hcells; split at hres<;>try cases hres
   rename_i hload; have hsh:=IM hA (v:= .tmp t) c1 hx; have hsh:F.shOf t= .one (.ptr o p):=hsh; rw[hsh]at c2; have hsrc: ∀j,NK F (.cell t ty) j= .oc o (p+j):=fun j=>by simp only[NK,hsh]
   have hs:=h.slots t; rw[oK c1,hx]at hs; have hptr:a.tmps.getD t undef= .pointer (some ⟨g.β o,p,none⟩):=hs; obtain⟨arr,ty',k1,k2,k3,k4⟩:=h.obs o cells (by rw[JJ c2]; exact hcells)
   have hcell: ∀(j:Nat) z,(cells.drop p)[j]? =some z→ ∃c,w.cell? ⟨g.β o,p+j,none⟩=some c∧mL c∧LF (g.relab σ β') w (bo.kd (.s 0 k j)) (.s 0 k j) c z:=fun j z hz=>by
    rw[z56]at hz
    obtain⟨c,d1,d2,d3⟩:=k4 _ z hz; refine⟨c,by rw[bX w _ _ arr ty' _ k1]; exact d1,d2, ?_⟩
    have q:=hkd j; rw[hsrc]at q; exact LF.relab hσ h.ok rfl d3 q.1 q.2
   obtain⟨u,r1,r2,r3,r4⟩:=sO hT hi (l':=fun _ j=> .s 0 k j) hcell hload (fun j c z hf=>hf.cp hok' rfl)
   refine⟨u,wk,hwk, ?_, ?_⟩
   ·simp only[yW,hptr,asAddr,Sem.run_bind,Sem.run_pure,Result.andThen_ok,r1]
   ·have r2':RV (g.relab σ β') w (fun _ j=>if iO i.zero j then .S else(bo.kd (.s 0 k j)).cp) (fun _ j=> .s 0 k j) u (.one wk):=r2
    have hto:wk.to (sZ n0)=wk:=by
     unfold nV at hload; split at hload<;>try cases hload
     split at hload
     ·cases hload; rfl
     ·split at hload<;>cases hload; rfl
    rw[hto]; have:=r2'.map (g':=g.relab σ β') (w':=w) (κ':=fun _ j=>bo.kd (.s 0 k j)) (l':=fun _ j=> .s 0 k j) (fun _=>rfl) (fun k' j z u' hz hu hn hf=>by
     obtain⟨q0,_⟩:=tX hload hz; subst q0; obtain⟨q1,q2⟩:=r4 j z hz; obtain⟨c,d1,d2,d3⟩:=hcell j z q1; rw[hu]at q2; have q2:some u'=some c:=q2.trans d1; cases q2; exact d3) (fun k' zs hz=>by
     exfalso
     unfold nV at hload; split at hload<;>try cases hload
     split at hload
     ·cases hload; cases k'<;>simp [V.comp]at hz
     ·split at hload<;>cases hload
      cases k'<;>simp [V.comp]at hz)
    exact this
 obtain⟨us,hul,hus⟩:=CU (rs:=rs) (Q:=fun k u=> ∃r wk,rs[k]? =some r∧ws[k]? =some wk∧(yW a.tmps r).run P w= .ok u w∧RW (g.relab σ β') w (fun j=>bo.kd (.s 0 k j)) (fun j=> .s 0 k j) u (wk.to (sZ n0))) (fun k r hk=>by
  obtain⟨u,wk,h1,h2,h3⟩:=hone k r hk; exact⟨u,r,wk,hk,h1,h2,h3⟩)
 refine⟨us,hul,fun k r u hk hu=> ?_,g.relab σ β', ?_⟩
 ·obtain⟨r',wk,h1,_,h3,_⟩:=hus k u hu
  rw[hk]at h1; cases h1; exact h3
 have hres:RV (g.relab σ β') w (fun k j=>bo.kd (.s 0 k j)) (fun k j=> .s 0 k j) (uO us) ((Hl ws).to (sZ n0)):=by
  have hwl:ws.length=us.length:=by omega
  have hk: ∀(k:Nat) u wk,us[k]? =some u→ws[k]? =some wk→RW (g.relab σ β') w (fun j=>bo.kd (.s 0 k j)) (fun j=> .s 0 k j) u (wk.to (sZ n0)):=fun k u wk hu hw=>by
   obtain⟨r',wk',_,h2,_,h4⟩:=hus k u hu; rw[hw]at h2; cases h2; exact h4
  have tuple:RV (g.relab σ β') w (fun k j=>bo.kd (.s 0 k j)) (fun k j=> .s 0 k j) (.tuple us.toArray) ((V.tup ws).to (sZ n0)):=by
   refine⟨us.toArray,rfl,by simp [hwl],fun k wk hw=> ?_⟩
   rw[z36]at hw
   obtain⟨w0',hw0,rfl⟩:=z22.1 hw; have hlt:k<us.length:=by have:=bW hw0; omega
   exact⟨us[k],by simp [hlt],hk k us[k] w0' (z14 hlt) hw0⟩
  match us,ws,hwl,hk,tuple with
  | [u],[w1],_,hk,_=>exact hk 0 u w1 rfl rfl
  | [],[],_,_,t=>exact t
  | u::u'::us',w1::w2::ws',_,_,t=>exact t
 refine h.relab hσ _ _ hβp (by simp [B.S]) (by show 2≤par; unfold par; omega) rfl (fun i=> ?_) (fun i=> ?_) (fun oc cells hc=> ?_)
 ·show aH (if bo.has i=true then(DR _ iov ob nw).sl i else .one .junk)= .none
  split
  ·match i with
   | 0=>exact V.to_root
   | 1=>simp only[DR]; cases iov<;>rfl
   | i+2=>rfl
  ·rfl
 ·show RV _ w (fun k j=>bo.kd (.s i k j)) _ (#[uO us,u1].getD i undef) (if bo.has i=true then(DR _ iov ob nw).sl i else .one .junk)
  by_cases hb:bo.has i=true
  ·rw[z19 hb]
   match i,hb2 i hb with
   | 0,_=>exact hres
   | 1,_=>
    cases hz:io with
    | none=>rw[hio0 hz]at hb; cases hb
    | some z=>
     obtain⟨z1,z2,⟨t,z3,z4⟩,z5,z6⟩:=hio z hz; have hs:=h.slots z; rw[oK z2,z3]at hs; rw[z1]at hs; simp only[DR,z4]; exact⟨hs.1,LF.relab hσ h.ok rfl hs.2 z5 z6⟩
  ·rw[z13 hb]; trivial
 ·have hc':(if bo.hasO oc=true then(DR _ iov ob nw).ob oc else none)=some cells:=hc
  split at hc'<;>try cases hc'
  rename_i hoc; obtain⟨o1,p1,p2,p3⟩:=OO hob hoc; have hsig:σ (.obj o1)= .obj oc∧ ∀j,σ (.oc o1 j)= .oc oc j:=by
   simp only[sZ]at p1; split at p1
   ·rename_i hp; cases p1
    exact⟨by show zP _ _ _ _ _=_; simp only[zP,z19 hp],fun j=>by show zP _ _ _ _ _=_; simp only[zP,z19 hp]⟩
   ·rename_i hp
    split at p1
    ·rename_i hn; cases p1
     exact⟨by show zP _ _ _ _ _=_; simp only[zP,z13 hp,z19 hn],fun j=>by show zP _ _ _ _ _=_; simp only[zP,z13 hp,z19 hn]⟩
    ·cases p1
  refine⟨o1, ?_,hβ o1 oc p1,hsig.1,fun j=>⟨p3 j,fun _=>hsig.2 j⟩⟩
  rw[JJ p2, ←hobd oc o1 hoc p1]; exact hc'
end Go.Own

namespace Go.Own
open Go.RowKit

inductive Ek where
 | n | r | e (i:Nat)
 deriving DecidableEq
def Ek.exit:Ek→Exit
 | .n=> .normal
 | .r=> .ret
 | .e i=> .exit i

def bE(ds:List (Option Nat))(x:D):Option (Nat×Bool)→Option Bool
 | none=>some true
 | some (j,want)=>match ds[j]? with
  | some (some t)=>(match x.sl t with
   | .one (.c (.bool b))=>some (b == want)
   | .tup []=>some false
   | _=>none)
  | _=>some false
def qI(x:D):Option Nat→D
 | some d=>x.put d (.tup [])
 | none=>x

def objsW:W→List Nat
 | .ptr o _=> [o]
 | .fn _ cs=>cs.map (·.1)
 | _=> []
def Lf:List Nat→List Nat→List Nat
 | [],acc=>acc
 | o::r,acc=>bif mem o acc then Lf r acc else Lf r (acc++[o])
def PQ(F:FA)(v:Operand):List Nat:=match mM F v with | .one w=>objsW w | _=> []
def xX(F:FA)(c:Call):Bool:=match c.args.toList with
 | .tmp t::_=>mem t F.ioa
 | _=>false
def iN(F:FA)(c:Call)(v:Operand):List Nat:=bif xX F c then [0,0]else Lf (c.args.toList.flatMap (PQ F)++PQ F v) []
def pZ(F:FA)(d:Option Nat):Option Nat:=match d with | some d=>bif mem d F.nw then some d else none | none=>none

def pE(F:FA):Nat→List V→Bool
 | _,[]=>true
 | i,v::r=>fits v (F.shOf i)&&pE F (i+1) r
def rA(F:FA):Nat→List (List T)→Bool
 | _,[]=>true
 | i,cs::r=>eH cs (F.obOf (par+i))&&rA F (i+1) r
def yY(x:D):Nat→List (List T)→Option (List (List T))
 | _,[]=>some []
 | i,_::r=>match x.ob (par+i),yY x (i+1) r with
  | some cs,some css=>some (cs::css)
  | _,_=>none

inductive Jd where
 | code (F:FA) (c:Code) (x:D) (e:Ek) (x':D)
 | ops (F:FA) (ds:List (Option Nat)) (os:List Oper) (x x':D)
 | fn (f:FuncId) (vs:List V) (ob:List (List T)) (r:V) (io:Option T) (ob':List (List T)) (nw:Option (List T))

def Su(z:Option Nat)(x:D):Option (Option T):=match z with
 | none=>some none
 | some z=>(match x.sl z with | .one (.c t)=>some (some t) | _=>none)

def nI(id:Nat)(e:Ek):Ek:=if e= .e id then .n else e

def Pv:Nat→List (List (List K))→List (Nat×List (List K))
 | _,[]=> []
 | i,κ::r=>(i,κ)::Pv (i+1) r
def NW(q:List (List (List K))×List (List K)×Bool):Sg:= { bi:= { sl:=Pv 0 q.1,ob:=[] },bo:= { sl:=[(0,q.2.1)],ob:=[] },np:=q.1.length,ext:=q.2.2 }
inductive Big (P:Program) (τ:TypeId→Option TI) (An:FuncId→FA):Jd→Prop
 | skip (F:FA) (x:D):Big P τ An (.code F .skip x .n x)
 | label (F:FA) (l:Nat) (x:D):Big P τ An (.code F (.label l) x .n x)
 | exit (F:FA) (i:Nat) (x:D):Big P τ An (.code F (.exit i) x (.e i) x)
 | ret (F:FA) (x:D):Big P τ An (.code F .ret x .r x)
 | seqN {F:FA} {a b:Code} {x x1 x2:D} {e:Ek} (h1:Big P τ An (.code F a x .n x1)) (h2:Big P τ An (.code F b x1 e x2)):Big P τ An (.code F (.seq a b) x e x2)
 | seqX {F:FA} {a b:Code} {x x1:D} {e:Ek} (h1:Big P τ An (.code F a x e x1)) (he:e≠ .n):Big P τ An (.code F (.seq a b) x e x1)
 | cond {F:FA} {c:Operand} {a b:Code} {x x1:D} {e:Ek} {t:Bool} (hc:ev x.sl c= .one (.c (.bool t))) (h1:Big P τ An (.code F (if t then a else b) x e x1)):Big P τ An (.code F (.cond c a b) x e x1)
 | block {F:FA} {id:Nat} {c:Code} {x x1:D} {e:Ek} (h1:Big P τ An (.code F c x e x1)):Big P τ An (.code F (.block id c) x (nI id e) x1)
 | loopX {F:FA} {c:Code} {x x1:D} {e:Ek} (h1:Big P τ An (.code F c x e x1)) (he:e≠ .n):Big P τ An (.code F (.loop c) x e x1)
 | loopN {F:FA} {c:Code} {x x1 x2:D} {e:Ek} (h1:Big P τ An (.code F c x .n x1)) (h2:Big P τ An (.code F (.loop c) x1 e x2)):Big P τ An (.code F (.loop c) x e x2)
 | regionM {F:FA} {id:Nat} {x:D} {S:TypeId} {i:TI} {f:FuncId} {c:Call} {o p0 tp tk t t' r r0 r2:Nat} {cells cells':List T} {k k':Int} {rs:List MR} {t1 t2 t3 t4:TypeId} {p1 p2 p3 p4:String} {f1 f2 f3 f4:Array Edge} (hmk:cQ id F.mks=some (rs.map fun m=>(m.off,m.g))) (hi:τ S=some i) (h1:i.agg=false→i.size=1)
   (hM:QH P f i.agg i.size (rs.map fun m=>(m.off,m.g))) (hle:p0+i.size≤cells.length) (hc1:c.callee= .value (.func f)) (hc2:c.args= #[.tmp t, .tmp t']) (hr2:r2=r) (htp:x.sl tp= .one (.ptr o p0)) (htk:x.sl tk=vI k) (hob:x.ob o=some cells) (hch:DU p0 rs cells k cells' k')
   (hB: ∀m∈rs,Big P τ An (.fn m.g [.one (.c (.sl m.es)), .one (.c (.int .i64 m.k))] [] (.one (.c (.int .i64 m.k1))) (some (.sl m.es')) [] none)):
   Big P τ An (.code F (.region id #[⟨some t, .load S (.tmp tp),t1,p1,f1,none⟩,⟨some t', .move (.tmp tk),t2,p2,f2,none⟩,⟨some r, .call c,t3,p3,f3,none⟩,⟨some r0, .assign (.tmp r2),t4,p4,f4,none⟩] false) x .n ((D.updM o p0 rs x).put r0 (vI k')))
 | region {F:FA} {id:Nat} {ops:Array Oper} {dr:Bool} {x x1:D} (hmk:cQ id F.mks=none) (h1:Big P τ An (.ops F (ops.toList.map (·.dst)) ops.toList x x1)):Big P τ An (.code F (.region id ops dr) x .n x1)
 | opsNil (F:FA) (ds:List (Option Nat)) (x:D):Big P τ An (.ops F ds [] x x)
 | opsSkip {F:FA} {ds:List (Option Nat)} {o:Oper} {r:List Oper} {x x2:D} (hg:bE ds x o.guard=some false) (h2:Big P τ An (.ops F ds r (qI x o.dst) x2)):Big P τ An (.ops F ds (o::r) x x2)
 | opsRun {F:FA} {ds:List (Option Nat)} {o:Oper} {r:List Oper} {x x1 x2:D} (hg:bE ds x o.guard=some true) (h1:dOp τ F x o=some x1) (h2:Big P τ An (.ops F ds r x1 x2)):Big P τ An (.ops F ds (o::r) x x2)
 | opsCall {F:FA} {ds:List (Option Nat)} {o:Oper} {rs:List Oper} {x x2:D} {c:Call} {v:Operand} {f:FuncId} {caps:List (Nat×Nat)} {ob ob':List (List T)} {r:V} {nw:Option (List T)} (hg:bE ds x o.guard=some true) (ho:o.op= .call c) (hcal:c.callee= .value v) (hni:xX F c=false)
   (hx:ev x.sl v= .one (.fn f caps)) (hth:c.args.toList.all (fun v=>fY (ev x.sl v))=true) (hob:ob.map some=(iN F c v).map x.ob) (h1:Big P τ An (.fn f (inV x c caps (iN F c v)) ob r none ob' nw))
   (hsh:bJ F (x.call o.dst (pZ F o.dst) (iN F c v) (DR r none ob' nw)) o.dst (pZ F o.dst) (iN F c v)=true) (h2:Big P τ An (.ops F ds rs (x.call o.dst (pZ F o.dst) (iN F c v) (DR r none ob' nw)) x2)):Big P τ An (.ops F ds (o::rs) x x2)
 | opsIo {F:FA} {ds:List (Option Nat)} {o:Oper} {rs:List Oper} {x x2:D} {c:Call} {v:Operand} {f:FuncId} {r:V} {t:Nat} {xs:List Operand} {l:Loc} {p:List (Nat×Nat)} {x0:T} {es es':List (List T)} (hg:bE ds x o.guard=some true) (ho:o.op= .call c) (hcal:c.callee= .value v) (hio:xX F c=true)
   (hx:ev x.sl v= .one (.fn f [])) (hth:c.args.toList.all (fun v=>fY (ev x.sl v))=true) (hargs:c.args.toList= .tmp t::xs) (hal:x.sl t= .one (.al l p)) (hat:x.at l=some x0) (hnav:nav x0 p=some (.sl es)) (h1:Big P τ An (.fn f (inV x c [] []) [] r (some (.sl es')) [] none))
   (hsh:bJ F (x.call o.dst none [] (DR r (some (.sl es')) [] none)) o.dst none []=true) (h2:Big P τ An (.ops F ds rs ((x.call o.dst none [] (DR r (some (.sl es')) [] none)).upd l (cJ x0 p (.sl es'))) x2)):Big P τ An (.ops F ds (o::rs) x x2)
 | fn {f:FuncId} {fn:Func} {c:Code} {vs:List V} {ob ob':List (List T)} {e:Ek} {x':D} {ws:List W} {iov:Option T} (hf:P.funcs[f]? =some fn) (hb:fn.body=some c) (hsh:pE (An f) 0 vs=true) (hso:rA (An f) 0 ob=true) (h1:Big P τ An (.code (An f) c (DA vs ob) e x'))
   (he:e= .n∨e= .r) (hws:Cx τ x' fn.results.toList=some ws) (hio:Su (An f).io x'=some iov) (hob:yY x' 0 ob=some ob'):Big P τ An (.fn f vs ob ((Hl ws).to (sZ (An f).n0)) iov ob' ((An f).n0.bind x'.ob))
 | lib {f:FuncId} {fn:Func} {c:Code} {vs:List V} {r:V} {q:List (List (List K))×List (List K)×Bool} (hf:P.funcs[f]? =some fn) (hb:fn.body=some c) (hq:(An f).lb=some q) (h1:TC P f (NW q) vs [] r none [] none):Big P τ An (.fn f vs [] r none [] none)
def FV(o:Oper):Bool:=match o.dst,o.guard with
 | none,none=>(match o.op with | .panic _=>true | _=>false)
 | _,_=>false
end Go.Own

namespace Go.Own
open Go.RowKit

def AI:List K→List K→Bool
 | _,[]=>true
 | [],q::r=>decide (q= .D)&&AI [] r
 | p::ps,q::r=>p.lo q&&AI ps r
def vN:List (List K)→List (List K)→Bool
 | _,[]=>true
 | [],q::r=>AI [] q&&vN [] r
 | p::ps,q::r=>AI p q&&vN ps r

theorem Af: ∀ {ps qs:List K},AI ps qs=true→ ∀ {j:Nat} {q:K},qs[j]? =some q→(match ps[j]? with | some p=>p | none=> .D).lo q=true
 | _,[],_,j,q,h=>by simp at h
 | [],q::r,h,0,q',h2=>by
  simp only[AI,z7]at h; simp only[z20,z10]at h2
  subst h2; rw[of_decide_eq_true h.1]; rfl
 | [],q::r,h,j+1,q',h2=>by
  simp only[AI,z7]at h; simp only[z23]at h2
  have:=Af h.2 h2; simpa using this
 | p::ps,q::r,h,0,q',h2=>by
  simp only[AI,z7]at h; simp only[z20,z10]at h2
  subst h2; exact h.1
 | p::ps,q::r,h,j+1,q',h2=>by
  simp only[AI,z7]at h; simp only[z23]at h2 ⊢
  exact Af h.2 h2

theorem Bp: ∀ {ps qs:List (List K)},vN ps qs=true→ ∀ {k:Nat} {r:List K},qs[k]? =some r→AI (match ps[k]? with | some p=>p | none=> []) r=true
 | _,[],_,j,q,h=>by simp at h
 | [],q::r,h,0,q',h2=>by
  simp only[vN,z7]at h; simp only[z20,z10]at h2
  subst h2; exact h.1
 | [],q::r,h,j+1,q',h2=>by
  simp only[vN,z7]at h; simp only[z23]at h2
  have:=Bp h.2 h2; simpa using this
 | p::ps,q::r,h,0,q',h2=>by
  simp only[vN,z7]at h; simp only[z20,z10]at h2
  subst h2; exact h.1
 | p::ps,q::r,h,j+1,q',h2=>by
  simp only[vN,z7]at h; simp only[z23]at h2 ⊢
  exact Bp h.2 h2

def leB(b' b:B):Bool:=b'.sl.all (fun p=>match cQ p.1 b.sl with | some κ=>vN κ p.2 | none=>false)&&b'.ob.all (fun p=>match cQ p.1 b.ob with | some r=>AI r p.2 | none=>false)

theorem LU{b' b:B}(h:leB b' b=true):(∀i,b'.has i=true→b.has i=true)∧(∀o,b'.hasO o=true→b.hasO o=true)∧ ∀l,(b.kd l).lo (b'.kd l)=true:=by
 simp only[leB,z7]at h; refine⟨fun i hi=> ?_,fun o ho=> ?_,fun l=> ?_⟩
 ·simp only[B.has]at hi ⊢
  cases hl:cQ i b'.sl with
  | none=>rw[hl]at hi; cases hi
  | some κ=>
   have:=z15.1 h.1 _ (fX hl); simp only at this; split at this
   ·rename_i hb; rw[hb]; rfl
   ·cases this
 ·simp only[B.hasO]at ho ⊢
  cases hl:cQ o b'.ob with
  | none=>rw[hl]at ho; cases ho
  | some κ=>
   have:=z15.1 h.2 _ (fX hl); simp only at this; split at this
   ·rename_i hb; rw[hb]; rfl
   ·cases this
 ·cases hg:b'.get l with
  | none=>
   have:b'.kd l= .D:=by simp only[B.kd,hg]
   rw[this]; exact GQ _
  | some q=>
   have hq:b'.kd l=q:=by simp only[B.kd,hg]
   rw[hq]; cases l with
   | s i k j=>
    simp only[B.get]at hg; cases hl:cQ i b'.sl with
    | none=>rw[hl]at hg; cases hg
    | some κ=>
     rw[hl]at hg; simp only[AU]at hg; have:=z15.1 h.1 _ (fX hl); simp only at this; cases hb:cQ i b.sl with
     | none=>rw[hb]at this; cases this
     | some κ2=>
      rw[hb]at this; have this:vN κ2 κ=true:=this; cases hr:κ[k]? with
      | none=>rw[hr]at hg; cases hg
      | some r=>
       rw[hr]at hg; have h2:=Af (Bp this hr) hg; have e:b.kd (.s i k j)=(match(match κ2[k]? with | some p=>p | none=> [])[j]? with | some p=>p | none=> .D):=by
        simp only[B.kd,B.get,hb,AU]; cases κ2[k]? with
        | none=>rfl
        | some r0=>simp only; cases r0[j]? <;>rfl
       rw[e]; exact h2
   | oc o j=>
    simp only[B.get]at hg; cases hl:cQ o b'.ob with
    | none=>rw[hl]at hg; cases hg
    | some r=>
     rw[hl]at hg; have:=z15.1 h.2 _ (fX hl); simp only at this; cases hb:cQ o b.ob with
     | none=>rw[hb]at this; cases this
     | some r2=>
      rw[hb]at this; have h2:=Af this hg; have e:b.kd (.oc o j)=(match r2[j]? with | some p=>p | none=> .D):=by
       simp only[B.kd,B.get,hb]; cases r2[j]? <;>rfl
      rw[e]; exact h2
   | _=>cases hg

def Cv(F:FA)(b b':B):Prop:= ∀x,Ag F b x→Ag F b' x∧ ∀g0 w0 a w,Sim g0 w0 (b.S F.n x) a w→Sim g0 w0 (b'.S F.n x) a w
theorem Cv.refl(F:FA)(b:B):Cv F b b:=fun _ h=>⟨h,fun _ _ _ _ h=>h⟩
theorem Cv.trans{F:FA}{a b c:B}(h:Cv F a b)(k:Cv F b c):Cv F a c:=fun x hA=>by
 obtain⟨h1,h2⟩:=h x hA; obtain⟨k1,k2⟩:=k x h1; exact⟨k1,fun g0 w0 a w hs=>k2 g0 w0 a w (h2 g0 w0 a w hs)⟩

theorem Lx{a b:K}(h:a.lo b=true)(hb:b≠ .D):a≠ .D:=fun e=>by subst e; cases b<;>simp [K.lo]at h hb

theorem DL{F:FA}{b' b:B}(h:leB b' b=true):Cv F b (b'.nrm F):=fun x hA=>by
 obtain⟨h1,h2,h3⟩:=LU h; have hA':Ag F b' x:=⟨fun i hi=>hA.sl i (h1 i hi),fun o ho=>hA.ob o (h2 o ho)⟩
 refine⟨hA'.nrm,fun g0 w0 a w hs=>hs.relax (Low.le hA' ⟨rfl,fun i hi=>oK (h1 i hi),fun o ho=>JJ (h2 o ho),fun l t _ _=>h3 l,fun i k xs _ _=>h3 _,fun i _ _ hf=>Lx (h3 _) hf⟩)⟩

def GN{α β:Type}(f:α→Option β):List α→Option β
 | []=>none
 | a::r=>match f a with | some b=>some b | none=>GN f r
theorem Bw{α β:Type}{f:α→Option β}: ∀ {l:List α} {b:β},GN f l=some b→ ∃a∈l,f a=some b
 | [],b,h=>by cases h
 | a::r,b,h=>by
  unfold GN at h; split at h
  ·rename_i b' hb; cases h; exact⟨a,z29,hb⟩
  ·obtain⟨a',h1,h2⟩:=Bw h; exact⟨a',z25 _ h1,h2⟩

def fzX(F:FA)(b:B)(d:Nat):List (Nat×Nat)→List Loc
 | []=> []
 | (i,t)::r=>(bif Nat.beq i d then(holds F b t).map fun m=> .s t m.1 m.2 else [])++fzX F b d r
def fzL(F:FA)(b:B):Option Nat→List Loc
 | some d=>(bif mem d F.fz then(holds F b d).map fun m=> .s d m.1 m.2 else [])++fzX F b d F.fx
 | none=> []
def IT(ds:List (Option Nat))(b:B):Option (Nat×Bool)→Bool
 | none=>true
 | some (j,_)=>match ds[j]? with
  | some (some t)=>b.has t
  | _=>true
def EW(F:FA)(b b1:B)(d:Option Nat):Bool:=match d with
 | some d=>Nat.blt d F.n&&leB (b1.filt fun i=> !(Nat.beq i d)) b&&b1.sl.all (fun p=>Nat.beq p.1 d|| !(aS d (aH (F.shOf p.1))))
 | none=>false

def QE(Sg:FuncId→List Sg)(F:FA)(b:B)(o:Oper)(c:Call)(v:Operand):Option B:=match mM F v with
 | .one (.fn f caps)=>GN (fun sg=>bif Nat.beq sg.np (c.args.toList.length+caps.length)&&Nat.beq sg.no (iN F c v).length then Nf F b sg c v o.dst (pZ F o.dst) (iN F c v)else none) (Sg f)
 | _=>none
def ioC(Sg:FuncId→List Sg)(F:FA)(b:B)(o:Oper)(c:Call)(v:Operand):Option B:=match mM F v with
 | .one (.fn f caps)=>GN (fun sg=>bif Nat.beq sg.np c.args.toList.length&&Nat.beq caps.length 0&&Nat.beq sg.no 0 then cIo F b sg c v o.dst else none) (Sg f)
 | _=>none
def cW(o:Oper):Option (Call×Operand):=match o.op with
 | .call c=>(match c.callee with | .value v=>some (c,v) | _=>none)
 | _=>none
def Nk(τ:TypeId→Option TI)(Sg:FuncId→List Sg)(F:FA)(b:B)(o:Oper):Option B:=match cW o with
 | some (c,v)=>bif xX F c then ioC Sg F b o c v else QE Sg F b o c v
 | none=>cOp τ F b o
def rI(τ:TypeId→Option TI)(Sg:FuncId→List Sg)(F:FA)(ds:List (Option Nat))(b:B)(o:Oper):Option B:=match Nk τ Sg F b o with
 | some b1=>bif IT ds b o.guard&&(match o.guard with | none=>true | some _=>EW F b (b1.frz F (fzL F b1 o.dst)) o.dst)then some ((b1.frz F (fzL F b1 o.dst)).nrm F)else none
 | none=>none
def No(τ:TypeId→Option TI)(Sg:FuncId→List Sg)(F:FA)(ds:List (Option Nat)):B→List Oper→Option B
 | b,[]=>some b
 | b,o::r=>match rI τ Sg F ds b o with | some b1=>No τ Sg F ds b1 r | none=>none

theorem LX{F:FA}(L:List Loc)(b:B):Cv F b (b.frz F L):=fun x hA=>by
 obtain⟨h1,h2⟩:=QC (n:=F.n) L hA; exact⟨h1,fun g0 w0 a w hs=>h2 hs⟩

theorem Tk{F:FA}{b b1:B}{x:D}{d:Option Nat}(hA:Ag F b x)(h:EW F b b1 d=true):Ag F (b1.nrm F) (qI x d)∧ ∀g0 w0 a w,Sim g0 w0 (b.S F.n x) a w→Sim g0 w0 ((b1.nrm F).S F.n (qI x d)) (a.put d undef) w:=by
 cases d with
 | none=>cases h
 | some d=>
  simp only[EW,z7]at h; obtain⟨⟨h0,h1⟩,h2⟩:=h; obtain⟨q1,q2,q3⟩:=LU h1; have hhas: ∀i,i≠d→b1.has i=true→b.has i=true:=fun i e hi=>q1 i (by rw[dT,hi,cU e]; rfl)
  have hroot: ∀i,i≠d→b1.has i=true→aS d (aH (F.shOf i))=false:=fun i e hi=>by
   simp only[B.has]at hi; cases hl:cQ i b1.sl with
   | none=>rw[hl]at hi; cases hi
   | some κ=>
    have:=z15.1 h2 _ (fX hl); simp only[cU e,z54]at this; simpa using this
  have hkd: ∀i k j,i≠d→(b.kd (.s i k j)).lo (b1.kd (.s i k j))=true:=fun i k j e=>by
   have:=q3 (.s i k j); rwa[fF (by rw[cU e]; rfl)]at this
  have hA1:Ag F b1 (qI x (some d)):=by
   refine⟨fun i hi=> ?_,fun o ho=>hA.ob o (q2 o ho)⟩
   by_cases e:i=d
   ·subst e; left; simp [qI,D.put]
   ·have:=hA.sl i (hhas i e hi)
    simpa [qI,D.put,e]using this
  refine⟨hA1.nrm,fun g0 w0 a w hs=> ?_⟩
  obtain⟨g,hs⟩:=hs; have h3:=hs.set (u:=undef) (r:= .tup []) (κ:=fun _ _=> .D) (cD h0) ⟨#[],rfl,rfl,fun k x hx=>by simp at hx⟩ (fun h=>absurd rfl h)
  refine⟨g,h3.relax (Low.le hA1 ⟨rfl,fun i hi=> ?_,fun o ho=>JJ (n:=F.n) (q2 o ho),fun l t hL ht=> ?_,fun i k xs hi hx=> ?_,fun i hi hr hf=> ?_⟩)⟩
  ·by_cases e:i=d
   ·subst e; simp [St.put,qI,D.put]
   ·simp only[St.put,qI,D.put,z13 e]; exact oK (hhas i e hi)
  ·cases l with
   | s i k j=>
    by_cases e:i=d
    ·subst e
     exfalso
     simp [D.at,atL,qI,D.put,V.leaf]at ht
    ·have hf:((b.S F.n x).put d (.tup []) (fun _ _=> .D)).fl (.s i k j)=b.kd (.s i k j):=by
      simp only[St.put,z13 e]; rw[z13]
      ·rfl
      ·rintro ⟨_,_,h5⟩
       rw[oK (hhas i e hL)]at h5; rcases hA.sl i (hhas i e hL)with e2 | e2
       ·rw[e2]at h5; cases h5
       ·rw[dK e2,hroot i e hL]at h5; cases h5
     rw[hf]; exact hkd i k j e
   | oc o j=>exact q3 (.oc o j)
   | _=>cases hL
  ·by_cases e:i=d
   ·subst e
    simp [qI,D.put,V.comp]at hx
   ·have hf:((b.S F.n x).put d (.tup []) (fun _ _=> .D)).fl (.s i k 0)=b.kd (.s i k 0):=by
     simp only[St.put,z13 e]; rw[z13]
     ·rfl
     ·rintro ⟨_,_,h5⟩
      rw[oK (hhas i e hi)]at h5; rcases hA.sl i (hhas i e hi)with e2 | e2
      ·rw[e2]at h5; cases h5
      ·rw[dK e2,hroot i e hi]at h5; cases h5
    rw[hf]; exact hkd i k 0 e
  ·by_cases e:i=d
   ·subst e
    exact absurd (show aH ((qI x (some i)).sl i)= .none by simp [qI,D.put,aH]) hr
   ·have hf2:((b.S F.n x).put d (.tup []) (fun _ _=> .D)).fl (.s i 0 0)=b.kd (.s i 0 0):=by
     simp only[St.put,z13 e]; rw[z13]
     ·rfl
     ·rintro ⟨_,_,h5⟩
      rw[oK (hhas i e hi)]at h5; rcases hA.sl i (hhas i e hi)with e2 | e2
      ·rw[e2]at h5; cases h5
      ·rw[dK e2,hroot i e hi]at h5; cases h5
    rw[hf2]; exact Lx (hkd i 0 0 e) hf
end Go.Own

namespace Go.Own
open Go.RowKit

structure Eff where
  d:Option Nat
  u:V
  ob:Nat→Option (Option (List T))
def Eff.on(E:Eff)(x:D):D:=
  { sl:=fun i=>if E.d=some i then E.u else x.sl i
    ob:=fun o=>match E.ob o with | some c=>c | none=>x.ob o }
def Eff.put(d:Nat)(u:V):Eff:=⟨some d,u,fun _=>none⟩
def Eff.skip(d:Option Nat):Eff:=⟨d, .tup [],fun _=>none⟩
def Eff.new(d:Nat)(u:V)(cs:List T):Eff:=⟨some d,u,fun o=>if o=d then some (some cs)else none⟩
def Eff.call(d nd:Option Nat)(os:List Nat)(y:D):Eff:=⟨d,(y.sl 0).to (rX os nd),fun o=>match oV os nd o with | some oc=>some (y.ob oc) | none=>none⟩

theorem D.ext{x y:D}(h1: ∀i,x.sl i=y.sl i)(h2: ∀o,x.ob o=y.ob o):x=y:=by
  cases x; cases y; simp only[D.mk.injEq]; exact⟨funext h1,funext h2⟩

theorem Eff.put_on(d:Nat)(u:V)(x:D):(Eff.put d u).on x=x.put d u:=D.ext (fun i=>by
  simp only[Eff.on,Eff.put,D.put,z10]; by_cases e:d=i
  · rw[z19 e,z19 e.symm]
  · rw[z13 e,z13 (fun h=>e h.symm)]) (fun _=>rfl)
theorem Eff.skip_on(d:Option Nat)(x:D):(Eff.skip d).on x=qI x d:=D.ext (fun i=>by
  cases d with
  | none=>simp [Eff.on,Eff.skip,qI]
  | some d=>
    simp only[Eff.on,Eff.skip,qI,D.put,z10]; by_cases e:d=i
    · rw[z19 e,z19 e.symm]
    · rw[z13 e,z13 (fun h=>e h.symm)]) (fun _=>by cases d<;>rfl)
theorem Eff.new_on(d:Nat)(u:V)(cs:List T)(x:D):(Eff.new d u cs).on x=(x.put d u).setO d cs:=D.ext (fun i=>by
  simp only[Eff.on,Eff.new,D.put,D.setO,z10]; by_cases e:d=i
  · rw[z19 e,z19 e.symm]
  · rw[z13 e,z13 (fun h=>e h.symm)]) (fun o=>by
  simp only[Eff.on,Eff.new,D.put,D.setO]; by_cases e:o=d
  · rw[z19 e,z19 e]
  · rw[z13 e,z13 e])
theorem Eff.call_on(d nd:Option Nat)(os:List Nat)(y x:D):(Eff.call d nd os y).on x=x.call d nd os y:=D.ext (fun _=>rfl) (fun o=>by
  simp only[Eff.on,Eff.call,D.call]; cases oV os nd o<;>rfl)

def qA(x y:D)(v:Operand):Prop:=ev y.sl v=ev x.sl v∧(match ev x.sl v with
  | .one (.ptr ob _)=>y.ob ob=x.ob ob
  | .one (.pp l _ _ _)=>y.at l=x.at l
  | .one (.al l _)=>y.at l=x.at l
  | _=>True)

theorem qA.evD{x y:D}{v:Operand}(h:qA x y v):evD y v=evD x v:=by
  unfold Own.evD; rw[h.1]; have h2:=h.2; unfold uU; split
  · rename_i l p e
    rw[e]at h2; have h2:atL y.sl y.ob l=atL x.sl x.ob l:=h2; rw[h2]
  · rfl

section
variable {τ:TypeId→Option TI} {F:FA} {x y x1:D} {o:Oper}

def pV(f:D→Option D)(x y x1:D)(d:Nat):Prop:= ∃u,x1=x.put d u∧f y=some (y.put d u)

theorem fD{d:Nat}{v:V}{f:D→Option D}(h:qG F x d v=some x1)(hy:f y=qG F y d v):pV f x y x1 d:=by
  obtain⟨h1,rfl⟩:=bU h; exact⟨v,rfl,by rw[hy]; unfold qG; rw[h1]; rfl⟩

theorem Ec{d:Nat}{v:Operand}(hs:ev y.sl v=ev x.sl v)(h:xY F x d v=some x1):pV (fun y=>xY F y d v) x y x1 d:=by
  unfold xY at h; obtain⟨hc,h⟩:=aI h; exact fD h (by simp only[xY,hs,hc,z17])
theorem Jy{d:Nat}{v:Operand}(hs:ev y.sl v=ev x.sl v)(h:zC F x d v=some x1):pV (fun y=>zC F y d v) x y x1 d:=by
  unfold zC at h; split at h<;>try cases h
  rename_i t; split at h<;>try cases h
  rename_i e; have h1:y.sl t=x.sl t:=hs; exact fD h (by simp only[zC,h1,e])
theorem Kd{d k:Nat}{v:Operand}(hs:qA x y v)(h:nN F x d k v=some x1):pV (fun y=>nN F y d k v) x y x1 d:=by
  unfold nN at h; split at h<;>try cases h
  rename_i t; split at h<;>try cases h
  rename_i ws e; split at h<;>try cases h
  rename_i w e2; have h1:y.sl t=x.sl t:=hs.1; exact fD h (by simp only[nN,h1,e,e2])
theorem Qa{d:Nat}{c v z:Operand}(h1:qA x y c)(h2:qA x y v)(h3:qA x y z)(h:DC F x d c v z=some x1):pV (fun y=>DC F y d c v z) x y x1 d:=by
  unfold DC at h; split at h<;>try cases h
  all_goals
    rename_i e; split at h<;>try cases h
    rename_i e2; obtain⟨hc,h⟩:=aI h; exact fD h (by simp only[DC,h1.1,h2.1,h3.1,e,e2,hc,z17])
theorem Jv{d:Nat}{s:TypeId}{v:Operand}{f:Nat}(hs:ev y.sl v=ev x.sl v)(h:tF τ F x d s v f=some x1):pV (fun y=>tF τ F y d s v f) x y x1 d:=by
  unfold tF at h; split at h<;>try cases h
  rename_i e; split at h<;>try cases h
  rename_i e2; split at h<;>try cases h
  rename_i e3; exact fD h (by simp only[tF,hs,e,e2,e3])
theorem PR{d:Nat}{v:Operand}(hs:ev y.sl v=ev x.sl v)(h:KF F x d v=some x1):pV (fun y=>KF F y d v) x y x1 d:=by
  unfold KF at h; split at h<;>try cases h
  all_goals
    rename_i e; exact fD h (by simp only[KF,hs,e])
theorem Qw{d:Nat}{f:FuncId}{caps:Array Operand}(hs: ∀v∈caps.toList,qA x y v)(h:HL F x d f caps=some x1):pV (fun y=>HL F y d f caps) x y x1 d:=by
  unfold HL at h; split at h<;>try cases h
  rename_i e; have:caps.toList.map (ev y.sl)=caps.toList.map (ev x.sl):=z49 fun v hv=>(hs v hv).1
  exact fD h (by simp only[HL,this,e])
theorem QX{d:Nat}{op:Op}(hs: ∀v∈op.operands,qA x y v)(h:mU τ F x d op=some x1):pV (fun y=>mU τ F y d op) x y x1 d:=by
  unfold mU at h; split at h<;>try cases h
  rename_i e; exact fD h (by simp only[mU,vU op (fun v hv=>(hs v hv).evD),e])
theorem Mu{d:Nat}{t:TypeId}{v i:Operand}(h1:qA x y v)(h2:qA x y i)(h:pQ τ F x d t v i=some x1):pV (fun y=>pQ τ F y d t v i) x y x1 d:=by
  unfold pQ at h; split at h<;>try cases h
  rename_i s e k n es e0 e1 e2; split at h<;>try cases h
  rename_i row e4; exact fD h (by simp only[pQ,h1.1,h2.1,e0,e1,e2,e4])
theorem Og{d:Nat}{t:TypeId}{v i:Operand}(h1:qA x y v)(h2:qA x y i)(h:nM τ F x d t v i=some x1):pV (fun y=>nM τ F y d t v i) x y x1 d:=by
  unfold nM at h; split at h<;>try cases h
  · rename_i e0 e1
    split at h<;>try cases h
    · rename_i l p e2
      split at h<;>try cases h
      rename_i es e3; split at h<;>try cases h
      rename_i e4; have h3:=h1.2; rw[e2]at h3; have h3:y.at l=x.at l:=h3; exact fD h (by simp only[nM,h1.1,h2.1,e0,e1,e2,h3,e3,e4])
    · rename_i es e2
      split at h<;>try cases h
      rename_i e4; exact fD h (by simp only[nM,h1.1,h2.1,e0,e1,e2,e4])
  · rename_i e0 e1
    split at h<;>try cases h
    rename_i e2 e3; split at h<;>try cases h
    rename_i e4; exact fD h (by simp only[nM,h1.1,h2.1,e0,e1,e2,e3]; rw[z19 e4])
theorem Qk{d:Nat}{t:TypeId}{v:Operand}{al:Bool}(h1:qA x y v)(h:pT τ F x d t v al=some x1):pV (fun y=>pT τ F y d t v al) x y x1 d:=by
  unfold pT at h; split at h<;>try cases h
  · rename_i e0 e1
    have h3:=h1.2; rw[e1]at h3; split at h<;>try cases h
    rename_i e2; simp only at h3; cases al with
    | true=>
      simp only[z17]at h; obtain⟨hc,h⟩:=aI h; exact fD h (by simp only[pT,h1.1,e0,e1,h3,e2,z17,hc])
    | false=>
      simp only[z12]at h; split at h<;>try cases h
      rename_i e3; exact fD h (by simp only[pT,h1.1,e0,e1,h3,e2,z12,e3])
  · rename_i e0 e1
    split at h<;>try cases h
    rename_i e2; exact fD h (by simp only[pT,h1.1,e0,e1,e2])
  · rename_i l p n j e0 e1
    have h3:=h1.2; rw[e1]at h3; have h3:y.at l=x.at l:=h3; split at h<;>try cases h
    rename_i e2; split at h<;>try cases h
    rename_i e3; cases al with
    | true=>
      simp only[z17]at h; obtain⟨hc,h⟩:=aI h; exact fD h (by simp only[pT,h1.1,e0,e1,h3,e2,e3,z17,hc])
    | false=>
      simp only[z12]at h; split at h<;>try cases h
      rename_i e4; exact fD h (by simp only[pT,h1.1,e0,e1,h3,e2,e3,z12,e4])
theorem NG{d:Nat}{t u:TypeId}{v z:Operand}(h1:qA x y v)(h2:qA x y z)(h:qU τ F x d t u v z=some x1):pV (fun y=>qU τ F y d t u v z) x y x1 d:=by
  unfold qU at h; split at h<;>try cases h
  rename_i e0; split at h<;>try cases h
  rename_i e1 e2 e3; obtain⟨hc,h⟩:=aI h; exact fD h (by simp only[qU,h1.1,h2.1,e0,e1,e2,e3,hc,z17])
theorem UA{d:Nat}{t:TypeId}{n:Nat}{parts:Array (Nat×Operand)}(hs: ∀v∈parts.toList.map (·.2),qA x y v)(h:LK τ F x d t n parts=some x1):pV (fun y=>LK τ F y d t n parts) x y x1 d:=by
  unfold LK at h; split at h<;>try cases h
  rename_i e0; split at h<;>try cases h
  rename_i e1 e2; obtain⟨hc,h⟩:=aI h; have:(parts.toList.map (·.2)).map (ev y.sl)=(parts.toList.map (·.2)).map (ev x.sl):=z49 fun v hv=>(hs v hv).1
  exact fD h (by simp only[LK,this,e0,e1,e2,hc,z17])
theorem Qh{d:Nat}{t:TypeId}{v z:Operand}(h1:qA x y v)(h2:qA x y z)(h:DD τ F x d t v z=some x1):pV (fun y=>DD τ F y d t v z) x y x1 d:=by
  unfold DD at h; split at h<;>try cases h
  rename_i e0; split at h<;>try cases h
  rename_i e1 e2 e3; split at h<;>try cases h
  rename_i e4; exact fD h (by simp only[DD,h1.1,h2.1,e0,e1,e2,e3]; rw[z19 e4])
theorem PB{d:Nat}{t:TypeId}{parts:Array (Nat×Operand)}(hs: ∀v∈parts.toList.map (·.2),qA x y v)(h:vP τ F x d t parts=some x1):pV (fun y=>vP τ F y d t parts) x y x1 d:=by
  unfold vP at h; split at h<;>try cases h
  rename_i e0; split at h<;>try cases h
  rename_i e1; split at h<;>try cases h
  rename_i e2; have:parts.toList.map (fun p=>(p.1,ev y.sl p.2))=parts.toList.map (fun p=>(p.1,ev x.sl p.2)):=z49 fun p hp=>by rw[(hs p.2 (z51.2 ⟨p,hp,rfl⟩)).1]
  exact fD h (by simp only[vP,this,e0,e1,e2])

def NL(o:Oper):List Nat:=match o.dst,o.op with
  | some d, .alloc _=> [d]
  | some d, .box _ _=> [d]
  | _,_=> []
def uQ(o:Oper):Bool:=match o.op with | .store _ _ _=>true | _=>false
def isTk(F:FA)(o:Oper):Bool:=match o.dst,o.op with
  | some d, .load _ v=>mem d F.tk&&(!(mem d F.al)&&Hp F v)
  | _,_=>false
def noTk(F:FA)(x:D)(o:Oper):Prop:= ∀d t v,o.dst=some d→o.op= .load t v→(mem d F.tk&&(!(mem d F.al)&&gM (ev x.sl v)))=false

theorem pV.eff{f:D→Option D}{d:Nat}(h:pV f x y x1 d)(hd:o.dst=some d)(hf:f y=dOp τ F y o): ∃E:Eff,E.d=o.dst∧(∀z,(E.ob z).isSome=true→z∈NL o)∧x1=E.on x∧dOp τ F y o=some (E.on y):=by
  obtain⟨u,rfl,h2⟩:=h; exact⟨Eff.put d u,hd.symm,(fun z hz=>by cases hz),(Eff.put_on d u x).symm,(by rw[←hf,h2,Eff.put_on])⟩

theorem Ox(h:dOp τ F x o=some x1)(hst:uQ o=false)(htk:noTk F x o)(hs: ∀v∈o.op.operands,qA x y v): ∃E:Eff,E.d=o.dst∧(∀z,(E.ob z).isSome=true→z∈NL o)∧x1=E.on x∧dOp τ F y o=some (E.on y):=by
  have h0:=h; unfold dOp at h; cases hd:o.dst with
  | none=>
    rw[hd]at h; simp only at h; split at h<;>try cases h
    rename_i ho; rw[uQ,ho]at hst; cases hst
  | some d=>
    rw[hd]at h; simp only at h; rw[←hd]; have hr: ∀op,o.op=op→(∀y,dOp τ F y o=mU τ F y d op)→mU τ F x d op=some x1→ ∃E:Eff,E.d=o.dst∧(∀z,(E.ob z).isSome=true→z∈NL o)∧x1=E.on x∧dOp τ F y o=some (E.on y):=fun op e1 e2 e3=>
      pV.eff (QX (y:=y) (by rw[←e1]; exact hs) e3) hd (e2 y).symm
    cases ho:o.op with
    | assign v=>rw[ho]at h hs; exact(Ec (hs v (by simp [Op.operands])).1 h).eff hd (by simp only[dOp,hd,ho])
    | move v=>
      rw[ho]at h hs; simp only at h; cases hm:mem d F.al with
      | true=>rw[hm]at h; exact(Jy (hs v (by simp [Op.operands])).1 h).eff hd (by simp only[dOp,hd,ho,hm,z17])
      | false=>rw[hm]at h; exact(Ec (hs v (by simp [Op.operands])).1 h).eff hd (by simp only[dOp,hd,ho,hm,z12])
    | extract v k=>rw[ho]at h hs; exact(Kd (hs v (by simp [Op.operands])) h).eff hd (by simp only[dOp,hd,ho])
    | pick c a b=>rw[ho]at h hs; exact(Qa (hs c (by simp [Op.operands])) (hs a (by simp [Op.operands])) (hs b (by simp [Op.operands])) h).eff hd (by simp only[dOp,hd,ho])
    | fieldAddr s v f=>rw[ho]at h hs; exact(Jv (hs v (by simp [Op.operands])).1 h).eff hd (by simp only[dOp,hd,ho])
    | nilCheck v=>rw[ho]at h hs; exact(PR (hs v (by simp [Op.operands])).1 h).eff hd (by simp only[dOp,hd,ho])
    | makeFunc fn first caps=>
      rw[ho]at h hs; cases fn with
      | func f=>
        simp only at h; obtain⟨hf,h⟩:=aI h; exact(Qw (fun v hv=>hs v (by simp [Op.operands]; exact .inr (by simpa using hv))) h).eff hd (by simp only[dOp,hd,ho,hf,z17])
      | _=>simp only[mU,gL]at h; cases h
    | indexAddr t v i=>
      rw[ho]at h hs; have hsv:=hs v (by simp [Op.operands])
      simp only at h; cases hm:(gM (F.shOf d)&&pS (ev x.sl v))with
      | true=>
        have hm2:(gM (F.shOf d)&&pS (ev y.sl v))=true:=by rw[hsv.1]; exact hm
        rw[hm]at h; exact(Mu hsv (hs i (by simp [Op.operands])) h).eff hd (by simp only[dOp,hd,ho,hm2,z17])
      | false=>
        have hm2:(gM (F.shOf d)&&pS (ev y.sl v))=false:=by rw[hsv.1]; exact hm
        rw[hm]at h; exact(Og hsv (hs i (by simp [Op.operands])) h).eff hd (by simp only[dOp,hd,ho,hm2,z12])
    | load t v=>
      rw[ho]at h hs; have hm:=htk d t v hd ho; have hsv:=hs v (by simp [Op.operands])
      have hm2:(mem d F.tk&&(!(mem d F.al)&&gM (ev y.sl v)))=false:=by rw[hsv.1]; exact hm
      simp only[hm,z12]at h; exact(Qk hsv h).eff hd (by simp only[dOp,hd,ho,hm2,z12])
    | alloc t=>
      rw[ho]at h; simp only at h; unfold Aa at h; split at h<;>try cases h
      rename_i i e; obtain⟨hc,h⟩:=aI h; cases h; refine⟨Eff.new d (.one (.ptr d 0)) i.zero,hd.symm,fun z hz=> ?_,(Eff.new_on _ _ _ x).symm, ?_⟩
      · simp only[NL,hd,ho,z64]
        simp only[Eff.new]at hz; by_cases e:z=d
        · exact e
        · rw[z13 e]at hz; cases hz
      · simp only[dOp,hd,ho,Aa,e,hc,z17,Eff.new_on]
    | box t v=>
      rw[ho]at h hs; simp only at h; unfold Nv at h; split at h<;>try cases h
      rename_i t'; split at h<;>try cases h
      rename_i xs e; obtain⟨hc,h⟩:=aI h; cases h; have h1:y.sl t'=x.sl t':=(hs (.tmp t') (by simp [Op.operands])).1
      refine⟨Eff.new d (.one (.ptr d 0)) xs,hd.symm,fun z hz=> ?_,(Eff.new_on _ _ _ x).symm, ?_⟩
      · simp only[NL,hd,ho,z64]
        simp only[Eff.new]at hz; by_cases e:z=d
        · exact e
        · rw[z13 e]at hz; cases hz
      · simp only[dOp,hd,ho,Nv,h1,e,hc,z17,Eff.new_on]
    | buildSlice t n parts=>rw[ho]at h hs; exact(UA (fun v hv=>hs v (by simpa [Op.operands]using hv)) h).eff hd (by simp only[dOp,hd,ho])
    | makeSlice t v z=>rw[ho]at h hs; exact(Qh (hs v (by simp [Op.operands])) (hs z (by simp [Op.operands])) h).eff hd (by simp only[dOp,hd,ho])
    | build t parts=>rw[ho]at h hs; exact(PB (fun v hv=>hs v (by simpa [Op.operands]using hv)) h).eff hd (by simp only[dOp,hd,ho])
    | call c=>
      rw[ho]at h hs; simp only at h; split at h
      · rename_i v z t u e1 e2 e3
        have hm: ∀w,w∈c.args.toList→qA x y w:=fun w hw=>hs w (by simp only[Op.operands,Call.operands]; simp; exact .inr (by simpa using hw))
        exact(NG (hm v (by rw[e2]; simp)) (hm z (by rw[e2]; simp)) h).eff hd (by simp only[dOp,hd,ho,e1,e2,e3])
      · rename_i hne
        refine hr (.call c) ho (fun y=> ?_) h
        simp only[dOp,hd,ho]
    | store t v z=>rw[ho]at h; simp only[mU,gL]at h; cases h
    | binOp a b c d' e=>rw[ho]at h; exact hr _ ho (fun y=>by simp only[dOp,hd,ho]) h
    | unOp a b c=>rw[ho]at h; exact hr _ ho (fun y=>by simp only[dOp,hd,ho]) h
    | convert a b c=>rw[ho]at h; exact hr _ ho (fun y=>by simp only[dOp,hd,ho]) h
    | index a b c=>rw[ho]at h; exact hr _ ho (fun y=>by simp only[dOp,hd,ho]) h
    | slice a b c d' e=>rw[ho]at h; exact hr _ ho (fun y=>by simp only[dOp,hd,ho]) h
    | _=>rw[ho]at h; simp only[mU,gL]at h; cases h
def Ho(o:Oper):Bool:=match o.op with
  | .move _=>true
  | .assign _=>true
  | .nilCheck _=>true
  | .fieldAddr _ _ _=>true
  | _=>false
def xZ(l:Bool)(x y:D)(v:Operand):Prop:=match l with
  | true=>ev y.sl v=ev x.sl v
  | false=>qA x y v
theorem xZ.ev{l:Bool}{v:Operand}(h:xZ l x y v):ev y.sl v=ev x.sl v:=by
  cases l with
  | true=>exact h
  | false=>exact h.1
theorem MH(h:dOp τ F x o=some x1)(hst:uQ o=false)(htk:noTk F x o)(hs: ∀v∈o.op.operands,xZ (Ho o) x y v): ∃E:Eff,E.d=o.dst∧(∀z,(E.ob z).isSome=true→z∈NL o)∧x1=E.on x∧dOp τ F y o=some (E.on y):=by
  cases hl:Ho o with
  | false=>
    rw[hl]at hs; exact Ox h hst htk hs
  | true=>
    rw[hl]at hs; have hs: ∀v∈o.op.operands,Own.ev y.sl v=Own.ev x.sl v:=hs; unfold dOp at h; cases hd:o.dst with
    | none=>
      rw[hd]at h; simp only at h; split at h<;>try cases h
      rename_i ho; unfold Ho at hl; rw[ho]at hl; cases hl
    | some d=>
      rw[hd]at h; simp only at h; rw[←hd]; cases ho:o.op with
      | assign v=>rw[ho]at h hs; exact(Ec (hs v (by simp [Op.operands])) h).eff hd (by simp only[dOp,hd,ho])
      | move v=>
        rw[ho]at h hs; simp only at h; cases hm:mem d F.al with
        | true=>rw[hm]at h; exact(Jy (hs v (by simp [Op.operands])) h).eff hd (by simp only[dOp,hd,ho,hm,z17])
        | false=>rw[hm]at h; exact(Ec (hs v (by simp [Op.operands])) h).eff hd (by simp only[dOp,hd,ho,hm,z12])
      | fieldAddr s v f=>rw[ho]at h hs; exact(Jv (hs v (by simp [Op.operands])) h).eff hd (by simp only[dOp,hd,ho])
      | nilCheck v=>rw[ho]at h hs; exact(PR (hs v (by simp [Op.operands])) h).eff hd (by simp only[dOp,hd,ho])
      | _=>unfold Ho at hl; rw[ho]at hl; cases hl
end
end Go.Own

namespace Go.Own
open Go.RowKit

def SD(P:Program)(τ:TypeId→Option TI)(Sgs:FuncId→List Sg)(F:FA)(ds:List (Option Nat))(o:Oper)(x x1:D):Prop:=
 (bE ds x o.guard=some false∧x1=qI x o.dst)∨
 (bE ds x o.guard=some true∧dOp τ F x o=some x1)∨
 (bE ds x o.guard=some true∧ ∃c v f caps ob ob' r nw,o.op= .call c∧c.callee= .value v∧xX F c=false∧ev x.sl v= .one (.fn f caps)∧c.args.toList.all (fun v=>fY (ev x.sl v))=true∧ob.map some=(iN F c v).map x.ob∧
  (∀sg∈Sgs f,sg.np=(inV x c caps (iN F c v)).length→sg.no=ob.length→TC P f sg (inV x c caps (iN F c v)) ob r none ob' nw)∧
  bJ F (x.call o.dst (pZ F o.dst) (iN F c v) (DR r none ob' nw)) o.dst (pZ F o.dst) (iN F c v)=true∧x1=x.call o.dst (pZ F o.dst) (iN F c v) (DR r none ob' nw))∨
 (bE ds x o.guard=some true∧ ∃c v f r t xs l p x0 es es',o.op= .call c∧c.callee= .value v∧xX F c=true∧ev x.sl v= .one (.fn f [])∧c.args.toList.all (fun v=>fY (ev x.sl v))=true∧c.args.toList= .tmp t::xs∧x.sl t= .one (.al l p)∧x.at l=some x0∧nav x0 p=some (.sl es)∧
  (∀sg∈Sgs f,sg.np=(inV x c [] []).length→sg.no=0→TC P f sg (inV x c [] []) [] r (some (.sl es')) [] none)∧bJ F (x.call o.dst none [] (DR r (some (.sl es')) [] none)) o.dst none []=true∧x1=(x.call o.dst none [] (DR r (some (.sl es')) [] none)).upd l (cJ x0 p (.sl es')))
def NS(F:FA)(o:Oper):Bool:=match o.op with
 | .store _ v _=>(match mM F v with | .one (.ptr _ _)=>true | .one (.pp (.s _ _ _) _ _ _)=>true | .one (.pp (.oc _ _) _ _ _)=>true | _=>false)
 | _=>false
def stL(F:FA)(o:Oper):Option Loc:=match o.op with
 | .store _ v _=>(match mM F v with | .one (.pp l _ _ _)=>some l | _=>none)
 | _=>none
def rS(F:FA)(o:Oper):Option Nat:=match stL F o with
 | some (.s i _ _)=>some i
 | _=>none
def wD(F:FA)(o:Oper):Option Nat:=match o.dst with
 | some d=>some d
 | none=>rS F o
def Pm(F:FA)(o:Oper):Bool:=(uQ o&& !(NS F o))||(isTk F o||(match cW o with | some (c,_)=>xX F c | none=>false))

def QB(ds:List (Option Nat)):Option (Nat×Bool)→Option Nat
 | none=>none
 | some (j,_)=>match ds[j]? with
  | some (some t)=>some t
  | _=>none
def stO(F:FA)(o:Oper):List Nat:=match o.op with
 | .store _ v _=>(match mM F v with | .one (.ptr ob _)=> [ob] | .one (.pp (.oc ob _) _ _ _)=> [ob] | _=> [])
 | _=> []
def wO(F:FA)(o:Oper):List Nat:=match cW o with
 | some (c,v)=>uK (iN F c v) (pZ F o.dst)
 | none=>NL o++stO F o
def rO(F:FA)(o:Oper):List Nat:=match cW o with
 | some (c,v)=>iN F c v
 | none=>stO F o

def Nt(F:FA)(x:D):Operand→Prop
 | .tmp t=>x.sl t= .tup []∨fits (x.sl t) (F.shOf t)=true
 | _=>True
def CZ(F:FA)(x:D)(o:Oper):Prop:= ∀v∈o.op.operands,Nt F x v

def vR(d:Option Nat)(wo:List Nat):Loc→Bool
 | .s i _ _=>decide (d=some i)
 | .oc o _=>mem o wo
 | _=>false
def Kv(F:FA)(d:Option Nat)(wo:List Nat)(v:Operand):Bool:=
 (match v with | .tmp t=>decide (d=some t) | _=>false)||
 (match mM F v with
  | .one (.ptr ob _)=>mem ob wo
  | .one (.pp l _ _ _)=>vR d wo l
  | .one (.al l _)=>vR d wo l
  | _=>false)
def Kn(d:Option Nat)(v:Operand):Bool:=match v with | .tmp t=>decide (d=some t) | _=>false
def Lb(l:Bool)(F:FA)(d:Option Nat)(wo:List Nat)(v:Operand):Bool:=bif l then Kn d v else Kv F d wo v
theorem CT{l:Bool}{F:FA}{d:Option Nat}{wo:List Nat}{v:Operand}(h:Lb l F d wo v=false):Kn d v=false:=by
 cases l with
 | true=>exact h
 | false=>
  have h:Kv F d wo v=false:=h; unfold Kv at h; simp only[z58]at h; exact h.1
def BP(F:FA)(ds:List (Option Nat))(a b:Oper):Bool:=
 b.op.operands.toList.any (Lb (Ho b) F (wD F a) (wO F a))||(match QB ds b.guard with | some t=>decide (wD F a=some t) | none=>false)||((rO F b).any (fun z=>mem z (wO F a))||(match rS F b with | some t=>decide (wD F a=some t) | none=>false))
def Na(F:FA)(ds:List (Option Nat))(a b:Oper):Bool:=
 !(Pm F a)&& !(Pm F b)&&(match wD F a with | some d=> !(decide (wD F b=some d)) | none=>true)&& !(BP F ds a b)&& !(BP F ds b a)&&(wO F a).all (fun z=> !(mem z (wO F b)))

theorem Rb{z:Nat}: ∀ {l:List Nat},z∈l→mem z l=true
 | y::r,h=>by
  simp only[mem,z50]; cases h with
  | head=>exact .inl (z42 _)
  | tail _ h=>exact .inr (Rb h)

section
variable {P:Program} {τ:TypeId→Option TI} {Sgs:FuncId→List Sg} {F:FA} {ds:List (Option Nat)} {x y x1 x2:D} {o:Oper}

theorem Ng{E:Eff}{wd:Option Nat}{wo:List Nat}(hD: ∀d,E.d=some d→wd=some d)(hE: ∀z,(E.ob z).isSome=true→z∈wo){l:Loc}(h:vR wd wo l=false):(E.on x).at l=x.at l:=by
 cases l with
 | s i k j=>
  simp only[vR,z39]at h; simp only[D.at,atL,Eff.on,z13 (fun e=>h (hD i e))]
 | oc ob j=>
  simp only[vR]at h; have:E.ob ob=none:=by
   cases he:E.ob ob with
   | none=>rfl
   | some c=>rw[Rb (hE ob (by rw[he]; rfl))]at h; cases h
  simp only[D.at,atL,Eff.on,this]
 | _=>rfl

theorem QQ{E:Eff}{wd:Option Nat}{wo:List Nat}(hD: ∀d,E.d=some d→wd=some d)(hE: ∀z,(E.ob z).isSome=true→z∈wo){v:Operand}(hf:Nt F x v)(h:Kv F wd wo v=false):qA x (E.on x) v:=by
 have hob: ∀ob,mem ob wo=false→(E.on x).ob ob=x.ob ob:=fun ob hm=>by
  have:E.ob ob=none:=by
   cases he:E.ob ob with
   | none=>rfl
   | some c=>rw[Rb (hE ob (by rw[he]; rfl))]at hm; cases hm
  simp only[Eff.on,this]
 simp only[Kv,z58]at h; cases v with
 | tmp t=>
  obtain⟨h1,h2⟩:=h; have h1:wd≠some t:=by simpa using h1
  have e0:(E.on x).sl t=x.sl t:=by simp only[Eff.on,z13 (fun e=>h1 (hD t e))]
  refine⟨e0, ?_⟩
  have h2:(match F.shOf t with | .one (.ptr ob _)=>mem ob wo | .one (.pp l _ _ _)=>vR wd wo l | .one (.al l _)=>vR wd wo l | _=>false)=false:=h2
  have hf:x.sl t= .tup []∨fits (x.sl t) (F.shOf t)=true:=hf; show match x.sl t with | .one (.ptr ob _)=>_ | .one (.pp l _ _ _)=>_ | .one (.al l _)=>_ | _=>True
  rcases hf with e | hf
  ·rw[e]; trivial
  ·split
   ·rename_i ob p e
    rw[e]at hf; cases hs:F.shOf t with
    | tup ws=>rw[hs]at hf; simp [Own.fits]at hf
    | one w=>
     rw[hs]at hf h2; cases w<;>simp [Own.fits,bP]at hf
     obtain⟨rfl,_⟩:=hf; exact hob _ h2
   ·rename_i l p i j e
    rw[e]at hf; cases hs:F.shOf t with
    | tup ws=>rw[hs]at hf; simp [Own.fits]at hf
    | one w=>
     rw[hs]at hf h2; cases w<;>simp [Own.fits,bP]at hf
     obtain⟨⟨rfl,_⟩,_⟩:=hf; exact Ng hD hE h2
   ·rename_i l p e
    rw[e]at hf; cases hs:F.shOf t with
    | tup ws=>rw[hs]at hf; simp [Own.fits]at hf
    | one w=>
     rw[hs]at hf h2; cases w<;>simp [Own.fits,bP]at hf
     obtain⟨rfl,_⟩:=hf; exact Ng hD hE h2
   ·trivial
 | const u=>
  refine⟨rfl, ?_⟩
  obtain⟨_,h2⟩:=h; show match bG u with | .one (.ptr ob _)=>_ | .one (.pp l _ _ _)=>_ | .one (.al l _)=>_ | _=>True
  have h2:(match bG u with | .one (.ptr ob _)=>mem ob wo | .one (.pp l _ _ _)=>vR wd wo l | .one (.al l _)=>vR wd wo l | _=>false)=false:=h2
  split
  ·rename_i e; rw[e]at h2; exact hob _ h2
  ·rename_i e; rw[e]at h2; exact Ng hD hE h2
  ·rename_i e; rw[e]at h2; exact Ng hD hE h2
  ·trivial
 | func f=>exact⟨rfl,trivial⟩
 | global i=>exact⟨rfl,trivial⟩

theorem qA.refl(x:D)(v:Operand):qA x x v:=⟨rfl,by split<;>trivial⟩
theorem qA.symm{v:Operand}(h:qA x y v):qA y x v:=by
 refine⟨h.1.symm, ?_⟩
 rw[h.1]; have h2:=h.2; split<;>rename_i e<;>first | trivial | (rw[e]at h2; exact h2.symm)

theorem xZ.refl(l:Bool)(x:D)(v:Operand):xZ l x x v:=by
 cases l with
 | true=>exact rfl
 | false=>exact qA.refl x v
theorem xZ.symm{l:Bool}{v:Operand}(h:xZ l x y v):xZ l y x v:=by
 cases l with
 | true=>exact Eq.symm h
 | false=>exact qA.symm h
theorem xZ.fit{l:Bool}{v:Operand}(h:xZ l x y v)(hf:Nt F x v):Nt F y v:=by
 cases v with
 | tmp t=>
  have e:y.sl t=x.sl t:=h.ev; show y.sl t= .tup []∨fits (y.sl t) (F.shOf t)=true; rw[e]; exact hf
 | _=>trivial
structure uL (F:FA) (ds:List (Option Nat)) (x y:D) (o:Oper):Prop where
 vs: ∀v∈o.op.operands,xZ (Ho o) x y v
 g: ∀t,QB ds o.guard=some t→y.sl t=x.sl t
 os: ∀z∈rO F o,y.ob z=x.ob z
 ps: ∀t,rS F o=some t→y.sl t=x.sl t

theorem uL.refl(x:D)(o:Oper):uL F ds x x o:=⟨fun v _=> .refl _ x v,fun _ _=>rfl,fun _ _=>rfl,fun _ _=>rfl⟩
theorem uL.symm(h:uL F ds x y o):uL F ds y x o:=⟨fun v hv=>(h.vs v hv).symm,fun t ht=>(h.g t ht).symm,fun z hz=>(h.os z hz).symm,fun t ht=>(h.ps t ht).symm⟩
theorem uL.fit(h:uL F ds x y o)(hf:CZ F x o):CZ F y o:=fun v hv=>(h.vs v hv).fit (hf v hv)

theorem uL.guard(h:uL F ds x y o):bE ds y o.guard=bE ds x o.guard:=by
 have hg:=h.g; cases hq:o.guard with
 | none=>rfl
 | some p=>
  obtain⟨j,w⟩:=p; rw[hq]at hg; simp only[QB]at hg; simp only[bE]; split
  ·rename_i t e
   rw[e]at hg; simp only at hg; rw[hg t rfl]
  ·rfl

theorem JO{a:Oper}{E:Eff}(hd: ∀d,E.d=some d→wD F a=some d)(hE: ∀z,(E.ob z).isSome=true→z∈wO F a)(hf:CZ F x o)(h:BP F ds a o=false):uL F ds x (E.on x) o:=by
 simp only[BP,z58]at h; obtain⟨⟨h1,h2⟩,h3,h4⟩:=h; refine⟨fun v hv=> ?_,fun t ht=> ?_,fun z hz=> ?_,fun t ht=> ?_⟩
 ·have h4:=TN.1 h1 v (by simpa using hv)
  have h5:Lb (Ho o) F (wD F a) (wO F a) v=false:=by simpa using h4
  cases hl:Ho o with
  | true=>
   have h6:=CT h5; cases v with
   | tmp t=>
    have h6:wD F a≠some t:=by simpa [Kn]using h6
    show(E.on x).sl t=x.sl t; simp only[Eff.on,z13 (fun e=>h6 (hd t e))]
   | _=>exact rfl
  | false=>
   rw[hl]at h5; exact QQ hd hE (hf v hv) h5
 ·rw[ht]at h2
  simp only[z39]at h2; simp only[Eff.on,z13 (fun e=>h2 (hd t e))]
 ·have:=TN.1 h3 z hz
  have hn:E.ob z=none:=by
   cases he:E.ob z with
   | none=>rfl
   | some c=>exact absurd (Rb (hE z (by rw[he]; rfl))) this
  simp only[Eff.on,hn]
 ·rw[ht]at h4
  simp only[z39]at h4; simp only[Eff.on,z13 (fun e=>h4 (hd t e))]

theorem uC{c:Call}{v:Operand}(ho:o.op= .call c)(hc:c.callee= .value v):cW o=some (c,v):=by
 unfold cW; rw[ho]; simp only[hc]
theorem uB(h:dOp τ F x o=some x1):cW o=none:=by
 unfold cW; split
 ·rename_i c ho
  split
  ·rename_i v hv
   exfalso
   unfold dOp at h; cases hd:o.dst with
   | none=>rw[hd,ho]at h; simp at h
   | some d=>
    rw[hd,ho]at h; simp only[hv]at h; simp only[mU,gL,hv]at h; cases h
  ·rfl
 ·rfl

theorem Md{os:List Nat}{nd:Option Nat}{z:Nat}{y:D}{d:Option Nat}(h:((Eff.call d nd os y).ob z).isSome=true):z∈uK os nd:=by
 simp only[Eff.call]at h; cases hi:oV os nd z with
 | none=>rw[hi]at h; cases h
 | some oc=>exact qP.1 (by rw[hi]; rfl)

theorem Fe{d nd:Option Nat}{os:List Nat}{r:D}:bJ F (y.call d nd os r) d nd os=bJ F (x.call d nd os r) d nd os:=by
 simp only[bJ]; congr 1
 ·cases d with
  | none=>rfl
  | some d=>simp [D.call]
 ·rw[TJ,z15,z15]
  have: ∀z∈uK os nd,(y.call d nd os r).ob z=(x.call d nd os r).ob z:=fun z hz=>by
   simp only[D.call]; cases hi:oV os nd z with
   | none=>have:=qP.2 hz; rw[hi]at this; cases this
   | some oc=>rfl
  exact⟨fun h z hz=>by rw[←this z hz]; exact h z hz,fun h z hz=>by rw[this z hz]; exact h z hz⟩

theorem Tq{v:Operand}{ob p:Nat}(hf:Nt F x v)(h:ev x.sl v= .one (.ptr ob p)):mM F v= .one (.ptr ob p):=by
 cases v with
 | tmp tt=>
  have h:x.sl tt= .one (.ptr ob p):=h; have hf:x.sl tt= .tup []∨fits (x.sl tt) (F.shOf tt)=true:=hf; rw[h]at hf; rcases hf with hf | hf
  ·cases hf
  ·show F.shOf tt=_
   cases hs:F.shOf tt with
   | tup ws=>rw[hs]at hf; simp [fits]at hf
   | one w=>
    rw[hs]at hf; cases w<;>simp [fits,bP]at hf
    rw[hf.1,hf.2]
 | const c=>exact h
 | func f=>cases h
 | global g=>cases h
theorem pp_sh{v:Operand}{l:Loc}{p:List (Nat×Nat)}{n j:Nat}(hf:Nt F x v)(h:ev x.sl v= .one (.pp l p n j)): ∃p' n' j',mM F v= .one (.pp l p' n' j'):=by
 cases v with
 | tmp tt=>
  have h:x.sl tt= .one (.pp l p n j):=h; have hf:x.sl tt= .tup []∨fits (x.sl tt) (F.shOf tt)=true:=hf; rw[h]at hf; rcases hf with hf | hf
  ·cases hf
  ·show ∃p' n' j',F.shOf tt=_
   cases hs:F.shOf tt with
   | tup ws=>rw[hs]at hf; simp [fits]at hf
   | one w=>
    rw[hs]at hf; cases w<;>simp [fits,bP]at hf
    rw[hf.1.1]; exact⟨_,_,_,rfl⟩
 | const c=>exact⟨_,_,_,h⟩
 | func f=>cases h
 | global g=>cases h
theorem MW(h:dOp τ F x o=some x1)(hst:NS F o=true)(hfit:CZ F x o)(hs: ∀v∈o.op.operands,qA x y v)(hos: ∀z∈stO F o,y.ob z=x.ob z)(hps: ∀t,rS F o=some t→y.sl t=x.sl t): ∃E:Eff,(∀d,E.d=some d→wD F o=some d)∧(∀z,(E.ob z).isSome=true→z∈stO F o)∧x1=E.on x∧dOp τ F y o=some (E.on y):=by
 unfold NS at hst; split at hst<;>try cases hst
 rename_i t v w ho; have h0:=h; unfold dOp at h; cases hd:o.dst with
 | some d=>rw[hd]at h; simp only at h; rw[ho]at h; simp only[mU,gL]at h; cases h
 | none=>
  rw[hd,ho]at h; simp only at h; have hfv:=hfit v (by rw[ho]; simp [Op.operands])
  have h1:=hs v (by rw[ho]; simp [Op.operands])
  have h2:=hs w (by rw[ho]; simp [Op.operands])
  split at h<;>try cases h
  ·rename_i i ob' p' xs hi hv hy
   have hsh:=Tq hfv hv; have e1:ev y.sl v= .one (.ptr ob' p'):=h1.1.trans hv; have e2:aT (ev y.sl w)=some xs:=by rw[h2.1]; exact hy
   have e3:y.ob ob'=x.ob ob':=by
    have:=h1.2; rw[hv]at this; exact this
   unfold qT at h; split at h<;>try cases h
   rename_i cells hcl; obtain⟨hc,h⟩:=aI h; cases h; have hon: ∀z:D,(Eff.on ⟨none, .tup [],fun o'=>if o'=ob' then some (some (cells.take p'++xs++cells.drop (p'+xs.length)))else none⟩ z)=z.setO ob' (cells.take p'++xs++cells.drop (p'+xs.length)):=fun z=>D.ext (fun i=>by simp [Eff.on,D.setO]) (fun i=>by
    simp only[Eff.on,D.setO]; by_cases e:i=ob'
    ·rw[z19 e,z19 e]
    ·rw[z13 e,z13 e])
   refine⟨⟨none, .tup [],fun o'=>if o'=ob' then some (some (cells.take p'++xs++cells.drop (p'+xs.length)))else none⟩,(fun d hd=>by cases hd),fun z hz=> ?_,(hon x).symm, ?_⟩
   ·simp only at hz
    by_cases e:z=ob'
    ·unfold stO; rw[ho]; simp only[hsh]; simp [e]
    ·rw[z13 e]at hz; cases hz
   ·rw[hon y]
    unfold dOp; rw[hd,ho]; simp only[hi,e1,e2,qT,e3,hcl,hc,z17]
  ·rename_i i l pp n j xs hi hv hy
   obtain⟨p',n',j',hsh⟩:=pp_sh hfv hv; have e1:ev y.sl v= .one (.pp l pp n j):=h1.1.trans hv; have e2:aT (ev y.sl w)=some xs:=by rw[h2.1]; exact hy
   have e3:y.at l=x.at l:=by
    have:=h1.2; rw[hv]at this; exact this
   have hstL:stL F o=some l:=by unfold stL; rw[ho]; simp only[hsh]
   unfold pP at h; split at h<;>try cases h
   rename_i x0 hx0; split at h<;>try cases h
   rename_i es hes; split at h<;>try cases h
   rename_i row hrow; obtain⟨hc,h⟩:=aI h; cases h; have hy2:dOp τ F y o=some (y.upd l (cJ x0 pp (.sl (es.set n (row.take j++xs++row.drop (j+xs.length)))))):=by
    unfold dOp; rw[hd,ho]; simp only[hi,e1,e2,pP,e3,hx0,hes,hrow,hc,z17]
   generalize cJ x0 pp (.sl (es.set n (row.take j++xs++row.drop (j+xs.length))))=q at hy2; rw[hsh]at hst; cases l with
   | s i0 k0 j0=>
    have e4:y.sl i0=x.sl i0:=hps i0 (by unfold rS; rw[hstL])
    have hon: ∀z:D,z.sl i0=x.sl i0→(Eff.on ⟨some i0,(x.sl i0).setLeaf k0 j0 q,fun _=>none⟩ z)=z.upd (.s i0 k0 j0) q:=fun z hz=>D.ext (fun i=>by
     simp only[Eff.on,D.upd,jS,z10]; by_cases e:i0=i
     ·subst e; rw[z19 rfl,z19 rfl,hz]
     ·rw[z13 e,z13 (fun e2=>e e2.symm)]) (fun i=>rfl)
    refine⟨⟨some i0,(x.sl i0).setLeaf k0 j0 q,fun _=>none⟩,fun d e=> ?_,(fun z hz=>by cases hz),(hon x rfl).symm,by rw[hon y e4]; exact hy2⟩
    cases e; unfold wD rS; rw[hd,hstL]
   | oc ob j0=>
    have hmem:ob∈stO F o:=by unfold stO; rw[ho]; simp only[hsh]; simp
    have e4:y.ob ob=x.ob ob:=hos ob hmem; have hon: ∀z:D,z.ob ob=x.ob ob→(Eff.on ⟨none, .tup [],fun o'=>if o'=ob then some ((x.ob ob).map (·.set j0 q))else none⟩ z)=z.upd (.oc ob j0) q:=fun z hz=>D.ext (fun i=>by simp [Eff.on,D.upd,jS]) (fun i=>by
     simp only[Eff.on,D.upd,rJ]; by_cases e:i=ob
     ·rw[z19 e,z19 e,e,hz]
     ·rw[z13 e,z13 e])
    refine⟨⟨none, .tup [],fun o'=>if o'=ob then some ((x.ob ob).map (·.set j0 q))else none⟩,(fun d e=>by cases e),(fun z hz=> ?_),(hon x rfl).symm,by rw[hon y e4]; exact hy2⟩
    simp only at hz; by_cases e:z=ob
    ·rw[e]; exact hmem
    ·rw[z13 e]at hz; cases hz
   | _=>cases hst
theorem LP{E:Eff}(h:E.d=o.dst): ∀d,E.d=some d→wD F o=some d:=fun d e=>by
 rw[h]at e; unfold wD; rw[e]
theorem SD.eff(h:SD P τ Sgs F ds o x x1)(hfit:CZ F x o)(hst:Pm F o=false)(hs:uL F ds x y o): ∃E:Eff,(∀d,E.d=some d→wD F o=some d)∧(∀z,(E.ob z).isSome=true→z∈wO F o)∧x1=E.on x∧SD P τ Sgs F ds o y (E.on y):=by
 rcases h with⟨hg,rfl⟩ | ⟨hg,h⟩ | ⟨hg,c,v,f,caps,ob,ob',r,nw,h1,h2,h0,h3,h4,h5,h6,h7,rfl⟩ | ⟨hg,c,v,f,r,t,xs,l,p,x0,es,es',h1,h2,h3,_⟩
 ·exact⟨Eff.skip o.dst,LP rfl,(fun z hz=>by cases hz),(Eff.skip_on _ x).symm, .inl ⟨by rw[hs.guard,hg],Eff.skip_on _ y⟩⟩
 ·cases hs2:uQ o with
  | false=>
   obtain⟨E,e1,e2,e3,e4⟩:=MH h hs2 (fun d t v hd ho=>by
    simp only[Pm,z58]at hst; have htk:=hst.2.1; unfold isTk at htk; rw[hd,ho]at htk; have htk:(mem d F.tk&&(!(mem d F.al)&&Hp F v))=false:=htk; cases hp:gM (ev x.sl v)with
    | false=>rw[z87,z87]
    | true=>
     obtain⟨l,p,n,j,e⟩:=FG hp; have:Hp F v=true:=by
      cases v with
      | tmp tt=>
       have hf:x.sl tt= .tup []∨fits (x.sl tt) (F.shOf tt)=true:=hfit (.tmp tt) (by rw[ho]; simp [Op.operands])
       have e:x.sl tt= .one (.pp l p n j):=e; rw[e]at hf; rcases hf with hf | hf
       ·cases hf
       ·unfold Hp
        show(match F.shOf tt with | .one (.pp _ _ _ _)=>true | _=>false)=true
        cases hs3:F.shOf tt with
        | tup ws=>rw[hs3]at hf; simp [fits]at hf
        | one w=>rw[hs3]at hf; cases w<;>simp [fits,bP]at hf; rfl
      | const c=>
       have e:bG c= .one (.pp l p n j):=e; unfold bG at e; (repeat' split at e)<;>cases e
      | func f=>cases e
      | global g=>cases e
     rw[this]at htk; exact htk) hs.vs
   exact⟨E,LP e1,(fun z hz=>by simp only[wO,uB h]; exact List.mem_append_left _ (e2 z hz)),e3, .inr (.inl ⟨by rw[hs.guard,hg],e4⟩)⟩
  | true=>
   have hp:NS F o=true:=by
    simp only[Pm,z58,hs2,z44,Bool.not_eq_false']at hst; exact hst.1
   have hlf:Ho o=false:=by
    unfold uQ at hs2; unfold Ho; split at hs2<;>try cases hs2
    rename_i e; rw[e]
   obtain⟨E,e1,e2,e3,e4⟩:=MW h hp hfit (fun v hv=>by have:=hs.vs v hv; rw[hlf]at this; exact this) (fun z hz=>hs.os z (by simp only[rO,uB h]; exact hz)) hs.ps
   exact⟨E,e1,(fun z hz=>by simp only[wO,uB h]; exact List.mem_append_right _ (e2 z hz)),e3, .inr (.inl ⟨by rw[hs.guard,hg],e4⟩)⟩
 ·have hc:=uC h1 h2
  have hlf:Ho o=false:=by unfold Ho; rw[h1]
  have hsv: ∀v∈o.op.operands,qA x y v:=fun v hv=>by have:=hs.vs v hv; rw[hlf]at this; exact this
  have hv: ∀w,(w=v∨w∈c.args.toList)→qA x y w:=fun w hw=>hsv w (by
   rw[h1]; simp only[Op.operands,Call.operands,h2]; simp; rcases hw with rfl | hw
   ·exact .inl rfl
   ·exact .inr (by simpa using hw))
  have e1:inV y c caps (iN F c v)=inV x c caps (iN F c v):=by
   simp only[inV]; congr 1
   exact z49 fun w hw=>by rw[(hv w (.inr hw)).evD]
  have e2:(iN F c v).map y.ob=(iN F c v).map x.ob:=z49 fun z hz=>hs.os z (by simp only[rO,hc]; exact hz)
  refine⟨Eff.call o.dst (pZ F o.dst) (iN F c v) (DR r none ob' nw),LP rfl,(fun z hz=>by simp only[wO,hc]; exact Md hz),(Eff.call_on _ _ _ _ x).symm, .inr (.inr (.inl ⟨by rw[hs.guard,hg],c,v,f,caps,ob,ob',r,nw,h1,h2,h0,by rw[(hv v (.inl rfl)).1,h3], ?_,by rw[e2,h5], ?_, ?_,Eff.call_on _ _ _ _ y⟩))⟩
  ·rw[z15]at h4 ⊢
   exact fun w hw=>by rw[(hv w (.inr hw)).1]; exact h4 w hw
  ·rw[e1]; exact h6
  ·rw[Fe (x:=x)]; exact h7
 ·simp only[Pm,uC h1 h2,h3,Bool.or_true]at hst
  cases hst

theorem Eff.comm{E E':Eff}{z:D}(hd: ∀d,E.d=some d→E'.d≠some d)(ho: ∀o,(E.ob o).isSome=true→E'.ob o=none):E.on (E'.on z)=E'.on (E.on z):=by
 refine D.ext (fun i=> ?_) (fun o=> ?_)
 ·simp only[Eff.on]
  by_cases e:E.d=some i
  ·rw[z19 e,z13 (hd i e),z19 e]
  ·rw[z13 e,z13 e]
 ·simp only[Eff.on]
  cases h:E.ob o with
  | none=>rfl
  | some c=>rw[ho o (by rw[h]; rfl)]

theorem SD.swap{a b:Oper}(h1:SD P τ Sgs F ds a x x1)(h2:SD P τ Sgs F ds b x1 x2)(ha:CZ F x a)(hb:CZ F x1 b)(hi:Na F ds a b=true):CZ F x b∧ ∃y,SD P τ Sgs F ds b x y∧CZ F y a∧SD P τ Sgs F ds a y x2:=by
 simp only[Na,z7,z37]at hi; obtain⟨⟨⟨⟨⟨sa,sb⟩,hd⟩,hab⟩,hba⟩,hw⟩:=hi; obtain⟨A,a1,a2,a3,_⟩:=h1.eff ha sa (uL.refl x a); have hfb:CZ F x b:=fun v hv=>by
  have hc:Kn (wD F a) v=false:=by
   simp only[BP,z58]at hab; have:=TN.1 hab.1.1 v (by simpa using hv)
   exact CT (by simpa using this)
  have:=hb v hv; cases v with
  | tmp t=>
   simp only[Kn,z39]at hc; have e:x1.sl t=x.sl t:=by rw[a3]; simp only[Eff.on,z13 (fun e=>hc (a1 t e))]
   have this:x1.sl t= .tup []∨fits (x1.sl t) (F.shOf t)=true:=this; rw[e]at this; exact this
  | _=>trivial
 have hsb:uL F ds x x1 b:=by rw[a3]; exact JO a1 a2 hfb hab
 obtain⟨B,b1,b2,b3,b4⟩:=h2.eff hb sb hsb.symm; have hsa:uL F ds x (B.on x) a:=JO b1 b2 ha hba; obtain⟨A',c1,c2,c3,c4⟩:=h1.eff ha sa hsa; refine⟨hfb,B.on x,b4,hsa.fit ha, ?_⟩
 rw[b3,c3, ←Eff.comm (E:=A') (E':=B)]
 ·exact c4
 ·intro d e1 e2
  have e1:=c1 d e1; have e2:=b1 d e2; rw[e1]at hd; simp [e2]at hd
 ·intro z hz
  cases hB:B.ob z with
  | none=>rfl
  | some c=>
   have m1:=c2 z hz; have m2:=b2 z (by rw[hB]; rfl)
   have:=z15.1 hw z m1; rw[Rb m2]at this; cases this

def CY(P:Program)(τ:TypeId→Option TI)(Sgs:FuncId→List Sg)(F:FA)(ds:List (Option Nat))(ops:Array Oper):List Nat→D→D→Prop
 | [],x,x'=>x=x'
 | i::r,x,x'=> ∃o x1,ops[i]? =some o∧CZ F x o∧SD P τ Sgs F ds o x x1∧CY P τ Sgs F ds ops r x1 x'

theorem CY.front{ops:Array Oper}{i:Nat}(ho:ops[i]? =some o){L2:List Nat}{x':D}: ∀ {L1:List Nat} {x:D},CY P τ Sgs F ds ops (L1++i::L2) x x'→(∀j∈L1, ∀a,ops[j]? =some a→Na F ds a o=true)→
  CZ F x o∧ ∃x1,SD P τ Sgs F ds o x x1∧CY P τ Sgs F ds ops (L1++L2) x1 x'
 | [],x,h,_=>by
  obtain⟨o',x1,h1,h2,h3,h4⟩:=h; rw[ho]at h1; cases h1; exact⟨h2,x1,h3,h4⟩
 | j::r,x,h,hi=>by
  obtain⟨a,x1,h1,h2,h3,h4⟩:=h; obtain⟨k1,x2,k2,k3⟩:=CY.front ho h4 (fun j hj=>hi j (z25 _ hj))
  obtain⟨q1,y,q2,q3,q4⟩:=h3.swap k2 h2 k1 (hi j z29 a h1); exact⟨q1,y,q2,a,x2,h1,q3,q4,k3⟩
end
end Go.Own

namespace Go.Own
open Go.RowKit

abbrev Lvl:=List (Nat×B)
def oW(m:Nat):Lvl→Option B
 | []=>none
 | (m',b)::r=>bif Nat.beq m m' then some b else oW m r
def Rf(F:FA)(m:Nat)(b:B)(mt:B→B→B):Lvl→Option Lvl
 | []=>some [(m,b)]
 | (m',b0)::r=>bif Nat.beq m m' then(bif leB (mt b0 b) b0&&leB (mt b0 b) b then some ((m',(mt b0 b).nrm F)::r)else none)
  else(match Rf F m b mt r with | some r'=>some ((m',b0)::r') | none=>none)
def gX(m:Nat)(o:Oper):Bool:=o.after.toList.all fun e=> !(Region.binds .any e)||m.testBit e.on

section
variable (τ:TypeId→Option TI) (Sgs:FuncId→List Sg) (F:FA) (ds:List (Option Nat)) (mt:B→B→B)
def uS(m:Nat)(b:B):Nat→List Oper→Lvl→Option Lvl
 | _,[],acc=>some acc
 | i,o::r,acc=>bif m.testBit i|| !(gX m o)then uS m b (i+1) r acc
  else(match rI τ Sgs F ds b o with
   | some b1=>(match Rf F (m||| 2 ^ i) b1 mt acc with | some acc'=>uS m b (i+1) r acc' | none=>none)
   | none=>none)
def DQ(os:List Oper):Lvl→Lvl→Option Lvl
 | [],acc=>some acc
 | (m,b)::r,acc=>match uS τ Sgs F ds mt m b 0 os acc with | some acc'=>DQ os r acc' | none=>none
def GK(os:List Oper):Nat→Lvl→Option Lvl
 | 0,L=>some L
 | n+1,L=>match DQ τ Sgs F ds mt os L []with | some L'=>GK os n L' | none=>none
def Hn:B→List Oper→Option B
 | b,[]=>some b
 | b,o::r=>bif o.op.operands.toList.all (cR b)then(match rI τ Sgs F ds b o with | some b1=>Hn b1 r | none=>none)else none
end

def mG(F:FA)(ds:List (Option Nat))(ops:Array Oper):Bool:=
 (List.range ops.size).all (fun j=>match ops[j]? with | some o=>o.after.all (fun e=> !Region.binds .any e||Nat.blt e.on j) | none=>true)&&
 (List.range ops.size).all (fun j=>(List.range j).all fun i=>match ops[i]?,ops[j]? with
  | some a,some b=>((Region.before ops).getD j 0).testBit i||Na F ds a b
  | _,_=>true)

def Pw(F:FA)(v:Operand):Bool:=match mM F v with
 | .one (.ptr _ _)=>true
 | .one (.pp _ _ _ _)=>true
 | .one (.cp _)=>true
 | _=>false
def Pn(F:FA)(o:Oper):Bool:=o.guard.isNone&&(match o.dst,o.op with
 | some _, .move _=>true
 | some _, .assign _=>true
 | some _, .nilCheck v=>Pw F v
 | some _, .fieldAddr _ v _=>Pw F v
 | _,_=>false)
def Nc(F:FA)(ops:Array Oper)(i:Nat):Bool:=match ops[i]? with
 | some o=>Pn F o&&(List.range ops.size).all (fun j=>Nat.beq j i||((Region.before ops).getD i 0).testBit j||(match ops[j]? with
   | some p=>p.after.any (fun e=>Region.binds .any e&&Nat.beq e.on i)||o.apart ops p
   | none=>true))
 | none=>false
def Tb(F:FA)(ops:Array Oper):List Bool:=bif Region.noSelect ops then(List.range ops.size).map (Nc F ops)else []
def Bc(m:Nat):Nat→List Oper→List Bool→Option (Nat×Oper)
 | i,o::r,e::es=>bif e&&(!(m.testBit i)&&gX m o)then some (i,o)else Bc m (i+1) r es
 | _,_,_=>none
section
variable (τ:TypeId→Option TI) (Sgs:FuncId→List Sg) (F:FA) (ds:List (Option Nat)) (mt:B→B→B)
def BV(E:List Bool)(os:List Oper):Lvl→Lvl→Option Lvl
 | [],acc=>some acc
 | (m,b)::r,acc=>match Bc m 0 os E with
  | some (i,o)=>(match rI τ Sgs F ds b o with
   | some b1=>(match Rf F (m||| 2 ^ i) b1 mt acc with | some acc'=>BV E os r acc' | none=>none)
   | none=>none)
  | none=>(match uS τ Sgs F ds mt m b 0 os acc with | some acc'=>BV E os r acc' | none=>none)
def Ed(E:List Bool)(os:List Oper):Nat→Lvl→Option Lvl
 | 0,L=>some L
 | n+1,L=>match BV τ Sgs F ds mt E os L []with | some L'=>Ed E os n L' | none=>none
end
def Nr(d:Nat):Operand→Bool
 | .tmp t=> !(Nat.beq d t)
 | _=>true
def NM(F:FA)(v y:Operand)(o:Oper):Bool:=o.guard.isNone&&(match o.dst,o.op with
 | some d, .indexAddr _ z _=>Nr d v&&Nr d y&&(gM (F.shOf d)&&rW F z)
 | none, .store _ (.tmp tx) _=>(match F.shOf tx with | .one (.pp (.s k _ _) _ _ _)=>Nr k v | _=>false)
 | _,_=>false)
def vO(n:Nat)(o:Oper):Oper:= { o with after:=((List.range n).map fun j=>⟨j, .data⟩).toArray }
def jW:List Oper→Nat→List Oper
 | [],_=> []
 | [o],n=> [vO n o]
 | o::p::r,n=>o::jW (p::r) (n+1)
section
variable (τ:TypeId→Option TI) (Sgs:FuncId→List Sg) (F:FA) (ds:List (Option Nat)) (mt:B→B→B)
def pN(q:Nat→B→Bool)(os:List Oper):Nat→Lvl→Option Lvl
 | 0,L=>some L
 | n+1,L=>bif L.all (fun p=>q p.1 p.2)then(match DQ τ Sgs F ds mt os L []with | some L'=>pN q os n L' | none=>none)else none
end
def HI(A:Oper)(v y:Operand)(ob:Nat)(m:Nat)(b:B):Bool:= !(gX m A)||(cR b v&&cR b y&&b.hasO ob)

def Pz(τ:TypeId→Option TI)(Sgs:FuncId→List Sg)(F:FA)(mt:B→B→B)(b:B)(ops:Array Oper):Option B:=match ops.toList.drop (ops.size - 1)with
 | [A]=>(match A.dst,A.op,A.guard with
  | none, .store _ (.tmp tv) y,none=>(match F.shOf tv with
   | .one (.ptr ob _)=>
    bif A.after.all (fun e=> !(Region.binds .any e)||Nat.blt e.on (ops.size - 1))&&((List.range (ops.size - 1)).all (fun j=>((Region.before ops).getD (ops.size - 1) 0).testBit j||(match ops[j]? with | some o=>NM F (.tmp tv) y o | none=>true))&&
     (mG F ((jW ops.toList 0).map (·.dst)) (jW ops.toList 0).toArray&&(Hn τ Sgs F (ops.toList.map (·.dst)) b ops.toList).isSome))then
     (match pN τ Sgs F ((jW ops.toList 0).map (·.dst)) mt (HI A (.tmp tv) y ob) (jW ops.toList 0) ops.size [(0,b)]with | some [(_,b1)]=>some b1 | _=>none)else none
   | _=>none)
  | _,_,_=>none)
 | _=>none
def anyC(τ:TypeId→Option TI)(Sgs:FuncId→List Sg)(F:FA)(mt:B→B→B)(b:B)(ops:Array Oper):Option B:=
 bif mG F (ops.toList.map (·.dst)) ops&&(Hn τ Sgs F (ops.toList.map (·.dst)) b ops.toList).isSome then
  (match Ed τ Sgs F (ops.toList.map (·.dst)) mt (Tb F ops) ops.toList ops.size [(0,b)]with | some [(_,b1)]=>some b1 | _=>none)else Pz τ Sgs F mt b ops
end Go.Own

namespace Go.Own
open Go.RowKit

def meetK(a b:K):K:=if a.lo b then b else if b.lo a then a else if a.lo .V&&b.lo .V then .V else .D
def ID:List K→List K→List K
 | p::ps,q::qs=>meetK p q::ID ps qs
 | _,_=> []
def Je:List (List K)→List (List K)→List (List K)
 | p::ps,q::qs=>ID p q::Je ps qs
 | _,_=> []
def Px(b2:List (Nat×List (List K))):List (Nat×List (List K))→List (Nat×List (List K))
 | []=> []
 | p::r=>match cQ p.1 b2 with | some κ=>(p.1,Je p.2 κ)::Px b2 r | none=>Px b2 r
def Py(b2:List (Nat×List K)):List (Nat×List K)→List (Nat×List K)
 | []=> []
 | p::r=>match cQ p.1 b2 with | some κ=>(p.1,ID p.2 κ)::Py b2 r | none=>Py b2 r
def Ii(b1 b2:B):B:= { sl:=Px b2.sl b1.sl,ob:=Py b2.ob b1.ob }

def KE:Ek→Ek→Bool
 | .n, .n=>true
 | .r, .r=>true
 | .e i, .e j=>Nat.beq i j
 | _,_=>false
theorem BW{a b:Ek}:KE a b=true↔a=b:=by
 cases a<;>cases b<;>simp [KE]

abbrev AV:=List (Ek×B)
def qW(e:Ek):AV→Option B
 | []=>none
 | (e',b)::r=>bif KE e e' then some b else qW e r
def Be(e:Ek):AV→AV
 | []=> []
 | (e',b)::r=>bif KE e e' then Be e r else(e',b)::Be e r

theorem qM{e e':Ek}(h:e'≠e): ∀ {o:AV},qW e' (Be e o)=qW e' o
 | []=>rfl
 | (e2,b)::r=>by
  simp only[Be]; cases h2:KE e e2 with
  | true=>
   have:=BW.1 h2; subst this; simp only[z17,qW]; rw[qM h]; cases h3:KE e' e with
   | true=>exact absurd (BW.1 h3) h
   | false=>rfl
  | false=>
   simp only[z12,qW]; rw[qM h]

theorem xH(e:Ek):KE e e=true:=BW.2 rfl
theorem MG{a b:Ek}(h:a≠b):KE a b=false:=by
 cases h2:KE a b with
 | true=>exact absurd (BW.1 h2) h
 | false=>rfl

def Td(F:FA)(e:Ek)(b:B)(o:AV):Option AV:=match qW e o with
 | none=>some ((e,b)::o)
 | some b0=>bif leB (Ii b0 b) b0&&leB (Ii b0 b) b then some ((e,(Ii b0 b).nrm F)::Be e o)else none
def GJ(F:FA):AV→AV→Option AV
 | [],o=>some o
 | (e,b)::r,o=>match Td F e b o with | some o'=>GJ F r o' | none=>none

def Sub(F:FA)(o o':AV):Prop:= ∀e b,qW e o=some b→ ∃b',qW e o'=some b'∧Cv F b b'
theorem Sub.refl(F:FA)(o:AV):Sub F o o:=fun _ b h=>⟨b,h,Cv.refl F b⟩
theorem Sub.trans{F:FA}{a b c:AV}(h:Sub F a b)(k:Sub F b c):Sub F a c:=fun e x hx=>by
 obtain⟨y,h1,h2⟩:=h e x hx; obtain⟨z,k1,k2⟩:=k e y h1; exact⟨z,k1,h2.trans k2⟩

theorem MP{F:FA}{e:Ek}{b:B}{o o':AV}(h:Td F e b o=some o'):Sub F o o'∧ ∃b',qW e o'=some b'∧Cv F b b':=by
 unfold Td at h; split at h
 ·rename_i hg
  cases h; refine⟨fun e2 b2 h2=> ?_,b,by simp [qW,xH],Cv.refl F b⟩
  have hne:e2≠e:=fun e3=>by subst e3; rw[hg]at h2; cases h2
  exact⟨b2,by simp only[qW,MG hne,z12]; exact h2,Cv.refl F b2⟩
 ·rename_i b0 hg
  obtain⟨hc,h⟩:=aI h; simp only[z7]at hc; cases h; refine⟨fun e2 b2 h2=> ?_,_,by simp [qW,xH],DL hc.2⟩
  by_cases hne:e2=e
  ·subst hne
   rw[hg]at h2; cases h2; exact⟨_,by simp [qW,xH],DL hc.1⟩
  ·exact⟨b2,by simp only[qW,MG hne,z12]; rw[qM hne]; exact h2,Cv.refl F b2⟩

theorem xD{F:FA}: ∀ {l o o':AV},GJ F l o=some o'→Sub F o o'∧Sub F l o'
 | [],o,o',h=>by cases h; exact⟨Sub.refl F o,fun e b h=>by cases h⟩
 | (e,b)::r,o,o',h=>by
  unfold GJ at h; split at h<;>try cases h
  rename_i o1 h1; obtain⟨a1,b',a2,a3⟩:=MP h1; obtain⟨m1,m2⟩:=xD h; refine⟨a1.trans m1,fun e2 b2 h2=> ?_⟩
  simp only[qW]at h2; cases h3:KE e2 e with
  | true=>
   have:=BW.1 h3; subst this; rw[h3]at h2; cases h2; obtain⟨b'',q1,q2⟩:=m1 _ b' a2; exact⟨b'',q1,a3.trans q2⟩
  | false=>
   rw[h3]at h2; exact m2 e2 b2 h2

def NU(F:FA)(b:B):Bool:=b.sl.all fun p=>JG F b p.1
theorem OP{F:FA}{b:B}(h:NU F b=true)(n:Nat)(x:D):(b.nrm F).S n x=b.S n x:=by
 have hp: ∀i,b.has i=true→JG F b i=true:=fun i hi=>by
  simp only[B.has]at hi; cases hl:cQ i b.sl with
  | none=>rw[hl]at hi; cases hi
  | some κ=>exact z15.1 h _ (fX hl)
 have hhas: ∀i,(b.nrm F).has i=b.has i:=fun i=>by
  rw[vM,dT]; cases hi:b.has i with
  | false=>simp
  | true=>rw[hp i hi]; rfl
 have hkd:(b.nrm F).kd=b.kd:=funext fun l=>by
  cases l with
  | s i k j=>
   by_cases hi:b.has i=true
   ·rw[vM]; exact fF (hp i hi)
   ·rw[PY (show(b.nrm F).hasL (.s i k j)=false by show(b.nrm F).has i=false; rw[hhas]; simpa using hi),PY (show b.hasL (.s i k j)=false by show b.has i=false; simpa using hi)]
  | _=>rfl
 simp only[B.S,hhas,hkd]; rfl
theorem IR(F:FA)(b:B):Cv F b (b.nrm F):=fun x hA=>⟨hA.nrm,fun g0 w0 a w hs=>hs.relax ((Low.self F.n b x).le hA)⟩
theorem Qm{F:FA}{b' b:B}(h:leB b' b=true)(hn:NU F b'=true):Cv F b b':=fun x hA=>by
 obtain⟨h1,h2,h3⟩:=LU h; have hA':Ag F b' x:=⟨fun i hi=>hA.sl i (h1 i hi),fun o ho=>hA.ob o (h2 o ho)⟩
 obtain⟨_,q⟩:=DL h x hA; exact⟨hA',fun g0 w0 a w hs=>by rw[←OP hn]; exact q g0 w0 a w hs⟩

def HJ(F:FA)(f:B→Option AV):Nat→B→Option AV
 | 0,_=>none
 | n+1,h=>match f h with
  | none=>none
  | some o=>match qW .n o with
   | none=>some (Be .n o)
   | some b1=>bif leB h b1&&NU F h then some (Be .n o)else bif leB (Ii h b1) h then HJ F f n ((Ii h b1).nrm F)else none

theorem FF{F:FA}{f:B→Option AV}: ∀ {n:Nat} {h:B} {outs:AV},HJ F f n h=some outs→ ∃h' o,Cv F h h'∧f h'=some o∧outs=Be .n o∧(∀b1,qW .n o=some b1→Cv F b1 h')∧ ∀k,HJ F f (k+1) h'=some outs
 | 0,h,outs,hh=>by cases hh
 | n+1,h,outs,hh=>by
  have hh0:=hh; unfold HJ at hh; cases hf:f h with
  | none=>rw[hf]at hh; cases hh
  | some o=>
   rw[hf]at hh; simp only at hh; cases hg:qW .n o with
   | none=>
    rw[hg]at hh; cases hh; exact⟨h,o,Cv.refl F h,hf,rfl,fun b1 e=>(by rw[hg]at e; cases e),fun k=>by unfold HJ; rw[hf]; simp only[hg]⟩
   | some b1=>
    rw[hg]at hh; simp only at hh; cases hc:(leB h b1&&NU F h)with
    | true=>
     rw[hc]at hh; cases hh; simp only[z7]at hc; refine⟨h,o,Cv.refl F h,hf,rfl,fun b2 e=>(by rw[hg]at e; cases e; exact Qm hc.1 hc.2),fun k=> ?_⟩
     unfold HJ; rw[hf]; simp only[hg,hc.1,hc.2,z94,z17]
    | false=>
     rw[hc]at hh; simp only[z12]at hh; obtain⟨hl,hh⟩:=aI hh; obtain⟨h',o',q1,q2⟩:=FF hh; exact⟨h',o',(DL hl).trans q1,q2⟩

def QA(F:FA)(id:Nat)(b:B):B:=match cQ id F.keep with
 | some l=>b.filt fun i=>mem i l
 | none=>b
theorem Eg(F:FA)(id:Nat)(b:B):Cv F b ((QA F id b).nrm F):=fun x hA=>by
 unfold QA; split
 ·rename_i l _
  have hA':=hA.filt (F:=F) (fun i=>mem i l)
  refine⟨hA'.nrm,fun g0 w0 a w hs=>hs.relax (Low.le hA' ⟨rfl,fun i hi=>oK ?_,fun o ho=>JJ (n:=F.n) ho,fun l' t hL _=> ?_,fun i k xs hi _=> ?_,fun i hi _ hf=> ?_⟩)⟩
  ·rw[dT,z7]at hi; exact hi.2
  ·cases l' with
   | s i k j=>
    have hL:(b.filt fun i=>mem i l).has i=true:=hL
    rw[dT,z7]at hL; rw[fF hL.1]; exact cV _
   | oc o j=>exact cV _
   | _=>cases hL
  ·rw[dT,z7]at hi
   rw[fF hi.1]; exact cV _
  ·rw[dT,z7]at hi
   rw[fF hi.1]at hf; exact hf
 ·exact IR F b x hA

def rK(τ:TypeId→Option TI)(Sg:FuncId→List Sg)(F:FA):Code→B→Option AV
 | .skip,b=>some [(.n,b)]
 | .label _,b=>some [(.n,b)]
 | .exit i,b=>some [(.e i,b)]
 | .ret,b=>some [(.r,b)]
 | .seq x y,b=>match rK τ Sg F x b with
  | none=>none
  | some o1=>match qW .n o1 with
   | none=>some o1
   | some b1=>match rK τ Sg F y b1 with
    | none=>none
    | some o2=>GJ F (Be .n o1) o2
 | .cond c x y,b=>bif cR b c then(match rK τ Sg F x b,rK τ Sg F y b with
  | some o1,some o2=>GJ F o1 o2
  | _,_=>none)else none
 | .block id c,b=>match rK τ Sg F c b with
  | none=>none
  | some o=>match qW (.e id) o with
   | none=>some o
   | some b1=>Td F .n b1 (Be (.e id) o)
 | .loop c,b=>HJ F (rK τ Sg F c) 4 b
 | .region id ops dr,b=>bif ops.toList.any FV then some []else match(match cQ id F.mks with | some L=>bif dr then none else mkC τ Sg F b L ops.toList | none=>bif dr then anyC τ Sg F Ii b ops else No τ Sg F (ops.toList.map (·.dst)) b ops.toList)with
  | some b1=>some [(.n,(QA F id b1).nrm F)]
  | none=>none
 | _,_=>some []
end Go.Own

namespace Go.Own
open Go.RowKit

theorem Hu{g:G}{w:World}{κ:Nat→Nat→K}{l:Nat→Nat→Loc}{v:Value}{b:Bool}(h:RV g w κ l v (.one (.c (.bool b)))):v= .bool b:=by
 have:=LF.scal (g':=g) (w':=w) (κ':= .F) (l':= .none) h.2 rfl; have this:Rd _ _ _ _:=this; cases this; rfl

theorem HO{F:FA}{b:B}{x:D}{n:Nat}{g0:G}{w0:World}{ops:Array Oper}{o:Oper}{g:G}{w:World}{a:Act}{t:Bool}(hs:bM g0 w0 (b.S n x) a g w)(hk:IT (ops.toList.map (·.dst)) b o.guard=true)(h:bE (ops.toList.map (·.dst)) x o.guard=some t):
  Region.wanted o (yielded ops a.tmps)=t:=by
 have _:=F; unfold Region.wanted; cases hg:o.guard with
 | none=>rw[hg]at h; simp only[bE,z10]at h; exact h
 | some p=>
  obtain⟨j,want⟩:=p; rw[hg]at h hk; simp only[bE,z36,z26]at h
  simp only[IT,z36,z26]at hk
  simp only[yielded]; cases ho:ops[j]? with
  | none=>rw[ho]at h; simp only[RT,z10]at h; subst h; simp
  | some oj=>
   rw[ho]at h hk; simp only[z35]at h hk; simp only[z8]; cases hd:oj.dst with
   | none=>rw[hd]at h; simp only[z10]at h; subst h; simp
   | some d=>
    rw[hd]at h hk; simp only at h hk; simp only[z8]; have hr:=hs.slots d; rw[oK hk]at hr; split at h
    ·rename_i b' hb
     rw[hb]at hr; have hv:=Hu hr; simp only[z10]at h; rw[z55]at hv; cases ht:a.tmps[d]? with
     | none=>rw[ht]at hv; simp [undef]at hv
     | some u=>
      rw[ht]at hv; simp only[z63]at hv; subst hv; simp only; rw[←h]; cases b'<;>cases want<;>rfl
    ·rename_i hb
     rw[hb]at hr; obtain⟨vs,hv,hn,_⟩:=hr; simp only[z10]at h; subst h; rw[z55]at hv; cases ht:a.tmps[d]? with
     | none=>simp
     | some u=>
      rw[ht]at hv; simp only[z63]at hv; subst hv; simp
    ·cases h

def wB(z:Nat):List Oper→Bool
 | []=>true
 | o::r=> !(decide (o.dst=some z))&&wB z r
def noD(z:Nat):Code→Bool
 | .seq a b=>noD z a&&noD z b
 | .cond _ a b=>noD z a&&noD z b
 | .block _ c=>noD z c
 | .loop c=>noD z c
 | .region _ ops _=>wB z ops.toList
 | _=>true

theorem wY{a:Act}{d:Option Nat}{u:Value}{z:Nat}(h:d≠some z):(a.put d u).tmps.getD z undef=a.tmps.getD z undef:=nD a d u z h

def NY(F:FA)(b bo:B)(rs:List ResultVar)(c:Code):Bool:=match F.io with
 | none=>true
 | some z=>b.has z&&(b.kd (.s z 0 0)).hand true (bo.kd (.s 1 0 0))&&(!(bo.kd (.s 1 0 0)).hold||decide (zP F rs F.n0 F.io (.s z 0 0)= .s 1 0 0))&&noD z c
def libC(F:FA)(q:List (List (List K))×List (List K)×Bool)(sg:Sg):Bool:=
 F.sh.isEmpty&&decide (sg.bi.sl=Pv 0 q.1)&&sg.bi.ob.isEmpty&&decide (sg.bo.sl=[(0,q.2.1)])&&sg.bo.ob.isEmpty&&Nat.beq sg.np q.1.length&&Nat.ble 1 sg.np&&decide (sg.io=none)&&decide (sg.ext=q.2.2)&&Nat.beq sg.no 0
def fnC(τ:TypeId→Option TI)(An:FuncId→FA)(Sgs:FuncId→List Sg)(f:FuncId)(sg:Sg)(fn:Func)(c:Code):Bool:=match(An f).lb with
 | some q=>libC (An f) q sg
 | none=>
 Nat.beq (An f).n fn.ntmps&&Nat.ble fn.ntmps par&&Nat.ble sg.np fn.ntmps&& !(fn.name == "runtime.NumGoroutine")&&sg.bi.sl.all (fun p=>Nat.blt p.1 sg.np)&&sg.bi.ob.all (fun p=>Nat.ble par p.1&&Nat.blt p.1 (par+sg.no))&&
 decide (sg.io=(An f).io)&&sg.bo.sl.all (fun p=>Nat.beq p.1 0||(Nat.beq p.1 1&&(An f).io.isSome))&&sg.bo.ob.all (fun p=>Nat.beq p.1 0||sg.bi.hasO p.1)&&
 (match rK τ Sgs (An f) c sg.bi with
  | none=>false
  | some outs=>(match qW .n outs with | none=>true | some b=>yX (An f) b sg.bo (zP (An f) fn.results.toList (An f).n0 (An f).io) 0 fn.results.toList&&Kq (An f) b sg.bo (An f).n0&&NY (An f) b sg.bo fn.results.toList c)&&
   (match qW .r outs with | none=>true | some b=>yX (An f) b sg.bo (zP (An f) fn.results.toList (An f).n0 (An f).io) 0 fn.results.toList&&Kq (An f) b sg.bo (An f).n0&&NY (An f) b sg.bo fn.results.toList c))

def Mot(P:Program)(τ:TypeId→Option TI)(Sgs:FuncId→List Sg):Jd→Prop
 | .code F c x e x'=> ∀b outs,rK τ Sgs F c b=some outs→Ag F b x→ ∃(b':B) (k:Nat),qW e outs=some b'∧Ag F b' x'∧ ∀g0 w0 (Q:Exit→Act→World→Prop) a w,Sim g0 w0 (b.S F.n x) a w→
   (∀a' w',Sim g0 w0 (b'.S F.n x') a' w'→(∀z,noD z c=true→a'.tmps.getD z undef=a.tmps.getD z undef)→Q e.exit a' w')→c.wp P Q a w∧ ∀c',c= .loop c'→Code.rounds P c' Q k a w
 | .ops F ds os x x'=> ∀(ops:Array Oper) i,ops.toList.drop i=os→ds=ops.toList.map (·.dst)→ ∀b b',No τ Sgs F ds b os=some b'→Ag F b x→Ag F b' x'∧(∀g0 w0 (Q:Exit→Act→World→Prop) a w,Sim g0 w0 (b.S F.n x) a w→
   (∀a' w',Sim g0 w0 (b'.S F.n x') a' w'→(∀z,wB z os=true→a'.tmps.getD z undef=a.tmps.getD z undef)→Q .normal a' w')→wpOps P ops Q (List.range' i os.length) a w)∧ ∀b2,Hn τ Sgs F ds b os=some b2→CY P τ Sgs F ds ops (List.range' i os.length) x x'
 | .fn f vs ob r io ob' nw=> ∀sg∈Sgs f,sg.np=vs.length→sg.no=ob.length→TC P f sg vs ob r io ob' nw

theorem BO{P:Program}{ops:Array Oper}{o:Oper}{i:Nat}{Q:Exit→Act→World→Prop}{K:Act→World→Prop}{a:Act}{w:World}(hi:ops[i]? =some o)(t:Bool)(hw:Region.wanted o (yielded ops a.tmps)=t)(h:if t then o.wp P a w K Q else K (a.put o.dst undef) w):wpOp P ops Q i K a w:=by
 unfold Go.wpOp; simp only[hi]; rw[hw]; cases t with
 | true=>exact .inl h
 | false=>exact h

theorem Eu{τ:TypeId→Option TI}{Sgs:FuncId→List Sg}{F:FA}{ds:List (Option Nat)}{b b':B}{o:Oper}(h:rI τ Sgs F ds b o=some b'): ∃b1,Nk τ Sgs F b o=some b1∧b'=(b1.frz F (fzL F b1 o.dst)).nrm F∧IT ds b o.guard=true∧(o.guard≠none→EW F b (b1.frz F (fzL F b1 o.dst)) o.dst=true):=by
 unfold rI at h; split at h<;>try cases h
 rename_i b1 h1; obtain⟨hc,h⟩:=aI h; cases h; simp only[z7]at hc; refine⟨b1,h1,rfl,hc.1,fun hg=> ?_⟩
 have:=hc.2; split at this
 ·rename_i e; exact absurd e hg
 ·exact this
theorem Ov{P:Program}{τ:TypeId→Option TI}{An:FuncId→FA}{J:Jd}(h:Big P τ An J):match J with | .ops _ _ os _ _=>os.any FV=false | _=>True:=by
 induction h with
 | opsNil F ds x=>rfl
 | @opsSkip F ds o r x x2 hg h2 ih2=>
  simp only[RR,z58]; refine⟨?_,ih2⟩
  unfold FV; split
  ·rename_i e1 e2
   rw[e2]at hg; cases hg
  ·rfl
 | @opsRun F ds o r x x1 x2 hg h1 h2 ih2=>
  simp only[RR,z58]; refine⟨?_,ih2⟩
  unfold FV; split
  ·rename_i e1 e2
   split
   ·rename_i v e3
    unfold dOp at h1; rw[e1]at h1; simp only[e3]at h1; cases h1
   ·rfl
  ·rfl
 | @opsCall F ds o rs x x2 c v f caps ob ob' r nw hg ho hcal hni hx hth hob h1 hsh h2 ih1 ih2=>
  simp only[RR,z58]; refine⟨?_,ih2⟩
  unfold FV; rw[ho]; split<;>rfl
 | @opsIo F ds o rs x x2 c v f r t xs l p x0 es es' hg ho hcal hio hx hth hargs hal hat hnav h1 hsh h2 ih1 ih2=>
  simp only[RR,z58]; refine⟨?_,ih2⟩
  unfold FV; rw[ho]; split<;>rfl
 | _=>trivial
theorem RB{P:Program}{τ:TypeId→Option TI}{An:FuncId→FA}{F:FA}{ds:List (Option Nat)}{os:List Oper}{x x':D}(h:Big P τ An (.ops F ds os x x')):os.any FV=false:=Ov h
theorem Lz{F:FA}{q:List (List (List K))×List (List K)×Bool}{sg:Sg}(h:libC F q sg=true):sg=NW q∧F.sh=[]∧1≤sg.np:=by
 unfold libC at h; simp only[z7,List.isEmpty_iff,z28]at h; obtain⟨⟨⟨⟨⟨⟨⟨⟨⟨h1,h2⟩,h3⟩,h4⟩,h5⟩,h6⟩,h7⟩,h8⟩,h9⟩,h10⟩:=h; obtain⟨⟨s1,s2⟩,⟨s3,s4⟩,s5,s6,s7,s8⟩:=sg; simp only at h2 h3 h4 h5 h6 h7 h8 h9 h10; have h6:=z16 h6; have h10:=z16 h10; subst h2 h3 h4 h5 h6 h8 h9 h10; exact⟨rfl,h1,z33 h7⟩
end Go.Own

namespace Go.Own
open Go.RowKit
set_option linter.unusedVariables false

theorem LO{P:Program}{o:Oper}{a:Act}{w w':World}{v:Value}{K:Act→World→Prop}{Q:Exit→Act→World→Prop}(h:(execOp a.eval o).run P w= .ok (.value v) w')(hK:K (a.put o.dst v) w'):o.wp P a w K Q:=by
 unfold Oper.wp; rw[h]; exact hK
theorem Nw{P:Program}{o:Oper}{a:Act}{w:World}{c:Call}{g:FuncId}{K:Act→World→Prop}{Q:Exit→Act→World→Prop}(ho:o.op= .call c)(hc:c.callee= .value (.func g))(h:pY P ((callFunc g (c.args.map a.eval)).run P w) (fun u w'=>K (a.put o.dst u) w')):o.wp P a w K Q:=by
 have hrun:(execOp a.eval o).run P w=(callFunc g (c.args.map a.eval)).run P w:=by
  obtain⟨dst,op,ty,pos,after,guard⟩:=o; simp only at ho; subst ho; have hfv:a.eval (.func g)= .func (.func g) #[] #[]:=rfl; simp only[execOp,resolve,hc,hfv,Deferred.ofValue,Sem.run_bind,Sem.run_pure,Result.andThen_ok,invoke]; congr 2
  apply LC
  simp
 unfold Oper.wp; rw[hrun]; revert h
 generalize (callFunc g _).run P w=r; intro hC; unfold pY at hC; split at hC
 ·exact hC
 ·rw[Oper.upon_enter]
  refine Calls.mono hC ?_
  rintro e w' ⟨v,rfl,h⟩
  exact h
 ·exact hC.elim
theorem OJ{P:Program}{ρ:Operand→Value}{o:Oper}{x:Operand}{w:World}(ho:o.op= .move x):(execOp ρ o).run P w= .ok (.value (ρ x)) w:=by
 obtain⟨dst,op,ty,pos,after,guard⟩:=o; simp only at ho; subst ho; rfl
theorem KM{P:Program}{ρ:Operand→Value}{o:Oper}{x:Operand}{w:World}(ho:o.op= .assign x):(execOp ρ o).run P w= .ok (.value (ρ x)) w:=by
 obtain⟨dst,op,ty,pos,after,guard⟩:=o; simp only at ho; subst ho; rfl
theorem tV{P:Program}{ops:Array Oper}{o:Oper}{i:Nat}{Q:Exit→Act→World→Prop}{K:Act→World→Prop}{a:Act}{w:World}(hi:ops[i]? =some o)(hg:o.guard=none)(h:o.wp P a w K Q):wpOp P ops Q i K a w:=
 BO hi true (by unfold Region.wanted; rw[hg]) h

section
variable {P:Program} {τ:TypeId→Option TI}
end
section
variable {P:Program} {τ:TypeId→Option TI}
end
end Go.Own

namespace Go.Own
open Go.RowKit
set_option linter.unusedVariables false

def TCm(P:Program)(m:MR):Prop:= ∃sg:Sg,TC P m.g sg [.one (.c (.sl m.es)), .one (.c (.int .i64 m.k))] [] (.one (.c (.int .i64 m.k1))) (some (.sl m.es')) [] none∧sg.io=some 0∧sg.np=2∧sg.bi=biM∧sg.bo.has 0=true∧sg.bo.has 1=true∧sg.bo.kd (.s 1 0 0)= .U 0
def turnM(o p0:Nat):List MR→St→St
 | [],st=>st
 | m::r,st=>turnM o p0 r (st.turn (.oc o (p0+m.off)) (.U 0) (.sl m.es'))

theorem QL{st:St}{o j:Nat}{κ:K}{z:T}(o':Nat):(st.turn (.oc o j) κ z).ob o'=if o'=o then(st.ob o').map (·.set j z)else st.ob o':=rfl
theorem QM{st:St}{o j:Nat}{κ:K}{z:T}(o' j':Nat):(st.turn (.oc o j) κ z).fl (.oc o' j')=if Loc.oc o' j'= .oc o j then κ else if st.fl (.oc o' j')= .V then .D else st.fl (.oc o' j'):=by
 show(if Loc.oc o' j'= .oc o j then κ else _)=_
 by_cases e:Loc.oc o' j'= .oc o j
 ·rw[z19 e,z19 e]
 ·rw[z13 e,z13 e]
  show(if isL (.oc o j) (.oc o' j')=true then K.D else st.killV.fl (.oc o' j'))=_
  rw[z13 (by simpa [isL]using e)]
  rfl

theorem Lm{P:Program}{g0:G}{w0:World}{a:Act}{o p0:Nat}{cs:List Value}{cells':List T}{k':Int}{Q:Value→World→Prop}: ∀(rs:List MR) {st:St} {g:G} {w:World} {Bx:Nat→Prop} {cells:List T} {k:Int},bM g0 w0 st a g w→st.ob o=some cells→(∀m∈rs,TCm P m)→(∀m∈rs, ∃n,st.fl (.oc o (p0+m.off))= .U n)→
  DU p0 rs cells k cells' k'→(∀b,Bx b→b<w.heap.size∧g.own b= .none)→(∀m∈rs,cs[m.off]? =w.cell? ⟨g.β o,p0+m.off,none⟩)→(∀w1 w2 gb,bM g0 w0 (turnM o p0 rs st) a gb w1→gb.β=g.β→Pq w1 w2→Q (.int .i64 k') w2)→
  Ht P (rs.map fun m=>(m.off,m.g)) cs k w Bx Q
 | [],st,g,w,Bx,cells,k,hs,hob,hC,hk,hch,hB,hcs,hQ=>fun w1 hE=>by
  obtain⟨rfl,rfl⟩:=hch; exact hQ w w1 g hs rfl hE
 | m::r,st,g,w,Bx,cells,k,hs,hob,hC,hk,hch,hB,hcs,hQ=>fun w1 Bx1 hE h2 h3 h4=>by
  obtain⟨hes,rfl,hch⟩:=hch; obtain⟨sg,c1,c2,c3,c4,c5,c6,c7⟩:=hC m z29; obtain⟨n,hn⟩:=hk m z29; have hat:st.at (.oc o (p0+m.off))=some (.sl m.es):=by rw[St.at_oc,hob]; exact hes
  obtain⟨v0,hv0,_,_⟩:=hs.get hat; have hcell:cs[m.off]? =some v0:=(hcs m z29).trans hv0; refine⟨v0,hcell,(Qs hs hE c1 c2 c3 c4 c5 c6 c7 rfl hn hat hv0).mono fun u w2 ⟨e,gb,q1,q2,q3,q4⟩=> ?_⟩
  have hB1: ∀b,Bx1 b→g.own b= .none:=fun b hb=>by
   by_cases e:Bx b
   ·exact(hB b e).2
   ·have hge:=h3 b hb e
    cases hg:g.own b with
    | none=>rfl
    | _=>
     exfalso
     have:=hs.ok.own b (by rw[hg]; simp)
     omega
  obtain⟨arr,ty,r1,r2,r3,_⟩:=hs.obs o cells hob; refine⟨m.k1,e,fun b hb=>⟨(q4 b (h4 b hb) (hB1 b hb)).1,(q4 b (h4 b hb) (hB1 b hb)).2.1⟩, ?_⟩
  refine Lm r q1 (cells:=cells.set (p0+m.off) (.sl m.es')) (by rw[QL,z19 rfl,hob]; rfl) (fun x hx=>hC x (z25 _ hx)) (fun x hx=> ?_) hch (fun b hb=>⟨(q4 b (h4 b hb) (hB1 b hb)).1,(q4 b (h4 b hb) (hB1 b hb)).2.2⟩) (fun x hx=> ?_) (fun w3 w4 gc h5 h6 h7=>hQ w3 w4 gc h5 (h6.trans q2) h7)
  ·obtain⟨n',hn'⟩:=hk x (z25 _ hx)
   rw[QM]; split
   ·exact⟨0,rfl⟩
   ·rw[hn']; exact⟨n',by simp⟩
  ·rw[hcs x (z25 _ hx),q2]
   exact(bV (q3 o _ r3)).symm
end Go.Own

namespace Go.Own
open Go.RowKit
set_option linter.unusedVariables false

theorem Pq.calm{g:G}{w w1:World}(hok:GOk g w)(h:Pq w w1)(st:St):wT g w g w1 (fun _=>False) st:=
 ⟨⟨h.size,fun b hb _=>⟨rfl,h.keep b hb⟩⟩,fun _ h=>h.elim, .inl fun b hb=>⟨⟨z60 hb.1 h.size,hb.2⟩,h.keep b hb.1⟩,h.os,h.tape,h.output,⟨fun b hb=>z60 (hok.own b hb) h.size⟩⟩

def kS(_ _:Nat):K:= .S
theorem Pu(g:G)(w:World)(l:Nat→Nat→Loc)(k:Int):RV g w kS l (.int .i64 k) (vI k):=⟨⟨by simp,by simp⟩,rfl, .int .i64 k⟩
theorem vI_ev{g:G}{w:World}{κ:Nat→Nat→K}{l:Nat→Nat→Loc}{v:Value}{k:Int}(h:RV g w κ l v (vI k)):v= .int .i64 k:=by
 have:=LF.scal (g':=g) (w':=w) (κ':= .F) (l':= .none) h.2 rfl; have this:Rd _ _ _ _:=this; cases this; rfl

def St.mkSt(st:St)(o p0 t t' r r0:Nat)(rs:List MR)(k k':Int):St:=
 ((turnM o p0 rs ((st.put t (.one .junk) (fun _ _=> .D)).put t' (vI k) kS)).put r (vI k') kS).put r0 (vI k') kS

theorem EX{o p0:Nat}: ∀ {rs:List MR} {st:St},(turnM o p0 rs st).n=st.n
 | [],st=>rfl
 | m::r,st=>by simp only[turnM]; rw[EX]; rfl

theorem OT{P:Program}{τ:TypeId→Option TI}(hT:aY P τ){g0:G}{w0:World}{st:St}{S:TypeId}{i:TI}{f:FuncId}{c:Call}{o p0 tp tk t t' r r0 id:Nat}{cells cells':List T}{k k':Int}{rs:List MR}{a:Act}{w:World}{Q:Exit→Act→World→Prop}
  {t1 t2 t3 t4:TypeId}{p1 p2 p3 p4:String}{f1 f2 f3 f4:Array Edge}(hs:Sim g0 w0 st a w)(hi:τ S=some i)(h1:i.agg=false→i.size=1)(hM:QH P f i.agg i.size (rs.map fun m=>(m.off,m.g)))(hle:p0+i.size≤cells.length)
  (hc1:c.callee= .value (.func f))(hc2:c.args= #[.tmp t, .tmp t'])(hd:(Nat.blt t t'&&Nat.blt t' r&&Nat.blt r st.n&&Nat.blt r0 st.n&& !(Nat.beq tk t)&& !(Nat.beq tp t))=true)
  (htp:st.sl tp= .one (.ptr o p0))(htk:st.sl tk=vI k)(hob:st.ob o=some cells)(hC: ∀m∈rs,TCm P m)(hk: ∀m∈rs, ∃n,st.fl (.oc o (p0+m.off))= .U n)(hch:DU p0 rs cells k cells' k')
  (hQ: ∀a' w',Sim g0 w0 (st.mkSt o p0 t t' r r0 rs k k') a' w'→(∀z,z≠t→z≠t'→z≠r→z≠r0→a'.tmps.getD z undef=a.tmps.getD z undef)→Q .normal a' w'):
  (Code.region id #[⟨some t, .load S (.tmp tp),t1,p1,f1,none⟩,⟨some t', .move (.tmp tk),t2,p2,f2,none⟩,⟨some r, .call c,t3,p3,f3,none⟩,⟨some r0, .assign (.tmp r),t4,p4,f4,none⟩] false).wp P Q a w:=by
 obtain⟨g,hs⟩:=hs; simp only[z7,z37]at hd; obtain⟨⟨⟨⟨⟨e1,e2⟩,e3⟩,e4⟩,e5⟩,e6⟩:=hd; have e1:=cD e1; have e2:=cD e2; have e3:=cD e3; have e4:=cD e4; have e5:tk≠t:=fun h=>by rw[h,z42]at e5; cases e5
 have hst1:(st.put t (.one .junk) (fun _ _=> .D)).n=st.n:=rfl
 obtain⟨arr,ty,r1,r2,r3,_⟩:=hs.obs o cells hob; obtain⟨u,hu,hv⟩:=OV hT hi (p:=p0) r1 (by rw[r2]; exact hle) h1
 have hptr:a.tmps.getD tp undef= .pointer (some ⟨g.β o,p0,none⟩):=by
  have:=hs.slots tp; rw[htp]at this; exact this
 have hkv:a.tmps.getD tk undef= .int .i64 k:=by
  have:=hs.slots tk; rw[htk]at this; exact vI_ev this
 refine wp_region ?_
 show wpOps P _ Q [0,1,2,3] a w; rw[wpOps_cons]; refine tV rfl rfl (LO (v:=u) (rD (ρ:=a.eval) (x:= .tmp tp) rfl hptr hu) ?_)
 show wpOps P _ Q [1,2,3] (a.put (some t) u) w; have g1: ∀j,(a.put (some t) u).tmps.getD j undef=if j=t then u else a.tmps.getD j undef:=fun j=>Act.put_getD a t _ j (by rw[hs.size]; omega)
 have hs1:=hs.set (d:=t) (u:=u) (r:= .one .junk) (κ:=fun _ _=> .D) (by omega) trivial (fun h=>absurd rfl h)
 generalize a.put (some t) u=a1 at g1 hs1; rw[wpOps_cons]
 refine tV rfl rfl (LO (v:= .int .i64 k) (by
  rw[OJ (x:= .tmp tk) rfl]; show Result.ok (Next.value (a1.tmps.getD tk undef)) w=_; rw[g1,z13 e5,hkv]) ?_)
 show wpOps P _ Q [2,3] (a1.put (some t') (.int .i64 k)) w; have g2: ∀j,(a1.put (some t') (.int .i64 k)).tmps.getD j undef=if j=t' then .int .i64 k else a1.tmps.getD j undef:=fun j=>Act.put_getD a1 t' _ j (by rw[hs1.size]; show t'<st.n; omega)
 have hs2:=hs1.set (d:=t') (u:= .int .i64 k) (r:=vI k) (κ:=kS) (by show t'<st.n; omega) (Pu g w _ k) (fun h=>absurd rfl h)
 generalize a1.put (some t') (.int .i64 k)=a2 at g2 hs2; rw[wpOps_cons]; refine tV rfl rfl (Nw (c:=c) rfl hc1 ?_)
 have hargs:c.args.map a2.eval= #[u, .int .i64 k]:=by
  have q1:a2.eval (.tmp t)=u:=by
   show a2.tmps.getD t undef=_; rw[g2,z13 (by omega),g1,z19 rfl]
  have q2:a2.eval (.tmp t')= .int .i64 k:=by
   show a2.tmps.getD t' undef=_; rw[g2,z19 rfl]
  rw[hc2]; simp [q1,q2]
 rw[hargs]; have hlen:((arr.toList.drop p0).take i.size).length=i.size:=by simp; omega
 have hoff: ∀m∈rs,m.off<i.size:=fun m hm=>hM.1 (m.off,m.g) (z51.2 ⟨m,hm,rfl⟩)
 refine hM.2 u _ k w (fun _=>False) _ hv hlen (fun _ h=>h.elim) (Lm rs (cells:=cells) hs2 hob hC (fun m hm=> ?_) hch (fun _ h=>h.elim) (fun m hm=> ?_) (fun w1 w2 gb h5 h6 hE=> ?_))
 ·obtain⟨n,hn⟩:=hk m hm
  exact⟨n,hn⟩
 ·rw[z73,z19 (hoff m hm),z56,bX w _ _ arr ty _ r1]; simp
 ·show wpOps P _ Q [3] (a2.put (some r) (.int .i64 k')) w2
  have g3: ∀j,(a2.put (some r) (.int .i64 k')).tmps.getD j undef=if j=r then .int .i64 k' else a2.tmps.getD j undef:=fun j=>Act.put_getD a2 r _ j (by rw[hs2.size]; show r<st.n; omega)
  have hs3:=h5.put (hE.calm h5.ok _) (fun _=>rfl) (d:=r) (by rw[EX]; show r<st.n; omega) (fun _ _ _ _ h=>h) (u:= .int .i64 k') (r:=vI k') (κ:=kS) (Pu gb w2 _ k') (fun h=>absurd rfl h)
  generalize a2.put (some r) (.int .i64 k')=a3 at g3 hs3; rw[wpOps_cons]
  refine tV rfl rfl (LO (v:= .int .i64 k') (by
   rw[KM (x:= .tmp r) rfl]; show Result.ok (Next.value (a3.tmps.getD r undef)) w2=_; rw[g3,z19 rfl]) ?_)
  have g4: ∀j,(a3.put (some r0) (.int .i64 k')).tmps.getD j undef=if j=r0 then .int .i64 k' else a3.tmps.getD j undef:=fun j=>Act.put_getD a3 r0 _ j (by
   rw[hs3.size]; show r0<(turnM o p0 rs _).n; rw[EX]; show r0<st.n; omega)
  have hs4:=hs3.set (d:=r0) (u:= .int .i64 k') (r:=vI k') (κ:=kS) (by
   show r0<(turnM o p0 rs _).n; rw[EX]; show r0<st.n; omega) (Pu gb w2 _ k') (fun h=>absurd rfl h)
  show Q .normal (a3.put (some r0) (.int .i64 k')) w2; refine hQ _ w2 ⟨gb,hs4⟩ (fun z z1 z2 z3 z4=> ?_)
  rw[g4,z13 z4,g3,z13 z3,g2,z13 z2,g1,z13 z1]
end Go.Own

namespace Go.Own
open Go.RowKit
set_option linter.unusedVariables false

theorem vZ{F:FA}{n:Nat}{b:B}{x:D}{s:St}(hA:Ag F b x)(h:Low n b x s){d:Nat}{r:V}{κ:Nat→Nat→K}:Low n (b.filt (pU F d)) x (s.put d r κ):=by
 have hhas: ∀i,(b.filt (pU F d)).has i=true→b.has i=true∧i≠d∧aS d (aH (F.shOf i))=false:=fun i hi=>by
  rw[dT,z7]at hi; have h1:=hi.1; simp only[pU,z7,z37]at h1; exact⟨hi.2,(fun e=>by rw[e,z42]at h1; cases h1.1),h1.2⟩
 have hroot: ∀i,(b.filt (pU F d)).has i=true→aS d (aH (s.sl i))=false:=fun i hi=>by
  obtain⟨h1,_,h2⟩:=hhas i hi; rw[h.sl i h1]; rcases hA.sl i h1 with e2 | e2
  ·rw[e2]; rfl
  ·rw[dK e2]; exact h2
 have hkd: ∀i k j,(b.filt (pU F d)).has i=true→(b.filt (pU F d)).kd (.s i k j)=b.kd (.s i k j):=fun i k j hi=>fF (by rw[dT,z7]at hi; exact hi.1)
 have hfl: ∀i k j,(b.filt (pU F d)).has i=true→(s.put d r κ).fl (.s i k j)=s.fl (.s i k j):=fun i k j hi=>by
  simp only[St.put,z13 (hhas i hi).2.1]; rw[z13]; rintro ⟨_,_,h3⟩
  rw[hroot i hi]at h3; cases h3
 refine⟨h.n,fun i hi=> ?_,fun o ho=>h.ob o ho,fun l t hL ht=> ?_,fun i k xs hi hx=> ?_,fun i hi hr' hf=> ?_⟩
 ·simp only[St.put,z13 (hhas i hi).2.1]; exact h.sl i (hhas i hi).1
 ·cases l with
  | s i k j=>rw[hfl i k j hL,hkd i k j hL]; exact h.fl (.s i k j) t (hhas i hL).1 ht
  | oc o j=>exact h.fl (.oc o j) t hL ht
  | _=>cases hL
 ·rw[hfl i k 0 hi,hkd i k 0 hi]; exact h.cp i k xs (hhas i hi).1 hx
 ·rw[hfl i 0 0 hi]
  rw[hkd i 0 0 hi]at hf; exact h.al i (hhas i hi).1 hr' hf

theorem MU{F:FA}{b:B}{l:Loc}{o:Nat}:(b.turn F l).hasO o=b.hasO o:=by
 unfold B.turn B.killV; rw[fG,xF,fG,fG]
theorem RC(es es':List (List T))(u:T):qX (.sl es) u=qX (.sl es') u:=by cases u<;>rfl
theorem OA{F:FA}{n:Nat}{b:B}{x:D}{s:St}(hA:Ag F b x)(h:Low n b x s){o j:Nat}{es es':List (List T)}(hV: ∀i,b.has i=true→s.fl (.s i 0 0)= .V→b.kd (.s i 0 0)= .V)(hL:b.hasO o=true)(hat:x.at (.oc o j)=some (.sl es)):
  Ag F (b.turn F (.oc o j)) (x.upd (.oc o j) (.sl es'))∧Low n (b.turn F (.oc o j)) (x.upd (.oc o j) (.sl es')) (s.turn (.oc o j) (.U 0) (.sl es')):=by
 have hl0:isL (.oc o j) .none=false:=rfl; have hA1:Ag F (b.killV F) x:=hA.setf _ _; have h1:Low n (b.killV F) x s.killV:=iR hA h rfl (fun l _ hh=>by
  by_cases e:b.kd l= .V
  ·rw[z19 e]; exact GQ _
  ·rw[z13 e]
   by_cases e2:s.fl l= .V
   ·rw[e2]at hh
    have:b.kd l= .D:=by
     revert hh e
     cases b.kd l<;>simp [K.lo]
    rw[this]; exact GQ _
   ·rw[z13 e2]; exact hh) (fun i hi hh hf=>by
   by_cases e:b.kd (.s i 0 0)= .V
   ·rw[z19 e]at hf; exact absurd rfl hf
   ·rw[z13 e]at hf
    have:=hh hf; by_cases e2:s.fl (.s i 0 0)= .V
    ·exact absurd (hV i hi e2) e
    ·rw[z13 e2]; exact this)
 have hA2:Ag F ((b.killV F).setf F (isL (.oc o j)) (fun m q=>if isL (.oc o j) m=true then .D else q)) x:=hA1.setf _ _
 have h2:Low n ((b.killV F).setf F (isL (.oc o j)) (fun m q=>if isL (.oc o j) m=true then .D else q)) x (s.killV.drop (isL (.oc o j))):=iR hA1 h1 hl0 (fun m _ hh=>by
   by_cases e:isL (.oc o j) m=true
   ·rw[z19 e,z19 e]; exact cV _
   ·rw[z13 e,z13 e]; exact hh) (fun i _ hh hf=>by
   by_cases e:isL (.oc o j) (.s i 0 0)=true
   ·rw[z19 e]at hf; exact absurd rfl hf
   ·rw[z13 e]at hf ⊢; exact hh hf)
 have hL2:((b.killV F).setf F (isL (.oc o j)) (fun m q=>if isL (.oc o j) m=true then .D else q)).hasL (.oc o j)=true:=by
  show B.hasO _ o=true; unfold B.killV; rw[fG,fG]; exact hL
 have h3:=EV (z:= .sl es') hA2 h2 hL2 hat (by simp)
 have hA3:=(hA2.upd (z:= .sl es') hL2 hat (fun u=>RC es es' u)).filt (eO F (.oc o j))
 refine⟨hA3.setf _ _,iR (R:=isL (.oc o j)) (f:=fun m=>if m= .oc o j then .U 0 else((s.killV.drop (isL (.oc o j))).upd (.oc o j) (.sl es')).fl m) hA3 h3 hl0 (fun m _ hh=> ?_) (fun i _ hh hf=> ?_)⟩
 ·by_cases e:m= .oc o j
  ·rw[z19 e,z19 e]; exact cV _
  ·rw[z13 e,z13 e]; exact hh
 ·rw[z13 (by simp)]at hf ⊢; exact hh hf
theorem Nz{st:St}{l:Loc}{κ:K}{z:T}(hκ:κ≠ .V)(m:Loc):(st.turn l κ z).fl m≠ .V:=by
 unfold St.turn St.raise; refine pF (fun m=> ?_) m
 split
 ·exact hκ
 ·show((st.killV.drop (isL l)).upd l z).fl m≠ .V
  have h0: ∀m,(st.killV.drop (isL l)).fl m≠ .V:=fun m=>by
   refine pF (fun m=> ?_) m
   split
   ·simp
   ·exact qL st m
  cases m with
  | s i k j=>
   simp only[St.upd]; split
   ·simp
   ·exact h0 _
  | none=>exact h0 .none
  | ext=>exact h0 .ext
  | obj o=>exact h0 (.obj o)
  | oc o j=>exact h0 (.oc o j)
theorem GX{F:FA}{n o p0:Nat}{cells':List T}{k':Int}: ∀(rs:List MR) {b:B} {x:D} {s:St} {cells:List T} {k:Int},Ag F b x→Low n b x s→(∀i,b.has i=true→s.fl (.s i 0 0)= .V→b.kd (.s i 0 0)= .V)→b.hasO o=true→x.ob o=some cells→DU p0 rs cells k cells' k'→
  Ag F (B.turnM F o p0 (rs.map (·.off)) b) (D.updM o p0 rs x)∧Low n (B.turnM F o p0 (rs.map (·.off)) b) (D.updM o p0 rs x) (turnM o p0 rs s)
 | [],b,x,s,cells,k,hA,h,_,_,_,_=>⟨hA,h⟩
 | m::r,b,x,s,cells,k,hA,h,hV,hL,hob,hch=>by
  obtain⟨h1,rfl,h2⟩:=hch; have hat:x.at (.oc o (p0+m.off))=some (.sl m.es):=by
   show(x.ob o).bind (·[p0+m.off]?)=_
   rw[hob]; exact h1
  obtain⟨q1,q2⟩:=OA (es':=m.es') hA h hV hL hat; refine GX r q1 q2 (fun i _ e=>absurd e (Nz (by simp) _)) (by rw[MU]; exact hL) ?_ h2
  show rJ x.ob (.oc o (p0+m.off)) (.sl m.es') o=_; simp only[rJ,if_true,hob]; rfl
end Go.Own

namespace Go.Own
open Go.RowKit
set_option linter.unusedVariables false

theorem Qx(k:Int)(s:V):Own.fits (vI k) s=Own.fits (vI 0) s:=by
 cases s with
 | tup ws=>rfl
 | one w=>cases w<;>first | rfl | (rename_i y; cases y<;>rfl)

theorem Qf{P:Program}{τ:TypeId→Option TI}{Sgs:FuncId→List Sg}(hT:aY P τ){F:FA}{b b':B}{x:D}(hA:Ag F b x){S:TypeId}{i:TI}{f:FuncId}{c:Call}{o p0 tp tk t t' r r0 r2 id:Nat}{cells cells':List T}{k k':Int}{rs:List MR}
  {t1 t2 t3 t4:TypeId}{p1 p2 p3 p4:String}{f1 f2 f3 f4:Array Edge}(hi:τ S=some i)(h1:i.agg=false→i.size=1)(hM:QH P f i.agg i.size (rs.map fun m=>(m.off,m.g)))(hle:p0+i.size≤cells.length)
  (hc1:c.callee= .value (.func f))(hc2:c.args= #[.tmp t, .tmp t'])(hr2:r2=r)(htp:x.sl tp= .one (.ptr o p0))(htk:x.sl tk=vI k)(hob:x.ob o=some cells)
  (hC: ∀m∈rs, ∀sg∈Sgs m.g,sg.np=2→sg.no=0→TC P m.g sg [.one (.c (.sl m.es)), .one (.c (.int .i64 m.k))] [] (.one (.c (.int .i64 m.k1))) (some (.sl m.es')) [] none)(hch:DU p0 rs cells k cells' k')
  (hc:mkC τ Sgs F b (rs.map fun m=>(m.off,m.g)) [⟨some t, .load S (.tmp tp),t1,p1,f1,none⟩,⟨some t', .move (.tmp tk),t2,p2,f2,none⟩,⟨some r, .call c,t3,p3,f3,none⟩,⟨some r0, .assign (.tmp r2),t4,p4,f4,none⟩]=some b'):
  Ag F b' ((D.updM o p0 rs x).put r0 (vI k'))∧ ∀g0 w0 (Q:Exit→Act→World→Prop) a w,Sim g0 w0 (b.S F.n x) a w→(∀a' w',Sim g0 w0 (b'.S F.n ((D.updM o p0 rs x).put r0 (vI k'))) a' w'→(∀z,z≠t→z≠t'→z≠r→z≠r0→a'.tmps.getD z undef=a.tmps.getD z undef)→Q .normal a' w')→
   (Code.region id #[⟨some t, .load S (.tmp tp),t1,p1,f1,none⟩,⟨some t', .move (.tmp tk),t2,p2,f2,none⟩,⟨some r, .call c,t3,p3,f3,none⟩,⟨some r0, .assign (.tmp r2),t4,p4,f4,none⟩] false).wp P Q a w:=by
 subst hr2; simp only[mkC]at hc; split at hc<;>try cases hc
 rename_i o' p0' hsh; obtain⟨hq,hc⟩:=aI hc; simp only[z7]at hq; obtain⟨⟨⟨⟨⟨c1,c2⟩,c3⟩,c4⟩,c5⟩,c6⟩:=hq; have hop:o'=o∧p0'=p0:=by
  have hf:=hA.fits c1 (by rw[htp]; simp)
  rw[htp,hsh]at hf; simp only[Own.fits,bP,z7]at hf; exact⟨(z16 hf.1).symm,(z16 hf.2).symm⟩
 obtain⟨rfl,rfl⟩:=hop; cases hc; have hc4: ∀m∈rs,(∃n,b.kd (.oc o' (p0'+m.off))= .U n)∧ ∃sg∈Sgs m.g,okSg sg=true:=fun m hm=>by
  have:=z15.1 c4 (m.off,m.g) (z51.2 ⟨m,hm,rfl⟩); simp only[z7]at this; refine⟨?_,z157.1 this.2⟩
  revert this
  cases b.kd (.oc o' (p0'+m.off))<;>simp [isU]
 have hTC: ∀m∈rs,TCm P m:=fun m hm=>by
  obtain⟨sg,h2,h3⟩:=(hc4 m hm).2; simp only[okSg,z7]at h3; obtain⟨⟨⟨⟨⟨⟨q1,q2⟩,q3⟩,q4⟩,q5⟩,q6⟩,q7⟩:=h3; exact⟨sg,hC m hm sg h2 (z16 q2) (z16 q3),of_decide_eq_true q1,z16 q2,Qc q4,q5,q6,of_decide_eq_true q7⟩
 have hl0:=Low.self F.n b x; have hl1:=vZ (d:=t) (r:= .one .junk) (κ:=fun _ _=> .D) hA hl0
 have hA1:=hA.filt (pU F t); have hl2:=vZ (d:=t') (r:=vI k) (κ:=kS) hA1 hl1; have hA2:=hA1.filt (pU F t'); have hV: ∀i,((b.filt (pU F t)).filt (pU F t')).has i=true→(((b.S F.n x).put t (.one .junk) (fun _ _=> .D)).put t' (vI k) kS).fl (.s i 0 0)= .V→((b.filt (pU F t)).filt (pU F t')).kd (.s i 0 0)= .V:=fun i hi hv=>by
  rw[dT,dT,z7,z7]at hi; obtain⟨h2,h3,h4⟩:=hi; rw[fF h2,fF h3]; have e1:i≠t':=fun e=>by rw[e]at h2; simp [pU,z42]at h2
  have e2:i≠t:=fun e=>by rw[e]at h3; simp [pU,z42]at h3
  simp only[St.put,z13 e1,z13 e2]at hv; split at hv
  ·cases hv
  ·split at hv
   ·cases hv
   ·exact hv
 obtain⟨hA3,hl3⟩:=GX rs hA2 hl2 hV c2 hob hch; have hl4:=vZ (d:=r2) (r:=vI k') (κ:=kS) hA3 hl3; have hA4:=hA3.filt (pU F r2); have hfit:Own.fits (vI k') (F.shOf r0)=true:=by rw[Qx]; exact c6
 have hl5:=EZ (d:=r0) (r:=vI k') (κ:=kS) (f:=fun _ _=> .S) hA4 hl4 (.inr hfit) (fun _ _ _ _=>rfl) (fun kk xs h=>by cases kk<;>simp [vI,V.comp]at h) (fun h=>absurd rfl h)
 have hA5:=hA4.put (d:=r0) (r:=vI k') (f:=fun _ _=> .S) (.inr hfit)
 have hmap:(rs.map fun m=>(m.off,m.g)).map (·.1)=rs.map (·.off):=by rw[TE]; rfl
 rw[hmap]; refine⟨hA5.nrm,fun g0 w0 Q a w hs hQ=> ?_⟩
 exact OT hT hs hi h1 hM hle hc1 hc2 (by simp only[z7]; exact c5) (by rw[oK c1]; exact htp) (by rw[oK c3]; exact htk) (by rw[JJ c2]; exact hob) hTC (fun m hm=>(hc4 m hm).1) hch (fun a' w' hs' hz=>hQ a' w' (hs'.relax (hl5.le hA5)) hz)
end Go.Own

namespace Go.Own
open Go.RowKit

theorem bM.drawn{g0:G}{w0:World}{st:St}{a:Act}{g:G}{w:World}(n:Nat)(h:bM g0 w0 st a g w):bM g0 w0 st a g { w with drawn:=n }:=by
 have hE:Evo g w g { w with drawn:=n } (fun _=>False):=⟨z53 _,fun b _ _=>⟨rfl,rfl⟩⟩
 have hC:wT g w g { w with drawn:=n } (fun _=>False) st:= { evo:=hE,X:=fun _ h=>h.elim,V:= .inl fun b hb=>⟨hb,rfl⟩,os:=rfl,tape:=rfl,output:=rfl,ok:=⟨h.ok.own⟩ }
 refine⟨h.framed.trans hC.framed,hC.ok,h.size,h.defers,fun i=>RV.calm hC h.ok (fun _=>rfl) (fun _ _ _ h=>h) (h.slots i),fun o cells hc=> ?_,fun i hi hf=> ?_,h.bp,h.nle⟩
 ·obtain⟨arr,ty,h1,h2,h3,h4⟩:=h.obs o cells hc
  refine⟨arr,ty,h1,h2,h3,fun j x hx=> ?_⟩
  obtain⟨c,c1,c2,c3⟩:=h4 j x hx; exact⟨c,c1,c2,hC.lf h.ok (by simp) (fun _ h=>h) c3⟩
 ·obtain⟨h1,h2⟩:=h.pls i hi hf
  refine⟨h1,h2.congr ?_ rfl (fun v0 x0 p v' x' e1 e2 e3=>h.pl_evo hE (fun h=>h) h1 (fun h=>h) e1 e2 e3)⟩
  cases aH (st.sl i)<;>rfl
theorem Sim.drawn{g0:G}{w0:World}{s:St}{a:Act}{w:World}(n:Nat)(h:Sim g0 w0 s a w):Sim g0 w0 s a { w with drawn:=n }:=by
 obtain⟨g,h⟩:=h; exact⟨g,h.drawn n⟩
def mS(ops:Array Oper)(D:Nat→Prop):Prop:= ∀j o,ops[j]? =some o→D j→ ∀e∈o.after,Region.binds .any e=true→D e.on

theorem ET(ops:Array Oper)(D:Nat→Prop)(hD:mS ops D): ∀(l:List Oper) (acc:Array Nat),(∀k o,l[k]? =some o→ops[acc.size+k]? =some o)→
  (∀j i,D j→j<acc.size→(acc.getD j 0).testBit i=true→D i)→
  ∀j i,D j→((l.foldl (init:=acc) fun acc o=>acc.push (o.after.foldl (fun s e=>if Region.binds .any e then s||| 2 ^ e.on||| acc.getD e.on 0 else s) 0)).getD j 0).testBit i=true→D i
 | [],acc,_,h2,j,i,hj,hb=>by
  simp only[List.foldl_nil]at hb; by_cases hlt:j<acc.size
  ·exact h2 j i hj hlt hb
  ·have:acc.getD j 0=0:=by simp [Array.getD,hlt]
   rw[this]at hb; simp at hb
 | o::r,acc,h1,h2,j,i,hj,hb=>by
  rw[TH]at hb; refine ET ops D hD r _ (fun k o' hk=> ?_) (fun j i hj hlt hb=> ?_) j i hj hb
  ·rw[Array.size_push,Pe,Nat.add_comm 1 k]
   exact h1 (k+1) o' (by simpa using hk)
  ·rw[Array.size_push]at hlt
   by_cases e:j=acc.size
   ·have ho:ops[j]? =some o:=by
     have:=h1 0 o rfl; rw[e]; exact this
    subst e; have hb':((o.after.foldl (fun s e=>if Region.binds .any e then s||| 2 ^ e.on||| acc.getD e.on 0 else s) 0)).testBit i=true:=by
     simpa [Array.getD]using hb
    rw[←TO]at hb'; have key: ∀(es:List Edge) (s:Nat),(∀e∈es,e∈o.after)→(s.testBit i=true→D i)→(es.foldl (fun s e=>if Region.binds .any e then s||| 2 ^ e.on||| acc.getD e.on 0 else s) s).testBit i=true→D i:=by
     intro es; induction es with
     | nil=>intro s _ hs h; exact hs h
     | cons e es ih=>
      intro s hmem hs h; rw[TH]at h; refine ih _ (fun e he=>hmem e (z25 _ he)) (fun h=> ?_) h
      split at h
      ·rename_i hbd
       have hon:=hD _ o ho hj e (hmem e z29) hbd; rw[Pf,Pf,z50,z50]at h; rcases h with(h | h) | h
       ·exact hs h
       ·rw[z99]at h
        have:e.on=i:=by simpa using h
        rw[←this]; exact hon
       ·by_cases hlt:e.on<acc.size
        ·exact h2 _ _ hon hlt h
        ·have:acc.getD e.on 0=0:=by simp [Array.getD,hlt]
         rw[this]at h; simp at h
      ·exact hs h
    exact key _ 0 (fun e he=>z40.1 he) (by simp) hb'
   ·refine h2 j i hj (by omega) ?_
    have hlt':j<acc.size:=by omega
    rw[z55,Array.getElem?_push_lt hlt']at hb
    rw[z55,z66 hlt']; exact hb

theorem lV{ops:Array Oper}{D:Nat→Prop}(hD:mS ops D){j i:Nat}(hj:D j)(h:((Region.before ops).getD j 0).testBit i=true):D i:=by
 unfold Region.before at h; rw[←TO]at h; exact ET ops D hD ops.toList #[] (fun k o hk=>by simpa using hk) (fun j i _ hlt=>by simp at hlt) j i hj h

def GT(F:FA)(L L':Lvl):Prop:= ∀m b,oW m L=some b→ ∃b',oW m L'=some b'∧Cv F b b'
theorem GT.refl(F:FA)(L:Lvl):GT F L L:=fun _ b h=>⟨b,h,Cv.refl F b⟩
theorem GT.trans{F:FA}{a b c:Lvl}(h:GT F a b)(k:GT F b c):GT F a c:=fun e x hx=>by
 obtain⟨y,h1,h2⟩:=h e x hx; obtain⟨z,k1,k2⟩:=k e y h1; exact⟨z,k1,h2.trans k2⟩

theorem IL{F:FA}{m:Nat}{b:B}{mt:B→B→B}: ∀ {L L':Lvl},Rf F m b mt L=some L'→GT F L L'∧ ∃b',oW m L'=some b'∧Cv F b b'
 | [],L',h=>by
  cases h; exact⟨fun _ _ h=>(by cases h),b,by simp [oW],Cv.refl F b⟩
 | (m',b0)::r,L',h=>by
  unfold Rf at h; cases hm:Nat.beq m m' with
  | true=>
   rw[hm]at h; simp only[z17]at h; obtain⟨hc,h⟩:=aI h; simp only[z7]at hc; cases h; have e:=z16 hm; subst e; refine⟨fun m2 b2 h2=> ?_,_,by simp [oW],DL hc.2⟩
   simp only[oW]at h2 ⊢; cases h3:Nat.beq m2 m with
   | true=>rw[h3]at h2; cases h2; exact⟨_,rfl,DL hc.1⟩
   | false=>rw[h3]at h2; exact⟨b2,h2,Cv.refl F b2⟩
  | false=>
   rw[hm]at h; simp only[z12]at h; split at h<;>try cases h
   rename_i r' hr; obtain⟨k1,b',k2,k3⟩:=IL hr; refine⟨fun m2 b2 h2=> ?_,b',by simp only[oW,hm,z12]; exact k2,k3⟩
   simp only[oW]at h2 ⊢; cases h3:Nat.beq m2 m' with
   | true=>rw[h3]at h2; cases h2; exact⟨_,rfl,Cv.refl F _⟩
   | false=>rw[h3]at h2; exact k1 m2 b2 h2

section
variable {τ:TypeId→Option TI} {Sgs:FuncId→List Sg} {F:FA} {ds:List (Option Nat)} {mt:B→B→B}

theorem uA{m:Nat}{b:B}: ∀ {r:List Oper} {i:Nat} {acc acc':Lvl},uS τ Sgs F ds mt m b i r acc=some acc'→GT F acc acc'∧ ∀k o,r[k]? =some o→m.testBit (i+k)=false→gX m o=true→
  ∃b1 b2,rI τ Sgs F ds b o=some b1∧oW (m||| 2 ^ (i+k)) acc'=some b2∧Cv F b1 b2
 | [],i,acc,acc',h=>by cases h; exact⟨GT.refl F acc,fun k o hk=>by simp at hk⟩
 | o::r,i,acc,acc',h=>by
  unfold uS at h; cases hc:(m.testBit i|| !(gX m o))with
  | true=>
   rw[hc]at h; obtain⟨h1,h2⟩:=uA (show uS τ Sgs F ds mt m b (i+1) r acc=some acc' from h); refine⟨h1,fun k o' hk hb hr=> ?_⟩
   cases k with
   | zero=>
    simp only[z20,z10]at hk
    subst hk; rw[z69]at hb; rw[hb,hr]at hc; cases hc
   | succ k=>
    rw[show i+(k+1)=i+1+k by omega]at hb ⊢
    exact h2 k o' (by simpa using hk) hb hr
  | false=>
   rw[hc]at h; simp only[z12]at h; split at h<;>try cases h
   rename_i b1 hb1; split at h<;>try cases h
   rename_i acc1 ha; obtain⟨a1,b2,a2,a3⟩:=IL ha; obtain⟨h1,h2⟩:=uA h; refine⟨a1.trans h1,fun k o' hk hb hr=> ?_⟩
   cases k with
   | zero=>
    simp only[z20,z10]at hk
    subst hk; rw[z69]; obtain⟨b3,q1,q2⟩:=h1 _ b2 a2; exact⟨b1,b3,hb1,q1,a3.trans q2⟩
   | succ k=>
    rw[show i+(k+1)=i+1+k by omega]at hb ⊢
    exact h2 k o' (by simpa using hk) hb hr

theorem sP{os:List Oper}: ∀ {L acc L':Lvl},DQ τ Sgs F ds mt os L acc=some L'→GT F acc L'∧ ∀m b,oW m L=some b→ ∀(k:Nat) o,os[k]? =some o→m.testBit k=false→gX m o=true→
  ∃b1 b2,rI τ Sgs F ds b o=some b1∧oW (m||| 2 ^ k) L'=some b2∧Cv F b1 b2
 | [],acc,L',h=>by cases h; exact⟨GT.refl F acc,fun m b h=>by cases h⟩
 | (m',b0)::r,acc,L',h=>by
  unfold DQ at h; split at h<;>try cases h
  rename_i acc1 ha; obtain⟨a1,a2⟩:=uA ha; obtain⟨h1,h2⟩:=sP h; refine⟨a1.trans h1,fun m b hm k o hk hb hr=> ?_⟩
  simp only[oW]at hm; cases h3:Nat.beq m m' with
  | true=>
   rw[h3]at hm; cases hm; have e:=z16 h3; subst e; obtain⟨b1,b2,q1,q2,q3⟩:=a2 k o hk (by rw[z32]; exact hb) hr
   rw[z32]at q2; obtain⟨b3,q4,q5⟩:=h1 _ b2 q2; exact⟨b1,b3,q1,q4,q3.trans q5⟩
  | false=>
   rw[h3]at hm; exact h2 m b hm k o hk hb hr
end

section
variable {P:Program} {τ:TypeId→Option TI} {Sgs:FuncId→List Sg} {F:FA} {x x1 x2:D} {o:Oper} {b b1:B}

theorem SD.step(hT:aY P τ)(hA:Ag F b x){ops:Array Oper}{i:Nat}(hi:ops[i]? =some o)(h:SD P τ Sgs F (ops.toList.map (·.dst)) o x x1)(hc:rI τ Sgs F (ops.toList.map (·.dst)) b o=some b1):
  Ag F b1 x1∧ ∀g0 w0 (Q:Exit→Act→World→Prop) (K:Act→World→Prop) a w,Sim g0 w0 (b.S F.n x) a w→(∀v w',Sim g0 w0 (b1.S F.n x1) (a.put o.dst v) w'→K (a.put o.dst v) w')→wpOp P ops Q i K a w:=by
 obtain⟨b0,hr,e1,hgb,hun⟩:=Eu hc
 have fin: ∀(t:Bool),bE (ops.toList.map (·.dst)) x o.guard=some t→(∀g0 w0 (Q:Exit→Act→World→Prop) (K:Act→World→Prop) a w,Sim g0 w0 (b.S F.n x) a w→(∀v w',Sim g0 w0 (b1.S F.n x1) (a.put o.dst v) w'→K (a.put o.dst v) w')→if t then o.wp P a w K Q else K (a.put o.dst undef) w)→
   ∀g0 w0 (Q:Exit→Act→World→Prop) (K:Act→World→Prop) a w,Sim g0 w0 (b.S F.n x) a w→(∀v w',Sim g0 w0 (b1.S F.n x1) (a.put o.dst v) w'→K (a.put o.dst v) w')→wpOp P ops Q i K a w:=fun t hg hone g0 w0 Q K a w hs hK=>by
  have hw:Region.wanted o (yielded ops a.tmps)=t:=by
   obtain⟨g,hsg⟩:=hs; exact HO (F:=F) hsg hgb hg
  exact BO hi t hw (hone g0 w0 Q K a w hs hK)
 rcases h with⟨hg,rfl⟩ | ⟨hg,h1⟩ | ⟨hg,c,v,f,caps,ob,ob',r,nw,ho,hcal,hni,hx,hth,hob,hC,hsh,rfl⟩ | ⟨hg,c,v,f,r,t,xs,l,p,x0,es,es',ho,hcal,hio,hx,hth,hargs,hal,hat,hnav,hC,hsh,rfl⟩
 ·have hgn:o.guard≠none:=fun e=>by rw[e]at hg; cases hg
  obtain⟨hA1,hsk⟩:=Tk hA (hun hgn); rw[←e1]at hA1 hsk; exact⟨hA1,fin false hg (fun g0 w0 Q K a w hs hK=>hK undef w (hsk _ _ _ _ hs))⟩
 ·have hr':cOp τ F b o=some b0:=by
   unfold Nk at hr; rw[uB h1]at hr; exact hr
  have hop:=op_S hT hA h1 hr'; obtain⟨hA1,cs⟩:=((LX (F:=F) (fzL F b0 o.dst) b0).trans (IR F _)) x1 hop.ag; rw[←e1]at hA1 cs; exact⟨hA1,fin true hg (fun g0 w0 Q K a w hs hK=>(hop.ok g0 w0).w Q K a w hs (fun v w' hs'=>hK v w' (cs _ _ _ _ hs')))⟩
 ·have hr':QE Sgs F b o c v=some b0:=by
   unfold Nk at hr; rw[uC ho hcal]at hr; simp only[hni,z12]at hr; exact hr
  unfold QE at hr'; split at hr'<;>try cases hr'
  rename_i f' caps' hshp; obtain⟨sg,hsg,hcc⟩:=Bw hr'; obtain⟨hn,hcc⟩:=aI hcc; simp only[z7]at hn; have hkv:cR b v=true:=by
   have hcc:=hcc; unfold Nf at hcc; obtain⟨hq,_⟩:=aI hcc; simp only[z7]at hq; exact hq.1.1.1.1.1.1.1.1.1.1
  have hfc:f'=f∧caps'=caps:=by
   rcases AF hA hkv hx (by simp)with hf | ⟨_,hs⟩
   ·rw[hshp]at hf
    simp only[Own.fits,bP,z7]at hf; exact⟨(z16 hf.1).symm,(of_decide_eq_true hf.2).symm⟩
   ·rw[hshp]at hs
    cases hs; exact⟨rfl,rfl⟩
  obtain⟨rfl,rfl⟩:=hfc; have hlen:(inV x c caps' (iN F c v)).length=c.args.toList.length+caps'.length:=by simp [inV]
  have hol:ob.length=(iN F c v).length:=by have:=congrArg List.length hob; simpa using this
  have hnp:sg.np=(inV x c caps' (iN F c v)).length:=by rw[hlen]; exact z16 hn.1
  have hC:=hC sg hsg hnp (by rw[hol]; exact z16 hn.2)
  obtain⟨hA0,hop⟩:=VS (P:=P) hA ho hcal hx hC rfl hob hnp hth hsh hcc; obtain⟨hA1,cs⟩:=((LX (F:=F) (fzL F b0 o.dst) b0).trans (IR F _)) _ hA0; rw[←e1]at hA1 cs; exact⟨hA1,fin true hg (fun g0 w0 Q K a w hs hK=>hop g0 w0 Q K a w hs (fun v w' hs'=>hK v w' (cs _ _ _ _ hs')))⟩
 ·have hr':ioC Sgs F b o c v=some b0:=by
   unfold Nk at hr; rw[uC ho hcal]at hr; simp only[hio,z17]at hr; exact hr
  unfold ioC at hr'; split at hr'<;>try cases hr'
  rename_i f' caps' hshp; obtain⟨sg,hsg,hcc⟩:=Bw hr'; obtain⟨hn,hcc⟩:=aI hcc; simp only[z7]at hn; have hkv:cR b v=true:=by
   have hcc:=hcc; unfold cIo at hcc; rw[hargs]at hcc; simp only at hcc; split at hcc<;>try cases hcc
   obtain⟨hq,_⟩:=aI hcc; simp only[z7]at hq; exact hq.1.1.1.1.1.1.1.1.1.1.1.1.1.1.1.1
  have hfc:f'=f:=by
   rcases AF hA hkv hx (by simp)with hf | ⟨_,hs⟩
   ·rw[hshp]at hf
    simp only[Own.fits,bP,z7]at hf; exact(z16 hf.1).symm
   ·rw[hshp]at hs
    cases hs; rfl
  subst hfc; have hlen:(inV x c [] []).length=c.args.toList.length:=by simp [inV]
  have hnp:sg.np=(inV x c [] []).length:=by rw[hlen]; exact z16 hn.1.1
  have hC:=hC sg hsg hnp (z16 hn.2); obtain⟨hA0,hop⟩:=Oz (P:=P) hA ho hcal hx hC rfl hnp hth hargs hal hat hnav hsh hcc; obtain⟨hA1,cs⟩:=((LX (F:=F) (fzL F b0 o.dst) b0).trans (IR F _)) _ hA0; rw[←e1]at hA1 cs; exact⟨hA1,fin true hg (fun g0 w0 Q K a w hs hK=>hop g0 w0 Q K a w hs (fun v w' hs'=>hK v w' (cs _ _ _ _ hs')))⟩

theorem zI{ops:Array Oper}{listed:Array Bool}{i:Nat}(hsz:listed.size=ops.size)(hi:i<ops.size)(hun:listed.getD i true=false): ∃A C:List Nat,(List.range ops.size).filter (fun j=> !listed.getD j true)=A++i::C∧
  (List.range ops.size).filter (fun j=> !(listed.setIfInBounds i true).getD j true)=A++C∧ ∀j∈A,j<i∧listed.getD j true=false:=by
 have hr:List.range ops.size=List.range' 0 i++i::List.range' (i+1) (ops.size - i - 1):=by
  rw[TQ,show ops.size=i+(1+(ops.size - i - 1))by omega, ←List.range'_append_1, ←List.range'_append_1]
  simp
 have h1: ∀j,j≠i→(listed.setIfInBounds i true).getD j true=listed.getD j true:=fun j hj=>getD_set_ne true (Ne.symm hj)
 have hset:(listed.setIfInBounds i true).getD i true=true:=by
  have:i<listed.size:=by omega
  simp [Array.getD,this]
 refine⟨(List.range' 0 i).filter (fun j=> !listed.getD j true),(List.range' (i+1) (ops.size - i - 1)).filter (fun j=> !listed.getD j true), ?_, ?_,fun j hj=> ?_⟩
 ·rw[hr,z139,z155 (by simp [hun])]
 ·rw[hr,z139,List.filter_cons_of_neg (by simp [hset])]
  congr 1
  ·exact List.filter_congr fun j hj=>by
    have:=z148.1 hj; rw[h1 j (by omega)]
  ·exact List.filter_congr fun j hj=>by
    have:=z148.1 hj; rw[h1 j (by omega)]
 ·rw[z74]at hj
  have:=z148.1 hj.1; exact⟨by omega,by simpa using hj.2⟩

theorem Mf(hT:aY P τ){ops:Array Oper}(hO:mG F (ops.toList.map (·.dst)) ops=true){mt:B→B→B}{mf:Nat}{bf:B}{xn:D}:
  ∀(k j m:Nat) (L:Lvl) (b:B) (x:D),j+k=ops.size→GK τ Sgs F (ops.toList.map (·.dst)) mt ops.toList k L=some [(mf,bf)]→oW m L=some b→(∀i,i<ops.size→m.testBit i=decide (i<j))→Ag F b x→
   CY P τ Sgs F (ops.toList.map (·.dst)) ops (List.range' j k) x xn→Ag F bf xn:=by
 simp only[mG,z7,z15,z57]at hO; obtain⟨hedge,_⟩:=hO; intro k; induction k with
 | zero=>
  intro j m L b x hjk hL hm hbit hA hrun; have hx:x=xn:=hrun; subst hx; cases hL; simp only[oW]at hm; cases h3:Nat.beq m mf with
  | true=>rw[h3]at hm; cases hm; exact hA
  | false=>rw[h3]at hm; cases hm
 | succ k ih=>
  intro j m L b x hjk hL hm hbit hA hrun; unfold GK at hL; split at hL<;>try cases hL
  rename_i L' hL'; rw[z159]at hrun; obtain⟨o,x1,ho,_,hsd,hrun1⟩:=hrun; have hlt:j<ops.size:=by omega
  have hrdy:gX m o=true:=by
   simp only[gX,z15]; intro e he; have h2:=hedge j hlt; rw[ho]at h2; simp only[z79]at h2; have h3:=h2 e (z40.1 he); cases hb:Region.binds .any e with
   | false=>rfl
   | true=>
    simp only[hb,z34,z54]at h3; have h4:=cD h3; simp only[z34,z54]; rw[hbit e.on (by omega)]; exact z11 h4
  obtain⟨b1,b2,s1,s2,cv⟩:=(sP hL').2 m b hm j o (by rw[z26]; exact ho) (by rw[hbit j hlt]; simp) hrdy
  obtain⟨hA1,_⟩:=hsd.step hT hA ho s1; refine ih (j+1) (m||| 2 ^ j) L' b2 x1 (by omega) hL s2 (fun i hi=> ?_) (cv x1 hA1).1 hrun1
  rw[Pf,z99,hbit i hi]; by_cases hij:i=j
  ·subst hij; simp
  ·have:(decide (i<j+1))=decide (i<j):=by
    by_cases h:i<j
    ·rw[z11 h,z11 (by omega)]
    ·rw[z9 h,z9 (by omega)]
   rw[this]; simp; omega

theorem xA{ds:List (Option Nat)}: ∀ {os:List Oper} {b b2:B},Hn τ Sgs F ds b os=some b2→No τ Sgs F ds b os=some b2
 | [],b,b2,h=>h
 | o::r,b,b2,h=>by
  unfold Hn at h; obtain⟨_,h⟩:=aI h; unfold No; split at h<;>try cases h
  rename_i b1 h1
  first
   | (rw[h1]; exact xA h)
   | exact xA h
theorem Ma{ds:List (Option Nat)}{os:List Oper}{b b2:B}(h:Hn τ Sgs F ds b (o::os)=some b2):o.op.operands.toList.all (cR b)=true∧ ∃b1,rI τ Sgs F ds b o=some b1∧Hn τ Sgs F ds b1 os=some b2:=by
 unfold Hn at h; obtain⟨h0,h⟩:=aI h; split at h<;>try cases h
 rename_i b1 h1; exact⟨h0,b1,h1,h⟩
theorem CZ.of(hA:Ag F b x)(h:o.op.operands.toList.all (cR b)=true):CZ F x o:=fun v hv=>by
 have:=z15.1 h v (by simpa using hv)
 cases v with
 | tmp t=>exact hA.sl t this
 | _=>trivial
end
end Go.Own

namespace Go.Own
open Go.RowKit

section
variable {P:Program} {τ:TypeId→Option TI} {Sgs:FuncId→List Sg} {F:FA} {x x1 xn:D} {o:Oper} {b b1:B} {g0:G} {w0:World} {a:Act} {g:G} {w:World} {ds:List (Option Nat)} {mt:B→B→B}
theorem JV{m:Nat}: ∀ {r:List Oper} {es:List Bool} {i j:Nat} {o:Oper},Bc m i r es=some (j,o)→ ∃k,j=i+k∧r[k]? =some o∧es[k]? =some true∧m.testBit j=false∧gX m o=true
 | [],_,i,j,o,h=>by simp [Bc]at h
 | _::_,[],i,j,o,h=>by simp [Bc]at h
 | o'::r,e::es,i,j,o,h=>by
  simp only[Bc]at h; cases hc:(e&&(!(m.testBit i)&&gX m o'))with
  | true=>
   rw[hc]at h; cases h; simp only[z7,z37]at hc; obtain⟨rfl,h1,h2⟩:=hc; exact⟨0,rfl,rfl,rfl,h1,h2⟩
  | false=>
   rw[hc]at h; obtain⟨k,rfl,h2,h3,h4⟩:=JV (show Bc m (i+1) r es=some (j,o)from h); exact⟨k+1,by omega,by simpa using h2,by simpa using h3,h4⟩
theorem zJ{E:List Bool}{os:List Oper}: ∀ {L acc L':Lvl},BV τ Sgs F ds mt E os L acc=some L'→GT F acc L'∧ ∀m b,oW m L=some b→
  (∃i o,Bc m 0 os E=some (i,o)∧ ∃b1 b2,rI τ Sgs F ds b o=some b1∧oW (m||| 2 ^ i) L'=some b2∧Cv F b1 b2)∨
  (Bc m 0 os E=none∧ ∀(k:Nat) o,os[k]? =some o→m.testBit k=false→gX m o=true→ ∃b1 b2,rI τ Sgs F ds b o=some b1∧oW (m||| 2 ^ k) L'=some b2∧Cv F b1 b2)
 | [],acc,L',h=>by cases h; exact⟨GT.refl F acc,fun m b h=>by cases h⟩
 | (m',b0)::r,acc,L',h=>by
  unfold BV at h; cases hp:Bc m' 0 os E with
  | some p=>
   obtain⟨i,o⟩:=p; rw[hp]at h; simp only at h; split at h<;>try cases h
   rename_i b1 hb1; split at h<;>try cases h
   rename_i acc1 ha; obtain⟨a1,b2,a2,a3⟩:=IL ha; obtain⟨h1,h2⟩:=zJ h; refine⟨a1.trans h1,fun m b hm=> ?_⟩
   simp only[oW]at hm; cases h3:Nat.beq m m' with
   | true=>
    rw[h3]at hm; cases hm; have e:=z16 h3; subst e; obtain⟨b3,q1,q2⟩:=h1 _ b2 a2; exact .inl ⟨i,o,hp,b1,b3,hb1,q1,a3.trans q2⟩
   | false=>rw[h3]at hm; exact h2 m b hm
  | none=>
   rw[hp]at h; simp only at h; split at h<;>try cases h
   rename_i acc1 ha; obtain⟨a1,a2⟩:=uA ha; obtain⟨h1,h2⟩:=zJ h; refine⟨a1.trans h1,fun m b hm=> ?_⟩
   simp only[oW]at hm; cases h3:Nat.beq m m' with
   | true=>
    rw[h3]at hm; cases hm; have e:=z16 h3; subst e; refine .inr ⟨hp,fun k o hk hb hr=> ?_⟩
    obtain⟨b1,b2,q1,q2,q3⟩:=a2 k o hk (by rw[z32]; exact hb) hr
    rw[z32]at q2; obtain⟨b3,q4,q5⟩:=h1 _ b2 q2; exact⟨b1,b3,q1,q4,q3.trans q5⟩
   | false=>rw[h3]at hm; exact h2 m b hm

theorem Ln(hA:Ag F b x){v:Operand}{d:Nat}(hs:bM g0 w0 (b.S F.n x) a g w)(hk:cR b v=true)(ha:GO F b d v=true)(hv:(∃ob p,ev x.sl v= .one (.ptr ob p))∨(∃xs,ev x.sl v= .one (.cp xs))∨ ∃l p i j,ev x.sl v= .one (.pp l p i j)): ∃b off,a.eval v= .pointer (some ⟨b,off,none⟩):=by
 have h1:=hs.ev_rv v (fun _ _=> .none)
 rcases hv with⟨ob,p,hv⟩ | ⟨xs,hv⟩ | ⟨l,p,i,j,hv⟩
 ·rw[mW hk,hv]at h1
  exact⟨_,_,h1⟩
 ·rw[mW hk,hv]at h1
  obtain⟨b,off,e,_⟩:=h1; exact⟨b,off,e⟩
 ·obtain⟨a1,a2,a3⟩:=Ak hA hk ha hv
  cases v with
  | tmp t=>
   have hy:(b.S F.n x).sl t= .one (.pp l p i j):=(oK hk).trans hv
   have hD:(b.S F.n x).fl (.s t 0 0)≠ .D:=fun e=>a3 (by
    have e:b.kd (.s t 0 0)= .D:=e; simp [Dw,e,K.cp])
   have:=hs.pls t (by rw[hy]; exact a1) hD
   rw[hy]at this; obtain⟨hk2,v0,x0,b,o1,len,cap,es,e,e1,e2,e3,e4,e5⟩:=this; exact⟨_,_,e5⟩
  | const u=>
   exfalso
   have:bG u= .one (.pp l p i j):=hv; unfold bG at this
   (repeat' split at this)<;>simp at this
  | func f=>simp [ev]at hv
  | global n=>simp [ev]at hv
theorem RA(hT:aY P τ)(hA:Ag F b x)(he:Pn F o=true)(hs:bM g0 w0 (b.S F.n x) a g w)(h1:dOp τ F x o=some x1)(h2:cOp τ F b o=some b1): ∃v, ∀w2,(execOp a.eval o).run P w2= .ok (.value v) w2:=by
 unfold Pn at he; simp only[z7]at he; obtain⟨_,he⟩:=he; unfold dOp at h1; unfold cOp at h2; split at he
 ·rename_i d v hd ho
  exact⟨a.eval v,fun w2=>by
   obtain⟨dst,op,ty,pos,after,guard⟩:=o; simp only at ho; subst ho; rfl⟩
 ·rename_i d v hd ho
  exact⟨a.eval v,fun w2=>by
   obtain⟨dst,op,ty,pos,after,guard⟩:=o; simp only at ho; subst ho; rfl⟩
 ·rename_i d v hd ho
  rw[hd,ho]at h1 h2; simp only at h1 h2; obtain⟨hc,_⟩:=aI h2; simp only[z7]at hc; have hv:(∃ob p,ev x.sl v= .one (.ptr ob p))∨(∃xs,ev x.sl v= .one (.cp xs))∨ ∃l p i j,ev x.sl v= .one (.pp l p i j):=by
   unfold KF at h1; split at h1<;>try cases h1
   ·rename_i e; exact .inl ⟨_,_,e⟩
   ·rename_i e; exact .inr (.inl ⟨_,e⟩)
   ·rename_i f cs e
    exfalso
    unfold Pw at he; rcases AF hA hc.1.2 e (by simp)with hf | ⟨_,hs⟩
    ·split at he<;>try cases he
     all_goals (rename_i e2; rw[e2]at hf; simp [Own.fits,bP]at hf)
    ·rw[hs]at he; cases he
   ·rename_i e; exact .inr (.inr ⟨_,_,_,_,e⟩)
  obtain⟨b',off,e⟩:=Ln hA hs hc.1.2 hc.2 hv; refine⟨a.eval v,fun w2=> ?_⟩
  obtain⟨dst,op,ty,pos,after,guard⟩:=o; simp only at ho; subst ho; simp only[execOp,e]; rfl
 ·rename_i d s v f hd ho
  rw[hd,ho]at h1 h2; simp only at h1 h2; obtain⟨hc,_⟩:=aI h2; simp only[z7]at hc; unfold tF at h1; split at h1<;>try cases h1
  rename_i fs hfs; split at h1<;>try cases h1
  rename_i q hq; split at h1<;>try cases h1
  rename_i r hr; obtain⟨off,size,agg⟩:=q; have hv:(∃ob p,ev x.sl v= .one (.ptr ob p))∨(∃xs,ev x.sl v= .one (.cp xs))∨ ∃l p i j,ev x.sl v= .one (.pp l p i j):=by
   unfold zB at hr; split at hr<;>try cases hr
   ·rename_i e; exact .inl ⟨_,_,e⟩
   ·rename_i e; exact .inr (.inl ⟨_,e⟩)
   ·rename_i e; exact .inr (.inr ⟨_,_,_,_,e⟩)
  obtain⟨b',off',e⟩:=Ln hA hs hc.1.2 hc.2 hv; exact⟨_,fun w2=>nY hT hfs hq (ρ:=a.eval) e ho w2⟩
 ·cases he
end

def NoQ':Exit→Act→World→Prop:=fun _ _ _=>False
theorem Tg{P:Program}{ops:Array Oper}{i:Nat}{o:Oper}{K:Act→World→Prop}{a:Act}{w:World}(h:wpOp P ops NoQ' i K a w)(hi:ops[i]? =some o)(hg:o.guard=none):o.wp P a w K NoQ':=by
 unfold wpOp at h; simp only[hi,Region.wanted,hg,if_true]at h; exact h.resolve_right (fun e=>e.2.elim fun _ h=>h.elim fun _ h=>h)
theorem KN{ops:Array Oper}{listed:Array Bool}(hsz:listed.size=ops.size)(he: ∀j o,ops[j]? =some o→ ∀e∈o.after,Region.binds .any e=true→e.on<j)(hr:Region.ready .any ops listed=[]): ∀j,j<ops.size→listed.getD j false=true:=by
 have hgd: ∀j,j<ops.size→listed.getD j true=listed.getD j false:=fun j h2=>by
  have:j<listed.size:=by omega
  simp [Array.getD,this]
 intro j; induction j using Nat.strongRecOn with
 | _ j ih=>
  intro hj; rcases z149 (listed.getD j false)with h | h
  ·exact h
  ·exfalso
   have:j∈Region.ready .any ops listed:=by
    rw[mem_ready]; refine⟨by rw[hgd j hj]; exact h,ops[j],z66 hj,fun e he' hb=> ?_⟩
    have h3:=he j _ (z66 hj) e he' hb
    exact ih e.on h3 (by omega)
   rw[hr]at this; cases this

section
variable {P:Program} {τ:TypeId→Option TI} {Sgs:FuncId→List Sg} {F:FA} {ds:List (Option Nat)} {x x1:D} {o:Oper}
theorem Tl(h:SD P τ Sgs F ds o x x1)(hg:o.guard=none)(hc: ∀c,o.op≠ .call c):dOp τ F x o=some x1:=by
 rcases h with⟨h,_⟩ | ⟨_,h⟩ | ⟨_,c,v,f,caps,ob,ob',r,nw,h,_⟩ | ⟨_,c,v,f,r,t,xs,l,p,x0,es,es',h,_⟩
 ·rw[hg]at h; cases h
 ·exact h
 ·exact absurd h (hc c)
 ·exact absurd h (hc c)
theorem RH{ds:List (Option Nat)}{b b1:B}{o:Oper}(h:rI τ Sgs F ds b o=some b1)(hc: ∀c,o.op≠ .call c): ∃b2,cOp τ F b o=some b2:=by
 obtain⟨b2,hr,_⟩:=Eu h; refine⟨b2, ?_⟩
 unfold Nk at hr; have:cW o=none:=by
  unfold cW; split
  ·rename_i c e; exact absurd e (hc c)
  ·rfl
 rw[this]at hr; exact hr
end
def NoP(Q:Exit→Act→World→Prop):Exit→Act→World→Prop:=fun e a w=>e= .normal∧Q e a w
theorem Jb{Q:Exit→Act→World→Prop}: ¬ LetsOut (NoP Q):=fun⟨_,_,h,_⟩=>by cases h
theorem QK{P:Program}{o:Oper}{a:Act}{K K':Act→World→Prop}{Q:Exit→Act→World→Prop}(hk: ∀a w,K a w→K' a w){r:Result Next}(h:o.upon P a K (NoP Q) r):o.upon P a K' Q r:=by
 cases r with
 | ok n w'=>
  cases n<;>simp only[Oper.upon]at h ⊢ <;>first
   | exact hk _ _ h
   | exact Calls.mono h (fun e w'' he=>by
     cases e
     ·exact hk _ _ he
     ·cases he.1
     ·exact absurd he Jb)
   | exact Rows.mono h (fun v w'' he=>hk _ _ he)
   | exact h
 | halt x w'=>
  cases x<;>simp only[Oper.upon]at h ⊢ <;>first | exact h | cases h.1
theorem QJ{P:Program}{ops:Array Oper}{Q:Exit→Act→World→Prop}{i:Nat}{K K':Act→World→Prop}{a:Act}{w:World}(hk: ∀a w,K a w→K' a w)(h:wpOp P ops (NoP Q) i K a w):wpOp P ops Q i K' a w:=by
 unfold wpOp at h ⊢; split
 ·rename_i e; rw[e]at h; exact hk _ _ h
 ·rename_i o e
  rw[e]at h; simp only at h; split
  ·rename_i hw
   rw[z19 hw]at h; rcases h with h | ⟨_,h⟩
   ·exact .inl (QK hk h)
   ·exact absurd h Jb
  ·rename_i hw
   rw[z13 hw]at h; exact hk _ _ h
theorem JL{P:Program}{md:Region.Mode}{ops:Array Oper}{Q:Exit→Act→World→Prop}: ∀ {k:Nat} {listed:Array Bool} {a:Act} {w:World},wpAny P md ops (NoP Q) k listed a w→wpAny P md ops Q k listed a w
 | 0,_,_,_,h=>⟨h.1,h.2.2⟩
 | k+1,_,_,_,h=>⟨fun hr=>(h.1 hr).2,fun i hi=>QJ (fun _ _ h=>JL h) (h.2 i hi)⟩

section
variable {P:Program} {τ:TypeId→Option TI} {Sgs:FuncId→List Sg} {F:FA} {xn:D} {g0:G} {w0:World} {mt:B→B→B}
theorem Iq{ops:Array Oper}{i:Nat}{o:Oper}(hi:ops[i]? =some o)(h:Nc F ops i=true):Pn F o=true∧ ∀(listed:Array Bool),mS ops (fun j=>listed.getD j false=true)→(∀e∈o.after,Region.binds .any e=true→listed.getD e.on false=true)→
  ∀j oj,ops[j]? =some oj→j≠i→listed.getD j false=false→(∀e∈oj.after,Region.binds .any e=true→e.on≠i)→o.apart ops oj=true:=by
 unfold Nc at h; rw[hi]at h; simp only[z7,z15,z57]at h; refine⟨h.1,fun listed hcl hrd j oj hj hne hu hno=> ?_⟩
 have h1:=h.2 j (z31.1 hj).1
 rw[hj]at h1; simp only[z50]at h1; rcases h1 with(h1 | h1) | h1 | h1
 ·exact absurd (z16 h1) hne
 ·exfalso
  have hD:mS ops (fun j=>j=i∨listed.getD j false=true):=by
   intro k ok hk hd e he hb; rcases hd with rfl | hd
   ·rw[hi]at hk
    cases hk; exact .inr (hrd e he hb)
   ·exact .inr (hcl k ok hk hd e he hb)
  rcases lV hD (.inl rfl) h1 with e | e
  ·exact hne e
  ·rw[hu]at e; cases e
 ·exfalso
  obtain⟨e,he,hb⟩:=Array.any_eq_true'.1 h1; simp only[z7]at hb; exact hno e he hb.1 (z16 hb.2)
 ·exact h1
theorem Ou{ops:Array Oper}{i:Nat}(h:(Tb F ops)[i]? =some true):Region.noSelect ops=true∧Nc F ops i=true:=by
 unfold Tb at h; cases hs:Region.noSelect ops with
 | false=>rw[hs]at h; simp at h
 | true=>
  rw[hs]at h; simp only[z17,z36]at h
  obtain⟨k,hk,e⟩:=z22.1 h; have:k=i:=by
   have h1:=z95.1 hk
   obtain⟨h2,h3⟩:=h1; simpa using h3.symm
  subst this; exact⟨rfl,e⟩
theorem RK(hT:aY P τ){ops:Array Oper}(hO:mG F (ops.toList.map (·.dst)) ops=true){mf:Nat}{bf:B}:
  ∀(k:Nat) (listed:Array Bool) (m:Nat) (L:Lvl) (b:B) (x:D),Ed τ Sgs F (ops.toList.map (·.dst)) mt (Tb F ops) ops.toList k L=some [(mf,bf)]→oW m L=some b→listed.size=ops.size→(∀i,i<ops.size→m.testBit i=listed.getD i false)→
   mS ops (fun j=>listed.getD j false=true)→(List.range ops.size).countP (fun i=> !listed.getD i true)=k→Ag F b x→CY P τ Sgs F (ops.toList.map (·.dst)) ops ((List.range ops.size).filter fun j=> !listed.getD j true) x xn→
   Ag F bf xn∧ ∀ {Q:Exit→Act→World→Prop} {a0:Act},(∀a w,Sim g0 w0 (bf.S F.n xn) a w→(∀z,wB z ops.toList=true→a.tmps.getD z undef=a0.tmps.getD z undef)→Q .normal a w)→
    ∀(a:Act) (w:World),Sim g0 w0 (b.S F.n x) a w→(∀z,wB z ops.toList=true→a.tmps.getD z undef=a0.tmps.getD z undef)→wpAny P .any ops (NoP Q) k listed a w:=by
 simp only[mG,z7,z15,z57]at hO; obtain⟨hedge,hpair⟩:=hO; have hgd: ∀(listed:Array Bool) j,listed.size=ops.size→j<ops.size→listed.getD j true=listed.getD j false:=by
  intro listed j h1 h2; have:j<listed.size:=by omega
  simp [Array.getD,this]
 have hedge': ∀j o,ops[j]? =some o→ ∀e∈o.after,Region.binds .any e=true→e.on<j:=fun j o ho e he hb=>by
  have h1:=hedge j (z31.1 ho).1
  rw[ho]at h1; simp only[z79]at h1; have h2:=h1 e he; simp only[hb,z34,z54]at h2; exact cD h2
 intro k; induction k with
 | zero=>
  intro listed m L b x hL hm hsz hbit hcl hcount hA hrun; have hlist: ∀j,j<ops.size→listed.getD j true=true:=fun j hj=>by
   rw[List.countP_eq_zero]at hcount; have:=hcount j (z57.2 hj); simpa using this
  have hr:Region.ready .any ops listed=[]:=by
   apply z125.2
   intro j hj; obtain⟨h1,o,ho,_⟩:=mem_ready.1 hj; rw[hlist j (z31.1 ho).1]at h1; cases h1
  have hf:(List.range ops.size).filter (fun j=> !listed.getD j true)=[]:=TT.2 fun j hj=>by rw[hlist j (z57.1 hj)]; simp
  rw[hf]at hrun; have hx:x=xn:=hrun; subst hx; cases hL; simp only[oW]at hm; cases h3:Nat.beq m mf with
  | true=>rw[h3]at hm; cases hm; exact⟨hA,fun hQ a w hs hz=>⟨hr,rfl,hQ a w hs hz⟩⟩
  | false=>rw[h3]at hm; cases hm
 | succ k ih=>
  intro listed m L b x hL hm hsz hbit hcl hcount hA hrun; unfold Ed at hL; split at hL<;>try cases hL
  rename_i L' hL'
  have take: ∀(i:Nat) (o:Oper),ops[i]? =some o→listed.getD i false=false→(∀e∈o.after,Region.binds .any e=true→listed.getD e.on false=true)→(∃b1 b2,rI τ Sgs F (ops.toList.map (·.dst)) b o=some b1∧oW (m||| 2 ^ i) L'=some b2∧Cv F b1 b2)→
    ∃(x1:D) (b1 b2:B),SD P τ Sgs F (ops.toList.map (·.dst)) o x x1∧rI τ Sgs F (ops.toList.map (·.dst)) b o=some b1∧(∀g0 w0 (Q:Exit→Act→World→Prop) (K:Act→World→Prop) a w,Sim g0 w0 (b.S F.n x) a w→(∀v w',Sim g0 w0 (b2.S F.n x1) (a.put o.dst v) w'→K (a.put o.dst v) w')→wpOp P ops Q i K a w)∧
     Ag F bf xn∧ ∀ {Q:Exit→Act→World→Prop} {a0:Act},(∀a w,Sim g0 w0 (bf.S F.n xn) a w→(∀z,wB z ops.toList=true→a.tmps.getD z undef=a0.tmps.getD z undef)→Q .normal a w)→
      ∀(a:Act) (v:Value) (w:World),Sim g0 w0 (b2.S F.n x1) (a.put o.dst v) w→(∀z,wB z ops.toList=true→a.tmps.getD z undef=a0.tmps.getD z undef)→wpAny P .any ops (NoP Q) k (listed.setIfInBounds i true) (a.put o.dst v) w:=by
   intro i o ho hun' hafter ⟨b1,b2,s1,s2,cv⟩; have hlt:i<ops.size:=(z31.1 ho).1
   have hun:listed.getD i true=false:=by rw[hgd listed i hsz hlt]; exact hun'
   obtain⟨A,C,f1,f2,f3⟩:=zI hsz hlt hun; have hcl':mS ops (fun j=>(listed.setIfInBounds i true).getD j false=true):=by
    intro j oj hoj hj e he hb; by_cases hij:i=j
    ·subst hij
     rw[ho]at hoj; cases hoj; exact getD_set_true (hafter e he hb)
    ·rw[getD_set_ne false hij]at hj
     exact getD_set_true (hcl j oj hoj hj e he hb)
   have hset:(listed.setIfInBounds i true).getD i false=true:=by
    have:i<listed.size:=by omega
    simp [Array.getD,this]
   rw[f1]at hrun; obtain⟨hfo,x1,hsd,hrun1⟩:=hrun.front ho (fun j hj a' ha'=>by
    obtain⟨j1,j2⟩:=f3 j hj; have h1:=hpair i hlt j j1; rw[ha',ho]at h1; simp only[z50]at h1; refine h1.resolve_left (fun h2=> ?_)
    have:=lV (D:=fun j=>(listed.setIfInBounds i true).getD j false=true) hcl' hset h2
    rw[getD_set_ne false (by omega)]at this
    rw[hgd listed j hsz (by omega)]at j2
    rw[j2]at this; cases this)
   obtain⟨hA1,hw1⟩:=hsd.step (P:=P) hT hA ho s1; obtain⟨hA2,cs⟩:=cv x1 hA1; have hnx:=ih (listed.setIfInBounds i true) (m||| 2 ^ i) L' b2 x1 hL s2 (by simpa using hsz) (fun j hj=>by
    rw[Pf,z99,hbit j hj]; by_cases hij:i=j
    ·subst hij; rw[hset]; simp
    ·rw[getD_set_ne false hij]; simp [hij]) hcl' (by
    rw[z59]at hcount ⊢; rw[f1]at hcount; rw[f2]; simp only[z30,z43]at hcount ⊢; omega) hA2 (by rw[f2]; exact hrun1)
   refine⟨x1,b1,b2,hsd,s1,fun g0 w0 Q K a w hs hK=>hw1 g0 w0 Q K a w hs (fun v w' hs'=>hK v w' (cs _ _ _ _ hs')),hnx.1,fun {Q a0} hQ a v w hs hz=>hnx.2 hQ _ w hs (fun z hno=> ?_)⟩
   have hne:o.dst≠some z:=by
    have key: ∀l:List Oper,wB z l=true→ ∀o∈l,o.dst≠some z:=by
     intro l; induction l with
     | nil=>intro _ o h; cases h
     | cons p r ihl=>
      intro h o hm; simp only[wB,z7,z37,z39]at h; cases hm with
      | head=>exact h.1
      | tail _ hm=>exact ihl h.2 o hm
    exact key ops.toList hno o (z40.2 (z126 ho))
   rw[wY hne]; exact hz z hno
  have hnr:Region.ready .any ops listed≠[]:=fun hr=>by
   have hall:=KN hsz hedge' hr; have:(List.range ops.size).countP (fun i=> !listed.getD i true)=0:=List.countP_eq_zero.2 fun j hj=>by
    rw[hgd listed j hsz (z57.1 hj),hall j (z57.1 hj)]; simp
   omega
  rcases (zJ hL').2 m b hm with⟨i,o,hp,hst⟩ | ⟨_,hst⟩
  ·obtain⟨i',rfl,ho,he,hb,hr⟩:=JV hp
   rw[z32]at*; rw[z26]at ho
   have hlt:i'<ops.size:=(z31.1 ho).1
   have hun':listed.getD i' false=false:=by rw[←hbit i' hlt]; exact hb
   have hafter: ∀e∈o.after,Region.binds .any e=true→listed.getD e.on false=true:=fun e hee hbb=>by
    simp only[gX,z15]at hr; have h1:=hr e (z40.2 hee); simp only[hbb,z34,z54]at h1; rw[←hbit e.on (by have:=hedge' i' o ho e hee hbb; omega)]; exact h1
   obtain⟨hns,hea⟩:=Ou he; obtain⟨hek,hap⟩:=Iq ho hea; obtain⟨x1,b1,b2,hsd,s1,hw1,hAg,hgo⟩:=take i' o ho hun' hafter hst; refine⟨hAg,fun {Q a0} hQ a w hs hz=> ?_⟩
   have hg:o.guard=none:=by
    unfold Pn at hek; simp only[z7,z83]at hek; exact hek.1
   have hnc: ∀c,o.op≠ .call c:=fun c e=>by
    unfold Pn at hek; rw[e]at hek; simp at hek
   obtain⟨b3,hb3⟩:=RH s1 hnc; obtain⟨g,hsg⟩:=hs; obtain⟨v,hv⟩:=RA (P:=P) hT hA hek hsg (Tl hsd hg hnc) hb3; have hw2:=hw1 g0 w0 NoQ' (fun a' w'=>a'=a.put o.dst v→Sim g0 w0 (b2.S F.n x1) a' w') a w ⟨g,hsg⟩ (fun _ _ hs' _=>hs')
   have hwp:=Tg hw2 ho hg; unfold Oper.wp at hwp; rw[hv w]at hwp; have hS:Sim g0 w0 (b2.S F.n x1) (a.put o.dst v) w:=hwp rfl; have hwant:Region.wanted o (yielded ops a.tmps)=true:=by unfold Region.wanted; rw[hg]
   refine wpAny_first ho (Region.noSelect_spec hns) (fun c a w h=>by cases h.1) k listed a w (fun j oj hj hne hu hno=>hap listed hcl hafter j oj hj hne (by rw[←hgd listed j hsz (z31.1 hj).1]; exact hu) hno) ?_ (.inl ⟨hwant,hv⟩) (hgo hQ a v w hS hz)
   exact mem_ready.2 ⟨by rw[hgd listed i' hsz hlt]; exact hun',o,ho,hafter⟩
  ·have one: ∀i∈Region.ready .any ops listed, ∃o,ops[i]? =some o∧listed.getD i false=false∧(∀e∈o.after,Region.binds .any e=true→listed.getD e.on false=true)∧ ∃b1 b2,rI τ Sgs F (ops.toList.map (·.dst)) b o=some b1∧oW (m||| 2 ^ i) L'=some b2∧Cv F b1 b2:=fun i hi=>by
    obtain⟨hun,o,ho,hafter⟩:=mem_ready.1 hi; have hlt:i<ops.size:=(z31.1 ho).1
    have hun':listed.getD i false=false:=by rw[←hgd listed i hsz hlt]; exact hun
    refine⟨o,ho,hun',hafter,hst i o (by rw[z26]; exact ho) (by rw[hbit i hlt]; exact hun') ?_⟩
    simp only[gX,z15]; intro e he; cases hb:Region.binds .any e with
    | false=>rfl
    | true=>
     have h1:=hafter e (z40.1 he) hb; have h4:=hedge' i o ho e (z40.1 he) hb; simp only[z34,z54]; rw[hbit e.on (by omega)]; exact h1
   obtain⟨i0,hi0⟩:=List.exists_mem_of_ne_nil _ hnr; obtain⟨o0,ho0,hu0,ha0,hs0⟩:=one i0 hi0; obtain⟨_,_,_,_,_,_,hAg,_⟩:=take i0 o0 ho0 hu0 ha0 hs0; refine⟨hAg,fun {Q a0} hQ a w hs hz=>⟨fun hr=>absurd hr hnr,fun i hi=> ?_⟩⟩
   obtain⟨o,ho,hu,haf,hs'⟩:=one i hi; obtain⟨x1,b1,b2,_,_,hw1,_,hgo⟩:=take i o ho hu haf hs'; exact hw1 g0 w0 (NoP Q) _ a w hs (fun v w' hs2=>hgo hQ a v w' hs2 hz)
end
end Go.Own

namespace Go.Own
open Go.RowKit

theorem Ih{α:Type}(xs:Array α){i j:Nat}(h:i≠j)(f g:α→α):(xs.modify i f).modify j g=(xs.modify j g).modify i f:=by
 apply Array.ext_getElem?
 intro k; rw[TS,TS,TS,TS]
 by_cases e1:j=k
 ·have e2:i≠k:=fun e=>h (e.trans e1.symm)
  rw[z19 e1,z13 e2,z13 e2,z19 e1]
 ·rw[z13 e1,z13 e1]
theorem DY(w:World){b:Nat}{a:Addr}(c:Array Value)(v:Value)(h:b≠a.block):(w.setRow b c).setCell a v=(w.setCell a v).setRow b c:=by
 simp only[World.setRow,World.setCell]; rw[Ih w.heap h]
theorem tI{P:Program}{b' o bA:Nat}{c:Array Value}(hne:bA≠b'): ∀(vs:List Value) (i:Nat) (w w':World),(∀v∈vs,v.oneCell'=true)→(∀q,q<vs.length→ ∃u,w.cell? ⟨b',o+i+q,none⟩=some u)→(storeCells ⟨b',o,none⟩ vs i).run P w= .ok () w'→
  (storeCells ⟨b',o,none⟩ vs i).run P (w.setRow bA c)= .ok () (w'.setRow bA c)∧w'.heap[bA]? =w.heap[bA]?
 | [],i,w,w',_,_,h=>by
  cases h; exact⟨rfl,rfl⟩
 | v::r,i,w,w',h1,h2,h=>by
  obtain⟨u,hu⟩:=h2 0 (by simp)
  have hadd:(⟨b',o,none⟩:Addr).add i=⟨b',o+i,none⟩:=iS _ _ _; rw[z69]at hu; have hcell:(w.setRow bA c).cell? ⟨b',o+i,none⟩=some u:=by
   rw[bV (setRow_other w bA b' c (Ne.symm hne))]; exact hu
  have hfr:(w.setRow bA c).frozen? ⟨b',o+i,none⟩=w.frozen? ⟨b',o+i,none⟩:=by
   simp only[World.frozen?,setRow_other w bA b' c (Ne.symm hne)]
  simp only[storeCells,Sem.run_bind,hadd,run_store P _ _ v _ (h1 v z29),hu,hcell,hfr]at h ⊢; cases hf:w.frozen? ⟨b',o+i,none⟩with
  | true=>rw[hf]at h; simp [Result.andThen]at h
  | false=>
   rw[hf]at h; simp only[z52,if_false,Result.andThen_ok]at h ⊢; obtain⟨k1,k2⟩:=tI hne r (i+1) (w.setCell ⟨b',o+i,none⟩ v) w' (fun v hv=>h1 v (z25 _ hv)) (fun q hq=>by
    obtain⟨u',hu'⟩:=h2 (q+1) (by simpa using hq)
    refine⟨u', ?_⟩
    have e:=World.cell?_setCell_other (w:=w) (v:=v) (a:=⟨b',o+i,none⟩) (b:=⟨b',o+(i+1)+q,none⟩) (by simp; omega)
    rw[show o+(i+1)+q=o+i+(q+1)by omega]at e ⊢
    exact e.trans hu') h
   refine⟨?_,k2.trans (heap_setCell_other w _ _ v hne)⟩
   rw[DY w c v hne]; exact k1

structure LA (v y:Operand) (n ob p:Nat) (x:D):Prop where
 ptr:ev x.sl v= .one (.ptr ob p)
 val: ∃xs,aT (ev x.sl y)=some xs∧xs.length=n
 room: ∃cells,x.ob ob=some cells∧p+n≤cells.length
section
variable {P:Program} {τ:TypeId→Option TI} {Sgs:FuncId→List Sg} {F:FA} {ds:List (Option Nat)} {x x1:D} {o:Oper}
theorem Ko(h:SD P τ Sgs F ds o x x1)(hg:o.guard=none)(hc: ∀c,o.op≠ .call c):dOp τ F x o=some x1:=by
 rcases h with⟨h,_⟩ | ⟨_,h⟩ | ⟨_,c,v,f,caps,ob,ob',r,nw,h,_⟩ | ⟨_,c,v,f,r,t,xs,l,p,x0,es,es',h,_⟩
 ·rw[hg]at h; cases h
 ·exact h
 ·exact absurd h (hc c)
 ·exact absurd h (hc c)
theorem PO{t ob p:Nat}(hf:Nt F x (.tmp t))(hs:F.shOf t= .one (.ptr ob p)){w:W}(h:x.sl t= .one w)(hn:w≠ .nilp):w= .ptr ob p:=by
 have hf:x.sl t= .tup []∨fits (x.sl t) (F.shOf t)=true:=hf; rw[h,hs]at hf; rcases hf with hf | hf
 ·cases hf
 ·cases w<;>simp [fits,bP]at hf hn
  obtain⟨rfl,rfl⟩:=hf; rfl
theorem Mg{t:TypeId}{tv:Nat}{y:Operand}{ob p:Nat}(h:SD P τ Sgs F ds o x x1)(hf:CZ F x o)(hg:o.guard=none)(hd:o.dst=none)(ho:o.op= .store t (.tmp tv) y)(hs:F.shOf tv= .one (.ptr ob p)): ∃i,τ t=some i∧LA (.tmp tv) y i.size ob p x:=by
 have h:=Ko h hg (fun c e=>by rw[ho]at e; cases e)
 have hft:=hf (.tmp tv) (by rw[ho]; simp [Op.operands])
 unfold dOp at h; rw[hd,ho]at h; simp only at h; split at h<;>try cases h
 ·rename_i i ob' p' xs hi hv hy
  have e:=PO hft hs (show x.sl tv=_ from hv) (by simp)
  cases e; unfold qT at h; split at h<;>try cases h
  rename_i cells hcl; obtain⟨hc,h⟩:=aI h; simp only[z7]at hc; have hz:=z16 hc.1.1; exact⟨i,hi,hv,⟨xs,hy,hz⟩,cells,hcl,by rw[←hz]; exact z33 hc.1.2⟩
 ·rename_i i l pp n j xs hi hv hy
  have e:=PO hft hs (show x.sl tv=_ from hv) (by simp)
  cases e
theorem IA{d:Nat}{t:Nat}(h:Nr d (.tmp t)=true):d≠t:=fun e=>by
 subst e; simp [Nr]at h
theorem NA{v:V}{k j:Nat}{z:T}{xs:List T}(h:aT (v.setLeaf k j z)=some xs): ∃ys,aT v=some ys∧ys.length=xs.length:=by
 cases v with
 | tup ws=>simp [V.setLeaf,aT]at h
 | one w=>
  cases k with
  | succ k=>exact⟨xs,h,rfl⟩
  | zero=>
   cases w with
   | c t=>cases j<;>(simp [V.setLeaf,W.setLeaf,aT]at h ⊢; subst h; rfl)
   | ag ys=>simp [V.setLeaf,W.setLeaf,aT]at h ⊢; subst h; simp
   | _=>exact⟨xs,h,rfl⟩
theorem Mh{v y:Operand}{n ob p:Nat}(hc:NM F v y o=true)(hf:CZ F x o)(h:SD P τ Sgs F ds o x x1)(hl:LA v y n ob p x1):LA v y n ob p x:=by
 unfold NM at hc; simp only[z7,z83]at hc; obtain⟨hg,hc⟩:=hc; split at hc
 ·rename_i d t z i hd ho
  simp only[z7]at hc; have hc:=hc.1; have h:=Ko h hg (fun c e=>by rw[ho]at e; cases e)
  obtain⟨E,e1,e2,rfl,_⟩:=MH (y:=x) h (by unfold uQ; rw[ho]) (fun d t v hd ho'=>by rw[ho]at ho'; cases ho') (fun v _=>xZ.refl _ x v)
  have hsl: ∀w,Nr d w=true→ev (E.on x).sl w=ev x.sl w:=fun w hw=>by
   cases w with
   | tmp t=>
    show(E.on x).sl t=x.sl t; simp only[Eff.on,e1,hd]; rw[z13 (fun e=>IA hw (z46 e))]
   | _=>rfl
  have hob:(E.on x).ob ob=x.ob ob:=by
   have:E.ob ob=none:=by
    cases he:E.ob ob with
    | none=>rfl
    | some c=>
     have:=e2 ob (by rw[he]; rfl)
     unfold NL at this; rw[hd,ho]at this; cases this
   simp only[Eff.on,this]
  exact⟨by rw[←hsl v hc.1]; exact hl.ptr,by rw[←hsl y hc.2]; exact hl.val,by rw[←hob]; exact hl.room⟩
 ·rename_i t tx z hd ho
  split at hc<;>try cases hc
  rename_i k k0 j0 p0 n0 q0 hsh; have h:=Ko h hg (fun c e=>by rw[ho]at e; cases e)
  have hft:x.sl tx= .tup []∨fits (x.sl tx) (F.shOf tx)=true:=hf (.tmp tx) (by rw[ho]; simp [Op.operands])
  unfold dOp at h; rw[hd,ho]at h; simp only at h; split at h<;>try cases h
  ·rename_i i ob' p' xs hi hv hy
   have hv:x.sl tx= .one (.ptr ob' p'):=hv; rw[hv,hsh]at hft; rcases hft with e | e
   ·cases e
   ·simp [fits,bP]at e
  ·rename_i i l pp m j xs hi hv hy
   have hv:x.sl tx= .one (.pp l pp m j):=hv; rw[hv,hsh]at hft; rcases hft with e | e
   ·cases e
   simp only[fits,bP,z7,z28]at e; have hl0:l= .s k k0 j0:=e.1.1; subst hl0; unfold pP at h; split at h<;>try cases h
   split at h<;>try cases h
   split at h<;>try cases h
   obtain⟨_,h⟩:=aI h; cases h; have hobs:=hl.room; refine⟨?_, ?_,hobs⟩
   ·have:=hl.ptr
    cases v with
    | tmp tv=>
     have this:(jS x.sl (.s k k0 j0) _ tv)=_:=this; simp only[jS]at this; rw[z13 (Ne.symm (IA hc))]at this; exact this
    | _=>exact this
   ·obtain⟨ys,hy1,hy2⟩:=hl.val
    cases y with
    | tmp ty=>
     have hy1:aT (jS x.sl (.s k k0 j0) _ ty)=_:=hy1; simp only[jS]at hy1; split at hy1
     ·obtain⟨zs,z1,z2⟩:=NA hy1
      rename_i e; subst e; exact⟨zs,z1,z2.trans hy2⟩
     ·exact⟨ys,hy1,hy2⟩
    | _=>exact⟨ys,hy1,hy2⟩
 ·cases hc
end

section
variable {P:Program} {τ:TypeId→Option TI} {Sgs:FuncId→List Sg} {F:FA} {ds:List (Option Nat)} {x x1:D} {o:Oper} {b b1:B} {g0:G} {w0:World} {a:Act} {g:G} {w:World}
theorem Gq(hT:aY P τ){t:TypeId}{tv:Nat}{y:Operand}{ob p:Nat}{i:TI}(ho:o.op= .store t (.tmp tv) y)(hs:bM g0 w0 (b.S F.n x) a g w)(hkv:cR b (.tmp tv)=true)(hky:cR b y=true)(hob:b.hasO ob=true)(hi:τ t=some i)(hL:LA (.tmp tv) y i.size ob p x):
  ∃arr ty,w.heap[g.β ob]? =some (.cells arr ty (0,0))∧a.eval (.tmp tv)= .pointer (some ⟨g.β ob,p,none⟩)∧g.own (g.β ob)= .obj ob∧
   ∀w2:World,w2.heap[g.β ob]? =some (.cells arr ty (0,0))→(execOp a.eval o).run P w2= .ok .skip (w2.setRow (g.β ob) (arr.toList.take p++(a.eval y).cells.toList++arr.toList.drop (p+(a.eval y).cells.toList.length)).toArray):=by
 obtain⟨hv,⟨xs,hy,hz⟩,cells,hcl,hroom⟩:=hL; have h1:=hs.ev_rv (.tmp tv) (fun _ _=> .none)
 rw[mW hkv,hv]at h1; have e1:a.eval (.tmp tv)= .pointer (some ⟨g.β ob,p,none⟩):=h1; obtain⟨arr,ty,r1,r2,r3,_⟩:=hs.obs ob cells (by rw[JJ hob]; exact hcl)
 obtain⟨k1,k2,_,_,_⟩:=fW (hs.ev_rv y (fun _ j=> .oc ob (p+j))) (by rw[mW hky]; exact hy)
 have hcs:(a.eval y).cells.toList.length=xs.length:=by simpa using k1
 have hone: ∀v∈(a.eval y).cells.toList,v.oneCell'=true:=fun v hv=>by
  obtain⟨c,hc⟩:=z72 hv
  have hcl:c<xs.length:=by have:=bW hc; simp only[z47]at this; omega
  obtain⟨u,u1,u2,_⟩:=k2 c xs[c] (z14 hcl)
  rw[z26]at hc
  rw[hc]at u1; cases u1; exact nG u2
 obtain⟨info,_,_,q1,_,q3,_⟩:=hT.get hi; refine⟨arr,ty,r1,e1,r3,fun w2 hw2=> ?_⟩
 have s1:=run_storeCells_at P (g.β ob) p ty (a.eval y).cells.toList 0 arr w2 hw2 (by rw[hcs,r2]; omega) hone
 simp only[z69]at s1; obtain⟨dst,op,ty',pos,after,guard⟩:=o; simp only at ho; subst ho; have hne: ¬ (a.eval y).cells.size≠info.size:=by rw[k1,q3,hz]; simp
 simp only[execOp,Instr.storeAt,e1,Instr.sureAddr,Sem.run_bind,Sem.run_pure,Result.andThen_ok,storeVar,sizeOf,typeInfo,run_program,q1,z13 hne,s1]
theorem Mj(hT:aY P τ)(hA:Ag F b x){t:TypeId}{tx:Nat}{z:Operand}{l:Loc}{p0:List (Nat×Nat)}{n0 q0 ob bA:Nat}{c:Array Value}{w':World}(hd:o.dst=none)(ho:o.op= .store t (.tmp tx) z)(hsh:F.shOf tx= .one (.pp l p0 n0 q0))(hs:bM g0 w0 (b.S F.n x) a g w)
  (h1:dOp τ F x o=some x1)(h2:cOp τ F b o=some b1)(hown:g.own bA= .obj ob)(hrun:(execOp a.eval o).run P w= .ok .skip w'):(execOp a.eval o).run P (w.setRow bA c)= .ok .skip (w'.setRow bA c)∧w'.heap[bA]? =w.heap[bA]? :=by
 unfold cOp at h2; rw[hd,ho]at h2; simp only at h2; unfold dOp at h1; rw[hd,ho]at h1; simp only at h1; split at h2<;>try cases h2
 ·rename_i e; rw[show mM F (.tmp tx)=F.shOf tx from rfl,hsh]at e; cases e
 rename_i i l' p' n' j' hi e; rw[show mM F (.tmp tx)=F.shOf tx from rfl,hsh]at e; cases e; unfold yF at h2; obtain⟨hc,_⟩:=aI h2; simp only[z7]at hc; obtain⟨⟨⟨⟨⟨⟨⟨c1,c2⟩,c3⟩,c4⟩,c5⟩,c6⟩,c7⟩,c8⟩:=hc; have hft:=hA.sl tx c1; rw[hi]at h1; split at h1<;>try cases h1
 ·rename_i i ob' p' xs hi hv hy
  have hv:x.sl tx= .one (.ptr ob' p'):=hv; rw[hv,hsh]at hft; rcases hft with e | e
  ·cases e
  ·simp [fits,bP]at e
 rename_i i' l' pp m j xs hi' hv hy; cases hi'; have hv:x.sl tx= .one (.pp l' pp m j):=hv; have hl0:l'=l:=by
  rw[hv,hsh]at hft; rcases hft with e | e
  ·cases e
  ·simp only[fits,bP,z7,z28]at e; exact e.1.1
 subst hl0; unfold pP at h1; split at h1<;>try cases h1
 rename_i x0 hat; split at h1<;>try cases h1
 rename_i es hnav; split at h1<;>try cases h1
 rename_i row hrow; obtain⟨hq,_⟩:=aI h1; simp only[z7]at hq; have hsz:=z16 hq.1; have hle:=z33 hq.2; obtain⟨a1,a2,a3,a4⟩:=qO (d:=F.n) hA c1 c3 (.inr ⟨pp,m,j,hv⟩); have hat':(b.S F.n x).at l'=some x0:=by rw[Hr a4]; exact hat
 obtain⟨hk2,v0,b',off,len,cap,v1,v2,hptr,hcell⟩:=hs.ppCell (by rw[oK c1]; exact hv) a1 a3 hat' hnav hrow
 have hrd:=hs.pl_rd hk2 v1 hat' v2; have hne:bA≠b':=by
  intro e; subst e; generalize hvv:Value.slice (some ⟨bA,off,none⟩) len cap=v at hrd; cases hrd with
  | nil a cap=>simp at hrow
  | sl b' off' len' cap' s es cs hl hc hs2 hP hm hr=>
   cases hvv; exact hP.2 ob hown
 obtain⟨k1,k2,_,_,_⟩:=fW (hs.ev_rv z (fun _ _=> .none)) (by rw[mW c2]; exact hy)
 have hcs:(a.eval z).cells.toList.length=xs.length:=by simpa using k1
 have hone: ∀v∈(a.eval z).cells.toList,v.oneCell'=true:=fun v hv=>by
  obtain⟨c,hc⟩:=z72 hv
  have hcl:c<xs.length:=by have:=bW hc; simp only[z47]at this; omega
  obtain⟨u,u1,u2,_⟩:=k2 c xs[c] (z14 hcl)
  rw[z26]at hc
  rw[hc]at u1; cases u1; exact nG u2
 obtain⟨info,_,_,q1,_,q3,_⟩:=hT.get hi; obtain⟨dst,op,ty',pos,after,guard⟩:=o; simp only at ho; subst ho; have hne2: ¬ (a.eval z).cells.size≠info.size:=by rw[k1,q3,hsz]; simp
 have e1:a.eval (.tmp tx)= .pointer (some ⟨b',off+m*row.length+j,none⟩):=hptr; simp only[execOp,Instr.storeAt,e1,Instr.sureAddr,Sem.run_bind,Sem.run_pure,Result.andThen_ok,storeVar,sizeOf,typeInfo,run_program,q1,z13 hne2]at hrun ⊢; cases hr:(storeCells ⟨b',off+m*row.length+j,none⟩ (a.eval z).cells.toList).run P w with
 | halt h w2=>rw[hr]at hrun; simp [Result.andThen]at hrun
 | ok u w2=>
  rw[hr]at hrun; simp only[Result.andThen_ok,Result.ok.injEq,NH]at hrun; subst hrun; obtain⟨s1,s2⟩:=tI (c:=c) hne _ 0 w w2 hone (fun q hq=>by
   rw[hcs]at hq; have hlt:q<(row.drop j).length:=by rw[z65]; omega
   obtain⟨u,hu,_⟩:=hcell q _ (z14 hlt)
   exact⟨u,by rw[z69]; exact hu⟩) hr
  exact⟨by rw[s1]; rfl,s2⟩
theorem Mi(hT:aY P τ)(hA:Ag F b x){t:TypeId}{d:Nat}{v i:Operand}(hd:o.dst=some d)(ho:o.op= .indexAddr t v i)(hsh:(gM (F.shOf d)&&rW F v)=true)(hs:bM g0 w0 (b.S F.n x) a g w)
  (h1:dOp τ F x o=some x1)(h2:cOp τ F b o=some b1): ∃u, ∀w2,(execOp a.eval o).run P w2= .ok (.value u) w2:=by
 unfold dOp at h1; unfold cOp at h2; rw[hd,ho]at h1 h2; simp only at h1 h2; have e1:=hsh; rw[e1,z17]at h2; simp only[z7]at hsh; unfold BZ at h2; split at h2<;>try cases h2
 rename_i s; obtain⟨hc,_⟩:=aI h2; simp only[z7]at hc; obtain⟨⟨⟨⟨c1,c2⟩,c3⟩,c4⟩,c5⟩:=hc; have hsl:pS (ev x.sl (.tmp s))=true:=by
  cases hq:pS (ev x.sl (.tmp s))with
  | true=>rfl
  | false=>
   rw[hq,z87,z12]at h1; have:=IH (t:=t) (i:=i) hA (show cR b (.tmp s)=true from c2) (.inl h1); rw[hq,hsh.2]at this; cases this
 rw[hsh.1,hsl,z94,z17]at h1; unfold pQ at h1; split at h1<;>try cases h1
 rename_i s' e k n es hss hte hi hv; cases hss; split at h1<;>try cases h1
 rename_i row hrow; obtain⟨ei,q1,q2,q3,q4⟩:=Aj hrow; have hx:(b.S F.n x).sl s= .one (.c (.sl es)):=by rw[oK c2]; exact hv
 have hat:(b.S F.n x).at (.s s 0 0)=some (.sl es):=by rw[St.at_s,hx]; rfl
 have h1:=hs.slots s; rw[hx]at h1; have hv2:vAt a.tmps g.β w (.s s 0 0)=some (a.tmps.getD s undef):=(gB h1.1).2; have hrd:=hs.pl_rd c5 hv2 hat (.nil _ _); obtain⟨_,_,_,hpos⟩:=kV hT q1; obtain⟨b',off,len,cap,p1,hl,_⟩:=EY (β:=g.β) hrd q3 q4 hpos; have hlt:n.toNat<es.length:=bW q3; exact⟨_,fun w2=>nX hT hte q1 (ρ:=a.eval) (x:= .tmp s) p1 (hs.int (show ev (b.S F.n x).sl i=_ by rw[mW c3]; exact hi)) q2 (by omega) ho w2⟩
end

structure AJ (F:FA) (ops ops':Array Oper) (n:Nat) (A:Oper) (t:TypeId) (tv:Nat) (y:Operand) (ob p:Nat):Prop where
 size:ops.size=n+1
 size':ops'.size=n+1
 same: ∀i,i<n→ops'[i]? =ops[i]?
 last:ops[n]? =some A
 last':ops'[n]? =some (vO n A)
 ds:ops'.toList.map (·.dst)=ops.toList.map (·.dst)
 op:A.op= .store t (.tmp tv) y
 dst:A.dst=none
 guard:A.guard=none
 sh:F.shOf tv= .one (.ptr ob p)
 edge: ∀e∈A.after,Region.binds .any e=true→e.on<n
 cls: ∀j,j<n→((Region.before ops).getD n 0).testBit j=true∨ ∀o,ops[j]? =some o→NM F (.tmp tv) y o=true

def NoQ:Exit→Act→World→Prop:=fun _ _ _=>False
theorem OQ: ¬ LetsOut NoQ:=fun⟨_,_,h⟩=>h
theorem Rh{P:Program}{ops:Array Oper}{i:Nat}{o:Oper}{K:Act→World→Prop}{a:Act}{w:World}(h:wpOp P ops NoQ i K a w)(hi:ops[i]? =some o)(hg:o.guard=none):o.wp P a w K NoQ:=by
 unfold wpOp at h; simp only[hi,Region.wanted,hg,if_true]at h; exact h.resolve_right (fun e=>OQ e.2)
theorem Bh{ops:Array Oper}{listed:Array Bool}(hsz:listed.size=ops.size)(he: ∀j o,ops[j]? =some o→ ∀e∈o.after,Region.binds .any e=true→e.on<j)(hr:Region.ready .any ops listed=[]): ∀j,j<ops.size→listed.getD j false=true:=by
 have hgd: ∀j,j<ops.size→listed.getD j true=listed.getD j false:=fun j h2=>by
  have:j<listed.size:=by omega
  simp [Array.getD,this]
 intro j; induction j using Nat.strongRecOn with
 | _ j ih=>
  intro hj; rcases z149 (listed.getD j false)with h | h
  ·exact h
  ·exfalso
   have:j∈Region.ready .any ops listed:=by
    rw[mem_ready]; refine⟨by rw[hgd j hj]; exact h,ops[j],z66 hj,fun e he' hb=> ?_⟩
    have h3:=he j _ (z66 hj) e he' hb
    exact ih e.on h3 (by omega)
   rw[hr]at this; cases this

section
variable {P:Program} {τ:TypeId→Option TI} {Sgs:FuncId→List Sg} {F:FA} {ops ops':Array Oper} {n:Nat} {A:Oper} {t:TypeId} {tv:Nat} {y:Operand} {ob p:Nat} {x xn:D}
theorem Bq(H:AJ F ops ops' n A t tv y ob p){ds:List (Option Nat)}: ∀ {L:List Nat} {x x':D},CY P τ Sgs F ds ops L x x'→CY P τ Sgs F ds ops' L x x'
 | [],_,_,h=>h
 | i::r,x,x',⟨o,x1,h1,h2,h3,h4⟩=>by
  by_cases e:i<n
  ·exact⟨o,x1,by rw[H.same i e]; exact h1,h2,h3,Bq H h4⟩
  ·have hlt:i<ops.size:=(z31.1 h1).1
   have hin:i=n:=by have:=H.size; omega
   have ho:o=A:=by rw[hin,H.last]at h1; exact(z46 h1).symm
   exact⟨vO n A,x1,by rw[hin]; exact H.last',by rw[ho]at h2; exact h2,by rw[ho]at h3; exact h3,Bq H h4⟩
theorem Br(H:AJ F ops ops' n A t tv y ob p){ds:List (Option Nat)}: ∀ {L:List Nat} {x:D},CY P τ Sgs F ds ops' (L++[n]) x xn→(∀j∈L,j<n∧ ∀o,ops[j]? =some o→NM F (.tmp tv) y o=true)→ ∃i,τ t=some i∧LA (.tmp tv) y i.size ob p x
 | [],x,⟨o,x1,h1,h2,h3,_⟩,_=>by
  rw[H.last']at h1; cases h1; exact Mg h3 h2 H.guard H.dst H.op H.sh
 | j::r,x,⟨o,x1,h1,h2,h3,h4⟩,hc=>by
  obtain⟨i,hi,hl⟩:=Br H h4 (fun j hj=>hc j (z25 _ hj))
  obtain⟨hj,hcl⟩:=hc j z29; rw[H.same j hj]at h1; exact⟨i,hi,Mh (hcl o h1) h2 h3 hl⟩
theorem AJ.filt(H:AJ F ops ops' n A t tv y ob p){listed:Array Bool}(hsz:listed.size=n+1)(hn:listed.getD n false=false):(List.range ops.size).filter (fun j=> !listed.getD j true)=(List.range n).filter (fun j=> !listed.getD j true)++[n]:=by
 rw[H.size,List.range_succ,z139]; congr 1
 rw[z155]
 ·rfl
 ·have:listed.getD n true=listed.getD n false:=by simp [Array.getD,hsz]
  rw[this,hn]; rfl
theorem AJ.edges(H:AJ F ops ops' n A t tv y ob p){ds:List (Option Nat)}(hO:mG F ds ops'=true): ∀j o,ops[j]? =some o→ ∀e∈o.after,Region.binds .any e=true→e.on<j:=by
 intro j o ho e he hb; have hlt:j<ops.size:=(z31.1 ho).1
 by_cases e1:j<n
 ·simp only[mG,z7,z15,z57]at hO
  have h1:=hO.1 j (by rw[H.size']; omega)
  rw[H.same j e1,ho]at h1; simp only[z79]at h1; have h2:=h1 e he; simp only[hb,z34,z54]at h2; exact cD h2
 ·have:j=n:=by have:=H.size; omega
  subst this; rw[H.last]at ho; cases ho; exact H.edge e he hb
theorem AJ.left(H:AJ F ops ops' n A t tv y ob p){listed:Array Bool}(hcl:mS ops (fun j=>listed.getD j false=true))(hrd: ∀e∈A.after,Region.binds .any e=true→listed.getD e.on false=true){j:Nat}(hj:j<n)(hu:listed.getD j false=false): ∀o,ops[j]? =some o→NM F (.tmp tv) y o=true:=by
 refine(H.cls j hj).resolve_left (fun hb=> ?_)
 have hD:mS ops (fun j=>j=n∨listed.getD j false=true):=by
  intro i o ho hi e he hbd; rcases hi with rfl | hi
  ·rw[H.last]at ho
   cases ho; exact .inr (hrd e he hbd)
  ·exact .inr (hcl i o ho hi e he hbd)
 rcases lV hD (.inl rfl) hb with e | e
 ·omega
 ·rw[hu]at e; cases e
theorem lE{ds:List (Option Nat)}{mt:B→B→B}{q:Nat→B→Bool}{os:List Oper}{k:Nat}{L R:Lvl}(h:pN τ Sgs F ds mt q os (k+1) L=some R):(∀m b,oW m L=some b→q m b=true)∧ ∃L',DQ τ Sgs F ds mt os L []=some L'∧pN τ Sgs F ds mt q os k L'=some R:=by
 unfold pN at h; obtain⟨h1,h2⟩:=aI h; refine⟨fun m b hb=> ?_, ?_⟩
 ·have key: ∀L:Lvl,L.all (fun p=>q p.1 p.2)=true→oW m L=some b→q m b=true:=by
   intro L; induction L with
   | nil=>intro _ h; cases h
   | cons p r ih=>
    obtain⟨m',b'⟩:=p; intro h3 h4; simp only[NJ,z7]at h3; simp only[oW]at h4; cases e:Nat.beq m m' with
    | true=>
     have:=z16 e; subst this; rw[e]at h4; cases h4; exact h3.1
    | false=>rw[e]at h4; exact ih h3.2 h4
  exact key L h1 hb
 ·split at h2
  ·rename_i L' hL; exact⟨L',hL,h2⟩
  ·cases h2
theorem Pa{ds:List (Option Nat)}{b b1:B}{o:Oper}(h:rI τ Sgs F ds b o=some b1)(hc: ∀c,o.op≠ .call c): ∃b2,cOp τ F b o=some b2:=by
 obtain⟨b2,hr,_⟩:=Eu h; refine⟨b2, ?_⟩
 unfold Nk at hr; have:cW o=none:=by
  unfold cW; split
  ·rename_i c e; exact absurd e (hc c)
  ·rfl
 rw[this]at hr; exact hr
theorem KI{o:Oper}{ev:Operand→Value}{t:TypeId}{v z:Operand}(ho:o.op= .store t v z){nx:Next}{w w':World}(h:(execOp ev o).run P w= .ok nx w'):nx= .skip:=by
 obtain⟨dst,op,ty',pos,after,guard⟩:=o; simp only at ho; subst ho; simp only[execOp,Sem.run_bind]at h; cases hr:(Instr.storeAt t (ev v) (ev z)).run P w with
 | halt x w2=>rw[hr]at h; simp [Result.andThen]at h
 | ok u w2=>
  rw[hr]at h; simp only[Result.andThen_ok,Sem.run_pure,Result.ok.injEq]at h; exact h.1.symm
theorem Qb(hT:aY P τ)(H:AJ F ops ops' n A t tv y ob p)(hO:mG F (ops'.toList.map (·.dst)) ops'=true){mt:B→B→B}{mf:Nat}{bf:B}{g0:G}{w0:World}{Q:Exit→Act→World→Prop}{a0:Act}
  (hQ: ∀a w,Sim g0 w0 (bf.S F.n xn) a w→(∀z,wB z ops.toList=true→a.tmps.getD z undef=a0.tmps.getD z undef)→Q .normal a w){bA:Nat}{arr:Array Value}{ty:TypeId}{vs:List Value}:
  ∀(k:Nat) (listed:Array Bool) (m:Nat) (L:Lvl) (b:B) (x:D) (a:Act) (w:World),pN τ Sgs F (ops'.toList.map (·.dst)) mt (HI A (.tmp tv) y ob) ops'.toList (k+1) L=some [(mf,bf)]→oW m L=some b→listed.size=n+1→listed.getD n false=false→
   (∀i,i<n+1→m.testBit i=listed.getD i false)→mS ops (fun j=>listed.getD j false=true)→(∀e∈A.after,Region.binds .any e=true→listed.getD e.on false=true)→(List.range ops.size).countP (fun i=> !listed.getD i true)=k+1→Ag F b x→
   CY P τ Sgs F (ops'.toList.map (·.dst)) ops' ((List.range ops.size).filter fun j=> !listed.getD j true) x xn→Sim g0 w0 (b.S F.n x) a w→(∀z,wB z ops.toList=true→a.tmps.getD z undef=a0.tmps.getD z undef)→
   a.eval (.tmp tv)= .pointer (some ⟨bA,p,none⟩)→w.heap[bA]? =some (.cells arr ty (0,0))→(a.eval y).cells.toList=vs→
   wpAny P .any ops Q k (listed.setIfInBounds n true) a (w.setRow bA (arr.toList.take p++vs++arr.toList.drop (p+vs.length)).toArray):=by
 have hdn: ∀(listed:Array Bool),listed.size=n+1→ ∀j,j<n+1→listed.getD j true=listed.getD j false:=fun listed h1 j h2=>by
  have:j<listed.size:=by omega
  simp [Array.getD,this]
 have facts: ∀(k:Nat) (listed:Array Bool) (m:Nat) (L:Lvl) (b:B) (x:D) (a:Act) (w:World) (g:G),pN τ Sgs F (ops'.toList.map (·.dst)) mt (HI A (.tmp tv) y ob) ops'.toList (k+1) L=some [(mf,bf)]→oW m L=some b→listed.size=n+1→listed.getD n false=false→
   (∀i,i<n+1→m.testBit i=listed.getD i false)→mS ops (fun j=>listed.getD j false=true)→(∀e∈A.after,Region.binds .any e=true→listed.getD e.on false=true)→
   CY P τ Sgs F (ops'.toList.map (·.dst)) ops' ((List.range ops.size).filter fun j=> !listed.getD j true) x xn→bM g0 w0 (b.S F.n x) a g w→a.eval (.tmp tv)= .pointer (some ⟨bA,p,none⟩)→w.heap[bA]? =some (.cells arr ty (0,0))→(a.eval y).cells.toList=vs→
   g.own bA= .obj ob∧(execOp a.eval A).run P w= .ok .skip (w.setRow bA (arr.toList.take p++vs++arr.toList.drop (p+vs.length)).toArray):=by
  intro k listed m L b x a w g hL hm hsz hn hbit hcl hrd hrun hs hev hh hvs; have hq:=(lE hL).1 m b hm; have hrdy:gX m A=true:=by
   simp only[gX,z15]; intro e he; cases hb:Region.binds .any e with
   | false=>rfl
   | true=>
    have h1:=hrd e (z40.1 he) hb; have h2:=H.edge e (z40.1 he) hb; simp only[z34,z54]; rw[hbit e.on (by omega)]; exact h1
  simp only[HI,hrdy,z34,z54,z7]at hq; rw[H.filt hsz hn]at hrun; obtain⟨i,hi,hl⟩:=Br H hrun (fun j hj=>by
   rw[z74,z57]at hj; refine⟨hj.1,H.left hcl hrd hj.1 ?_⟩
   rw[←hdn listed hsz j (by omega)]
   simpa using hj.2)
  obtain⟨arr',ty',h1,h2,h3,h4⟩:=Gq (P:=P) hT H.op hs hq.1.1 hq.1.2 hq.2 hi hl; rw[hev]at h2; have e:g.β ob=bA:=by simpa using h2.symm
  rw[e]at h1 h3 h4; rw[hh]at h1; cases h1; rw[hvs]at h4; exact⟨h3,h4 w hh⟩
 intro k; induction k with
 | zero=>
  intro listed m L b x a w hL hm hsz hn hbit hcl hrd hcount hA hrun hs hz hev hh hvs; obtain⟨g,hsg⟩:=hs; obtain⟨hown,hexec⟩:=facts 0 listed m L b x a w g hL hm hsz hn hbit hcl hrd hrun hsg hev hh hvs; obtain⟨_,L',hL',hL0⟩:=lE hL; cases hL0; rw[z59]at hcount; rw[H.filt hsz hn]at hrun hcount; have hnil:(List.range n).filter (fun j=> !listed.getD j true)=[]:=by
   rw[z30,z21]at hcount; exact z71.1 (by omega)
  have hall: ∀j,j<n→listed.getD j false=true:=fun j hj=>by
   rw[←hdn listed hsz j (by omega)]
   have:=TT.1 hnil j (z57.2 hj); simpa using this
  rw[hnil]at hrun; obtain⟨o,x1,h1,hfo,hsd,hx⟩:=hrun; have hx:x1=xn:=hx; subst hx; rw[H.last']at h1; cases h1; have hrdy:gX m (vO n A)=true:=by
   simp only[gX,z15]; intro e he; have he:e∈((List.range n).map fun j=>(⟨j, .data⟩:Edge)):=by simpa [vO]using he
   obtain⟨j,hj,rfl⟩:=z51.1 he; have hj:=z57.1 hj; simp only[hbit j (by omega),hall j hj,Bool.or_true]
  obtain⟨b1,b2,s1,s2,cv⟩:=(sP hL').2 m b hm n (vO n A) (by rw[z26]; exact H.last') (by rw[hbit n (by omega)]; exact hn) hrdy
  simp only[oW]at s2; cases h3:Nat.beq (m||| 2 ^ n) mf with
  | false=>rw[h3]at s2; cases s2
  | true=>
   rw[h3]at s2; cases s2; obtain⟨hA1,hw1⟩:=hsd.step (P:=P) hT hA H.last' s1; obtain⟨hA2,cs⟩:=cv x1 hA1; have hk:=hw1 g0 w0 NoQ (fun a' w'=>Sim g0 w0 (bf.S F.n x1) a' w'∧a'=a) a w ⟨g,hsg⟩ (fun v w' hs'=>⟨cs _ _ _ _ hs',by show(match A.dst with | some d=>_ | none=>a)=a; rw[H.dst]⟩)
   have hwp:=Rh hk H.last' H.guard; unfold Oper.wp at hwp; have hexec':(execOp a.eval (vO n A)).run P w= .ok .skip (w.setRow bA (arr.toList.take p++vs++arr.toList.drop (p+vs.length)).toArray):=hexec; rw[hexec']at hwp; have hwp:Sim g0 w0 (bf.S F.n x1) (a.put (vO n A).dst undef) _∧_=a:=hwp; rw[hwp.2]at hwp; refine⟨?_,hQ a _ hwp.1 hz⟩
   apply z125.2
   intro j hj; obtain⟨h1,o,ho,_⟩:=mem_ready.1 hj; have hlt:j<ops.size:=(z31.1 ho).1
   have hsize:=H.size; by_cases e:j=n
   ·subst e
    have:(listed.setIfInBounds j true).getD j true=true:=by simp [Array.getD]
    rw[this]at h1; cases h1
   ·rw[getD_set_ne true (Ne.symm e),hdn listed hsz j (by omega),hall j (by omega)]at h1
    cases h1
 | succ k ih=>
  intro listed m L b x a w hL hm hsz hn hbit hcl hrd hcount hA hrun hs hz hev hh hvs; obtain⟨g,hsg⟩:=hs; obtain⟨hown,_⟩:=facts (k+1) listed m L b x a w g hL hm hsz hn hbit hcl hrd hrun hsg hev hh hvs; have hsize:=H.size; refine⟨fun hr=> ?_,fun i hi=> ?_⟩
  ·exfalso
   have hall:=Bh (by simpa [hsize]using hsz) (H.edges hO) hr
   have hnil:(List.range n).filter (fun j=> !listed.getD j true)=[]:=TT.2 fun j hj=>by
    have hj:=z57.1 hj; have:=hall j (by omega)
    rw[getD_set_ne false (by omega)]at this
    rw[hdn listed hsz j (by omega),this]; simp
   rw[z59,H.filt hsz hn,hnil]at hcount; simp at hcount
  ·obtain⟨hun,o,ho,hafter⟩:=mem_ready.1 hi
   have hlt:i<ops.size:=(z31.1 ho).1
   have hin:i≠n:=fun e=>by
    subst e; have:(listed.setIfInBounds i true).getD i true=true:=by simp [Array.getD]
    rw[this]at hun; cases hun
   have hlt':i<n:=by omega
   rw[getD_set_ne true (Ne.symm hin)]at hun; have hun':listed.getD i false=false:=by rw[←hdn listed hsz i (by omega)]; exact hun
   have ho':ops'[i]? =some o:=by rw[H.same i hlt']; exact ho
   have haft: ∀e∈o.after,Region.binds .any e=true→listed.getD e.on false=true:=fun e he hb=>by
    have h1:=hafter e he hb; have h2:=H.edges hO i o ho e he hb; rwa[getD_set_ne false (by omega)]at h1
   have hcls:=H.left hcl hrd hlt' hun' o ho; have hcl':mS ops (fun j=>(listed.setIfInBounds i true).getD j false=true):=by
    intro j oj hoj hj e he hb; by_cases hij:i=j
    ·subst hij
     rw[ho]at hoj; cases hoj; exact getD_set_true (haft e he hb)
    ·rw[getD_set_ne false hij]at hj
     exact getD_set_true (hcl j oj hoj hj e he hb)
   have hclO:mS ops' (fun j=>(listed.setIfInBounds i true).getD j false=true):=by
    intro j oj hoj hj e he hb; have hjlt:j<n+1:=by have:=(z31.1 hoj).1; have:=H.size'; omega
    have hjn:j≠n:=fun e=>by
     subst e; rw[getD_set_ne false hin,hn]at hj; cases hj
    rw[H.same j (by omega)]at hoj
    exact hcl' j oj hoj hj e he hb
   have hset:(listed.setIfInBounds i true).getD i false=true:=by
    have:i<listed.size:=by omega
    simp [Array.getD,this]
   obtain⟨A',C,f1,f2,f3⟩:=zI (ops:=ops) (by rw[hsize]; exact hsz) hlt hun
   rw[f1]at hrun; have hO2:=hO; simp only[mG,z7,z15,z57]at hO2; obtain⟨hfo,x1,hsd,hrun1⟩:=hrun.front ho' (fun j hj a' ha'=>by
    obtain⟨j1,j2⟩:=f3 j hj; have h1:=hO2.2 i (by rw[H.size']; omega) j j1
    rw[ha',ho']at h1; simp only[z50]at h1; refine h1.resolve_left (fun h2=> ?_)
    have:=lV (D:=fun j=>(listed.setIfInBounds i true).getD j false=true) hclO hset h2
    rw[getD_set_ne false (by omega)]at this
    rw[hdn listed hsz j (by omega)]at j2
    rw[j2]at this; cases this)
   have hrdy:gX m o=true:=by
    simp only[gX,z15]; intro e he; cases hb:Region.binds .any e with
    | false=>rfl
    | true=>
     have h1:=haft e (z40.1 he) hb; have h2:=H.edges hO i o ho e (z40.1 he) hb; simp only[z34,z54]; rw[hbit e.on (by omega)]; exact h1
   obtain⟨_,L',hL',hL0⟩:=lE hL; obtain⟨b1,b2,s1,s2,cv⟩:=(sP hL').2 m b hm i o (by rw[z26]; exact ho') (by rw[hbit i (by omega)]; exact hun') hrdy
   obtain⟨hA1,hw1⟩:=hsd.step (P:=P) hT hA ho' s1; obtain⟨hA2,cs⟩:=cv x1 hA1; have hk:=hw1 g0 w0 NoQ (fun a' w'=>Sim g0 w0 (b2.S F.n x1) a' w') a w ⟨g,hsg⟩ (fun v w' hs'=>cs _ _ _ _ hs')
   have hg:o.guard=none:=by
    unfold NM at hcls; simp only[z7,z83]at hcls; exact hcls.1
   have hwp:=Rh hk ho' hg; have hwant: ∀a:Act,Region.wanted o (yielded ops a.tmps)=true:=fun a=>by unfold Region.wanted; rw[hg]
   have next: ∀(u:Value) (w2:World),Sim g0 w0 (b2.S F.n x1) (a.put o.dst u) w2→(a.put o.dst u).eval (.tmp tv)=a.eval (.tmp tv)→(a.put o.dst u).eval y=a.eval y→w2.heap[bA]? =w.heap[bA]? →
     wpAny P .any ops Q k ((listed.setIfInBounds n true).setIfInBounds i true) (a.put o.dst u) (w2.setRow bA (arr.toList.take p++vs++arr.toList.drop (p+vs.length)).toArray):=fun u w2 hs2 e1 e2 e3=>by
    rw[Array.setIfInBounds_comm _ _ (Ne.symm hin)]; refine ih (listed.setIfInBounds i true) (m||| 2 ^ i) L' b2 x1 _ w2 hL0 s2 (by simpa using hsz) (by rw[getD_set_ne false hin]; exact hn) (fun j hj=> ?_) hcl' (fun e he hb=>getD_set_true (hrd e he hb)) ?_ hA2 (by rw[f2]; exact hrun1) hs2 (fun z hno=> ?_) (by rw[e1]; exact hev) (by rw[e3]; exact hh) (by rw[e2]; exact hvs)
    ·rw[Pf,z99,hbit j hj]
     by_cases hij:i=j
     ·subst hij; rw[hset]; simp
     ·rw[getD_set_ne false hij]; simp [hij]
    ·rw[z59]at hcount ⊢
     rw[f1]at hcount; rw[f2]; simp only[z30,z43]at hcount ⊢; omega
    ·have hne:o.dst≠some z:=by
      have key: ∀l:List Oper,wB z l=true→ ∀o∈l,o.dst≠some z:=by
       intro l; induction l with
       | nil=>intro _ o h; cases h
       | cons p r ihl=>
        intro h o hm; simp only[wB,z7,z37,z39]at h; cases hm with
        | head=>exact h.1
        | tail _ hm=>exact ihl h.2 o hm
      exact key ops.toList hno o (z40.2 (z126 ho))
     rw[wY hne]; exact hz z hno
   unfold NM at hcls; simp only[z7]at hcls; have hcls:=hcls.2; split at hcls
   ·rename_i d t' z i' hd hop
    simp only[z7]at hcls; obtain⟨b3,hb3⟩:=Pa s1 (fun c e=>by rw[hop]at e; cases e)
    obtain⟨u,hu⟩:=Mi (P:=P) hT hA hd hop (by simp only[z7]; exact hcls.2) hsg (Ko hsd hg (fun c e=>by rw[hop]at e; cases e)) hb3
    unfold Oper.wp at hwp; rw[hu]at hwp; have hwp:Sim g0 w0 (b2.S F.n x1) (a.put o.dst u) w:=hwp; have hev1: ∀v,Nr d v=true→(a.put o.dst u).eval v=a.eval v:=fun v hv=>Act.eval_put (fun d' e1 e2=>by
     rw[hd]at e1; cases e1; subst e2; exact IA hv rfl)
    refine BO ho true (hwant a) ?_
    show o.wp P a _ _ _; unfold Oper.wp; rw[hu]; exact next u w hwp (hev1 _ hcls.1.1) (hev1 _ hcls.1.2) rfl
   ·rename_i t' tx z hd hop
    split at hcls<;>try cases hcls
    rename_i k0 k1 j0 p0 n0 q0 hsh; obtain⟨b3,hb3⟩:=Pa s1 (fun c e=>by rw[hop]at e; cases e)
    unfold Oper.wp at hwp; cases hr:(execOp a.eval o).run P w with
    | halt x2 w2=>
     rw[hr]at hwp; exfalso
     cases x2<;>exact hwp
    | ok nx w2=>
     have:=KI hop hr; subst this; rw[hr]at hwp; have hwp:Sim g0 w0 (b2.S F.n x1) (a.put o.dst undef) w2:=hwp; obtain⟨r1,r2⟩:=Mj (P:=P) (c:=(arr.toList.take p++vs++arr.toList.drop (p+vs.length)).toArray) hT hA hd hop hsh hsg (Ko hsd hg (fun c e=>by rw[hop]at e; cases e)) hb3 hown hr
     refine BO ho true (hwant a) ?_
     show o.wp P a _ _ _; unfold Oper.wp; rw[r1]; exact next undef w2 hwp (by rw[hd]; rfl) (by rw[hd]; rfl) r2
   ·cases hcls
theorem PE(hT:aY P τ)(H:AJ F ops ops' n A t tv y ob p)(hO:mG F (ops'.toList.map (·.dst)) ops'=true){mt:B→B→B}{mf:Nat}{bf:B}{g0:G}{w0:World}{Q:Exit→Act→World→Prop}{a0:Act}
  (hQ: ∀a w,Sim g0 w0 (bf.S F.n xn) a w→(∀z,wB z ops.toList=true→a.tmps.getD z undef=a0.tmps.getD z undef)→Q .normal a w):
  ∀(k:Nat) (listed:Array Bool) (m:Nat) (L:Lvl) (b:B) (x:D) (a:Act) (w:World),pN τ Sgs F (ops'.toList.map (·.dst)) mt (HI A (.tmp tv) y ob) ops'.toList (k+1) L=some [(mf,bf)]→oW m L=some b→listed.size=n+1→listed.getD n false=false→
   (∀i,i<n+1→m.testBit i=listed.getD i false)→mS ops (fun j=>listed.getD j false=true)→(List.range ops.size).countP (fun i=> !listed.getD i true)=k+1→Ag F b x→
   CY P τ Sgs F (ops'.toList.map (·.dst)) ops' ((List.range ops.size).filter fun j=> !listed.getD j true) x xn→Sim g0 w0 (b.S F.n x) a w→(∀z,wB z ops.toList=true→a.tmps.getD z undef=a0.tmps.getD z undef)→
   wpAny P .any ops Q (k+1) listed a w:=by
 have hdn: ∀(listed:Array Bool),listed.size=n+1→ ∀j,j<n+1→listed.getD j true=listed.getD j false:=fun listed h1 j h2=>by
  have:j<listed.size:=by omega
  simp [Array.getD,this]
 have hsize:=H.size
 have now: ∀(k:Nat) (listed:Array Bool) (m:Nat) (L:Lvl) (b:B) (x:D) (a:Act) (w:World),pN τ Sgs F (ops'.toList.map (·.dst)) mt (HI A (.tmp tv) y ob) ops'.toList (k+1) L=some [(mf,bf)]→oW m L=some b→listed.size=n+1→listed.getD n false=false→
   (∀i,i<n+1→m.testBit i=listed.getD i false)→mS ops (fun j=>listed.getD j false=true)→(∀e∈A.after,Region.binds .any e=true→listed.getD e.on false=true)→(List.range ops.size).countP (fun i=> !listed.getD i true)=k+1→Ag F b x→
   CY P τ Sgs F (ops'.toList.map (·.dst)) ops' ((List.range ops.size).filter fun j=> !listed.getD j true) x xn→Sim g0 w0 (b.S F.n x) a w→(∀z,wB z ops.toList=true→a.tmps.getD z undef=a0.tmps.getD z undef)→
   wpOp P ops Q n (wpAny P .any ops Q k (listed.setIfInBounds n true)) a w:=by
  intro k listed m L b x a w hL hm hsz hn hbit hcl hrd hcount hA hrun hs hz; have hq:=(lE hL).1 m b hm; have hrdy:gX m A=true:=by
   simp only[gX,z15]; intro e he; cases hb:Region.binds .any e with
   | false=>rfl
   | true=>
    have h1:=hrd e (z40.1 he) hb; have h2:=H.edge e (z40.1 he) hb; simp only[z34,z54]; rw[hbit e.on (by omega)]; exact h1
  simp only[HI,hrdy,z34,z54,z7]at hq; have hrun2:=hrun; rw[H.filt hsz hn]at hrun2; obtain⟨i,hi,hl⟩:=Br H hrun2 (fun j hj=>by
   rw[z74,z57]at hj; refine⟨hj.1,H.left hcl hrd hj.1 ?_⟩
   rw[←hdn listed hsz j (by omega)]
   simpa using hj.2)
  obtain⟨g,hsg⟩:=hs; obtain⟨arr,ty,h1,h2,h3,h4⟩:=Gq (P:=P) hT H.op hsg hq.1.1 hq.1.2 hq.2 hi hl; have hp:=Qb hT H hO hQ k listed m L b x a w hL hm hsz hn hbit hcl hrd hcount hA hrun ⟨g,hsg⟩ hz h2 h1 rfl; refine BO H.last true (by unfold Region.wanted; rw[H.guard]) ?_
  show A.wp P a w _ _; unfold Oper.wp; rw[h4 w h1]; show wpAny P .any ops Q k (listed.setIfInBounds n true) (a.put A.dst undef) _; rw[H.dst]; exact hp
 intro k; induction k with
 | zero=>
  intro listed m L b x a w hL hm hsz hn hbit hcl hcount hA hrun hs hz; have hnil:(List.range n).filter (fun j=> !listed.getD j true)=[]:=by
   rw[z59,H.filt hsz hn,z30,z21]at hcount; exact z71.1 (by omega)
  have hall: ∀j,j<n→listed.getD j false=true:=fun j hj=>by
   rw[←hdn listed hsz j (by omega)]
   have:=TT.1 hnil j (z57.2 hj); simpa using this
  refine⟨fun hr=> ?_,fun i hi=> ?_⟩
  ·exfalso
   have:=Bh (by rw[hsize]; exact hsz) (H.edges hO) hr n (by omega)
   rw[hn]at this; cases this
  ·obtain⟨hun,o,ho,_⟩:=mem_ready.1 hi
   have hlt:i<ops.size:=(z31.1 ho).1
   have hin:i=n:=by
    rcases NI i n with h | h
    ·rw[hdn listed hsz i (by omega),hall i h]at hun; cases hun
    ·omega
   rw[hin]; exact now 0 listed m L b x a w hL hm hsz hn hbit hcl (fun e he hb=>hall e.on (H.edge e he hb)) hcount hA hrun hs hz
 | succ k ih=>
  intro listed m L b x a w hL hm hsz hn hbit hcl hcount hA hrun hs hz; refine⟨fun hr=> ?_,fun i hi=> ?_⟩
  ·exfalso
   have:=Bh (by rw[hsize]; exact hsz) (H.edges hO) hr n (by omega)
   rw[hn]at this; cases this
  ·obtain⟨hun,o,ho,haft⟩:=mem_ready.1 hi
   have hlt:i<ops.size:=(z31.1 ho).1
   by_cases hin:i=n
   ·have hoA:o=A:=by rw[hin,H.last]at ho; exact(z46 ho).symm
    rw[hoA]at haft; rw[hin]; exact now (k+1) listed m L b x a w hL hm hsz hn hbit hcl haft hcount hA hrun hs hz
   have hlt':i<n:=by omega
   have hun':listed.getD i false=false:=by rw[←hdn listed hsz i (by omega)]; exact hun
   have ho':ops'[i]? =some o:=by rw[H.same i hlt']; exact ho
   have hcl':mS ops (fun j=>(listed.setIfInBounds i true).getD j false=true):=by
    intro j oj hoj hj e he hb; by_cases hij:i=j
    ·subst hij
     rw[ho]at hoj; cases hoj; exact getD_set_true (haft e he hb)
    ·rw[getD_set_ne false hij]at hj
     exact getD_set_true (hcl j oj hoj hj e he hb)
   have hclO:mS ops' (fun j=>(listed.setIfInBounds i true).getD j false=true):=by
    intro j oj hoj hj e he hb; have hjlt:j<n+1:=by have:=(z31.1 hoj).1; have:=H.size'; omega
    have hjn:j≠n:=fun e=>by
     subst e; rw[getD_set_ne false hin,hn]at hj; cases hj
    rw[H.same j (by omega)]at hoj
    exact hcl' j oj hoj hj e he hb
   have hset:(listed.setIfInBounds i true).getD i false=true:=by
    have:i<listed.size:=by omega
    simp [Array.getD,this]
   obtain⟨A',C,f1,f2,f3⟩:=zI (ops:=ops) (by rw[hsize]; exact hsz) hlt hun
   rw[f1]at hrun; have hO2:=hO; simp only[mG,z7,z15,z57]at hO2; obtain⟨hfo,x1,hsd,hrun1⟩:=hrun.front ho' (fun j hj a' ha'=>by
    obtain⟨j1,j2⟩:=f3 j hj; have h1:=hO2.2 i (by rw[H.size']; omega) j j1
    rw[ha',ho']at h1; simp only[z50]at h1; refine h1.resolve_left (fun h2=> ?_)
    have:=lV (D:=fun j=>(listed.setIfInBounds i true).getD j false=true) hclO hset h2
    rw[getD_set_ne false (by omega)]at this
    rw[hdn listed hsz j (by omega)]at j2
    rw[j2]at this; cases this)
   have hrdy:gX m o=true:=by
    simp only[gX,z15]; intro e he; cases hb:Region.binds .any e with
    | false=>rfl
    | true=>
     have h1:=haft e (z40.1 he) hb; have h2:=H.edges hO i o ho e (z40.1 he) hb; simp only[z34,z54]; rw[hbit e.on (by omega)]; exact h1
   obtain⟨_,L',hL',hL0⟩:=lE hL; obtain⟨b1,b2,s1,s2,cv⟩:=(sP hL').2 m b hm i o (by rw[z26]; exact ho') (by rw[hbit i (by omega)]; exact hun') hrdy
   obtain⟨hA1,hw1⟩:=hsd.step (P:=P) hT hA ho' s1; obtain⟨hA2,cs⟩:=cv x1 hA1; have hk:=hw1 g0 w0 Q (wpAny P .any ops Q (k+1) (listed.setIfInBounds i true)) a w hs (fun v w' hs'=>by
    refine ih (listed.setIfInBounds i true) (m||| 2 ^ i) L' b2 x1 _ w' hL0 s2 (by simpa using hsz) (by rw[getD_set_ne false hin]; exact hn) (fun j hj=> ?_) hcl' ?_ hA2 (by rw[f2]; exact hrun1) (cs _ _ _ _ hs') (fun z hno=> ?_)
    ·rw[Pf,z99,hbit j hj]
     by_cases hij:i=j
     ·subst hij; rw[hset]; simp
     ·rw[getD_set_ne false hij]; simp [hij]
    ·rw[z59]at hcount ⊢
     rw[f1]at hcount; rw[f2]; simp only[z30,z43]at hcount ⊢; omega
    ·have hne:o.dst≠some z:=by
      have key: ∀l:List Oper,wB z l=true→ ∀o∈l,o.dst≠some z:=by
       intro l; induction l with
       | nil=>intro _ o h; cases h
       | cons p r ihl=>
        intro h o hm; simp only[wB,z7,z37,z39]at h; cases hm with
        | head=>exact h.1
        | tail _ hm=>exact ihl h.2 o hm
      exact key ops.toList hno o (z40.2 (z126 ho))
     rw[wY hne]; exact hz z hno)
   have hy:yielded ops' a.tmps=yielded ops a.tmps:=by
    funext g
    unfold yielded; have:(ops'[g]?).bind (·.dst)=(ops[g]?).bind (·.dst):=by
     have h1:=congrArg (fun l=>(l[g]?).bind id) H.ds
     simpa [z36,Option.bind_map]using h1
    rw[this]
   unfold wpOp at hk ⊢; rw[ho']at hk; rw[ho]; rw[hy]at hk; exact hk
end

theorem CE: ∀(l:List Oper) (n:Nat),(jW l n).length=l.length
 | [],_=>rfl
 | [_],_=>rfl
 | _::p::r,n=>by
  have:=CE (p::r) (n+1); simp only[jW,z43]at this ⊢; omega
theorem CF: ∀(l:List Oper) (n i:Nat),i+1<l.length→(jW l n)[i]? =l[i]?
 | [],_,_,h=>by simp at h
 | [_],_,i,h=>by simp at h
 | o::p::r,n,0,_=>rfl
 | o::p::r,n,i+1,h=>by
  simp only[jW,z23]
  exact CF (p::r) (n+1) i (by simpa using h)
theorem AK: ∀(l:List Oper) (n i:Nat) (A:Oper),i+1=l.length→l[i]? =some A→(jW l n)[i]? =some (vO (n+i) A)
 | [],_,_,_,h,_=>by simp at h
 | [o],n,i,A,h,h2=>by
  have:i=0:=by simpa using h
  subst this; cases h2; rfl
 | o::p::r,n,0,A,h,_=>by simp at h
 | o::p::r,n,i+1,A,h,h2=>by
  simp only[jW,z23]
  rw[AK (p::r) (n+1) i A (by simpa using h) (by simpa using h2),show n+1+i=n+(i+1)by omega]
theorem EA: ∀(l:List Oper) (n:Nat),(jW l n).map (·.dst)=l.map (·.dst)
 | [],_=>rfl
 | [_],_=>rfl
 | o::p::r,n=>by
  simp only[jW,z61]; rw[EA (p::r) (n+1)]; rfl
section
variable {P:Program} {τ:TypeId→Option TI} {Sgs:FuncId→List Sg} {F:FA} {ops:Array Oper} {b b1:B} {mt:B→B→B}
theorem vD{ds:List (Option Nat)}{q:Nat→B→Bool}{os:List Oper}: ∀ {k:Nat} {L R:Lvl},pN τ Sgs F ds mt q os k L=some R→GK τ Sgs F ds mt os k L=some R
 | 0,L,R,h=>h
 | k+1,L,R,h=>by
  obtain⟨_,L',h1,h2⟩:=lE h; simp only[GK,h1]; exact vD h2
theorem OW(hT:aY P τ)(h:Pz τ Sgs F mt b ops=some b1):(Hn τ Sgs F (ops.toList.map (·.dst)) b ops.toList).isSome=true∧ ∀x x1,Ag F b x→CY P τ Sgs F (ops.toList.map (·.dst)) ops (List.range' 0 ops.toList.length) x x1→
  Ag F b1 x1∧ ∀(g0:G) (w0:World) (Q:Exit→Act→World→Prop) (a:Act) (w:World),Sim g0 w0 (b.S F.n x) a w→(∀a' w',Sim g0 w0 (b1.S F.n x1) a' w'→(∀z,wB z ops.toList=true→a'.tmps.getD z undef=a.tmps.getD z undef)→Q .normal a' w')→wpAny P .any ops Q ops.size (Array.replicate ops.size false) a w:=by
 unfold Pz at h; split at h<;>try cases h
 rename_i A hA; split at h<;>try cases h
 rename_i t tv y hd ho hg; split at h<;>try cases h
 rename_i ob p hsh; obtain⟨hc,h⟩:=aI h; simp only[z7]at hc; obtain⟨c1,c2,c3,c4⟩:=hc; split at h<;>try cases h
 rename_i mf hlv; obtain⟨n,hn⟩: ∃n,ops.size=n+1:=by
  cases e:ops.size with
  | zero=>
   rw[e]at hA; have:ops.toList.length=0:=by simpa using e
   rw[z71.1 this]at hA; cases hA
  | succ n=>exact⟨n,rfl⟩
 have hn1:ops.size - 1=n:=by omega
 rw[hn1]at c1 c2 hA; have hlast:ops[n]? =some A:=by
  have:=congrArg (·[0]?) hA
  simp only[z56,z69,z20,z26]at this
  exact this
 have H:AJ F ops (jW ops.toList 0).toArray n A t tv y ob p:= {
  size:=hn
  size':=by rw[z88,CE]; simpa using hn
  same:=fun i hi=>by rw[z84,CF _ _ _ (by simp; omega),z26]
  last:=hlast
  last':=by rw[z84,AK ops.toList 0 n A (by simp; omega) (by rw[z26]; exact hlast),z32]
  ds:=EA _ _
  op:=ho
  dst:=hd
  guard:=hg
  sh:=hsh
  edge:=fun e he hb=>by
   have:=z79.1 c1 e he; simp only[hb,z34,z54]at this; exact cD this
  cls:=fun j hj=>by
   have:=z15.1 c2 j (z57.2 hj); simp only[z50]at this; refine this.imp id (fun h2 o ho=> ?_)
   rw[ho]at h2; exact h2 }
 refine⟨c4,fun x x1 hAg hrun=> ?_⟩
 have hrun':=Bq H hrun; rw[←H.ds]at hrun'; have hl:ops.toList.length=ops.size:=by simp
 have hle:(List.range ops.size).filter (fun j=> !(Array.replicate ops.size false).getD j true)=List.range' 0 ops.toList.length:=by
  rw[List.filter_eq_self.2 (fun j hj=>by
   have:=z57.1 hj; simp [Array.getD,this]),TQ]
  simp
 refine⟨?_,fun g0 w0 Q a w hs hQ=> ?_⟩
 ·have:=Mf hT c3 (jW ops.toList 0).toArray.size 0 0 [(0,b)] b x (by simp) (by
   have:=vD hlv; rw[H.size', ←hn]; exact this) (by simp [oW]) (fun i hi=>by simp) hAg (by rw[H.size', ←hn, ←hl]; exact hrun')
  exact this
 ·rw[hn]at hlv
  have h2:=PE (a0:=a) (Q:=Q) hT H c3 hQ n (Array.replicate ops.size false) 0 [(0,b)] b x a w hlv (by simp [oW]) (by simpa using hn) (by simp [Array.getD,hn]) (fun i hi=>by simp [Array.getD,hn,hi]) (fun j o ho hj=>by
   have:=(z31.1 ho).1
   simp [Array.getD,this]at hj) (by
   rw[z59,hle]; simp [hn]) hAg (by rw[hle]; exact hrun') hs (fun _ _=>rfl)
  rw[←hn]at h2; exact h2
end
end Go.Own
