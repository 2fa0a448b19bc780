/- A calculus for runs on plain data (part 3): whoever runs code on data, with its owners checked, runs the program. No conditions. -/
import Derived.Test.YtjfgchodolnmcaaOwn1
import Derived.LoopN
set_option linter.unusedVariables false
set_option linter.unusedSimpArgs false
set_option linter.unnecessarySimpa false
/- What is told of a region that hands a struct to a function that turns its slices. -/
namespace Go.Own
open Go.RowKit
/-- One of the calls: the cell, the callee, what goes in and what comes out. -/
structure MR where
 off:Nat
 g:FuncId
 es:List (List T)
 es':List (List T)
 k:Int
 k1:Int
def Cx(p0:Nat):List MR→List T→Int→List T→Int→Prop
 | [],cells,k,cells',k'=>cells'=cells∧k'=k
 | m::r,cells,k,cells',k'=>cells[p0+m.off]? =some (.sl m.es)∧m.k=k∧Cx p0 r (cells.set (p0+m.off) (.sl m.es')) m.k1 cells' k'
def biM:B:=⟨[(0,[[.U 0]]),(1,[[.S]])],[]⟩
def oU(F:FA)(d i:Nat):Bool:= !(Nat.beq i d)&& !(aS d (aG (F.shOf i)))
def B.turn(F:FA)(b:B)(l:Loc):B:=((((b.killV F).setf F (isL l) (fun m q=>if isL l m=true then .D else q)).filt (lZ F l)).setf F (isL l) (fun m q=>if m=l then .U 0 else q))
def B.turnM(F:FA)(o p0:Nat):List Nat→B→B
 | [],b=>b
 | j::r,b=>B.turnM F o p0 r (b.turn F (.oc o (p0+j)))
def D.updM(o p0:Nat):List MR→D→D
 | [],x=>x
 | m::r,x=>D.updM o p0 r (x.upd (.oc o (p0+m.off)) (.sl m.es'))
def vI(k:Int):V:= .one (.c (.int .i64 k))
/-- Is it the usual signature? -/
def okBi:B→Bool
 | ⟨[(0,[[.U 0]]),(1,[[.S]])],[]⟩=>true
 | _=>false
theorem Pv{b:B}(h:okBi b=true):b=biM:=by
 unfold okBi at h
 split at h
 ·rfl
 ·cases h
def okSg(sg:Sg):Bool:=decide (sg.io=some 0)&&Nat.beq sg.np 2&&Nat.beq sg.no 0&&okBi sg.bi&&sg.bo.has 0&&sg.bo.has 1&&decide (sg.bo.kd (.s 1 0 0)= .U 0)
/-- The kinds behind such a region. -/
def B.mkReg(F:FA)(b:B)(o p0 t t' r r0:Nat)(L:List Nat):B:=((((b.filt (oU F t)).filt (oU F t')).turnM F o p0 L).filt (oU F r)).put F r0 (fun _ _=> .S)
def mkC(τ:TypeId→Option TI)(Sgs:FuncId→List Sg)(F:FA)(b:B)(L:List (Nat×FuncId)):List Oper→Option B
 | [⟨some t, .load S (.tmp tp),_,_,_,none⟩,⟨some t', .move (.tmp tk),_,_,_,none⟩,⟨some r, .call _,_,_,_,none⟩,⟨some r0, .assign (.tmp _),_,_,_,none⟩]=>
  (match F.shOf tp with
  | .one (.ptr o p0)=>bif b.has tp&&b.hasO o&&b.has tk&&L.all (fun x=>isU (b.kd (.oc o (p0+x.1)))&&(Sgs x.2).any okSg)&&(Nat.blt t t'&&Nat.blt t' r&&Nat.blt r F.n&&Nat.blt r0 F.n&& !(Nat.beq tk t)&& !(Nat.beq tp t))&&Own.fits (vI 0) (F.shOf r0)then some ((b.mkReg F o p0 t t' r r0 (L.map (·.1))).nrm F)else none
  | _=>none)
 | _=>none
end Go.Own

/- Into a function's body, and out of it. -/
namespace Go.Own
open Go.RowKit

def G.relab(g:G)(σ:Loc→Loc)(β':Nat→Nat):G:= { β:=β',own:=fun b=>σ (g.own b) }

structure KF (σ:Loc→Loc):Prop where
 none:σ .none= .none
 ext:σ .ext= .ext
 obj: ∀l,(∀o,l≠ .obj o)→ ∀o,σ l≠ .obj o

theorem LF.relab{g:G}{w:World}{σ:Loc→Loc}{β':Nat→Nat}(hσ:KF σ)(hok:GOk g w){c q:K}{l l':Loc}{v:Value}{x:T}(hl:l.place=true)(h:LF g w c l v x)(hh:c.hand true q=true)(hm:q.hold=true→σ l=l'):LF (g.relab σ β') w q l' v x:=
 h.hand (ext:=true) hok hl hh (fun b hb=>by show σ (g.own b)=_; rw[hb]; exact hσ.none) (fun e=>by cases e) (fun b hb o=>hσ.obj _ hb o) (fun hq b hb=>by show σ (g.own b)=l'; rw[hb]; exact hm hq)

theorem CpR.relab{g:G}{w:World}{σ:Loc→Loc}{β':Nat→Nat}(hσ:KF σ){c q:K}{b off:Nat}{xs:List T}(h:CpR g w c b off xs)(hh:c.hand true q=true)(hq:q= .D∨q= .F∨q= .V):CpR (g.relab σ β') w q b off xs:=
 h.hand (ext:=true) hh (fun b hb=>by show σ (g.own b)=_; rw[hb]; exact hσ.none) (fun e=>by cases e) (fun b hb o=>hσ.obj _ hb o) hq

theorem bS.relab{g0:G}{w0:World}{st:St}{a:Act}{g:G}{w:World}(h:bS g0 w0 st a g w){σ:Loc→Loc}(hσ:KF σ){β':Nat→Nat}(a2:Act)(st2:St)(hβp: ∀o,par≤o→β' o=g.β o)
  (hsz:a2.tmps.size=st2.n)(hn:st2.n≤par)(hd:a2.defers=[])(hroot: ∀i,aG (st2.sl i)= .none)(hsl: ∀i,RV (g.relab σ β') w (fun k j=>st2.fl (.s i k j)) (fun k j=> .s i k j) (a2.tmps.getD i undef) (st2.sl i))
  (hob: ∀o cells,st2.ob o=some cells→ ∃o1,st.ob o1=some cells∧β' o=g.β o1∧σ (.obj o1)= .obj o∧ ∀j,(st.fl (.oc o1 j)).hand true (st2.fl (.oc o j))=true∧((st2.fl (.oc o j)).hold=true→σ (.oc o1 j)= .oc o j)):
  bS g0 w0 st2 a2 (g.relab σ β') w:=by
 refine⟨⟨h.framed.os,h.framed.tape,h.framed.output,h.framed.evo.size,fun b hb hX=> ?_⟩,⟨fun b hb=>h.ok.own b (fun e=>hb ?_)⟩,hsz,hd,hsl,fun o cells hc=> ?_,fun i hi=>absurd (hroot i) hi,fun o ho=>(hβp o ho).trans (h.bp o ho),hn⟩
 ·obtain⟨e1,e2⟩:=h.framed.evo.keep b hb hX
  have hf:nQ (g0.own b):=Classical.not_not.1 hX
  refine⟨?_,e2⟩
  show σ (g.own b)=_
  rw[e1]
  rcases hf with e | e
  ·rw[e]; exact hσ.none
  ·rw[e]; exact hσ.ext
 ·show σ (g.own b)= .none
  rw[e]; exact hσ.none
 ·obtain⟨o1,h1,h2,h3,h4⟩:=hob o cells hc
  obtain⟨arr,ty,k1,k2,k3,k4⟩:=h.obs o1 cells h1
  have hb:(g.relab σ β').β o=g.β o1:=h2
  rw[hb]
  refine⟨arr,ty,k1,k2, ?_,fun j x hx=> ?_⟩
  ·show σ (g.own (g.β o1))= .obj o
   rw[k3,h3]
  ·obtain⟨c,c1,c2,c3⟩:=k4 j x hx
   exact⟨c,c1,c2,c3.relab hσ h.ok rfl (h4 j).1 (h4 j).2⟩

/-! ### into a body -/
theorem bS.body{bi:B}{x:D}{np:Nat}{g:G}{w:World}{vs:Array Value}{n:Nat}(h:bS g w (bi.S np x) ⟨vs,[]⟩ g w)(hn:np≤n)(hp:n≤par):
  bS g w (bi.S n x) ⟨vs++Array.replicate (n - vs.size) undef,[]⟩ g w:=by
 have hsz:vs.size=np:=h.size
 have hget: ∀i,(vs++Array.replicate (n - vs.size) undef).getD i undef=vs.getD i undef:=by
  intro i
  simp only[Array.getD_eq_getD_getElem?,Array.getElem?_append]
  split
  ·rfl
  ·rename_i hi
   rw[Array.getElem?_eq_none (xs:=vs) (by omega)]
   simp only[Array.getElem?_replicate]
   split<;>rfl
 have hv: ∀l,vAt (vs++Array.replicate (n - vs.size) undef) g.β w l=vAt vs g.β w l:=fun l=>by
  cases l with
  | s i k j=>simp only[vAt]; rw[hget]
  | _=>rfl
 refine⟨h.framed,h.ok, ?_,rfl,fun i=> ?_,h.obs,fun i hi hf=> ?_,h.bp,hp⟩
 ·show(vs++Array.replicate (n - vs.size) undef).size=n
  simp; omega
 ·show RV g w _ _ ((vs++Array.replicate (n - vs.size) undef).getD i undef) _
  rw[hget]; exact h.slots i
 ·obtain⟨p1,p2⟩:=h.pls i hi hf
  refine⟨p1, ?_⟩
  show Dm _ _ _ _ ((vs++Array.replicate (n - vs.size) undef).getD i undef) _
  rw[hget]
  exact p2.congr (hv _) rfl (fun _ _ _ _ _ _ _ h=>h)

/-! ### the results -/
/-- A result's datum. -/
def Mo(τ:TypeId→Option TI)(x:D):ResultVar→Option W
 | .tmp t=>(match x.sl t with | .one w=>some w | _=>none)
 | .cell t ty=>(match τ ty,x.sl t with
  | some i, .one (.ptr o p)=>(match x.ob o with
   | some cells=>(match oG i (cells.drop p)with | some (.one w)=>some w | _=>none)
   | none=>none)
  | _,_=>none)
def Ay(τ:TypeId→Option TI)(x:D):List ResultVar→Option (List W)
 | []=>some []
 | r::rs=>match Mo τ x r,Ay τ x rs with
  | some w,some ws=>some (w::ws)
  | _,_=>none
def HL(ws:List W):V:=match ws with
 | [w]=> .one w
 | ws=> .tup ws

/-- Where a result's cells lie. -/
def MK(F:FA):ResultVar→Nat→Loc
 | .tmp t,j=> .s t 0 j
 | .cell t _,j=>match F.shOf t with | .one (.ptr o p)=> .oc o (p+j) | _=> .none

theorem GA{τ:TypeId→Option TI}{x:D}: ∀ {rs:List ResultVar} {ws:List W},Ay τ x rs=some ws→rs.length=ws.length∧ ∀(k:Nat) r,rs[k]? =some r→ ∃w,ws[k]? =some w∧Mo τ x r=some w
 | [],ws,h=>by cases h; exact⟨rfl,fun k r h=>by simp at h⟩
 | r::rs,ws,h=>by
  unfold Ay at h
  split at h<;>try cases h
  rename_i w ws' h1 h2
  obtain⟨q1,q2⟩:=GA h2
  refine⟨by simp [q1],fun k r' hk=> ?_⟩
  cases k with
  | zero=>simp only[List.getElem?_cons_zero,Option.some.injEq]at hk ⊢; subst hk; exact⟨w,rfl,h1⟩
  | succ k=>simp only[List.getElem?_cons_succ]at hk ⊢; exact q2 k r' hk

def xT(tmps:Array Value):ResultVar→Sem Value
 | .tmp t=>pure (tmps.getD t undef)
 | .cell a t=>do loadVar t (←asAddr (tmps.getD a undef))

theorem In{α:Type}{P:Program}{w:World}(f:α→Sem Value): ∀ {l:List α} {us:List Value},l.length=us.length→(∀(k:Nat) x u,l[k]? =some x→us[k]? =some u→(f x).run P w= .ok u w)→(l.mapM f).run P w= .ok us w
 | [],us,h,_=>by
  cases us with
  | nil=>simp
  | cons u us=>simp at h
 | x::l,us,h,hf=>by
  cases us with
  | nil=>simp at h
  | cons u us=>
   have h1:=hf 0 x u rfl rfl
   have h2:=In f (l:=l) (us:=us) (by simpa using h) (fun k y v hy hv=>hf (k+1) y v (by simpa using hy) (by simpa using hv))
   simp [List.mapM_cons,Sem.run_bind,h1,h2]

def tV(us:List Value):Value:=match us with
 | [u]=>u
 | us=> .tuple us.toArray

theorem Hx{P:Program}{w:World}{fn:Func}{tmps:Array Value}{us:List Value}(h:fn.results.toList.length=us.length)(hf: ∀(k:Nat) x u,fn.results.toList[k]? =some x→us[k]? =some u→(xT tmps x).run P w= .ok u w):
  (results fn tmps).run P w= .ok (tV us) w:=by
 have h1:=In (P:=P) (w:=w) (xT tmps) h hf
 have h2:(results fn tmps)=(fn.results.mapM (xT tmps) >>=fun vs=>pure (if h:vs.size=1 then vs[0]else .tuple vs)):=by
  unfold results
  congr 1
 rw[h2,Array.mapM_eq_mapM_toList]
 simp [h1]
 match us with
 | []=>simp [tV]
 | [u]=>simp [tV]
 | u::v::r=>simp [tV]

/-- What a body's places are to the caller. -/
def KV(t:Nat):List ResultVar→Nat→Option Nat
 | [],_=>none
 | .tmp t'::r,i=>bif Nat.beq t' t then some i else KV t r (i+1)
 | _::r,i=>KV t r (i+1)
def ES(F:FA)(o j:Nat):List ResultVar→Nat→Option (Nat×Nat)
 | [],_=>none
 | .cell t _::r,i=>(match F.shOf t with
  | .one (.ptr o' p)=>bif Nat.beq o' o&&Nat.ble p j then some (i,j - p)else ES F o j r (i+1)
  | _=>ES F o j r (i+1))
 | _::r,i=>ES F o j r (i+1)
def yM(F:FA)(rs:List ResultVar)(n0 io:Option Nat):Loc→Loc
 | .s t k j=>bif Nat.beq k 0 then(match KV t rs 0 with | some i=> .s 0 i j | none=>if io=some t∧j=0 then .s 1 0 0 else .ext)else .ext
 | .oc o j=>if par≤o then .oc o j else if n0=some o then .oc 0 j else(match ES F o j rs 0 with | some (i,j')=> .s 0 i j' | none=> .ext)
 | .obj o=>if par≤o then .obj o else if n0=some o then .obj 0 else .ext
 | .none=> .none
 | .ext=> .ext

theorem JY(F:FA)(rs:List ResultVar)(n0 io:Option Nat):KF (yM F rs n0 io):=by
 refine⟨rfl,rfl,fun l hl o=> ?_⟩
 cases l with
 | obj o'=>exact absurd rfl (hl o')
 | none=>simp [yM]
 | ext=>simp [yM]
 | s t k j=>
  simp only[yM]
  cases Nat.beq k 0 with
  | false=>simp
  | true=>
   simp only[cond_true]
   split
   ·simp
   ·split<;>simp
 | oc o' j=>
  simp only[yM]
  (repeat' split)<;>simp

def sI(n0:Option Nat)(o:Nat):Option Nat:=if par≤o then some o else if n0=some o then some 0 else none

/-- What is asked of a result. -/
def Fe(F:FA)(b:B)(σ:Loc→Loc)(r:ResultVar)(k:Nat):Nat→List K→Bool
 | _,[]=>true
 | j,q::row=>(b.kd (MK F r j)).hand true q&&(!q.hold||decide (σ (MK F r j)= .s 0 k j))&&Fe F b σ r k (j+1) row
theorem GB{F:FA}{b:B}{σ:Loc→Loc}{r:ResultVar}{k:Nat}: ∀ {l:List K} {j0:Nat},Fe F b σ r k j0 l=true→ ∀ {j:Nat} {q:K},l[j]? =some q→(b.kd (MK F r (j0+j))).hand true q=true∧(q.hold=true→σ (MK F r (j0+j))= .s 0 k (j0+j))
 | [],_,_,j,q,h=>by simp at h
 | p::l,j0,h,0,q,h2=>by
  simp only[Fe,Bool.and_eq_true]at h
  simp only[List.getElem?_cons_zero,Option.some.injEq]at h2
  subst h2
  refine⟨h.1.1,fun hq=> ?_⟩
  have:=h.1.2
  rw[hq]at this
  simpa using this
 | p::l,j0,h,j+1,q,h2=>by
  simp only[Fe,Bool.and_eq_true]at h
  simp only[List.getElem?_cons_succ]at h2
  have:=GB h.2 h2
  rwa[show j0+1+j=j0+(j+1)by omega]at this

def Ff(F:FA)(b:B)(bo:B)(σ:Loc→Loc)(k:Nat)(r:ResultVar):Bool:=
 (match cG 0 bo.sl with | some κ=>(match κ[k]? with | some row=>Fe F b σ r k 0 row | none=>true) | none=>true)&&
 (match r with
  | .tmp t=>b.has t&&(match F.shOf t with | .one (.cp _)=>dfv (bo.kd (.s 0 k 0)) | .one (.al _ _)=>false | .one (.pp _ _ _ _)=>false | _=>true)
  | .cell t _=>b.has t&&(match F.shOf t with | .one (.ptr o _)=>b.hasO o | _=>false))
def xU(F:FA)(b:B)(bo:B)(σ:Loc→Loc):Nat→List ResultVar→Bool
 | _,[]=>true
 | k,r::rs=>Ff F b bo σ k r&&xU F b bo σ (k+1) rs
theorem GC{F:FA}{b bo:B}{σ:Loc→Loc}: ∀ {l:List ResultVar} {k0:Nat},xU F b bo σ k0 l=true→ ∀ {k:Nat} {r:ResultVar},l[k]? =some r→Ff F b bo σ (k0+k) r=true
 | [],_,_,k,r,h=>by simp at h
 | p::l,k0,h,0,r,h2=>by
  simp only[xU,Bool.and_eq_true]at h
  simp only[List.getElem?_cons_zero,Option.some.injEq]at h2
  subst h2; exact h.1
 | p::l,k0,h,k+1,r,h2=>by
  simp only[xU,Bool.and_eq_true]at h
  simp only[List.getElem?_cons_succ]at h2
  have:=GC h.2 h2
  rwa[show k0+1+k=k0+(k+1)by omega]at this

theorem Lj{F:FA}{b bo:B}{σ:Loc→Loc}{k:Nat}{r:ResultVar}(h:Ff F b bo σ k r=true)(j:Nat):(b.kd (MK F r j)).hand true (bo.kd (.s 0 k j))=true∧((bo.kd (.s 0 k j)).hold=true→σ (MK F r j)= .s 0 k j):=by
 simp only[Ff,Bool.and_eq_true]at h
 have h:=h.1
 simp only[B.kd,B.get]at h ⊢
 cases hl:cG 0 bo.sl with
 | none=>exact⟨rfl,fun e=>by cases e⟩
 | some κ=>
  rw[hl]at h
  simp only[zO]at h ⊢
  cases hr:κ[k]? with
  | none=>exact⟨rfl,fun e=>by cases e⟩
  | some row=>
   rw[hr]at h
   cases hq:row[j]? with
   | none=>simp only[hq]; exact⟨rfl,fun e=>by cases e⟩
   | some q=>
    have:=GB h hq
    simp only[Nat.zero_add]at this
    simp only[hq]
    exact this
end Go.Own

/- A function's contract out of its body's run. -/
namespace Go.Own
open Go.RowKit

theorem TU{q:K}(h:dfv q=true):q= .D∨q= .F∨q= .V:=by cases q<;>simp_all [dfv]

/-- The objects behind a function. -/
def Jy(F:FA)(b bo:B)(n0:Option Nat):Bool:=bo.ob.all fun p=>
 if par≤p.1 then b.hasO p.1&&oR true (fun j=>b.kd (.oc p.1 j)) 0 p.2
 else Nat.beq p.1 0&&(match n0 with | some o=> !(decide (par≤o))&&b.hasO o&&oR true (fun j=>b.kd (.oc o j)) 0 p.2 | none=>false)

theorem NW{F:FA}{b bo:B}{n0:Option Nat}(h:Jy F b bo n0=true){oc:Nat}(ho:bo.hasO oc=true): ∃o1,sI n0 o1=some oc∧b.hasO o1=true∧ ∀j,(b.kd (.oc o1 j)).hand true (bo.kd (.oc oc j))=true:=by
 simp only[B.hasO]at ho
 cases hl:cG oc bo.ob with
 | none=>rw[hl]at ho; cases ho
 | some r=>
  have hm:=List.all_eq_true.1 h _ (fF hl)
  simp only at hm
  have key: ∀o1,oR true (fun j=>b.kd (.oc o1 j)) 0 r=true→ ∀j,(b.kd (.oc o1 j)).hand true (bo.kd (.oc oc j))=true:=fun o1 h1 j=>by
   simp only[B.kd,B.get,hl]at h1 ⊢
   cases hq:r[j]? with
   | none=>simp only[hq]; rfl
   | some q=>
    have:=tD h1 hq
    simp only[Nat.zero_add]at this
    simp only[hq]; exact this
  by_cases hp:par≤oc
  ·rw[if_pos hp,Bool.and_eq_true]at hm
   exact⟨oc,by simp [sI,hp],hm.1,key oc hm.2⟩
  ·rw[if_neg hp,Bool.and_eq_true]at hm
   have h0:=Nat.eq_of_beq_eq_true hm.1
   subst h0
   have hm2:=hm.2
   cases hn:n0 with
   | none=>rw[hn]at hm2; cases hm2
   | some o=>
    rw[hn]at hm2
    simp only[Bool.and_eq_true]at hm2
    obtain⟨⟨m1,m2⟩,m3⟩:=hm2
    have m1': ¬ par≤o:=by simpa using m1
    exact⟨o,by simp [sI,m1'],m2,key o m3⟩

theorem Bn{α:Type}: ∀ {rs:List α} {Q:Nat→Value→Prop},(∀(k:Nat) r,rs[k]? =some r→ ∃u,Q k u)→ ∃us:List Value,rs.length=us.length∧ ∀(k:Nat) u,us[k]? =some u→Q k u
 | [],Q,_=>⟨[],rfl,fun k u h=>by simp at h⟩
 | r::rs,Q,h=>by
  obtain⟨u,hu⟩:=h 0 r rfl
  obtain⟨us,h1,h2⟩:=Bn (rs:=rs) (Q:=fun k u=>Q (k+1) u) (fun k r hk=>h (k+1) r (by simpa using hk))
  refine⟨u::us,by simp [h1],fun k v hv=> ?_⟩
  cases k with
  | zero=>simp only[List.getElem?_cons_zero,Option.some.injEq]at hv; subst hv; exact hu
  | succ k=>exact h2 k v (by simpa using hv)

theorem bS.ret{P:Program}{τ:TypeId→Option TI}(hT:bJ P τ){F:FA}{g0:G}{w0:World}{b:B}{x:D}{a:Act}{g:G}{w:World}{n:Nat}(h:bS g0 w0 (b.S n x) a g w)(hA:Ag F b x){rs:List ResultVar}{ws:List W}{bo:B}{n0 io:Option Nat}{ob:List (List T)}{nw:Option (List T)}{iov:Option T}{u1:Value}
  (hws:Ay τ x rs=some ws)(hr:xU F b bo (yM F rs n0 io) 0 rs=true)(hob:Jy F b bo n0=true)(hobd: ∀oc o1,bo.hasO oc=true→sI n0 o1=some oc→(DR ((HL ws).to (sI n0)) iov ob nw).ob oc=x.ob o1)
  (hio: ∀z,io=some z→a.tmps.getD z undef=u1∧b.has z=true∧(∃t,x.sl z= .one (.c t)∧iov=some t)∧(b.kd (.s z 0 0)).hand true (bo.kd (.s 1 0 0))=true∧((bo.kd (.s 1 0 0)).hold=true→yM F rs n0 io (.s z 0 0)= .s 1 0 0))(hio0:io=none→bo.has 1=false)
  (hb2: ∀i,bo.has i=true→i<2): ∃us:List Value,rs.length=us.length∧(∀(k:Nat) r u,rs[k]? =some r→us[k]? =some u→(xT a.tmps r).run P w= .ok u w)∧ ∃g',bS g0 w0 (bo.S 2 (DR ((HL ws).to (sI n0)) iov ob nw)) ⟨#[tV us,u1],[]⟩ g' w:=by
 let σ:=yM F rs n0 io
 have hσ:KF σ:=JY F rs n0 io
 let β':Nat→Nat:=fun o=>if par≤o then g.β o else(n0.map g.β).getD 0
 have hβp: ∀o,par≤o→β' o=g.β o:=fun o h=>by simp only[β',if_pos h]
 have hβ: ∀o o',sI n0 o=some o'→β' o'=g.β o:=by
  intro o o' h
  simp only[sI]at h
  split at h
  ·rename_i hp; cases h; exact hβp o hp
  ·split at h
   ·rename_i h1; cases h
    simp only[β',if_neg EL,h1,Option.map_some,Option.getD_some]
   ·cases h
 have hok':GOk (g.relab σ β') w:=⟨fun b hb=>h.ok.own b (fun e=>hb (by show σ (g.own b)= .none; rw[e]; exact hσ.none))⟩
 obtain⟨hlen,hget⟩:=GA hws
 -- each result
 have hone: ∀(k:Nat) r,rs[k]? =some r→ ∃u wk,ws[k]? =some wk∧(xT a.tmps r).run P w= .ok u w∧RW (g.relab σ β') w (fun j=>bo.kd (.s 0 k j)) (fun j=> .s 0 k j) u (wk.to (sI n0)):=by
  intro k r hk
  obtain⟨wk,hwk,hres⟩:=hget k r hk
  have hchk:=GC hr hk
  rw[Nat.zero_add]at hchk
  have hkd:=fun j=>Lj hchk j
  simp only[Ff,Bool.and_eq_true]at hchk
  have hchk:=hchk.2
  cases r with
  | tmp t=>
   simp only[Bool.and_eq_true]at hchk
   obtain⟨c1,c2⟩:=hchk
   unfold Mo at hres
   simp only at hres
   split at hres<;>try cases hres
   rename_i hx
   have hs:=h.slots t
   rw[qL c1,hx]at hs
   have hs:RW g w (fun j=>b.kd (.s t 0 j)) (fun j=> .s t 0 j) (a.tmps.getD t undef) wk:=hs
   refine⟨a.tmps.getD t undef,wk,hwk,by simp [xT],hs.to (fun o o' ho=>hβ o o' ho) (fun j z u _ _ _ hf=>hf.relab hσ h.ok rfl (hkd j).1 (hkd j).2) (fun zs e bb off hc=> ?_)⟩
   have hf:=hA.fits c1 (by rw[hx]; simp)
   rw[hx,e]at hf
   cases hs2:F.shOf t with
   | tup ws=>rw[hs2]at hf; simp [Own.fits]at hf
   | one y=>
    rw[hs2]at hf c2
    cases y<;>simp [Own.fits,bZ]at hf
    exact hc.relab hσ (hkd 0).1 (TU c2)
  | cell t ty=>
   simp only[Bool.and_eq_true]at hchk
   obtain⟨c1,c2⟩:=hchk
   unfold Mo at hres
   simp only at hres
   split at hres<;>try cases hres
   rename_i i o p hi hx
   split at hres<;>try cases hres
   rename_i cells hcells
   split at hres<;>try cases hres
   rename_i hload
   have hsh:=KP hA (v:= .tmp t) c1 hx
   have hsh:F.shOf t= .one (.ptr o p):=hsh
   rw[hsh]at c2
   have hsrc: ∀j,MK F (.cell t ty) j= .oc o (p+j):=fun j=>by simp only[MK,hsh]
   have hs:=h.slots t
   rw[qL c1,hx]at hs
   have hptr:a.tmps.getD t undef= .pointer (some ⟨g.β o,p,none⟩):=hs
   obtain⟨arr,ty',k1,k2,k3,k4⟩:=h.obs o cells (by rw[JS c2]; exact hcells)
   have hcell: ∀(j:Nat) z,(cells.drop p)[j]? =some z→ ∃c,w.cell? ⟨g.β o,p+j,none⟩=some c∧mC c∧LF (g.relab σ β') w (bo.kd (.s 0 k j)) (.s 0 k j) c z:=fun j z hz=>by
    rw[List.getElem?_drop]at hz
    obtain⟨c,d1,d2,d3⟩:=k4 _ z hz
    refine⟨c,by rw[bU w _ _ arr ty' _ k1]; exact d1,d2, ?_⟩
    have q:=hkd j
    rw[hsrc]at q
    exact LF.relab hσ h.ok rfl d3 q.1 q.2
   obtain⟨u,r1,r2,r3,r4⟩:=wA hT hi (l':=fun _ j=> .s 0 k j) hcell hload (fun j c z hf=>hf.cp hok' rfl)
   refine⟨u,wk,hwk, ?_, ?_⟩
   ·simp only[xT,hptr,asAddr,Sem.run_bind,Sem.run_pure,Result.andThen_ok,r1]
   ·have r2':RV (g.relab σ β') w (fun _ j=>if oA i.zero j then .S else(bo.kd (.s 0 k j)).cp) (fun _ j=> .s 0 k j) u (.one wk):=r2
    have hto:wk.to (sI n0)=wk:=by
     unfold oG at hload
     split at hload<;>try cases hload
     split at hload
     ·cases hload; rfl
     ·split at hload<;>cases hload; rfl
    rw[hto]
    have:=r2'.map (g':=g.relab σ β') (w':=w) (κ':=fun _ j=>bo.kd (.s 0 k j)) (l':=fun _ j=> .s 0 k j) (fun _=>rfl) (fun k' j z u' hz hu hn hf=>by
     obtain⟨q0,_⟩:=yE hload hz
     subst q0
     obtain⟨q1,q2⟩:=r4 j z hz
     obtain⟨c,d1,d2,d3⟩:=hcell j z q1
     rw[hu]at q2
     have q2:some u'=some c:=q2.trans d1
     cases q2
     exact d3) (fun k' zs hz=>by
     exfalso
     unfold oG at hload
     split at hload<;>try cases hload
     split at hload
     ·cases hload; cases k'<;>simp [V.comp]at hz
     ·split at hload<;>cases hload
      cases k'<;>simp [V.comp]at hz)
    exact this
 obtain⟨us,hul,hus⟩:=Bn (rs:=rs) (Q:=fun k u=> ∃r wk,rs[k]? =some r∧ws[k]? =some wk∧(xT a.tmps r).run P w= .ok u w∧RW (g.relab σ β') w (fun j=>bo.kd (.s 0 k j)) (fun j=> .s 0 k j) u (wk.to (sI n0))) (fun k r hk=>by
  obtain⟨u,wk,h1,h2,h3⟩:=hone k r hk
  exact⟨u,r,wk,hk,h1,h2,h3⟩)
 refine⟨us,hul,fun k r u hk hu=> ?_,g.relab σ β', ?_⟩
 ·obtain⟨r',wk,h1,_,h3,_⟩:=hus k u hu
  rw[hk]at h1; cases h1; exact h3
 -- the result's value
 have hres:RV (g.relab σ β') w (fun k j=>bo.kd (.s 0 k j)) (fun k j=> .s 0 k j) (tV us) ((HL ws).to (sI n0)):=by
  have hwl:ws.length=us.length:=by omega
  have hk: ∀(k:Nat) u wk,us[k]? =some u→ws[k]? =some wk→RW (g.relab σ β') w (fun j=>bo.kd (.s 0 k j)) (fun j=> .s 0 k j) u (wk.to (sI n0)):=fun k u wk hu hw=>by
   obtain⟨r',wk',_,h2,_,h4⟩:=hus k u hu
   rw[hw]at h2; cases h2; exact h4
  have tuple:RV (g.relab σ β') w (fun k j=>bo.kd (.s 0 k j)) (fun k j=> .s 0 k j) (.tuple us.toArray) ((V.tup ws).to (sI n0)):=by
   refine⟨us.toArray,rfl,by simp [hwl],fun k wk hw=> ?_⟩
   rw[List.getElem?_map]at hw
   obtain⟨w0',hw0,rfl⟩:=Option.map_eq_some_iff.1 hw
   have hlt:k<us.length:=by have:=cD hw0; omega
   exact⟨us[k],by simp [hlt],hk k us[k] w0' (List.getElem?_eq_getElem hlt) hw0⟩
  match us,ws,hwl,hk,tuple with
  | [u],[w1],_,hk,_=>exact hk 0 u w1 rfl rfl
  | [],[],_,_,t=>exact t
  | u::u'::us',w1::w2::ws',_,_,t=>exact t
 refine h.relab hσ _ _ hβp (by simp [B.S]) (by show 2≤par; unfold par; omega) rfl (fun i=> ?_) (fun i=> ?_) (fun oc cells hc=> ?_)
 ·show aG (if bo.has i=true then(DR _ iov ob nw).sl i else .one .junk)= .none
  split
  ·match i with
   | 0=>exact V.to_root
   | 1=>simp only[DR]; cases iov<;>rfl
   | i+2=>rfl
  ·rfl
 ·show RV _ w (fun k j=>bo.kd (.s i k j)) _ (#[tV us,u1].getD i undef) (if bo.has i=true then(DR _ iov ob nw).sl i else .one .junk)
  by_cases hb:bo.has i=true
  ·rw[if_pos hb]
   match i,hb2 i hb with
   | 0,_=>exact hres
   | 1,_=>
    cases hz:io with
    | none=>rw[hio0 hz]at hb; cases hb
    | some z=>
     obtain⟨z1,z2,⟨t,z3,z4⟩,z5,z6⟩:=hio z hz
     have hs:=h.slots z
     rw[qL z2,z3]at hs
     rw[z1]at hs
     simp only[DR,z4]
     exact⟨hs.1,LF.relab hσ h.ok rfl hs.2 z5 z6⟩
  ·rw[if_neg hb]; trivial
 ·have hc':(if bo.hasO oc=true then(DR _ iov ob nw).ob oc else none)=some cells:=hc
  split at hc'<;>try cases hc'
  rename_i hoc
  obtain⟨o1,p1,p2,p3⟩:=NW hob hoc
  have hsig:σ (.obj o1)= .obj oc∧ ∀j,σ (.oc o1 j)= .oc oc j:=by
   simp only[sI]at p1
   split at p1
   ·rename_i hp; cases p1
    exact⟨by show yM _ _ _ _ _=_; simp only[yM,if_pos hp],fun j=>by show yM _ _ _ _ _=_; simp only[yM,if_pos hp]⟩
   ·rename_i hp
    split at p1
    ·rename_i hn; cases p1
     exact⟨by show yM _ _ _ _ _=_; simp only[yM,if_neg hp,if_pos hn],fun j=>by show yM _ _ _ _ _=_; simp only[yM,if_neg hp,if_pos hn]⟩
    ·cases p1
  refine⟨o1, ?_,hβ o1 oc p1,hsig.1,fun j=>⟨p3 j,fun _=>hsig.2 j⟩⟩
  rw[JS p2, ←hobd oc o1 hoc p1]
  exact hc'
end Go.Own

/- A program's runs on data; and what is checked of its code without the data. -/
namespace Go.Own
open Go.RowKit

inductive Ek where
 | n | r | e (i:Nat)
 deriving DecidableEq
def Ek.exit:Ek→Exit
 | .n=> .normal
 | .r=> .ret
 | .e i=> .exit i

def bC(ds:List (Option Nat))(x:D):Option (Nat×Bool)→Option Bool
 | none=>some true
 | some (j,want)=>match ds[j]? with
  | some (some t)=>(match x.sl t with
   | .one (.c (.bool b))=>some (b == want)
   | .tup []=>some false
   | _=>none)
  | _=>some false
def pI(x:D):Option Nat→D
 | some d=>x.put d (.tup [])
 | none=>x

/-- The objects that a call's values tell of. -/
def objsW:W→List Nat
 | .ptr o _=> [o]
 | .fn _ cs=>cs.map (·.1)
 | _=> []
def Kc:List Nat→List Nat→List Nat
 | [],acc=>acc
 | o::r,acc=>bif mem o acc then Kc r acc else Kc r (acc++[o])
def Oc(F:FA)(v:Operand):List Nat:=match pT F v with | .one w=>objsW w | _=> []
/-- Is the call's first argument turned in place? -/
def sB(F:FA)(c:Call):Bool:=match c.args.toList with
 | .tmp t::_=>mem t F.ioa
 | _=>false
def lE(F:FA)(c:Call)(v:Operand):List Nat:=bif sB F c then [0,0]else Kc (c.args.toList.flatMap (Oc F)++Oc F v) []
def sJ(F:FA)(d:Option Nat):Option Nat:=match d with | some d=>bif mem d F.nw then some d else none | none=>none

/-- Data that a function is entered with have its shapes. -/
def mE(F:FA):Nat→List V→Bool
 | _,[]=>true
 | i,v::r=>fits v (F.shOf i)&&mE F (i+1) r
def nJ(F:FA):Nat→List (List T)→Bool
 | _,[]=>true
 | i,cs::r=>eU cs (F.obOf (par+i))&&nJ F (i+1) r
def uF(x:D):Nat→List (List T)→Option (List (List T))
 | _,[]=>some []
 | i,_::r=>match x.ob (par+i),uF x (i+1) r with
  | some cs,some css=>some (cs::css)
  | _,_=>none

inductive Jd where
 | code (F:FA) (c:Code) (x:D) (e:Ek) (x':D)
 | ops (F:FA) (ds:List (Option Nat)) (os:List Oper) (x x':D)
 | fn (f:FuncId) (vs:List V) (ob:List (List T)) (r:V) (io:Option T) (ob':List (List T)) (nw:Option (List T))

/-- What is turned in place, at the end. -/
def PO(z:Option Nat)(x:D):Option (Option T):=match z with
 | none=>some none
 | some z=>(match x.sl z with | .one (.c t)=>some (some t) | _=>none)

def nH(id:Nat)(e:Ek):Ek:=if e= .e id then .n else e

/-- Kinds in a row. -/
def PJ:Nat→List (List (List K))→List (Nat×List (List K))
 | _,[]=> []
 | i,κ::r=>(i,κ)::PJ (i+1) r
/-- What a function of the library takes and gives. -/
def IJ(q:List (List (List K))×List (List K)×Bool):Sg:= { bi:= { sl:=PJ 0 q.1,ob:=[] },bo:= { sl:=[(0,q.2.1)],ob:=[] },np:=q.1.length,ext:=q.2.2 }
/-- A run. -/
inductive Big (P:Program) (τ:TypeId→Option TI) (An:FuncId→FA):Jd→Prop
 | skip (F:FA) (x:D):Big P τ An (.code F .skip x .n x)
 | label (F:FA) (l:Nat) (x:D):Big P τ An (.code F (.label l) x .n x)
 | exit (F:FA) (i:Nat) (x:D):Big P τ An (.code F (.exit i) x (.e i) x)
 | ret (F:FA) (x:D):Big P τ An (.code F .ret x .r x)
 | seqN {F:FA} {a b:Code} {x x1 x2:D} {e:Ek} (h1:Big P τ An (.code F a x .n x1)) (h2:Big P τ An (.code F b x1 e x2)):Big P τ An (.code F (.seq a b) x e x2)
 | seqX {F:FA} {a b:Code} {x x1:D} {e:Ek} (h1:Big P τ An (.code F a x e x1)) (he:e≠ .n):Big P τ An (.code F (.seq a b) x e x1)
 | cond {F:FA} {c:Operand} {a b:Code} {x x1:D} {e:Ek} {t:Bool} (hc:ev x.sl c= .one (.c (.bool t))) (h1:Big P τ An (.code F (if t then a else b) x e x1)):Big P τ An (.code F (.cond c a b) x e x1)
 | block {F:FA} {id:Nat} {c:Code} {x x1:D} {e:Ek} (h1:Big P τ An (.code F c x e x1)):Big P τ An (.code F (.block id c) x (nH id e) x1)
 | loopX {F:FA} {c:Code} {x x1:D} {e:Ek} (h1:Big P τ An (.code F c x e x1)) (he:e≠ .n):Big P τ An (.code F (.loop c) x e x1)
 | loopN {F:FA} {c:Code} {x x1 x2:D} {e:Ek} (h1:Big P τ An (.code F c x .n x1)) (h2:Big P τ An (.code F (.loop c) x1 e x2)):Big P τ An (.code F (.loop c) x e x2)
 | regionM {F:FA} {id:Nat} {x:D} {S:TypeId} {i:TI} {f:FuncId} {c:Call} {o p0 tp tk t t' r r0 r2:Nat} {cells cells':List T} {k k':Int} {rs:List MR} {t1 t2 t3 t4:TypeId} {p1 p2 p3 p4:String} {f1 f2 f3 f4:Array Edge} (hmk:cG id F.mks=some (rs.map fun m=>(m.off,m.g))) (hi:τ S=some i) (h1:i.agg=false→i.size=1)
   (hM:PX P f i.agg i.size (rs.map fun m=>(m.off,m.g))) (hle:p0+i.size≤cells.length) (hc1:c.callee= .value (.func f)) (hc2:c.args= #[.tmp t, .tmp t']) (hr2:r2=r) (htp:x.sl tp= .one (.ptr o p0)) (htk:x.sl tk=vI k) (hob:x.ob o=some cells) (hch:Cx p0 rs cells k cells' k')
   (hB: ∀m∈rs,Big P τ An (.fn m.g [.one (.c (.sl m.es)), .one (.c (.int .i64 m.k))] [] (.one (.c (.int .i64 m.k1))) (some (.sl m.es')) [] none)):
   Big P τ An (.code F (.region id #[⟨some t, .load S (.tmp tp),t1,p1,f1,none⟩,⟨some t', .move (.tmp tk),t2,p2,f2,none⟩,⟨some r, .call c,t3,p3,f3,none⟩,⟨some r0, .assign (.tmp r2),t4,p4,f4,none⟩] false) x .n ((D.updM o p0 rs x).put r0 (vI k')))
 | region {F:FA} {id:Nat} {ops:Array Oper} {dr:Bool} {x x1:D} (hmk:cG id F.mks=none) (h1:Big P τ An (.ops F (ops.toList.map (·.dst)) ops.toList x x1)):Big P τ An (.code F (.region id ops dr) x .n x1)
 | opsNil (F:FA) (ds:List (Option Nat)) (x:D):Big P τ An (.ops F ds [] x x)
 | opsSkip {F:FA} {ds:List (Option Nat)} {o:Oper} {r:List Oper} {x x2:D} (hg:bC ds x o.guard=some false) (h2:Big P τ An (.ops F ds r (pI x o.dst) x2)):Big P τ An (.ops F ds (o::r) x x2)
 | opsRun {F:FA} {ds:List (Option Nat)} {o:Oper} {r:List Oper} {x x1 x2:D} (hg:bC ds x o.guard=some true) (h1:dOp τ F x o=some x1) (h2:Big P τ An (.ops F ds r x1 x2)):Big P τ An (.ops F ds (o::r) x x2)
 | opsCall {F:FA} {ds:List (Option Nat)} {o:Oper} {rs:List Oper} {x x2:D} {c:Call} {v:Operand} {f:FuncId} {caps:List (Nat×Nat)} {ob ob':List (List T)} {r:V} {nw:Option (List T)} (hg:bC ds x o.guard=some true) (ho:o.op= .call c) (hcal:c.callee= .value v) (hni:sB F c=false)
   (hx:ev x.sl v= .one (.fn f caps)) (hth:c.args.toList.all (fun v=>dZ (ev x.sl v))=true) (hob:ob.map some=(lE F c v).map x.ob) (h1:Big P τ An (.fn f (inV x c caps (lE F c v)) ob r none ob' nw))
   (hsh:bH F (x.call o.dst (sJ F o.dst) (lE F c v) (DR r none ob' nw)) o.dst (sJ F o.dst) (lE F c v)=true) (h2:Big P τ An (.ops F ds rs (x.call o.dst (sJ F o.dst) (lE F c v) (DR r none ob' nw)) x2)):Big P τ An (.ops F ds (o::rs) x x2)
 | opsIo {F:FA} {ds:List (Option Nat)} {o:Oper} {rs:List Oper} {x x2:D} {c:Call} {v:Operand} {f:FuncId} {r:V} {t:Nat} {xs:List Operand} {l:Loc} {p:List (Nat×Nat)} {x0:T} {es es':List (List T)} (hg:bC ds x o.guard=some true) (ho:o.op= .call c) (hcal:c.callee= .value v) (hio:sB F c=true)
   (hx:ev x.sl v= .one (.fn f [])) (hth:c.args.toList.all (fun v=>dZ (ev x.sl v))=true) (hargs:c.args.toList= .tmp t::xs) (hal:x.sl t= .one (.al l p)) (hat:x.at l=some x0) (hnav:nav x0 p=some (.sl es)) (h1:Big P τ An (.fn f (inV x c [] []) [] r (some (.sl es')) [] none))
   (hsh:bH F (x.call o.dst none [] (DR r (some (.sl es')) [] none)) o.dst none []=true) (h2:Big P τ An (.ops F ds rs ((x.call o.dst none [] (DR r (some (.sl es')) [] none)).upd l (eT x0 p (.sl es'))) x2)):Big P τ An (.ops F ds (o::rs) x x2)
 | fn {f:FuncId} {fn:Func} {c:Code} {vs:List V} {ob ob':List (List T)} {e:Ek} {x':D} {ws:List W} {iov:Option T} (hf:P.funcs[f]? =some fn) (hb:fn.body=some c) (hsh:mE (An f) 0 vs=true) (hso:nJ (An f) 0 ob=true) (h1:Big P τ An (.code (An f) c (DA vs ob) e x'))
   (he:e= .n∨e= .r) (hws:Ay τ x' fn.results.toList=some ws) (hio:PO (An f).io x'=some iov) (hob:uF x' 0 ob=some ob'):Big P τ An (.fn f vs ob ((HL ws).to (sI (An f).n0)) iov ob' ((An f).n0.bind x'.ob))
 | lib {f:FuncId} {fn:Func} {c:Code} {vs:List V} {r:V} {q:List (List (List K))×List (List K)×Bool} (hf:P.funcs[f]? =some fn) (hb:fn.body=some c) (hq:(An f).lb=some q) (h1:TC P f (IJ q) vs [] r none [] none):Big P τ An (.fn f vs [] r none [] none)
/-- Code that has no run. -/
def Es(o:Oper):Bool:=match o.dst,o.guard with
 | none,none=>(match o.op with | .panic _=>true | _=>false)
 | _,_=>false
end Go.Own

/- What is checked of a region. -/
namespace Go.Own
open Go.RowKit

def zH:List K→List K→Bool
 | _,[]=>true
 | [],q::r=>decide (q= .D)&&zH [] r
 | p::ps,q::r=>p.lo q&&zH ps r
def uG:List (List K)→List (List K)→Bool
 | _,[]=>true
 | [],q::r=>zH [] q&&uG [] r
 | p::ps,q::r=>zH p q&&uG ps r

theorem AF: ∀ {ps qs:List K},zH ps qs=true→ ∀ {j:Nat} {q:K},qs[j]? =some q→(match ps[j]? with | some p=>p | none=> .D).lo q=true
 | _,[],_,j,q,h=>by simp at h
 | [],q::r,h,0,q',h2=>by
  simp only[zH,Bool.and_eq_true]at h
  simp only[List.getElem?_cons_zero,Option.some.injEq]at h2
  subst h2
  rw[of_decide_eq_true h.1]; rfl
 | [],q::r,h,j+1,q',h2=>by
  simp only[zH,Bool.and_eq_true]at h
  simp only[List.getElem?_cons_succ]at h2
  have:=AF h.2 h2
  simpa using this
 | p::ps,q::r,h,0,q',h2=>by
  simp only[zH,Bool.and_eq_true]at h
  simp only[List.getElem?_cons_zero,Option.some.injEq]at h2
  subst h2
  exact h.1
 | p::ps,q::r,h,j+1,q',h2=>by
  simp only[zH,Bool.and_eq_true]at h
  simp only[List.getElem?_cons_succ]at h2 ⊢
  exact AF h.2 h2

theorem BL: ∀ {ps qs:List (List K)},uG ps qs=true→ ∀ {k:Nat} {r:List K},qs[k]? =some r→zH (match ps[k]? with | some p=>p | none=> []) r=true
 | _,[],_,j,q,h=>by simp at h
 | [],q::r,h,0,q',h2=>by
  simp only[uG,Bool.and_eq_true]at h
  simp only[List.getElem?_cons_zero,Option.some.injEq]at h2
  subst h2; exact h.1
 | [],q::r,h,j+1,q',h2=>by
  simp only[uG,Bool.and_eq_true]at h
  simp only[List.getElem?_cons_succ]at h2
  have:=BL h.2 h2
  simpa using this
 | p::ps,q::r,h,0,q',h2=>by
  simp only[uG,Bool.and_eq_true]at h
  simp only[List.getElem?_cons_zero,Option.some.injEq]at h2
  subst h2; exact h.1
 | p::ps,q::r,h,j+1,q',h2=>by
  simp only[uG,Bool.and_eq_true]at h
  simp only[List.getElem?_cons_succ]at h2 ⊢
  exact BL h.2 h2

/-- b' tells no more than b. -/
def leB(b' b:B):Bool:=b'.sl.all (fun p=>match cG p.1 b.sl with | some κ=>uG κ p.2 | none=>false)&&b'.ob.all (fun p=>match cG p.1 b.ob with | some r=>zH r p.2 | none=>false)

theorem KU{b' b:B}(h:leB b' b=true):(∀i,b'.has i=true→b.has i=true)∧(∀o,b'.hasO o=true→b.hasO o=true)∧ ∀l,(b.kd l).lo (b'.kd l)=true:=by
 simp only[leB,Bool.and_eq_true]at h
 refine⟨fun i hi=> ?_,fun o ho=> ?_,fun l=> ?_⟩
 ·simp only[B.has]at hi ⊢
  cases hl:cG i b'.sl with
  | none=>rw[hl]at hi; cases hi
  | some κ=>
   have:=List.all_eq_true.1 h.1 _ (fF hl)
   simp only at this
   split at this
   ·rename_i hb; rw[hb]; rfl
   ·cases this
 ·simp only[B.hasO]at ho ⊢
  cases hl:cG o b'.ob with
  | none=>rw[hl]at ho; cases ho
  | some κ=>
   have:=List.all_eq_true.1 h.2 _ (fF hl)
   simp only at this
   split at this
   ·rename_i hb; rw[hb]; rfl
   ·cases this
 ·cases hg:b'.get l with
  | none=>
   have:b'.kd l= .D:=by simp only[B.kd,hg]
   rw[this]; exact Fo _
  | some q=>
   have hq:b'.kd l=q:=by simp only[B.kd,hg]
   rw[hq]
   cases l with
   | s i k j=>
    simp only[B.get]at hg
    cases hl:cG i b'.sl with
    | none=>rw[hl]at hg; cases hg
    | some κ=>
     rw[hl]at hg
     simp only[zO]at hg
     have:=List.all_eq_true.1 h.1 _ (fF hl)
     simp only at this
     cases hb:cG i b.sl with
     | none=>rw[hb]at this; cases this
     | some κ2=>
      rw[hb]at this
      have this:uG κ2 κ=true:=this
      cases hr:κ[k]? with
      | none=>rw[hr]at hg; cases hg
      | some r=>
       rw[hr]at hg
       have h2:=AF (BL this hr) hg
       have e:b.kd (.s i k j)=(match(match κ2[k]? with | some p=>p | none=> [])[j]? with | some p=>p | none=> .D):=by
        simp only[B.kd,B.get,hb,zO]
        cases κ2[k]? with
        | none=>rfl
        | some r0=>simp only; cases r0[j]? <;>rfl
       rw[e]; exact h2
   | oc o j=>
    simp only[B.get]at hg
    cases hl:cG o b'.ob with
    | none=>rw[hl]at hg; cases hg
    | some r=>
     rw[hl]at hg
     have:=List.all_eq_true.1 h.2 _ (fF hl)
     simp only at this
     cases hb:cG o b.ob with
     | none=>rw[hb]at this; cases this
     | some r2=>
      rw[hb]at this
      have h2:=AF this hg
      have e:b.kd (.oc o j)=(match r2[j]? with | some p=>p | none=> .D):=by
       simp only[B.kd,B.get,hb]
       cases r2[j]? <;>rfl
      rw[e]; exact h2
   | _=>cases hg

/-- b' may be told where b is. -/
def Cv(F:FA)(b b':B):Prop:= ∀x,Ag F b x→Ag F b' x∧ ∀g0 w0 a w,Sim g0 w0 (b.S F.n x) a w→Sim g0 w0 (b'.S F.n x) a w
theorem Cv.refl(F:FA)(b:B):Cv F b b:=fun _ h=>⟨h,fun _ _ _ _ h=>h⟩
theorem Cv.trans{F:FA}{a b c:B}(h:Cv F a b)(k:Cv F b c):Cv F a c:=fun x hA=>by
 obtain⟨h1,h2⟩:=h x hA
 obtain⟨k1,k2⟩:=k x h1
 exact⟨k1,fun g0 w0 a w hs=>k2 g0 w0 a w (h2 g0 w0 a w hs)⟩

theorem LC{a b:K}(h:a.lo b=true)(hb:b≠ .D):a≠ .D:=fun e=>by subst e; cases b<;>simp [K.lo]at h hb

theorem Ct{F:FA}{b' b:B}(h:leB b' b=true):Cv F b (b'.nrm F):=fun x hA=>by
 obtain⟨h1,h2,h3⟩:=KU h
 have hA':Ag F b' x:=⟨fun i hi=>hA.sl i (h1 i hi),fun o ho=>hA.ob o (h2 o ho)⟩
 refine⟨hA'.nrm,fun g0 w0 a w hs=>hs.relax (Low.le hA' ⟨rfl,fun i hi=>qL (h1 i hi),fun o ho=>JS (h2 o ho),fun l t _ _=>h3 l,fun i k xs _ _=>h3 _,fun i _ _ hf=>LC (h3 _) hf⟩)⟩

/-! ### a step -/
def Fn{α β:Type}(f:α→Option β):List α→Option β
 | []=>none
 | a::r=>match f a with | some b=>some b | none=>Fn f r
theorem BP{α β:Type}{f:α→Option β}: ∀ {l:List α} {b:β},Fn f l=some b→ ∃a∈l,f a=some b
 | [],b,h=>by cases h
 | a::r,b,h=>by
  unfold Fn at h
  split at h
  ·rename_i b' hb; cases h; exact⟨a,List.mem_cons_self,hb⟩
  ·obtain⟨a',h1,h2⟩:=BP h; exact⟨a',List.mem_cons_of_mem _ h1,h2⟩

def fzL(F:FA)(b:B):Option Nat→List Loc
 | some d=>bif mem d F.fz then(holds F b d).map fun m=> .s d m.1 m.2 else []
 | none=> []
def Hl(ds:List (Option Nat))(b:B):Option (Nat×Bool)→Bool
 | none=>true
 | some (j,_)=>match ds[j]? with
  | some (some t)=>b.has t
  | _=>true
/-- The step, or nothing: what is told behind a guard. -/
def EI(F:FA)(b b1:B)(d:Option Nat):Bool:=match d with
 | some d=>Nat.blt d F.n&&leB (b1.filt fun i=> !(Nat.beq i d)) b&&b1.sl.all (fun p=>Nat.beq p.1 d|| !(aS d (aG (F.shOf p.1))))
 | none=>false

def PT(Sg:FuncId→List Sg)(F:FA)(b:B)(o:Oper)(c:Call)(v:Operand):Option B:=match pT F v with
 | .one (.fn f caps)=>Fn (fun sg=>bif Nat.beq sg.np (c.args.toList.length+caps.length)&&Nat.beq sg.no (lE F c v).length then Me F b sg c v o.dst (sJ F o.dst) (lE F c v)else none) (Sg f)
 | _=>none
def ioC(Sg:FuncId→List Sg)(F:FA)(b:B)(o:Oper)(c:Call)(v:Operand):Option B:=match pT F v with
 | .one (.fn f caps)=>Fn (fun sg=>bif Nat.beq sg.np c.args.toList.length&&Nat.beq caps.length 0&&Nat.beq sg.no 0 then cIo F b sg c v o.dst else none) (Sg f)
 | _=>none
def dH(o:Oper):Option (Call×Operand):=match o.op with
 | .call c=>(match c.callee with | .value v=>some (c,v) | _=>none)
 | _=>none
def Qj(τ:TypeId→Option TI)(Sg:FuncId→List Sg)(F:FA)(b:B)(o:Oper):Option B:=match dH o with
 | some (c,v)=>bif sB F c then ioC Sg F b o c v else PT Sg F b o c v
 | none=>cOp τ F b o
def Cb(τ:TypeId→Option TI)(Sg:FuncId→List Sg)(F:FA)(ds:List (Option Nat))(b:B)(o:Oper):Option B:=match Qj τ Sg F b o with
 | some b1=>bif Hl ds b o.guard&&(match o.guard with | none=>true | some _=>EI F b (b1.frz F (fzL F b1 o.dst)) o.dst)then some ((b1.frz F (fzL F b1 o.dst)).nrm F)else none
 | none=>none
def Mp(τ:TypeId→Option TI)(Sg:FuncId→List Sg)(F:FA)(ds:List (Option Nat)):B→List Oper→Option B
 | b,[]=>some b
 | b,o::r=>match Cb τ Sg F ds b o with | some b1=>Mp τ Sg F ds b1 r | none=>none

theorem KX{F:FA}(L:List Loc)(b:B):Cv F b (b.frz F L):=fun x hA=>by
 obtain⟨h1,h2⟩:=PR (n:=F.n) L hA
 exact⟨h1,fun g0 w0 a w hs=>h2 hs⟩

/-- Skipped. -/
theorem Sx{F:FA}{b b1:B}{x:D}{d:Option Nat}(hA:Ag F b x)(h:EI F b b1 d=true):Ag F (b1.nrm F) (pI x d)∧ ∀g0 w0 a w,Sim g0 w0 (b.S F.n x) a w→Sim g0 w0 ((b1.nrm F).S F.n (pI x d)) (a.put d undef) w:=by
 cases d with
 | none=>cases h
 | some d=>
  simp only[EI,Bool.and_eq_true]at h
  obtain⟨⟨h0,h1⟩,h2⟩:=h
  obtain⟨q1,q2,q3⟩:=KU h1
  have hhas: ∀i,i≠d→b1.has i=true→b.has i=true:=fun i e hi=>q1 i (by rw[fG,hi,cL e]; rfl)
  have hroot: ∀i,i≠d→b1.has i=true→aS d (aG (F.shOf i))=false:=fun i e hi=>by
   simp only[B.has]at hi
   cases hl:cG i b1.sl with
   | none=>rw[hl]at hi; cases hi
   | some κ=>
    have:=List.all_eq_true.1 h2 _ (fF hl)
    simp only[cL e,Bool.false_or]at this
    simpa using this
  have hkd: ∀i k j,i≠d→(b.kd (.s i k j)).lo (b1.kd (.s i k j))=true:=fun i k j e=>by
   have:=q3 (.s i k j)
   rwa[fM (by rw[cL e]; rfl)]at this
  have hA1:Ag F b1 (pI x (some d)):=by
   refine⟨fun i hi=> ?_,fun o ho=>hA.ob o (q2 o ho)⟩
   by_cases e:i=d
   ·subst e; left; simp [pI,D.put]
   ·have:=hA.sl i (hhas i e hi)
    simpa [pI,D.put,e]using this
  refine⟨hA1.nrm,fun g0 w0 a w hs=> ?_⟩
  obtain⟨g,hs⟩:=hs
  have h3:=hs.set (u:=undef) (r:= .tup []) (κ:=fun _ _=> .D) (cJ h0) ⟨#[],rfl,rfl,fun k x hx=>by simp at hx⟩ (fun h=>absurd rfl h)
  refine⟨g,h3.relax (Low.le hA1 ⟨rfl,fun i hi=> ?_,fun o ho=>JS (n:=F.n) (q2 o ho),fun l t hL ht=> ?_,fun i k xs hi hx=> ?_,fun i hi hr hf=> ?_⟩)⟩
  ·by_cases e:i=d
   ·subst e; simp [St.put,pI,D.put]
   ·simp only[St.put,pI,D.put,if_neg e]; exact qL (hhas i e hi)
  ·cases l with
   | s i k j=>
    by_cases e:i=d
    ·subst e
     exfalso
     simp [D.at,atL,pI,D.put,V.leaf]at ht
    ·have hf:((b.S F.n x).put d (.tup []) (fun _ _=> .D)).fl (.s i k j)=b.kd (.s i k j):=by
      simp only[St.put,if_neg e]
      rw[if_neg]
      ·rfl
      ·rintro ⟨_,_,h5⟩
       rw[qL (hhas i e hL)]at h5
       rcases hA.sl i (hhas i e hL)with e2 | e2
       ·rw[e2]at h5; cases h5
       ·rw[cV e2,hroot i e hL]at h5; cases h5
     rw[hf]; exact hkd i k j e
   | oc o j=>exact q3 (.oc o j)
   | _=>cases hL
  ·by_cases e:i=d
   ·subst e
    simp [pI,D.put,V.comp]at hx
   ·have hf:((b.S F.n x).put d (.tup []) (fun _ _=> .D)).fl (.s i k 0)=b.kd (.s i k 0):=by
     simp only[St.put,if_neg e]
     rw[if_neg]
     ·rfl
     ·rintro ⟨_,_,h5⟩
      rw[qL (hhas i e hi)]at h5
      rcases hA.sl i (hhas i e hi)with e2 | e2
      ·rw[e2]at h5; cases h5
      ·rw[cV e2,hroot i e hi]at h5; cases h5
    rw[hf]; exact hkd i k 0 e
  ·by_cases e:i=d
   ·subst e
    exact absurd (show aG ((pI x (some i)).sl i)= .none by simp [pI,D.put,aG]) hr
   ·have hf2:((b.S F.n x).put d (.tup []) (fun _ _=> .D)).fl (.s i 0 0)=b.kd (.s i 0 0):=by
     simp only[St.put,if_neg e]
     rw[if_neg]
     ·rfl
     ·rintro ⟨_,_,h5⟩
      rw[qL (hhas i e hi)]at h5
      rcases hA.sl i (hhas i e hi)with e2 | e2
      ·rw[e2]at h5; cases h5
      ·rw[cV e2,hroot i e hi]at h5; cases h5
    rw[hf2]; exact LC (hkd i 0 0 e) hf
end Go.Own

/- What an operation looks at, and what it changes, of the data. -/
namespace Go.Own
open Go.RowKit

/-- A change of data: one slot, some objects. -/
structure Eff where
  d:Option Nat
  u:V
  ob:Nat→Option (Option (List T))
def Eff.on(E:Eff)(x:D):D:=
  { sl:=fun i=>if E.d=some i then E.u else x.sl i
    ob:=fun o=>match E.ob o with | some c=>c | none=>x.ob o }
def Eff.put(d:Nat)(u:V):Eff:=⟨some d,u,fun _=>none⟩
def Eff.skip(d:Option Nat):Eff:=⟨d, .tup [],fun _=>none⟩
def Eff.new(d:Nat)(u:V)(cs:List T):Eff:=⟨some d,u,fun o=>if o=d then some (some cs)else none⟩
def Eff.call(d nd:Option Nat)(os:List Nat)(y:D):Eff:=⟨d,(y.sl 0).to (uZ os nd),fun o=>match oM os nd o with | some oc=>some (y.ob oc) | none=>none⟩

theorem D.ext{x y:D}(h1: ∀i,x.sl i=y.sl i)(h2: ∀o,x.ob o=y.ob o):x=y:=by
  cases x; cases y
  simp only[D.mk.injEq]
  exact⟨funext h1,funext h2⟩

theorem Eff.put_on(d:Nat)(u:V)(x:D):(Eff.put d u).on x=x.put d u:=D.ext (fun i=>by
  simp only[Eff.on,Eff.put,D.put,Option.some.injEq]
  by_cases e:d=i
  · rw[if_pos e,if_pos e.symm]
  · rw[if_neg e,if_neg (fun h=>e h.symm)]) (fun _=>rfl)
theorem Eff.skip_on(d:Option Nat)(x:D):(Eff.skip d).on x=pI x d:=D.ext (fun i=>by
  cases d with
  | none=>simp [Eff.on,Eff.skip,pI]
  | some d=>
    simp only[Eff.on,Eff.skip,pI,D.put,Option.some.injEq]
    by_cases e:d=i
    · rw[if_pos e,if_pos e.symm]
    · rw[if_neg e,if_neg (fun h=>e h.symm)]) (fun _=>by cases d<;>rfl)
theorem Eff.new_on(d:Nat)(u:V)(cs:List T)(x:D):(Eff.new d u cs).on x=(x.put d u).setO d cs:=D.ext (fun i=>by
  simp only[Eff.on,Eff.new,D.put,D.setO,Option.some.injEq]
  by_cases e:d=i
  · rw[if_pos e,if_pos e.symm]
  · rw[if_neg e,if_neg (fun h=>e h.symm)]) (fun o=>by
  simp only[Eff.on,Eff.new,D.put,D.setO]
  by_cases e:o=d
  · rw[if_pos e,if_pos e]
  · rw[if_neg e,if_neg e])
theorem Eff.call_on(d nd:Option Nat)(os:List Nat)(y x:D):(Eff.call d nd os y).on x=x.call d nd os y:=D.ext (fun _=>rfl) (fun o=>by
  simp only[Eff.on,Eff.call,D.call]
  cases oM os nd o<;>rfl)

/-- What an operand tells, and what it points to. -/
def oN(x y:D)(v:Operand):Prop:=ev y.sl v=ev x.sl v∧(match ev x.sl v with
  | .one (.ptr ob _)=>y.ob ob=x.ob ob
  | .one (.pp l _ _ _)=>y.at l=x.at l
  | .one (.al l _)=>y.at l=x.at l
  | _=>True)

theorem oN.evD{x y:D}{v:Operand}(h:oN x y v):evD y v=evD x v:=by
  unfold Own.evD
  rw[h.1]
  have h2:=h.2
  unfold vQ
  split
  · rename_i l p e
    rw[e]at h2
    have h2:atL y.sl y.ob l=atL x.sl x.ob l:=h2
    rw[h2]
  · rfl

section
variable {τ:TypeId→Option TI} {F:FA} {x y x1:D} {o:Oper}

/-- It changes one slot. -/
def pM(f:D→Option D)(x y x1:D)(d:Nat):Prop:= ∃u,x1=x.put d u∧f y=some (y.put d u)

theorem eW{d:Nat}{v:V}{f:D→Option D}(h:pU F x d v=some x1)(hy:f y=pU F y d v):pM f x y x1 d:=by
  obtain⟨h1,rfl⟩:=bW h
  exact⟨v,rfl,by rw[hy]; unfold pU; rw[h1]; rfl⟩

theorem Kw{d:Nat}{v:Operand}(hs:oN x y v)(h:uX F x d v=some x1):pM (fun y=>uX F y d v) x y x1 d:=by
  unfold uX at h
  obtain⟨hc,h⟩:=aJ h
  exact eW h (by simp only[uX,hs.1,hc,cond_true])
theorem OK{d:Nat}{v:Operand}(hs:oN x y v)(h:rC F x d v=some x1):pM (fun y=>rC F y d v) x y x1 d:=by
  unfold rC at h
  split at h<;>try cases h
  rename_i t
  split at h<;>try cases h
  rename_i e
  have h1:y.sl t=x.sl t:=hs.1
  exact eW h (by simp only[rC,h1,e])
theorem Jp{d k:Nat}{v:Operand}(hs:oN x y v)(h:nL F x d k v=some x1):pM (fun y=>nL F y d k v) x y x1 d:=by
  unfold nL at h
  split at h<;>try cases h
  rename_i t
  split at h<;>try cases h
  rename_i ws e
  split at h<;>try cases h
  rename_i w e2
  have h1:y.sl t=x.sl t:=hs.1
  exact eW h (by simp only[nL,h1,e,e2])
theorem Pt{d:Nat}{c v z:Operand}(h1:oN x y c)(h2:oN x y v)(h3:oN x y z)(h:Ch F x d c v z=some x1):pM (fun y=>Ch F y d c v z) x y x1 d:=by
  unfold Ch at h
  split at h<;>try cases h
  all_goals
    rename_i e
    split at h<;>try cases h
    rename_i e2
    obtain⟨hc,h⟩:=aJ h
    exact eW h (by simp only[Ch,h1.1,h2.1,h3.1,e,e2,hc,cond_true])
theorem Nu{d:Nat}{s:TypeId}{v:Operand}{f:Nat}(hs:oN x y v)(h:uI τ F x d s v f=some x1):pM (fun y=>uI τ F y d s v f) x y x1 d:=by
  unfold uI at h
  split at h<;>try cases h
  rename_i e
  split at h<;>try cases h
  rename_i e2
  split at h<;>try cases h
  rename_i e3
  exact eW h (by simp only[uI,hs.1,e,e2,e3])
theorem TD{d:Nat}{v:Operand}(hs:oN x y v)(h:KK F x d v=some x1):pM (fun y=>KK F y d v) x y x1 d:=by
  unfold KK at h
  split at h<;>try cases h
  all_goals
    rename_i e
    exact eW h (by simp only[KK,hs.1,e])
theorem QM{d:Nat}{f:FuncId}{caps:Array Operand}(hs: ∀v∈caps.toList,oN x y v)(h:BA F x d f caps=some x1):pM (fun y=>BA F y d f caps) x y x1 d:=by
  unfold BA at h
  split at h<;>try cases h
  rename_i e
  have:caps.toList.map (ev y.sl)=caps.toList.map (ev x.sl):=List.map_congr_left fun v hv=>(hs v hv).1
  exact eW h (by simp only[BA,this,e])
theorem Pq{d:Nat}{op:Op}(hs: ∀v∈op.operands,oN x y v)(h:nS τ F x d op=some x1):pM (fun y=>nS τ F y d op) x y x1 d:=by
  unfold nS at h
  split at h<;>try cases h
  rename_i e
  exact eW h (by simp only[nS,Ba op (fun v hv=>(hs v hv).evD),e])
theorem Nk{d:Nat}{t:TypeId}{v i:Operand}(h1:oN x y v)(h2:oN x y i)(h:oW τ F x d t v i=some x1):pM (fun y=>oW τ F y d t v i) x y x1 d:=by
  unfold oW at h
  split at h<;>try cases h
  · rename_i e0 e1
    split at h<;>try cases h
    · rename_i l p e2
      split at h<;>try cases h
      rename_i es e3
      split at h<;>try cases h
      rename_i e4
      have h3:=h1.2
      rw[e2]at h3
      have h3:y.at l=x.at l:=h3
      exact eW h (by simp only[oW,h1.1,h2.1,e0,e1,e2,h3,e3,e4])
    · rename_i es e2
      split at h<;>try cases h
      rename_i e4
      exact eW h (by simp only[oW,h1.1,h2.1,e0,e1,e2,e4])
  · rename_i e0 e1
    split at h<;>try cases h
    rename_i e2 e3
    split at h<;>try cases h
    rename_i e4
    exact eW h (by simp only[oW,h1.1,h2.1,e0,e1,e2,e3]; rw[if_pos e4])
theorem QE{d:Nat}{t:TypeId}{v:Operand}{al:Bool}(h1:oN x y v)(h:oT τ F x d t v al=some x1):pM (fun y=>oT τ F y d t v al) x y x1 d:=by
  unfold oT at h
  split at h<;>try cases h
  · rename_i e0 e1
    have h3:=h1.2
    rw[e1]at h3
    split at h<;>try cases h
    rename_i e2
    simp only at h3
    cases al with
    | true=>
      simp only[cond_true]at h
      obtain⟨hc,h⟩:=aJ h
      exact eW h (by simp only[oT,h1.1,e0,e1,h3,e2,cond_true,hc])
    | false=>
      simp only[cond_false]at h
      split at h<;>try cases h
      rename_i e3
      exact eW h (by simp only[oT,h1.1,e0,e1,h3,e2,cond_false,e3])
  · rename_i e0 e1
    split at h<;>try cases h
    rename_i e2
    exact eW h (by simp only[oT,h1.1,e0,e1,e2])
  · rename_i l p n j e0 e1
    have h3:=h1.2
    rw[e1]at h3
    have h3:y.at l=x.at l:=h3
    split at h<;>try cases h
    rename_i e2
    split at h<;>try cases h
    rename_i e3
    cases al with
    | true=>
      simp only[cond_true]at h
      obtain⟨hc,h⟩:=aJ h
      exact eW h (by simp only[oT,h1.1,e0,e1,h3,e2,e3,cond_true,hc])
    | false=>
      simp only[cond_false]at h
      split at h<;>try cases h
      rename_i e4
      exact eW h (by simp only[oT,h1.1,e0,e1,h3,e2,e3,cond_false,e4])
theorem MJ{d:Nat}{t u:TypeId}{v z:Operand}(h1:oN x y v)(h2:oN x y z)(h:qH τ F x d t u v z=some x1):pM (fun y=>qH τ F y d t u v z) x y x1 d:=by
  unfold qH at h
  split at h<;>try cases h
  rename_i e0
  split at h<;>try cases h
  rename_i e1 e2 e3
  obtain⟨hc,h⟩:=aJ h
  exact eW h (by simp only[qH,h1.1,h2.1,e0,e1,e2,e3,hc,cond_true])
theorem TN{d:Nat}{t:TypeId}{n:Nat}{parts:Array (Nat×Operand)}(hs: ∀v∈parts.toList.map (·.2),oN x y v)(h:KL τ F x d t n parts=some x1):pM (fun y=>KL τ F y d t n parts) x y x1 d:=by
  unfold KL at h
  split at h<;>try cases h
  rename_i e0
  split at h<;>try cases h
  rename_i e1 e2
  obtain⟨hc,h⟩:=aJ h
  have:(parts.toList.map (·.2)).map (ev y.sl)=(parts.toList.map (·.2)).map (ev x.sl):=List.map_congr_left fun v hv=>(hs v hv).1
  exact eW h (by simp only[KL,this,e0,e1,e2,hc,cond_true])
theorem QA{d:Nat}{t:TypeId}{v z:Operand}(h1:oN x y v)(h2:oN x y z)(h:Cj τ F x d t v z=some x1):pM (fun y=>Cj τ F y d t v z) x y x1 d:=by
  unfold Cj at h
  split at h<;>try cases h
  rename_i e0
  split at h<;>try cases h
  rename_i e1 e2 e3
  split at h<;>try cases h
  rename_i e4
  exact eW h (by simp only[Cj,h1.1,h2.1,e0,e1,e2,e3]; rw[if_pos e4])
theorem OD{d:Nat}{t:TypeId}{parts:Array (Nat×Operand)}(hs: ∀v∈parts.toList.map (·.2),oN x y v)(h:uJ τ F x d t parts=some x1):pM (fun y=>uJ τ F y d t parts) x y x1 d:=by
  unfold uJ at h
  split at h<;>try cases h
  rename_i e0
  split at h<;>try cases h
  rename_i e1
  split at h<;>try cases h
  rename_i e2
  have:parts.toList.map (fun p=>(p.1,ev y.sl p.2))=parts.toList.map (fun p=>(p.1,ev x.sl p.2)):=List.map_congr_left fun p hp=>by rw[(hs p.2 (List.mem_map.2 ⟨p,hp,rfl⟩)).1]
  exact eW h (by simp only[uJ,this,e0,e1,e2])

/-- The objects that it makes. -/
def PA(o:Oper):List Nat:=match o.dst,o.op with
  | some d, .alloc _=> [d]
  | some d, .box _ _=> [d]
  | _,_=> []
def EQ(o:Oper):Bool:=match o.op with | .store _ _ _=>true | _=>false

theorem pM.eff{f:D→Option D}{d:Nat}(h:pM f x y x1 d)(hd:o.dst=some d)(hf:f y=dOp τ F y o): ∃E:Eff,E.d=o.dst∧(∀z,(E.ob z).isSome=true→z∈PA o)∧x1=E.on x∧dOp τ F y o=some (E.on y):=by
  obtain⟨u,rfl,h2⟩:=h
  exact⟨Eff.put d u,hd.symm,(fun z hz=>by cases hz),(Eff.put_on d u x).symm,(by rw[←hf,h2,Eff.put_on])⟩

theorem QU(h:dOp τ F x o=some x1)(hst:EQ o=false)(hs: ∀v∈o.op.operands,oN x y v): ∃E:Eff,E.d=o.dst∧(∀z,(E.ob z).isSome=true→z∈PA o)∧x1=E.on x∧dOp τ F y o=some (E.on y):=by
  have h0:=h
  unfold dOp at h
  cases hd:o.dst with
  | none=>
    rw[hd]at h
    simp only at h
    split at h<;>try cases h
    rename_i ho
    rw[EQ,ho]at hst
    cases hst
  | some d=>
    rw[hd]at h
    simp only at h
    rw[←hd]
    have hr: ∀op,o.op=op→(∀y,dOp τ F y o=nS τ F y d op)→nS τ F x d op=some x1→ ∃E:Eff,E.d=o.dst∧(∀z,(E.ob z).isSome=true→z∈PA o)∧x1=E.on x∧dOp τ F y o=some (E.on y):=fun op e1 e2 e3=>
      pM.eff (Pq (y:=y) (by rw[←e1]; exact hs) e3) hd (e2 y).symm
    cases ho:o.op with
    | assign v=>rw[ho]at h hs; exact(Kw (hs v (by simp [Op.operands])) h).eff hd (by simp only[dOp,hd,ho])
    | move v=>
      rw[ho]at h hs
      simp only at h
      cases hm:mem d F.al with
      | true=>rw[hm]at h; exact(OK (hs v (by simp [Op.operands])) h).eff hd (by simp only[dOp,hd,ho,hm,cond_true])
      | false=>rw[hm]at h; exact(Kw (hs v (by simp [Op.operands])) h).eff hd (by simp only[dOp,hd,ho,hm,cond_false])
    | extract v k=>rw[ho]at h hs; exact(Jp (hs v (by simp [Op.operands])) h).eff hd (by simp only[dOp,hd,ho])
    | pick c a b=>rw[ho]at h hs; exact(Pt (hs c (by simp [Op.operands])) (hs a (by simp [Op.operands])) (hs b (by simp [Op.operands])) h).eff hd (by simp only[dOp,hd,ho])
    | fieldAddr s v f=>rw[ho]at h hs; exact(Nu (hs v (by simp [Op.operands])) h).eff hd (by simp only[dOp,hd,ho])
    | nilCheck v=>rw[ho]at h hs; exact(TD (hs v (by simp [Op.operands])) h).eff hd (by simp only[dOp,hd,ho])
    | makeFunc fn first caps=>
      rw[ho]at h hs
      cases fn with
      | func f=>
        simp only at h
        obtain⟨hf,h⟩:=aJ h
        exact(QM (fun v hv=>hs v (by simp [Op.operands]; exact .inr (by simpa using hv))) h).eff hd (by simp only[dOp,hd,ho,hf,cond_true])
      | _=>simp only[nS,kM]at h; cases h
    | indexAddr t v i=>rw[ho]at h hs; exact(Nk (hs v (by simp [Op.operands])) (hs i (by simp [Op.operands])) h).eff hd (by simp only[dOp,hd,ho])
    | load t v=>rw[ho]at h hs; exact(QE (hs v (by simp [Op.operands])) h).eff hd (by simp only[dOp,hd,ho])
    | alloc t=>
      rw[ho]at h
      simp only at h
      unfold zY at h
      split at h<;>try cases h
      rename_i i e
      obtain⟨hc,h⟩:=aJ h
      cases h
      refine⟨Eff.new d (.one (.ptr d 0)) i.zero,hd.symm,fun z hz=> ?_,(Eff.new_on _ _ _ x).symm, ?_⟩
      · simp only[PA,hd,ho,List.mem_singleton]
        simp only[Eff.new]at hz
        by_cases e:z=d
        · exact e
        · rw[if_neg e]at hz; cases hz
      · simp only[dOp,hd,ho,zY,e,hc,cond_true,Eff.new_on]
    | box t v=>
      rw[ho]at h hs
      simp only at h
      unfold Mr at h
      split at h<;>try cases h
      rename_i t'
      split at h<;>try cases h
      rename_i xs e
      obtain⟨hc,h⟩:=aJ h
      cases h
      have h1:y.sl t'=x.sl t':=(hs (.tmp t') (by simp [Op.operands])).1
      refine⟨Eff.new d (.one (.ptr d 0)) xs,hd.symm,fun z hz=> ?_,(Eff.new_on _ _ _ x).symm, ?_⟩
      · simp only[PA,hd,ho,List.mem_singleton]
        simp only[Eff.new]at hz
        by_cases e:z=d
        · exact e
        · rw[if_neg e]at hz; cases hz
      · simp only[dOp,hd,ho,Mr,h1,e,hc,cond_true,Eff.new_on]
    | buildSlice t n parts=>rw[ho]at h hs; exact(TN (fun v hv=>hs v (by simpa [Op.operands]using hv)) h).eff hd (by simp only[dOp,hd,ho])
    | makeSlice t v z=>rw[ho]at h hs; exact(QA (hs v (by simp [Op.operands])) (hs z (by simp [Op.operands])) h).eff hd (by simp only[dOp,hd,ho])
    | build t parts=>rw[ho]at h hs; exact(OD (fun v hv=>hs v (by simpa [Op.operands]using hv)) h).eff hd (by simp only[dOp,hd,ho])
    | call c=>
      rw[ho]at h hs
      simp only at h
      split at h
      · rename_i v z t u e1 e2 e3
        have hm: ∀w,w∈c.args.toList→oN x y w:=fun w hw=>hs w (by simp only[Op.operands,Call.operands]; simp; exact .inr (by simpa using hw))
        exact(MJ (hm v (by rw[e2]; simp)) (hm z (by rw[e2]; simp)) h).eff hd (by simp only[dOp,hd,ho,e1,e2,e3])
      · rename_i hne
        refine hr (.call c) ho (fun y=> ?_) h
        simp only[dOp,hd,ho]
    | store t v z=>rw[ho]at h; simp only[nS,kM]at h; cases h
    | binOp a b c d' e=>rw[ho]at h; exact hr _ ho (fun y=>by simp only[dOp,hd,ho]) h
    | unOp a b c=>rw[ho]at h; exact hr _ ho (fun y=>by simp only[dOp,hd,ho]) h
    | convert a b c=>rw[ho]at h; exact hr _ ho (fun y=>by simp only[dOp,hd,ho]) h
    | index a b c=>rw[ho]at h; exact hr _ ho (fun y=>by simp only[dOp,hd,ho]) h
    | slice a b c d' e=>rw[ho]at h; exact hr _ ho (fun y=>by simp only[dOp,hd,ho]) h
    | _=>rw[ho]at h; simp only[nS,kM]at h; cases h
end
end Go.Own

/- A region's steps on data; two of them that do not touch each other may come the other way round. -/
namespace Go.Own
open Go.RowKit

/-- A step, with the contract of what it calls. -/
def SD(P:Program)(τ:TypeId→Option TI)(Sgs:FuncId→List Sg)(F:FA)(ds:List (Option Nat))(o:Oper)(x x1:D):Prop:=
 (bC ds x o.guard=some false∧x1=pI x o.dst)∨
 (bC ds x o.guard=some true∧dOp τ F x o=some x1)∨
 (bC ds x o.guard=some true∧ ∃c v f caps ob ob' r nw,o.op= .call c∧c.callee= .value v∧sB F c=false∧ev x.sl v= .one (.fn f caps)∧c.args.toList.all (fun v=>dZ (ev x.sl v))=true∧ob.map some=(lE F c v).map x.ob∧
  (∀sg∈Sgs f,sg.np=(inV x c caps (lE F c v)).length→sg.no=ob.length→TC P f sg (inV x c caps (lE F c v)) ob r none ob' nw)∧
  bH F (x.call o.dst (sJ F o.dst) (lE F c v) (DR r none ob' nw)) o.dst (sJ F o.dst) (lE F c v)=true∧x1=x.call o.dst (sJ F o.dst) (lE F c v) (DR r none ob' nw))∨
 (bC ds x o.guard=some true∧ ∃c v f r t xs l p x0 es es',o.op= .call c∧c.callee= .value v∧sB F c=true∧ev x.sl v= .one (.fn f [])∧c.args.toList.all (fun v=>dZ (ev x.sl v))=true∧c.args.toList= .tmp t::xs∧x.sl t= .one (.al l p)∧x.at l=some x0∧nav x0 p=some (.sl es)∧
  (∀sg∈Sgs f,sg.np=(inV x c [] []).length→sg.no=0→TC P f sg (inV x c [] []) [] r (some (.sl es')) [] none)∧bH F (x.call o.dst none [] (DR r (some (.sl es')) [] none)) o.dst none []=true∧x1=(x.call o.dst none [] (DR r (some (.sl es')) [] none)).upd l (eT x0 p (.sl es')))
/-- Does it change what lies in a place? -/
def MU(F:FA)(o:Oper):Bool:=match o.op with
 | .store _ v _=>(match pT F v with | .one (.ptr _ _)=>true | _=>false)
 | _=>false
def Qm(F:FA)(o:Oper):Bool:=(EQ o&& !(MU F o))||(match dH o with | some (c,_)=>sB F c | none=>false)

def PQ(ds:List (Option Nat)):Option (Nat×Bool)→Option Nat
 | none=>none
 | some (j,_)=>match ds[j]? with
  | some (some t)=>some t
  | _=>none
/-- The object that is stored into. -/
def stO(F:FA)(o:Oper):List Nat:=match o.op with
 | .store _ v _=>(match pT F v with | .one (.ptr ob _)=> [ob] | _=> [])
 | _=> []
def wO(F:FA)(o:Oper):List Nat:=match dH o with
 | some (c,v)=>uP (lE F c v) (sJ F o.dst)
 | none=>PA o++stO F o
def rO(F:FA)(o:Oper):List Nat:=match dH o with
 | some (c,v)=>lE F c v
 | none=> []

def Sl(F:FA)(x:D):Operand→Prop
 | .tmp t=>x.sl t= .tup []∨fits (x.sl t) (F.shOf t)=true
 | _=>True
def Dn(F:FA)(x:D)(o:Oper):Prop:= ∀v∈o.op.operands,Sl F x v

def uL(d:Option Nat)(wo:List Nat):Loc→Bool
 | .s i _ _=>decide (d=some i)
 | .oc o _=>mem o wo
 | _=>false
def KB(F:FA)(d:Option Nat)(wo:List Nat)(v:Operand):Bool:=
 (match v with | .tmp t=>decide (d=some t) | _=>false)||
 (match pT F v with
  | .one (.ptr ob _)=>mem ob wo
  | .one (.pp l _ _ _)=>uL d wo l
  | .one (.al l _)=>uL d wo l
  | _=>false)
/-- The first may change what the other looks at. -/
def Al(F:FA)(ds:List (Option Nat))(a b:Oper):Bool:=
 b.op.operands.toList.any (KB F a.dst (wO F a))||(match PQ ds b.guard with | some t=>decide (a.dst=some t) | none=>false)||(rO F b).any (fun z=>mem z (wO F a))
def Mb(F:FA)(ds:List (Option Nat))(a b:Oper):Bool:=
 !(Qm F a)&& !(Qm F b)&&(match a.dst with | some d=> !(decide (b.dst=some d)) | none=>true)&& !(Al F ds a b)&& !(Al F ds b a)&&(wO F a).all (fun z=> !(mem z (wO F b)))

theorem Ql{z:Nat}: ∀ {l:List Nat},z∈l→mem z l=true
 | y::r,h=>by
  simp only[mem,Bool.or_eq_true]
  cases h with
  | head=>exact .inl (Nat.beq_refl _)
  | tail _ h=>exact .inr (Ql h)

section
variable {P:Program} {τ:TypeId→Option TI} {Sgs:FuncId→List Sg} {F:FA} {ds:List (Option Nat)} {x y x1 x2:D} {o:Oper}

theorem Mf{E:Eff}{wo:List Nat}(hE: ∀z,(E.ob z).isSome=true→z∈wo){l:Loc}(h:uL E.d wo l=false):(E.on x).at l=x.at l:=by
 cases l with
 | s i k j=>
  simp only[uL,decide_eq_false_iff_not]at h
  simp only[D.at,atL,Eff.on,if_neg h]
 | oc ob j=>
  simp only[uL]at h
  have:E.ob ob=none:=by
   cases he:E.ob ob with
   | none=>rfl
   | some c=>rw[Ql (hE ob (by rw[he]; rfl))]at h; cases h
  simp only[D.at,atL,Eff.on,this]
 | _=>rfl

theorem Pi{E:Eff}{wo:List Nat}(hE: ∀z,(E.ob z).isSome=true→z∈wo){v:Operand}(hf:Sl F x v)(h:KB F E.d wo v=false):oN x (E.on x) v:=by
 have hob: ∀ob,mem ob wo=false→(E.on x).ob ob=x.ob ob:=fun ob hm=>by
  have:E.ob ob=none:=by
   cases he:E.ob ob with
   | none=>rfl
   | some c=>rw[Ql (hE ob (by rw[he]; rfl))]at hm; cases hm
  simp only[Eff.on,this]
 simp only[KB,Bool.or_eq_false_iff]at h
 cases v with
 | tmp t=>
  obtain⟨h1,h2⟩:=h
  have h1:E.d≠some t:=by simpa using h1
  have e0:(E.on x).sl t=x.sl t:=by simp only[Eff.on,if_neg h1]
  refine⟨e0, ?_⟩
  have h2:(match F.shOf t with | .one (.ptr ob _)=>mem ob wo | .one (.pp l _ _ _)=>uL E.d wo l | .one (.al l _)=>uL E.d wo l | _=>false)=false:=h2
  have hf:x.sl t= .tup []∨fits (x.sl t) (F.shOf t)=true:=hf
  show match x.sl t with | .one (.ptr ob _)=>_ | .one (.pp l _ _ _)=>_ | .one (.al l _)=>_ | _=>True
  rcases hf with e | hf
  ·rw[e]; trivial
  ·split
   ·rename_i ob p e
    rw[e]at hf
    cases hs:F.shOf t with
    | tup ws=>rw[hs]at hf; simp [Own.fits]at hf
    | one w=>
     rw[hs]at hf h2
     cases w<;>simp [Own.fits,bZ]at hf
     obtain⟨rfl,_⟩:=hf
     exact hob _ h2
   ·rename_i l p i j e
    rw[e]at hf
    cases hs:F.shOf t with
    | tup ws=>rw[hs]at hf; simp [Own.fits]at hf
    | one w=>
     rw[hs]at hf h2
     cases w<;>simp [Own.fits,bZ]at hf
     obtain⟨⟨rfl,_⟩,_⟩:=hf
     exact Mf hE h2
   ·rename_i l p e
    rw[e]at hf
    cases hs:F.shOf t with
    | tup ws=>rw[hs]at hf; simp [Own.fits]at hf
    | one w=>
     rw[hs]at hf h2
     cases w<;>simp [Own.fits,bZ]at hf
     obtain⟨rfl,_⟩:=hf
     exact Mf hE h2
   ·trivial
 | const u=>
  refine⟨rfl, ?_⟩
  obtain⟨_,h2⟩:=h
  show match bG u with | .one (.ptr ob _)=>_ | .one (.pp l _ _ _)=>_ | .one (.al l _)=>_ | _=>True
  have h2:(match bG u with | .one (.ptr ob _)=>mem ob wo | .one (.pp l _ _ _)=>uL E.d wo l | .one (.al l _)=>uL E.d wo l | _=>false)=false:=h2
  split
  ·rename_i e; rw[e]at h2; exact hob _ h2
  ·rename_i e; rw[e]at h2; exact Mf hE h2
  ·rename_i e; rw[e]at h2; exact Mf hE h2
  ·trivial
 | func f=>exact⟨rfl,trivial⟩
 | global i=>exact⟨rfl,trivial⟩

theorem oN.refl(x:D)(v:Operand):oN x x v:=⟨rfl,by split<;>trivial⟩
theorem oN.symm{v:Operand}(h:oN x y v):oN y x v:=by
 refine⟨h.1.symm, ?_⟩
 rw[h.1]
 have h2:=h.2
 split<;>rename_i e<;>first | trivial | (rw[e]at h2; exact h2.symm)

theorem oN.fit{v:Operand}(h:oN x y v)(hf:Sl F x v):Sl F y v:=by
 cases v with
 | tmp t=>
  have e:y.sl t=x.sl t:=h.1
  show y.sl t= .tup []∨fits (y.sl t) (F.shOf t)=true
  rw[e]; exact hf
 | _=>trivial

/-- All that it looks at is the same. -/
structure tR (F:FA) (ds:List (Option Nat)) (x y:D) (o:Oper):Prop where
 vs: ∀v∈o.op.operands,oN x y v
 g: ∀t,PQ ds o.guard=some t→y.sl t=x.sl t
 os: ∀z∈rO F o,y.ob z=x.ob z

theorem tR.refl(x:D)(o:Oper):tR F ds x x o:=⟨fun v _=> .refl x v,fun _ _=>rfl,fun _ _=>rfl⟩
theorem tR.symm(h:tR F ds x y o):tR F ds y x o:=⟨fun v hv=>(h.vs v hv).symm,fun t ht=>(h.g t ht).symm,fun z hz=>(h.os z hz).symm⟩
theorem tR.fit(h:tR F ds x y o)(hf:Dn F x o):Dn F y o:=fun v hv=>(h.vs v hv).fit (hf v hv)

theorem tR.guard(h:tR F ds x y o):bC ds y o.guard=bC ds x o.guard:=by
 have hg:=h.g
 cases hq:o.guard with
 | none=>rfl
 | some p=>
  obtain⟨j,w⟩:=p
  rw[hq]at hg
  simp only[PQ]at hg
  simp only[bC]
  split
  ·rename_i t e
   rw[e]at hg
   simp only at hg
   rw[hg t rfl]
  ·rfl

theorem Im{a:Oper}{E:Eff}(hd:E.d=a.dst)(hE: ∀z,(E.ob z).isSome=true→z∈wO F a)(hf:Dn F x o)(h:Al F ds a o=false):tR F ds x (E.on x) o:=by
 simp only[Al,Bool.or_eq_false_iff]at h
 obtain⟨⟨h1,h2⟩,h3⟩:=h
 refine⟨fun v hv=>Pi hE (hf v hv) ?_,fun t ht=> ?_,fun z hz=> ?_⟩
 ·have:=List.any_eq_false.1 h1 v (by simpa using hv)
  rw[hd]; simpa using this
 ·rw[ht]at h2
  simp only[decide_eq_false_iff_not]at h2
  simp only[Eff.on,hd,if_neg h2]
 ·have:=List.any_eq_false.1 h3 z hz
  have hn:E.ob z=none:=by
   cases he:E.ob z with
   | none=>rfl
   | some c=>exact absurd (Ql (hE z (by rw[he]; rfl))) this
  simp only[Eff.on,hn]

theorem tF{c:Call}{v:Operand}(ho:o.op= .call c)(hc:c.callee= .value v):dH o=some (c,v):=by
 unfold dH; rw[ho]; simp only[hc]
theorem yH(h:dOp τ F x o=some x1):dH o=none:=by
 unfold dH
 split
 ·rename_i c ho
  split
  ·rename_i v hv
   exfalso
   unfold dOp at h
   cases hd:o.dst with
   | none=>rw[hd,ho]at h; simp at h
   | some d=>
    rw[hd,ho]at h
    simp only[hv]at h
    simp only[nS,kM,hv]at h
    cases h
  ·rfl
 ·rfl

theorem Lq{os:List Nat}{nd:Option Nat}{z:Nat}{y:D}{d:Option Nat}(h:((Eff.call d nd os y).ob z).isSome=true):z∈uP os nd:=by
 simp only[Eff.call]at h
 cases hi:oM os nd z with
 | none=>rw[hi]at h; cases h
 | some oc=>exact qC.1 (by rw[hi]; rfl)

theorem FE{d nd:Option Nat}{os:List Nat}{r:D}:bH F (y.call d nd os r) d nd os=bH F (x.call d nd os r) d nd os:=by
 simp only[bH]
 congr 1
 ·cases d with
  | none=>rfl
  | some d=>simp [D.call]
 ·rw[Bool.eq_iff_iff,List.all_eq_true,List.all_eq_true]
  have: ∀z∈uP os nd,(y.call d nd os r).ob z=(x.call d nd os r).ob z:=fun z hz=>by
   simp only[D.call]
   cases hi:oM os nd z with
   | none=>have:=qC.2 hz; rw[hi]at this; cases this
   | some oc=>rfl
  exact⟨fun h z hz=>by rw[←this z hz]; exact h z hz,fun h z hz=>by rw[this z hz]; exact h z hz⟩

theorem Lg(h:dOp τ F x o=some x1)(hst:MU F o=true)(hfit:Dn F x o)(hs: ∀v∈o.op.operands,oN x y v): ∃E:Eff,E.d=o.dst∧(∀z,(E.ob z).isSome=true→z∈stO F o)∧x1=E.on x∧dOp τ F y o=some (E.on y):=by
 unfold MU at hst
 split at hst<;>try cases hst
 rename_i t v w ho
 split at hst<;>try cases hst
 rename_i ob p hsh
 have h0:=h
 unfold dOp at h
 cases hd:o.dst with
 | some d=>rw[hd]at h; simp only at h; rw[ho]at h; simp only[nS,kM]at h; cases h
 | none=>
  rw[hd,ho]at h
  simp only at h
  split at h<;>try cases h
  ·rename_i i ob' p' xs hi hv hy
   have hv':ev x.sl v= .one (.ptr ob' p'):=hv
   have hob:ob'=ob∧p'=p:=by
    cases v with
    | tmp tt=>
     have hf:=hfit (.tmp tt) (by rw[ho]; simp [Op.operands])
     have hv2:x.sl tt= .one (.ptr ob' p'):=hv'
     have hf:x.sl tt= .tup []∨fits (x.sl tt) (F.shOf tt)=true:=hf
     have hsh:F.shOf tt= .one (.ptr ob p):=hsh
     rw[hv2,hsh]at hf
     rcases hf with hf | hf
     ·cases hf
     ·simp only[fits,bZ,Bool.and_eq_true]at hf
      exact⟨Nat.eq_of_beq_eq_true hf.1,Nat.eq_of_beq_eq_true hf.2⟩
    | const c=>
     have hv2:bG c= .one (.ptr ob' p'):=hv'
     have hsh2:bG c= .one (.ptr ob p):=hsh
     rw[hv2]at hsh2; cases hsh2; exact⟨rfl,rfl⟩
    | func f=>cases hv'
    | global g=>cases hv'
   obtain⟨rfl,rfl⟩:=hob
   have h1:=hs v (by rw[ho]; simp [Op.operands])
   have h2:=hs w (by rw[ho]; simp [Op.operands])
   have e1:ev y.sl v= .one (.ptr ob' p'):=h1.1.trans hv'
   have e2:aV (ev y.sl w)=some xs:=by rw[h2.1]; exact hy
   have e3:y.ob ob'=x.ob ob':=by
    have:=h1.2
    rw[hv']at this
    exact this
   unfold rV at h
   split at h<;>try cases h
   rename_i cells hcl
   obtain⟨hc,h⟩:=aJ h
   cases h
   have hon: ∀z:D,(Eff.on ⟨none, .tup [],fun o'=>if o'=ob' then some (some (cells.take p'++xs++cells.drop (p'+xs.length)))else none⟩ z)=z.setO ob' (cells.take p'++xs++cells.drop (p'+xs.length)):=fun z=>D.ext (fun i=>by simp [Eff.on,D.setO]) (fun i=>by
    simp only[Eff.on,D.setO]
    by_cases e:i=ob'
    ·rw[if_pos e,if_pos e]
    ·rw[if_neg e,if_neg e])
   refine⟨⟨none, .tup [],fun o'=>if o'=ob' then some (some (cells.take p'++xs++cells.drop (p'+xs.length)))else none⟩,rfl,fun z hz=> ?_,(hon x).symm, ?_⟩
   ·simp only at hz
    by_cases e:z=ob'
    ·unfold stO; rw[ho]; simp only[hsh]; simp [e]
    ·rw[if_neg e]at hz; cases hz
   ·rw[hon y]
    unfold dOp
    rw[hd,ho]
    simp only[hi,e1,e2,rV,e3,hcl,hc,cond_true]
  ·rename_i i l pp n j xs hi hv hy
   exfalso
   have hv':ev x.sl v= .one (.pp l pp n j):=hv
   cases v with
   | tmp tt=>
    have hf:=hfit (.tmp tt) (by rw[ho]; simp [Op.operands])
    have hv2:x.sl tt= .one (.pp l pp n j):=hv'
    have hf:x.sl tt= .tup []∨fits (x.sl tt) (F.shOf tt)=true:=hf
    have hsh:F.shOf tt= .one (.ptr ob p):=hsh
    rw[hv2,hsh]at hf
    rcases hf with hf | hf
    ·cases hf
    ·simp [fits,bZ]at hf
   | const c=>
    have hv2:bG c= .one (.pp l pp n j):=hv'
    have hsh2:bG c= .one (.ptr ob p):=hsh
    rw[hv2]at hsh2; cases hsh2
   | func f=>cases hv'
   | global g=>cases hv'
theorem SD.eff(h:SD P τ Sgs F ds o x x1)(hfit:Dn F x o)(hst:Qm F o=false)(hs:tR F ds x y o): ∃E:Eff,E.d=o.dst∧(∀z,(E.ob z).isSome=true→z∈wO F o)∧x1=E.on x∧SD P τ Sgs F ds o y (E.on y):=by
 rcases h with⟨hg,rfl⟩ | ⟨hg,h⟩ | ⟨hg,c,v,f,caps,ob,ob',r,nw,h1,h2,h0,h3,h4,h5,h6,h7,rfl⟩ | ⟨hg,c,v,f,r,t,xs,l,p,x0,es,es',h1,h2,h3,_⟩
 ·exact⟨Eff.skip o.dst,rfl,(fun z hz=>by cases hz),(Eff.skip_on _ x).symm, .inl ⟨by rw[hs.guard,hg],Eff.skip_on _ y⟩⟩
 ·cases hs2:EQ o with
  | false=>
   obtain⟨E,e1,e2,e3,e4⟩:=QU h hs2 hs.vs
   exact⟨E,e1,(fun z hz=>by simp only[wO,yH h]; exact List.mem_append_left _ (e2 z hz)),e3, .inr (.inl ⟨by rw[hs.guard,hg],e4⟩)⟩
  | true=>
   have hp:MU F o=true:=by
    simp only[Qm,Bool.or_eq_false_iff,hs2,Bool.true_and,Bool.not_eq_false']at hst
    exact hst.1
   obtain⟨E,e1,e2,e3,e4⟩:=Lg h hp hfit hs.vs
   exact⟨E,e1,(fun z hz=>by simp only[wO,yH h]; exact List.mem_append_right _ (e2 z hz)),e3, .inr (.inl ⟨by rw[hs.guard,hg],e4⟩)⟩
 ·have hc:=tF h1 h2
  have hv: ∀w,(w=v∨w∈c.args.toList)→oN x y w:=fun w hw=>hs.vs w (by
   rw[h1]
   simp only[Op.operands,Call.operands,h2]
   simp
   rcases hw with rfl | hw
   ·exact .inl rfl
   ·exact .inr (by simpa using hw))
  have e1:inV y c caps (lE F c v)=inV x c caps (lE F c v):=by
   simp only[inV]
   congr 1
   exact List.map_congr_left fun w hw=>by rw[(hv w (.inr hw)).evD]
  have e2:(lE F c v).map y.ob=(lE F c v).map x.ob:=List.map_congr_left fun z hz=>hs.os z (by simp only[rO,hc]; exact hz)
  refine⟨Eff.call o.dst (sJ F o.dst) (lE F c v) (DR r none ob' nw),rfl,(fun z hz=>by simp only[wO,hc]; exact Lq hz),(Eff.call_on _ _ _ _ x).symm, .inr (.inr (.inl ⟨by rw[hs.guard,hg],c,v,f,caps,ob,ob',r,nw,h1,h2,h0,by rw[(hv v (.inl rfl)).1,h3], ?_,by rw[e2,h5], ?_, ?_,Eff.call_on _ _ _ _ y⟩))⟩
  ·rw[List.all_eq_true]at h4 ⊢
   exact fun w hw=>by rw[(hv w (.inr hw)).1]; exact h4 w hw
  ·rw[e1]; exact h6
  ·rw[FE (x:=x)]; exact h7
 ·simp only[Qm,tF h1 h2,h3,Bool.or_true]at hst
  cases hst

theorem Eff.comm{E E':Eff}{z:D}(hd: ∀d,E.d=some d→E'.d≠some d)(ho: ∀o,(E.ob o).isSome=true→E'.ob o=none):E.on (E'.on z)=E'.on (E.on z):=by
 refine D.ext (fun i=> ?_) (fun o=> ?_)
 ·simp only[Eff.on]
  by_cases e:E.d=some i
  ·rw[if_pos e,if_neg (hd i e),if_pos e]
  ·rw[if_neg e,if_neg e]
 ·simp only[Eff.on]
  cases h:E.ob o with
  | none=>rfl
  | some c=>rw[ho o (by rw[h]; rfl)]

/-- The other way round. -/
theorem SD.swap{a b:Oper}(h1:SD P τ Sgs F ds a x x1)(h2:SD P τ Sgs F ds b x1 x2)(ha:Dn F x a)(hb:Dn F x1 b)(hi:Mb F ds a b=true):Dn F x b∧ ∃y,SD P τ Sgs F ds b x y∧Dn F y a∧SD P τ Sgs F ds a y x2:=by
 simp only[Mb,Bool.and_eq_true,Bool.not_eq_true']at hi
 obtain⟨⟨⟨⟨⟨sa,sb⟩,hd⟩,hab⟩,hba⟩,hw⟩:=hi
 obtain⟨A,a1,a2,a3,_⟩:=h1.eff ha sa (tR.refl x a)
 -- b's operands, ahead of a
 have hfb:Dn F x b:=fun v hv=>by
  have hc:KB F a.dst (wO F a) v=false:=by
   simp only[Al,Bool.or_eq_false_iff]at hab
   have:=List.any_eq_false.1 hab.1.1 v (by simpa using hv)
   simpa using this
  have:=hb v hv
  cases v with
  | tmp t=>
   simp only[KB,Bool.or_eq_false_iff,decide_eq_false_iff_not]at hc
   have e:x1.sl t=x.sl t:=by rw[a3]; simp only[Eff.on,a1,if_neg hc.1]
   have this:x1.sl t= .tup []∨fits (x1.sl t) (F.shOf t)=true:=this
   rw[e]at this; exact this
  | _=>trivial
 have hsb:tR F ds x x1 b:=by rw[a3]; exact Im a1 a2 hfb hab
 obtain⟨B,b1,b2,b3,b4⟩:=h2.eff hb sb hsb.symm
 have hsa:tR F ds x (B.on x) a:=Im b1 b2 ha hba
 obtain⟨A',c1,c2,c3,c4⟩:=h1.eff ha sa hsa
 refine⟨hfb,B.on x,b4,hsa.fit ha, ?_⟩
 rw[b3,c3, ←Eff.comm (E:=A') (E':=B)]
 ·exact c4
 ·intro d e1 e2
  rw[c1]at e1
  rw[b1]at e2
  rw[e1]at hd
  simp [e2]at hd
 ·intro z hz
  cases hB:B.ob z with
  | none=>rfl
  | some c=>
   have m1:=c2 z hz
   have m2:=b2 z (by rw[hB]; rfl)
   have:=List.all_eq_true.1 hw z m1
   rw[Ql m2]at this
   cases this

/-- A run in the order of such numbers. -/
def KM(P:Program)(τ:TypeId→Option TI)(Sgs:FuncId→List Sg)(F:FA)(ds:List (Option Nat))(ops:Array Oper):List Nat→D→D→Prop
 | [],x,x'=>x=x'
 | i::r,x,x'=> ∃o x1,ops[i]? =some o∧Dn F x o∧SD P τ Sgs F ds o x x1∧KM P τ Sgs F ds ops r x1 x'

/-- What may come first is taken first. -/
theorem KM.front{ops:Array Oper}{i:Nat}(ho:ops[i]? =some o){L2:List Nat}{x':D}: ∀ {L1:List Nat} {x:D},KM P τ Sgs F ds ops (L1++i::L2) x x'→(∀j∈L1, ∀a,ops[j]? =some a→Mb F ds a o=true)→
  Dn F x o∧ ∃x1,SD P τ Sgs F ds o x x1∧KM P τ Sgs F ds ops (L1++L2) x1 x'
 | [],x,h,_=>by
  obtain⟨o',x1,h1,h2,h3,h4⟩:=h
  rw[ho]at h1; cases h1
  exact⟨h2,x1,h3,h4⟩
 | j::r,x,h,hi=>by
  obtain⟨a,x1,h1,h2,h3,h4⟩:=h
  obtain⟨k1,x2,k2,k3⟩:=KM.front ho h4 (fun j hj=>hi j (List.mem_cons_of_mem _ hj))
  obtain⟨q1,y,q2,q3,q4⟩:=h3.swap k2 h2 k1 (hi j List.mem_cons_self a h1)
  exact⟨q1,y,q2,a,x2,h1,q3,q4,k3⟩
end
end Go.Own

/- What is checked of a region whose order is drawn. -/
namespace Go.Own
open Go.RowKit

abbrev Lvl:=List (Nat×B)
def zP(m:Nat):Lvl→Option B
 | []=>none
 | (m',b)::r=>bif Nat.beq m m' then some b else zP m r
/-- One more state. -/
def Sp(F:FA)(m:Nat)(b:B)(mt:B→B→B):Lvl→Option Lvl
 | []=>some [(m,b)]
 | (m',b0)::r=>bif Nat.beq m m' then(bif leB (mt b0 b) b0&&leB (mt b0 b) b then some ((m',(mt b0 b).nrm F)::r)else none)
  else(match Sp F m b mt r with | some r'=>some ((m',b0)::r') | none=>none)
def xV(m:Nat)(o:Oper):Bool:=o.after.toList.all fun e=> !(Region.binds .any e)||m.testBit e.on

section
variable (τ:TypeId→Option TI) (Sgs:FuncId→List Sg) (F:FA) (ds:List (Option Nat)) (mt:B→B→B)
def wV(m:Nat)(b:B):Nat→List Oper→Lvl→Option Lvl
 | _,[],acc=>some acc
 | i,o::r,acc=>bif m.testBit i|| !(xV m o)then wV m b (i+1) r acc
  else(match Cb τ Sgs F ds b o with
   | some b1=>(match Sp F (m||| 2 ^ i) b1 mt acc with | some acc'=>wV m b (i+1) r acc' | none=>none)
   | none=>none)
def Hm(os:List Oper):Lvl→Lvl→Option Lvl
 | [],acc=>some acc
 | (m,b)::r,acc=>match wV τ Sgs F ds mt m b 0 os acc with | some acc'=>Hm os r acc' | none=>none
def Cr(os:List Oper):Nat→Lvl→Option Lvl
 | 0,L=>some L
 | n+1,L=>match Hm τ Sgs F ds mt os L []with | some L'=>Cr os n L' | none=>none
/-- In the order of the text, all operands told. -/
def KI:B→List Oper→Option B
 | b,[]=>some b
 | b,o::r=>bif o.op.operands.toList.all (dX b)then(match Cb τ Sgs F ds b o with | some b1=>KI b1 r | none=>none)else none
end

def Ap(F:FA)(ds:List (Option Nat))(ops:Array Oper):Bool:=
 (List.range ops.size).all (fun j=>match ops[j]? with | some o=>o.after.all (fun e=> !Region.binds .any e||Nat.blt e.on j) | none=>true)&&
 (List.range ops.size).all (fun j=>(List.range j).all fun i=>match ops[i]?,ops[j]? with
  | some a,some b=>((Region.before ops).getD j 0).testBit i||Mb F ds a b
  | _,_=>true)

def anyC(τ:TypeId→Option TI)(Sgs:FuncId→List Sg)(F:FA)(mt:B→B→B)(b:B)(ops:Array Oper):Option B:=
 bif Ap F (ops.toList.map (·.dst)) ops&&(KI τ Sgs F (ops.toList.map (·.dst)) b ops.toList).isSome then
  (match Cr τ Sgs F (ops.toList.map (·.dst)) mt ops.toList ops.size [(0,b)]with | some [(_,b1)]=>some b1 | _=>none)else none
end Go.Own

/- What is checked of code; regions' runs are what their data tell. -/
namespace Go.Own
open Go.RowKit

/-! ### joins -/
def meetK(a b:K):K:=if a.lo b then b else if b.lo a then a else if a.lo .V&&b.lo .V then .V else .D
def HY:List K→List K→List K
 | p::ps,q::qs=>meetK p q::HY ps qs
 | _,_=> []
def It:List (List K)→List (List K)→List (List K)
 | p::ps,q::qs=>HY p q::It ps qs
 | _,_=> []
def PK(b2:List (Nat×List (List K))):List (Nat×List (List K))→List (Nat×List (List K))
 | []=> []
 | p::r=>match cG p.1 b2 with | some κ=>(p.1,It p.2 κ)::PK b2 r | none=>PK b2 r
def PL(b2:List (Nat×List K)):List (Nat×List K)→List (Nat×List K)
 | []=> []
 | p::r=>match cG p.1 b2 with | some κ=>(p.1,HY p.2 κ)::PL b2 r | none=>PL b2 r
def IE(b1 b2:B):B:= { sl:=PK b2.sl b1.sl,ob:=PL b2.ob b1.ob }

def JR:Ek→Ek→Bool
 | .n, .n=>true
 | .r, .r=>true
 | .e i, .e j=>Nat.beq i j
 | _,_=>false
theorem Ar{a b:Ek}:JR a b=true↔a=b:=by
 cases a<;>cases b<;>simp [JR]

abbrev zQ:=List (Ek×B)
def qJ(e:Ek):zQ→Option B
 | []=>none
 | (e',b)::r=>bif JR e e' then some b else qJ e r
def Az(e:Ek):zQ→zQ
 | []=> []
 | (e',b)::r=>bif JR e e' then Az e r else(e',b)::Az e r

theorem pP{e e':Ek}(h:e'≠e): ∀ {o:zQ},qJ e' (Az e o)=qJ e' o
 | []=>rfl
 | (e2,b)::r=>by
  simp only[Az]
  cases h2:JR e e2 with
  | true=>
   have:=Ar.1 h2
   subst this
   simp only[cond_true,qJ]
   rw[pP h]
   cases h3:JR e' e with
   | true=>exact absurd (Ar.1 h3) h
   | false=>rfl
  | false=>
   simp only[cond_false,qJ]
   rw[pP h]

theorem wC(e:Ek):JR e e=true:=Ar.2 rfl
theorem LO{a b:Ek}(h:a≠b):JR a b=false:=by
 cases h2:JR a b with
 | true=>exact absurd (Ar.1 h2) h
 | false=>rfl

/-- One more way out. -/
def Sq(F:FA)(e:Ek)(b:B)(o:zQ):Option zQ:=match qJ e o with
 | none=>some ((e,b)::o)
 | some b0=>bif leB (IE b0 b) b0&&leB (IE b0 b) b then some ((e,(IE b0 b).nrm F)::Az e o)else none
def Fl(F:FA):zQ→zQ→Option zQ
 | [],o=>some o
 | (e,b)::r,o=>match Sq F e b o with | some o'=>Fl F r o' | none=>none

/-- o' tells of every way out of o. -/
def Sub(F:FA)(o o':zQ):Prop:= ∀e b,qJ e o=some b→ ∃b',qJ e o'=some b'∧Cv F b b'
theorem Sub.refl(F:FA)(o:zQ):Sub F o o:=fun _ b h=>⟨b,h,Cv.refl F b⟩
theorem Sub.trans{F:FA}{a b c:zQ}(h:Sub F a b)(k:Sub F b c):Sub F a c:=fun e x hx=>by
 obtain⟨y,h1,h2⟩:=h e x hx
 obtain⟨z,k1,k2⟩:=k e y h1
 exact⟨z,k1,h2.trans k2⟩

theorem LZ{F:FA}{e:Ek}{b:B}{o o':zQ}(h:Sq F e b o=some o'):Sub F o o'∧ ∃b',qJ e o'=some b'∧Cv F b b':=by
 unfold Sq at h
 split at h
 ·rename_i hg
  cases h
  refine⟨fun e2 b2 h2=> ?_,b,by simp [qJ,wC],Cv.refl F b⟩
  have hne:e2≠e:=fun e3=>by subst e3; rw[hg]at h2; cases h2
  exact⟨b2,by simp only[qJ,LO hne,cond_false]; exact h2,Cv.refl F b2⟩
 ·rename_i b0 hg
  obtain⟨hc,h⟩:=aJ h
  simp only[Bool.and_eq_true]at hc
  cases h
  refine⟨fun e2 b2 h2=> ?_,_,by simp [qJ,wC],Ct hc.2⟩
  by_cases hne:e2=e
  ·subst hne
   rw[hg]at h2; cases h2
   exact⟨_,by simp [qJ,wC],Ct hc.1⟩
  ·exact⟨b2,by simp only[qJ,LO hne,cond_false]; rw[pP hne]; exact h2,Cv.refl F b2⟩

theorem vW{F:FA}: ∀ {l o o':zQ},Fl F l o=some o'→Sub F o o'∧Sub F l o'
 | [],o,o',h=>by cases h; exact⟨Sub.refl F o,fun e b h=>by cases h⟩
 | (e,b)::r,o,o',h=>by
  unfold Fl at h
  split at h<;>try cases h
  rename_i o1 h1
  obtain⟨a1,b',a2,a3⟩:=LZ h1
  obtain⟨m1,m2⟩:=vW h
  refine⟨a1.trans m1,fun e2 b2 h2=> ?_⟩
  simp only[qJ]at h2
  cases h3:JR e2 e with
  | true=>
   have:=Ar.1 h3
   subst this
   rw[h3]at h2
   cases h2
   obtain⟨b'',q1,q2⟩:=m1 _ b' a2
   exact⟨b'',q1,a3.trans q2⟩
  | false=>
   rw[h3]at h2
   exact m2 e2 b2 h2

/-! ### a loop's head -/
def MX(F:FA)(b:B):Bool:=b.sl.all fun p=>If F b p.1
theorem NY{F:FA}{b:B}(h:MX F b=true)(n:Nat)(x:D):(b.nrm F).S n x=b.S n x:=by
 have hp: ∀i,b.has i=true→If F b i=true:=fun i hi=>by
  simp only[B.has]at hi
  cases hl:cG i b.sl with
  | none=>rw[hl]at hi; cases hi
  | some κ=>exact List.all_eq_true.1 h _ (fF hl)
 have hhas: ∀i,(b.nrm F).has i=b.has i:=fun i=>by
  rw[Fh,fG]
  cases hi:b.has i with
  | false=>simp
  | true=>rw[hp i hi]; rfl
 have hkd:(b.nrm F).kd=b.kd:=funext fun l=>by
  cases l with
  | s i k j=>
   by_cases hi:b.has i=true
   ·rw[Fh]; exact fM (hp i hi)
   ·rw[Oh (show(b.nrm F).hasL (.s i k j)=false by show(b.nrm F).has i=false; rw[hhas]; simpa using hi),Oh (show b.hasL (.s i k j)=false by show b.has i=false; simpa using hi)]
  | _=>rfl
 simp only[B.S,hhas,hkd]
 rfl
theorem Hi(F:FA)(b:B):Cv F b (b.nrm F):=fun x hA=>⟨hA.nrm,fun g0 w0 a w hs=>hs.relax ((Low.self F.n b x).le hA)⟩
theorem QF{F:FA}{b' b:B}(h:leB b' b=true)(hn:MX F b'=true):Cv F b b':=fun x hA=>by
 obtain⟨h1,h2,h3⟩:=KU h
 have hA':Ag F b' x:=⟨fun i hi=>hA.sl i (h1 i hi),fun o ho=>hA.ob o (h2 o ho)⟩
 obtain⟨_,q⟩:=Ct h x hA
 exact⟨hA',fun g0 w0 a w hs=>by rw[←NY hn]; exact q g0 w0 a w hs⟩

def Gk(F:FA)(f:B→Option zQ):Nat→B→Option zQ
 | 0,_=>none
 | n+1,h=>match f h with
  | none=>none
  | some o=>match qJ .n o with
   | none=>some (Az .n o)
   | some b1=>bif leB h b1&&MX F h then some (Az .n o)else bif leB (IE h b1) h then Gk F f n ((IE h b1).nrm F)else none

theorem Ed{F:FA}{f:B→Option zQ}: ∀ {n:Nat} {h:B} {outs:zQ},Gk F f n h=some outs→ ∃h' o,Cv F h h'∧f h'=some o∧outs=Az .n o∧(∀b1,qJ .n o=some b1→Cv F b1 h')∧ ∀k,Gk F f (k+1) h'=some outs
 | 0,h,outs,hh=>by cases hh
 | n+1,h,outs,hh=>by
  have hh0:=hh
  unfold Gk at hh
  cases hf:f h with
  | none=>rw[hf]at hh; cases hh
  | some o=>
   rw[hf]at hh
   simp only at hh
   cases hg:qJ .n o with
   | none=>
    rw[hg]at hh
    cases hh
    exact⟨h,o,Cv.refl F h,hf,rfl,fun b1 e=>(by rw[hg]at e; cases e),fun k=>by unfold Gk; rw[hf]; simp only[hg]⟩
   | some b1=>
    rw[hg]at hh
    simp only at hh
    cases hc:(leB h b1&&MX F h)with
    | true=>
     rw[hc]at hh
     cases hh
     simp only[Bool.and_eq_true]at hc
     refine⟨h,o,Cv.refl F h,hf,rfl,fun b2 e=>(by rw[hg]at e; cases e; exact QF hc.1 hc.2),fun k=> ?_⟩
     unfold Gk; rw[hf]; simp only[hg,hc.1,hc.2,Bool.and_self,cond_true]
    | false=>
     rw[hc]at hh
     simp only[cond_false]at hh
     obtain⟨hl,hh⟩:=aJ hh
     obtain⟨h',o',q1,q2⟩:=Ed hh
     exact⟨h',o',(Ct hl).trans q1,q2⟩

/-! ### code -/
def PN(F:FA)(id:Nat)(b:B):B:=match cG id F.keep with
 | some l=>b.filt fun i=>mem i l
 | none=>b
theorem Hb(F:FA)(id:Nat)(b:B):Cv F b ((PN F id b).nrm F):=fun x hA=>by
 unfold PN
 split
 ·rename_i l _
  have hA':=hA.filt (F:=F) (fun i=>mem i l)
  refine⟨hA'.nrm,fun g0 w0 a w hs=>hs.relax (Low.le hA' ⟨rfl,fun i hi=>qL ?_,fun o ho=>JS (n:=F.n) ho,fun l' t hL _=> ?_,fun i k xs hi _=> ?_,fun i hi _ hf=> ?_⟩)⟩
  ·rw[fG,Bool.and_eq_true]at hi; exact hi.2
  ·cases l' with
   | s i k j=>
    have hL:(b.filt fun i=>mem i l).has i=true:=hL
    rw[fG,Bool.and_eq_true]at hL
    rw[fM hL.1]; exact cZ _
   | oc o j=>exact cZ _
   | _=>cases hL
  ·rw[fG,Bool.and_eq_true]at hi
   rw[fM hi.1]; exact cZ _
  ·rw[fG,Bool.and_eq_true]at hi
   rw[fM hi.1]at hf; exact hf
 ·exact Hi F b x hA

def qS(τ:TypeId→Option TI)(Sg:FuncId→List Sg)(F:FA):Code→B→Option zQ
 | .skip,b=>some [(.n,b)]
 | .label _,b=>some [(.n,b)]
 | .exit i,b=>some [(.e i,b)]
 | .ret,b=>some [(.r,b)]
 | .seq x y,b=>match qS τ Sg F x b with
  | none=>none
  | some o1=>match qJ .n o1 with
   | none=>some o1
   | some b1=>match qS τ Sg F y b1 with
    | none=>none
    | some o2=>Fl F (Az .n o1) o2
 | .cond c x y,b=>bif dX b c then(match qS τ Sg F x b,qS τ Sg F y b with
  | some o1,some o2=>Fl F o1 o2
  | _,_=>none)else none
 | .block id c,b=>match qS τ Sg F c b with
  | none=>none
  | some o=>match qJ (.e id) o with
   | none=>some o
   | some b1=>Sq F .n b1 (Az (.e id) o)
 | .loop c,b=>Gk F (qS τ Sg F c) 4 b
 | .region id ops dr,b=>bif ops.toList.any Es then some []else match(match cG id F.mks with | some L=>bif dr then none else mkC τ Sg F b L ops.toList | none=>bif dr then anyC τ Sg F IE b ops else Mp τ Sg F (ops.toList.map (·.dst)) b ops.toList)with
  | some b1=>some [(.n,(PN F id b1).nrm F)]
  | none=>none
 | _,_=>some []
end Go.Own

/- Code's runs are what their data tell. -/
namespace Go.Own
open Go.RowKit

theorem HR{g:G}{w:World}{κ:Nat→Nat→K}{l:Nat→Nat→Loc}{v:Value}{b:Bool}(h:RV g w κ l v (.one (.c (.bool b)))):v= .bool b:=by
 have:=LF.scal (g':=g) (w':=w) (κ':= .F) (l':= .none) h.2 rfl
 have this:Rd _ _ _ _:=this
 cases this; rfl

theorem Gp{F:FA}{b:B}{x:D}{n:Nat}{g0:G}{w0:World}{ops:Array Oper}{o:Oper}{g:G}{w:World}{a:Act}{t:Bool}(hs:bS g0 w0 (b.S n x) a g w)(hk:Hl (ops.toList.map (·.dst)) b o.guard=true)(h:bC (ops.toList.map (·.dst)) x o.guard=some t):
  Region.wanted o (yielded ops a.tmps)=t:=by
 have _:=F
 unfold Region.wanted
 cases hg:o.guard with
 | none=>rw[hg]at h; simp only[bC,Option.some.injEq]at h; exact h
 | some p=>
  obtain⟨j,want⟩:=p
  rw[hg]at h hk
  simp only[bC,List.getElem?_map,Array.getElem?_toList]at h
  simp only[Hl,List.getElem?_map,Array.getElem?_toList]at hk
  simp only[yielded]
  cases ho:ops[j]? with
  | none=>rw[ho]at h; simp only[Option.map_none,Option.some.injEq]at h; subst h; simp
  | some oj=>
   rw[ho]at h hk
   simp only[Option.map_some]at h hk
   simp only[Option.bind_some]
   cases hd:oj.dst with
   | none=>rw[hd]at h; simp only[Option.some.injEq]at h; subst h; simp
   | some d=>
    rw[hd]at h hk
    simp only at h hk
    simp only[Option.bind_some]
    have hr:=hs.slots d
    rw[qL hk]at hr
    split at h
    ·rename_i b' hb
     rw[hb]at hr
     have hv:=HR hr
     simp only[Option.some.injEq]at h
     rw[Array.getD_eq_getD_getElem?]at hv
     cases ht:a.tmps[d]? with
     | none=>rw[ht]at hv; simp [undef]at hv
     | some u=>
      rw[ht]at hv
      simp only[Option.getD_some]at hv
      subst hv
      simp only
      rw[←h]
      cases b'<;>cases want<;>rfl
    ·rename_i hb
     rw[hb]at hr
     obtain⟨vs,hv,hn,_⟩:=hr
     simp only[Option.some.injEq]at h
     subst h
     rw[Array.getD_eq_getD_getElem?]at hv
     cases ht:a.tmps[d]? with
     | none=>simp
     | some u=>
      rw[ht]at hv
      simp only[Option.getD_some]at hv
      subst hv
      simp
    ·cases h

def Ig(z:Nat):List Oper→Bool
 | []=>true
 | o::r=> !(decide (o.dst=some z))&&Ig z r
def noD(z:Nat):Code→Bool
 | .seq a b=>noD z a&&noD z b
 | .cond _ a b=>noD z a&&noD z b
 | .block _ c=>noD z c
 | .loop c=>noD z c
 | .region _ ops _=>Ig z ops.toList
 | _=>true

theorem GD{a:Act}{d:Option Nat}{u:Value}{z:Nat}(h:d≠some z):(a.put d u).tmps.getD z undef=a.tmps.getD z undef:=mV a d u z h

/-- What is checked of the value that is turned in place. -/
def Ma(F:FA)(b bo:B)(rs:List ResultVar)(c:Code):Bool:=match F.io with
 | none=>true
 | some z=>b.has z&&(b.kd (.s z 0 0)).hand true (bo.kd (.s 1 0 0))&&(!(bo.kd (.s 1 0 0)).hold||decide (yM F rs F.n0 F.io (.s z 0 0)= .s 1 0 0))&&noD z c
/-- What is checked of a function of the library. -/
def libC(F:FA)(q:List (List (List K))×List (List K)×Bool)(sg:Sg):Bool:=
 F.sh.isEmpty&&decide (sg.bi.sl=PJ 0 q.1)&&sg.bi.ob.isEmpty&&decide (sg.bo.sl=[(0,q.2.1)])&&sg.bo.ob.isEmpty&&Nat.beq sg.np q.1.length&&Nat.ble 1 sg.np&&decide (sg.io=none)&&decide (sg.ext=q.2.2)&&Nat.beq sg.no 0
/-- What is checked of a function. -/
def fnC(τ:TypeId→Option TI)(An:FuncId→FA)(Sgs:FuncId→List Sg)(f:FuncId)(sg:Sg)(fn:Func)(c:Code):Bool:=match(An f).lb with
 | some q=>libC (An f) q sg
 | none=>
 Nat.beq (An f).n fn.ntmps&&Nat.ble fn.ntmps par&&Nat.ble sg.np fn.ntmps&& !(fn.name == "runtime.NumGoroutine")&&sg.bi.sl.all (fun p=>Nat.blt p.1 sg.np)&&sg.bi.ob.all (fun p=>Nat.ble par p.1&&Nat.blt p.1 (par+sg.no))&&
 decide (sg.io=(An f).io)&&sg.bo.sl.all (fun p=>Nat.beq p.1 0||(Nat.beq p.1 1&&(An f).io.isSome))&&sg.bo.ob.all (fun p=>Nat.beq p.1 0||sg.bi.hasO p.1)&&
 (match qS τ Sgs (An f) c sg.bi with
  | none=>false
  | some outs=>(match qJ .n outs with | none=>true | some b=>xU (An f) b sg.bo (yM (An f) fn.results.toList (An f).n0 (An f).io) 0 fn.results.toList&&Jy (An f) b sg.bo (An f).n0&&Ma (An f) b sg.bo fn.results.toList c)&&
   (match qJ .r outs with | none=>true | some b=>xU (An f) b sg.bo (yM (An f) fn.results.toList (An f).n0 (An f).io) 0 fn.results.toList&&Jy (An f) b sg.bo (An f).n0&&Ma (An f) b sg.bo fn.results.toList c))

def Mot(P:Program)(τ:TypeId→Option TI)(Sgs:FuncId→List Sg):Jd→Prop
 | .code F c x e x'=> ∀b outs,qS τ Sgs F c b=some outs→Ag F b x→ ∃(b':B) (k:Nat),qJ e outs=some b'∧Ag F b' x'∧ ∀g0 w0 (Q:Exit→Act→World→Prop) a w,Sim g0 w0 (b.S F.n x) a w→
   (∀a' w',Sim g0 w0 (b'.S F.n x') a' w'→(∀z,noD z c=true→a'.tmps.getD z undef=a.tmps.getD z undef)→Q e.exit a' w')→c.wp P Q a w∧ ∀c',c= .loop c'→Code.rounds P c' Q k a w
 | .ops F ds os x x'=> ∀(ops:Array Oper) i,ops.toList.drop i=os→ds=ops.toList.map (·.dst)→ ∀b b',Mp τ Sgs F ds b os=some b'→Ag F b x→Ag F b' x'∧(∀g0 w0 (Q:Exit→Act→World→Prop) a w,Sim g0 w0 (b.S F.n x) a w→
   (∀a' w',Sim g0 w0 (b'.S F.n x') a' w'→(∀z,Ig z os=true→a'.tmps.getD z undef=a.tmps.getD z undef)→Q .normal a' w')→wpOps P ops Q (List.range' i os.length) a w)∧ ∀b2,KI τ Sgs F ds b os=some b2→KM P τ Sgs F ds ops (List.range' i os.length) x x'
 | .fn f vs ob r io ob' nw=> ∀sg∈Sgs f,sg.np=vs.length→sg.no=ob.length→TC P f sg vs ob r io ob' nw

theorem Ke{P:Program}{ops:Array Oper}{o:Oper}{i:Nat}{Q:Exit→Act→World→Prop}{K:Act→World→Prop}{a:Act}{w:World}(hi:ops[i]? =some o)(t:Bool)(hw:Region.wanted o (yielded ops a.tmps)=t)(h:if t then o.wp P a w K Q else K (a.put o.dst undef) w):wpOp P ops Q i K a w:=by
 unfold Go.wpOp
 simp only[hi]
 rw[hw]
 cases t with
 | true=>exact .inl h
 | false=>exact h

theorem NJ{τ:TypeId→Option TI}{Sgs:FuncId→List Sg}{F:FA}{ds:List (Option Nat)}{b b':B}{o:Oper}(h:Cb τ Sgs F ds b o=some b'): ∃b1,Qj τ Sgs F b o=some b1∧b'=(b1.frz F (fzL F b1 o.dst)).nrm F∧Hl ds b o.guard=true∧(o.guard≠none→EI F b (b1.frz F (fzL F b1 o.dst)) o.dst=true):=by
 unfold Cb at h
 split at h<;>try cases h
 rename_i b1 h1
 obtain⟨hc,h⟩:=aJ h
 cases h
 simp only[Bool.and_eq_true]at hc
 refine⟨b1,h1,rfl,hc.1,fun hg=> ?_⟩
 have:=hc.2
 split at this
 ·rename_i e; exact absurd e hg
 ·exact this
/-- What has no run has none. -/
theorem Nx{P:Program}{τ:TypeId→Option TI}{An:FuncId→FA}{J:Jd}(h:Big P τ An J):match J with | .ops _ _ os _ _=>os.any Es=false | _=>True:=by
 induction h with
 | opsNil F ds x=>rfl
 | @opsSkip F ds o r x x2 hg h2 ih2=>
  simp only[List.any_cons,Bool.or_eq_false_iff]
  refine⟨?_,ih2⟩
  unfold Es
  split
  ·rename_i e1 e2
   rw[e2]at hg
   cases hg
  ·rfl
 | @opsRun F ds o r x x1 x2 hg h1 h2 ih2=>
  simp only[List.any_cons,Bool.or_eq_false_iff]
  refine⟨?_,ih2⟩
  unfold Es
  split
  ·rename_i e1 e2
   split
   ·rename_i v e3
    unfold dOp at h1
    rw[e1]at h1
    simp only[e3]at h1
    cases h1
   ·rfl
  ·rfl
 | @opsCall F ds o rs x x2 c v f caps ob ob' r nw hg ho hcal hni hx hth hob h1 hsh h2 ih1 ih2=>
  simp only[List.any_cons,Bool.or_eq_false_iff]
  refine⟨?_,ih2⟩
  unfold Es
  rw[ho]
  split<;>rfl
 | @opsIo F ds o rs x x2 c v f r t xs l p x0 es es' hg ho hcal hio hx hth hargs hal hat hnav h1 hsh h2 ih1 ih2=>
  simp only[List.any_cons,Bool.or_eq_false_iff]
  refine⟨?_,ih2⟩
  unfold Es
  rw[ho]
  split<;>rfl
 | _=>trivial
theorem QT{P:Program}{τ:TypeId→Option TI}{An:FuncId→FA}{F:FA}{ds:List (Option Nat)}{os:List Oper}{x x':D}(h:Big P τ An (.ops F ds os x x')):os.any Es=false:=Nx h
theorem LE{F:FA}{q:List (List (List K))×List (List K)×Bool}{sg:Sg}(h:libC F q sg=true):sg=IJ q∧F.sh=[]∧1≤sg.np:=by
 unfold libC at h
 simp only[Bool.and_eq_true,List.isEmpty_iff,decide_eq_true_eq]at h
 obtain⟨⟨⟨⟨⟨⟨⟨⟨⟨h1,h2⟩,h3⟩,h4⟩,h5⟩,h6⟩,h7⟩,h8⟩,h9⟩,h10⟩:=h
 obtain⟨⟨s1,s2⟩,⟨s3,s4⟩,s5,s6,s7,s8⟩:=sg
 simp only at h2 h3 h4 h5 h6 h7 h8 h9 h10
 have h6:=Nat.eq_of_beq_eq_true h6
 have h10:=Nat.eq_of_beq_eq_true h10
 subst h2 h3 h4 h5 h6 h8 h9 h10
 exact⟨rfl,h1,Nat.le_of_ble_eq_true h7⟩
end Go.Own

/- The same, off their code. -/
namespace Go.Own
open Go.RowKit
set_option linter.unusedVariables false

theorem KN{P:Program}{o:Oper}{a:Act}{w w':World}{v:Value}{K:Act→World→Prop}{Q:Exit→Act→World→Prop}(h:(execOp a.eval o).run P w= .ok (.value v) w')(hK:K (a.put o.dst v) w'):o.wp P a w K Q:=by
 unfold Oper.wp
 rw[h]
 exact hK
theorem Ms{P:Program}{o:Oper}{a:Act}{w:World}{c:Call}{g:FuncId}{K:Act→World→Prop}{Q:Exit→Act→World→Prop}(ho:o.op= .call c)(hc:c.callee= .value (.func g))(h:oX P ((callFunc g (c.args.map a.eval)).run P w) (fun u w'=>K (a.put o.dst u) w')):o.wp P a w K Q:=by
 have hrun:(execOp a.eval o).run P w=(callFunc g (c.args.map a.eval)).run P w:=by
  obtain⟨dst,op,ty,pos,after,guard⟩:=o
  simp only at ho
  subst ho
  have hfv:a.eval (.func g)= .func (.func g) #[] #[]:=rfl
  simp only[execOp,resolve,hc,hfv,Deferred.ofValue,Sem.run_bind,Sem.run_pure,Result.andThen_ok,invoke]
  congr 2
  apply Array.ext'
  simp
 unfold Oper.wp
 rw[hrun]
 revert h
 generalize (callFunc g _).run P w=r
 intro hC
 unfold oX at hC
 split at hC
 ·exact hC
 ·rw[Oper.upon_enter]
  refine Calls.mono hC ?_
  rintro e w' ⟨v,rfl,h⟩
  exact h
 ·exact hC.elim
theorem NM{P:Program}{ρ:Operand→Value}{o:Oper}{x:Operand}{w:World}(ho:o.op= .move x):(execOp ρ o).run P w= .ok (.value (ρ x)) w:=by
 obtain⟨dst,op,ty,pos,after,guard⟩:=o
 simp only at ho
 subst ho
 rfl
theorem Ja{P:Program}{ρ:Operand→Value}{o:Oper}{x:Operand}{w:World}(ho:o.op= .assign x):(execOp ρ o).run P w= .ok (.value (ρ x)) w:=by
 obtain⟨dst,op,ty,pos,after,guard⟩:=o
 simp only at ho
 subst ho
 rfl
/-- An operation without a guard. -/
theorem tA{P:Program}{ops:Array Oper}{o:Oper}{i:Nat}{Q:Exit→Act→World→Prop}{K:Act→World→Prop}{a:Act}{w:World}(hi:ops[i]? =some o)(hg:o.guard=none)(h:o.wp P a w K Q):wpOp P ops Q i K a w:=
 Ke hi true (by unfold Region.wanted; rw[hg]) h

section
variable {P:Program} {τ:TypeId→Option TI}
end
section
variable {P:Program} {τ:TypeId→Option TI}
end
end Go.Own

/- The slices of an object's cells, turned one after another. -/
namespace Go.Own
open Go.RowKit
set_option linter.unusedVariables false

/-- The callee's contract, of the usual kind. -/
def TCm(P:Program)(m:MR):Prop:= ∃sg:Sg,TC P m.g sg [.one (.c (.sl m.es)), .one (.c (.int .i64 m.k))] [] (.one (.c (.int .i64 m.k1))) (some (.sl m.es')) [] none∧sg.io=some 0∧sg.np=2∧sg.bi=biM∧sg.bo.has 0=true∧sg.bo.has 1=true∧sg.bo.kd (.s 1 0 0)= .U 0
def turnM(o p0:Nat):List MR→St→St
 | [],st=>st
 | m::r,st=>turnM o p0 r (st.turn (.oc o (p0+m.off)) (.U 0) (.sl m.es'))

theorem PZ{st:St}{o j:Nat}{κ:K}{z:T}(o':Nat):(st.turn (.oc o j) κ z).ob o'=if o'=o then(st.ob o').map (·.set j z)else st.ob o':=rfl
theorem Pa{st:St}{o j:Nat}{κ:K}{z:T}(o' j':Nat):(st.turn (.oc o j) κ z).fl (.oc o' j')=if Loc.oc o' j'= .oc o j then κ else if st.fl (.oc o' j')= .V then .D else st.fl (.oc o' j'):=by
 show(if Loc.oc o' j'= .oc o j then κ else _)=_
 by_cases e:Loc.oc o' j'= .oc o j
 ·rw[if_pos e,if_pos e]
 ·rw[if_neg e,if_neg e]
  show(if isL (.oc o j) (.oc o' j')=true then K.D else st.killV.fl (.oc o' j'))=_
  rw[if_neg (by simpa [isL]using e)]
  rfl

theorem Ki{P:Program}{g0:G}{w0:World}{a:Act}{o p0:Nat}{cs:List Value}{cells':List T}{k':Int}{Q:Value→World→Prop}: ∀(rs:List MR) {st:St} {g:G} {w:World} {Bx:Nat→Prop} {cells:List T} {k:Int},bS g0 w0 st a g w→st.ob o=some cells→(∀m∈rs,TCm P m)→(∀m∈rs, ∃n,st.fl (.oc o (p0+m.off))= .U n)→
  Cx p0 rs cells k cells' k'→(∀b,Bx b→b<w.heap.size∧g.own b= .none)→(∀m∈rs,cs[m.off]? =w.cell? ⟨g.β o,p0+m.off,none⟩)→(∀w1 w2 gb,bS g0 w0 (turnM o p0 rs st) a gb w1→gb.β=g.β→PF w1 w2→Q (.int .i64 k') w2)→
  HP P (rs.map fun m=>(m.off,m.g)) cs k w Bx Q
 | [],st,g,w,Bx,cells,k,hs,hob,hC,hk,hch,hB,hcs,hQ=>fun w1 hE=>by
  obtain⟨rfl,rfl⟩:=hch
  exact hQ w w1 g hs rfl hE
 | m::r,st,g,w,Bx,cells,k,hs,hob,hC,hk,hch,hB,hcs,hQ=>fun w1 Bx1 hE h2 h3 h4=>by
  obtain⟨hes,rfl,hch⟩:=hch
  obtain⟨sg,c1,c2,c3,c4,c5,c6,c7⟩:=hC m List.mem_cons_self
  obtain⟨n,hn⟩:=hk m List.mem_cons_self
  have hat:st.at (.oc o (p0+m.off))=some (.sl m.es):=by rw[St.at_oc,hob]; exact hes
  obtain⟨v0,hv0,_,_⟩:=hs.get hat
  have hcell:cs[m.off]? =some v0:=(hcs m List.mem_cons_self).trans hv0
  refine⟨v0,hcell,(QI hs hE c1 c2 c3 c4 c5 c6 c7 rfl hn hat hv0).mono fun u w2 ⟨e,gb,q1,q2,q3,q4⟩=> ?_⟩
  have hB1: ∀b,Bx1 b→g.own b= .none:=fun b hb=>by
   by_cases e:Bx b
   ·exact(hB b e).2
   ·have hge:=h3 b hb e
    cases hg:g.own b with
    | none=>rfl
    | _=>
     exfalso
     have:=hs.ok.own b (by rw[hg]; simp)
     omega
  obtain⟨arr,ty,r1,r2,r3,_⟩:=hs.obs o cells hob
  refine⟨m.k1,e,fun b hb=>⟨(q4 b (h4 b hb) (hB1 b hb)).1,(q4 b (h4 b hb) (hB1 b hb)).2.1⟩, ?_⟩
  refine Ki r q1 (cells:=cells.set (p0+m.off) (.sl m.es')) (by rw[PZ,if_pos rfl,hob]; rfl) (fun x hx=>hC x (List.mem_cons_of_mem _ hx)) (fun x hx=> ?_) hch (fun b hb=>⟨(q4 b (h4 b hb) (hB1 b hb)).1,(q4 b (h4 b hb) (hB1 b hb)).2.2⟩) (fun x hx=> ?_) (fun w3 w4 gc h5 h6 h7=>hQ w3 w4 gc h5 (h6.trans q2) h7)
  ·obtain⟨n',hn'⟩:=hk x (List.mem_cons_of_mem _ hx)
   rw[Pa]
   split
   ·exact⟨0,rfl⟩
   ·rw[hn']; exact⟨n',by simp⟩
  ·rw[hcs x (List.mem_cons_of_mem _ hx),q2]
   exact(bV (q3 o _ r3)).symm
end Go.Own

/- A region that hands a struct of an object to a function that turns its slices: told of states. -/
namespace Go.Own
open Go.RowKit
set_option linter.unusedVariables false

theorem PF.calm{g:G}{w w1:World}(hok:GOk g w)(h:PF w w1)(st:St):xP g w g w1 (fun _=>False) st:=
 ⟨⟨h.size,fun b hb _=>⟨rfl,h.keep b hb⟩⟩,fun _ h=>h.elim, .inl fun b hb=>⟨⟨Nat.lt_of_lt_of_le hb.1 h.size,hb.2⟩,h.keep b hb.1⟩,h.os,h.tape,h.output,⟨fun b hb=>Nat.lt_of_lt_of_le (hok.own b hb) h.size⟩⟩

def kS(_ _:Nat):K:= .S
theorem PI(g:G)(w:World)(l:Nat→Nat→Loc)(k:Int):RV g w kS l (.int .i64 k) (vI k):=⟨⟨by simp,by simp⟩,rfl, .int .i64 k⟩
theorem vI_ev{g:G}{w:World}{κ:Nat→Nat→K}{l:Nat→Nat→Loc}{v:Value}{k:Int}(h:RV g w κ l v (vI k)):v= .int .i64 k:=by
 have:=LF.scal (g':=g) (w':=w) (κ':= .F) (l':= .none) h.2 rfl
 have this:Rd _ _ _ _:=this
 cases this; rfl

def St.mkSt(st:St)(o p0 t t' r r0:Nat)(rs:List MR)(k k':Int):St:=
 ((turnM o p0 rs ((st.put t (.one .junk) (fun _ _=> .D)).put t' (vI k) kS)).put r (vI k') kS).put r0 (vI k') kS

theorem EJ{o p0:Nat}: ∀ {rs:List MR} {st:St},(turnM o p0 rs st).n=st.n
 | [],st=>rfl
 | m::r,st=>by simp only[turnM]; rw[EJ]; rfl

theorem Na{P:Program}{τ:TypeId→Option TI}(hT:bJ P τ){g0:G}{w0:World}{st:St}{S:TypeId}{i:TI}{f:FuncId}{c:Call}{o p0 tp tk t t' r r0 id:Nat}{cells cells':List T}{k k':Int}{rs:List MR}{a:Act}{w:World}{Q:Exit→Act→World→Prop}
  {t1 t2 t3 t4:TypeId}{p1 p2 p3 p4:String}{f1 f2 f3 f4:Array Edge}(hs:Sim g0 w0 st a w)(hi:τ S=some i)(h1:i.agg=false→i.size=1)(hM:PX P f i.agg i.size (rs.map fun m=>(m.off,m.g)))(hle:p0+i.size≤cells.length)
  (hc1:c.callee= .value (.func f))(hc2:c.args= #[.tmp t, .tmp t'])(hd:(Nat.blt t t'&&Nat.blt t' r&&Nat.blt r st.n&&Nat.blt r0 st.n&& !(Nat.beq tk t)&& !(Nat.beq tp t))=true)
  (htp:st.sl tp= .one (.ptr o p0))(htk:st.sl tk=vI k)(hob:st.ob o=some cells)(hC: ∀m∈rs,TCm P m)(hk: ∀m∈rs, ∃n,st.fl (.oc o (p0+m.off))= .U n)(hch:Cx p0 rs cells k cells' k')
  (hQ: ∀a' w',Sim g0 w0 (st.mkSt o p0 t t' r r0 rs k k') a' w'→(∀z,z≠t→z≠t'→z≠r→z≠r0→a'.tmps.getD z undef=a.tmps.getD z undef)→Q .normal a' w'):
  (Code.region id #[⟨some t, .load S (.tmp tp),t1,p1,f1,none⟩,⟨some t', .move (.tmp tk),t2,p2,f2,none⟩,⟨some r, .call c,t3,p3,f3,none⟩,⟨some r0, .assign (.tmp r),t4,p4,f4,none⟩] false).wp P Q a w:=by
 obtain⟨g,hs⟩:=hs
 simp only[Bool.and_eq_true,Bool.not_eq_true']at hd
 obtain⟨⟨⟨⟨⟨e1,e2⟩,e3⟩,e4⟩,e5⟩,e6⟩:=hd
 have e1:=cJ e1; have e2:=cJ e2; have e3:=cJ e3; have e4:=cJ e4
 have e5:tk≠t:=fun h=>by rw[h,Nat.beq_refl]at e5; cases e5
 have hst1:(st.put t (.one .junk) (fun _ _=> .D)).n=st.n:=rfl
 obtain⟨arr,ty,r1,r2,r3,_⟩:=hs.obs o cells hob
 obtain⟨u,hu,hv⟩:=Nc hT hi (p:=p0) r1 (by rw[r2]; exact hle) h1
 have hptr:a.tmps.getD tp undef= .pointer (some ⟨g.β o,p0,none⟩):=by
  have:=hs.slots tp
  rw[htp]at this
  exact this
 have hkv:a.tmps.getD tk undef= .int .i64 k:=by
  have:=hs.slots tk
  rw[htk]at this
  exact vI_ev this
 refine wp_region ?_
 show wpOps P _ Q [0,1,2,3] a w
 rw[wpOps_cons]
 refine tA rfl rfl (KN (v:=u) (sG (ρ:=a.eval) (x:= .tmp tp) rfl hptr hu) ?_)
 show wpOps P _ Q [1,2,3] (a.put (some t) u) w
 have g1: ∀j,(a.put (some t) u).tmps.getD j undef=if j=t then u else a.tmps.getD j undef:=fun j=>Act.put_getD a t _ j (by rw[hs.size]; omega)
 have hs1:=hs.set (d:=t) (u:=u) (r:= .one .junk) (κ:=fun _ _=> .D) (by omega) trivial (fun h=>absurd rfl h)
 generalize a.put (some t) u=a1 at g1 hs1
 rw[wpOps_cons]
 refine tA rfl rfl (KN (v:= .int .i64 k) (by
  rw[NM (x:= .tmp tk) rfl]
  show Result.ok (Next.value (a1.tmps.getD tk undef)) w=_
  rw[g1,if_neg e5,hkv]) ?_)
 show wpOps P _ Q [2,3] (a1.put (some t') (.int .i64 k)) w
 have g2: ∀j,(a1.put (some t') (.int .i64 k)).tmps.getD j undef=if j=t' then .int .i64 k else a1.tmps.getD j undef:=fun j=>Act.put_getD a1 t' _ j (by rw[hs1.size]; show t'<st.n; omega)
 have hs2:=hs1.set (d:=t') (u:= .int .i64 k) (r:=vI k) (κ:=kS) (by show t'<st.n; omega) (PI g w _ k) (fun h=>absurd rfl h)
 generalize a1.put (some t') (.int .i64 k)=a2 at g2 hs2
 rw[wpOps_cons]
 refine tA rfl rfl (Ms (c:=c) rfl hc1 ?_)
 have hargs:c.args.map a2.eval= #[u, .int .i64 k]:=by
  have q1:a2.eval (.tmp t)=u:=by
   show a2.tmps.getD t undef=_
   rw[g2,if_neg (by omega),g1,if_pos rfl]
  have q2:a2.eval (.tmp t')= .int .i64 k:=by
   show a2.tmps.getD t' undef=_
   rw[g2,if_pos rfl]
  rw[hc2]
  simp [q1,q2]
 rw[hargs]
 have hlen:((arr.toList.drop p0).take i.size).length=i.size:=by simp; omega
 have hoff: ∀m∈rs,m.off<i.size:=fun m hm=>hM.1 (m.off,m.g) (List.mem_map.2 ⟨m,hm,rfl⟩)
 refine hM.2 u _ k w (fun _=>False) _ hv hlen (fun _ h=>h.elim) (Ki rs (cells:=cells) hs2 hob hC (fun m hm=> ?_) hch (fun _ h=>h.elim) (fun m hm=> ?_) (fun w1 w2 gb h5 h6 hE=> ?_))
 ·obtain⟨n,hn⟩:=hk m hm
  exact⟨n,hn⟩
 ·rw[List.getElem?_take,if_pos (hoff m hm),List.getElem?_drop,bU w _ _ arr ty _ r1]; simp
 ·show wpOps P _ Q [3] (a2.put (some r) (.int .i64 k')) w2
  have g3: ∀j,(a2.put (some r) (.int .i64 k')).tmps.getD j undef=if j=r then .int .i64 k' else a2.tmps.getD j undef:=fun j=>Act.put_getD a2 r _ j (by rw[hs2.size]; show r<st.n; omega)
  have hs3:=h5.put (hE.calm h5.ok _) (fun _=>rfl) (d:=r) (by rw[EJ]; show r<st.n; omega) (fun _ _ _ _ h=>h) (u:= .int .i64 k') (r:=vI k') (κ:=kS) (PI gb w2 _ k') (fun h=>absurd rfl h)
  generalize a2.put (some r) (.int .i64 k')=a3 at g3 hs3
  rw[wpOps_cons]
  refine tA rfl rfl (KN (v:= .int .i64 k') (by
   rw[Ja (x:= .tmp r) rfl]
   show Result.ok (Next.value (a3.tmps.getD r undef)) w2=_
   rw[g3,if_pos rfl]) ?_)
  have g4: ∀j,(a3.put (some r0) (.int .i64 k')).tmps.getD j undef=if j=r0 then .int .i64 k' else a3.tmps.getD j undef:=fun j=>Act.put_getD a3 r0 _ j (by
   rw[hs3.size]
   show r0<(turnM o p0 rs _).n
   rw[EJ]
   show r0<st.n
   omega)
  have hs4:=hs3.set (d:=r0) (u:= .int .i64 k') (r:=vI k') (κ:=kS) (by
   show r0<(turnM o p0 rs _).n
   rw[EJ]
   show r0<st.n
   omega) (PI gb w2 _ k') (fun h=>absurd rfl h)
  show Q .normal (a3.put (some r0) (.int .i64 k')) w2
  refine hQ _ w2 ⟨gb,hs4⟩ (fun z z1 z2 z3 z4=> ?_)
  rw[g4,if_neg z4,g3,if_neg z3,g2,if_neg z2,g1,if_neg z1]
end Go.Own

/- A region that hands a struct of an object to a function that turns its slices: told without the data. -/
namespace Go.Own
open Go.RowKit
set_option linter.unusedVariables false

theorem uW{F:FA}{n:Nat}{b:B}{x:D}{s:St}(hA:Ag F b x)(h:Low n b x s){d:Nat}{r:V}{κ:Nat→Nat→K}:Low n (b.filt (oU F d)) x (s.put d r κ):=by
 have hhas: ∀i,(b.filt (oU F d)).has i=true→b.has i=true∧i≠d∧aS d (aG (F.shOf i))=false:=fun i hi=>by
  rw[fG,Bool.and_eq_true]at hi
  have h1:=hi.1
  simp only[oU,Bool.and_eq_true,Bool.not_eq_true']at h1
  exact⟨hi.2,(fun e=>by rw[e,Nat.beq_refl]at h1; cases h1.1),h1.2⟩
 have hroot: ∀i,(b.filt (oU F d)).has i=true→aS d (aG (s.sl i))=false:=fun i hi=>by
  obtain⟨h1,_,h2⟩:=hhas i hi
  rw[h.sl i h1]
  rcases hA.sl i h1 with e2 | e2
  ·rw[e2]; rfl
  ·rw[cV e2]; exact h2
 have hkd: ∀i k j,(b.filt (oU F d)).has i=true→(b.filt (oU F d)).kd (.s i k j)=b.kd (.s i k j):=fun i k j hi=>fM (by rw[fG,Bool.and_eq_true]at hi; exact hi.1)
 have hfl: ∀i k j,(b.filt (oU F d)).has i=true→(s.put d r κ).fl (.s i k j)=s.fl (.s i k j):=fun i k j hi=>by
  simp only[St.put,if_neg (hhas i hi).2.1]
  rw[if_neg]
  rintro ⟨_,_,h3⟩
  rw[hroot i hi]at h3; cases h3
 refine⟨h.n,fun i hi=> ?_,fun o ho=>h.ob o ho,fun l t hL ht=> ?_,fun i k xs hi hx=> ?_,fun i hi hr' hf=> ?_⟩
 ·simp only[St.put,if_neg (hhas i hi).2.1]; exact h.sl i (hhas i hi).1
 ·cases l with
  | s i k j=>rw[hfl i k j hL,hkd i k j hL]; exact h.fl (.s i k j) t (hhas i hL).1 ht
  | oc o j=>exact h.fl (.oc o j) t hL ht
  | _=>cases hL
 ·rw[hfl i k 0 hi,hkd i k 0 hi]; exact h.cp i k xs (hhas i hi).1 hx
 ·rw[hfl i 0 0 hi]
  rw[hkd i 0 0 hi]at hf
  exact h.al i (hhas i hi).1 hr' hf

theorem Lb{F:FA}{b:B}{l:Loc}{o:Nat}:(b.turn F l).hasO o=b.hasO o:=by
 unfold B.turn B.killV
 rw[gK,BQ,gK,gK]
theorem QV(es es':List (List T))(u:T):tO (.sl es) u=tO (.sl es') u:=by cases u<;>rfl
theorem My{F:FA}{n:Nat}{b:B}{x:D}{s:St}(hA:Ag F b x)(h:Low n b x s){o j:Nat}{es es':List (List T)}(hV: ∀i,b.has i=true→s.fl (.s i 0 0)= .V→b.kd (.s i 0 0)= .V)(hL:b.hasO o=true)(hat:x.at (.oc o j)=some (.sl es)):
  Ag F (b.turn F (.oc o j)) (x.upd (.oc o j) (.sl es'))∧Low n (b.turn F (.oc o j)) (x.upd (.oc o j) (.sl es')) (s.turn (.oc o j) (.U 0) (.sl es')):=by
 have hl0:isL (.oc o j) .none=false:=rfl
 have hA1:Ag F (b.killV F) x:=hA.setf _ _
 have h1:Low n (b.killV F) x s.killV:=jU hA h rfl (fun l _ hh=>by
  by_cases e:b.kd l= .V
  ·rw[if_pos e]; exact Fo _
  ·rw[if_neg e]
   by_cases e2:s.fl l= .V
   ·rw[e2]at hh
    have:b.kd l= .D:=by
     revert hh e
     cases b.kd l<;>simp [K.lo]
    rw[this]; exact Fo _
   ·rw[if_neg e2]; exact hh) (fun i hi hh hf=>by
   by_cases e:b.kd (.s i 0 0)= .V
   ·rw[if_pos e]at hf; exact absurd rfl hf
   ·rw[if_neg e]at hf
    have:=hh hf
    by_cases e2:s.fl (.s i 0 0)= .V
    ·exact absurd (hV i hi e2) e
    ·rw[if_neg e2]; exact this)
 have hA2:Ag F ((b.killV F).setf F (isL (.oc o j)) (fun m q=>if isL (.oc o j) m=true then .D else q)) x:=hA1.setf _ _
 have h2:Low n ((b.killV F).setf F (isL (.oc o j)) (fun m q=>if isL (.oc o j) m=true then .D else q)) x (s.killV.drop (isL (.oc o j))):=jU hA1 h1 hl0 (fun m _ hh=>by
   by_cases e:isL (.oc o j) m=true
   ·rw[if_pos e,if_pos e]; exact cZ _
   ·rw[if_neg e,if_neg e]; exact hh) (fun i _ hh hf=>by
   by_cases e:isL (.oc o j) (.s i 0 0)=true
   ·rw[if_pos e]at hf; exact absurd rfl hf
   ·rw[if_neg e]at hf ⊢; exact hh hf)
 have hL2:((b.killV F).setf F (isL (.oc o j)) (fun m q=>if isL (.oc o j) m=true then .D else q)).hasL (.oc o j)=true:=by
  show B.hasO _ o=true
  unfold B.killV
  rw[gK,gK]; exact hL
 have h3:=HO (z:= .sl es') hA2 h2 hL2 hat (by simp)
 have hA3:=(hA2.upd (z:= .sl es') hL2 hat (fun u=>QV es es' u)).filt (lZ F (.oc o j))
 refine⟨hA3.setf _ _,jU (R:=isL (.oc o j)) (f:=fun m=>if m= .oc o j then .U 0 else((s.killV.drop (isL (.oc o j))).upd (.oc o j) (.sl es')).fl m) hA3 h3 hl0 (fun m _ hh=> ?_) (fun i _ hh hf=> ?_)⟩
 ·by_cases e:m= .oc o j
  ·rw[if_pos e,if_pos e]; exact cZ _
  ·rw[if_neg e,if_neg e]; exact hh
 ·rw[if_neg (by simp)]at hf ⊢; exact hh hf
theorem Mx{st:St}{l:Loc}{κ:K}{z:T}(hκ:κ≠ .V)(m:Loc):(st.turn l κ z).fl m≠ .V:=by
 unfold St.turn St.raise
 refine oO (fun m=> ?_) m
 split
 ·exact hκ
 ·show((st.killV.drop (isL l)).upd l z).fl m≠ .V
  have h0: ∀m,(st.killV.drop (isL l)).fl m≠ .V:=fun m=>by
   refine oO (fun m=> ?_) m
   split
   ·simp
   ·exact pO st m
  cases m with
  | s i k j=>
   simp only[St.upd]
   split
   ·simp
   ·exact h0 _
  | none=>exact h0 .none
  | ext=>exact h0 .ext
  | obj o=>exact h0 (.obj o)
  | oc o j=>exact h0 (.oc o j)
theorem Fs{F:FA}{n o p0:Nat}{cells':List T}{k':Int}: ∀(rs:List MR) {b:B} {x:D} {s:St} {cells:List T} {k:Int},Ag F b x→Low n b x s→(∀i,b.has i=true→s.fl (.s i 0 0)= .V→b.kd (.s i 0 0)= .V)→b.hasO o=true→x.ob o=some cells→Cx p0 rs cells k cells' k'→
  Ag F (B.turnM F o p0 (rs.map (·.off)) b) (D.updM o p0 rs x)∧Low n (B.turnM F o p0 (rs.map (·.off)) b) (D.updM o p0 rs x) (turnM o p0 rs s)
 | [],b,x,s,cells,k,hA,h,_,_,_,_=>⟨hA,h⟩
 | m::r,b,x,s,cells,k,hA,h,hV,hL,hob,hch=>by
  obtain⟨h1,rfl,h2⟩:=hch
  have hat:x.at (.oc o (p0+m.off))=some (.sl m.es):=by
   show(x.ob o).bind (·[p0+m.off]?)=_
   rw[hob]; exact h1
  obtain⟨q1,q2⟩:=My (es':=m.es') hA h hV hL hat
  refine Fs r q1 q2 (fun i _ e=>absurd e (Mx (by simp) _)) (by rw[Lb]; exact hL) ?_ h2
  show rB x.ob (.oc o (p0+m.off)) (.sl m.es') o=_
  simp only[rB,if_true,hob]; rfl
end Go.Own

/- A region that hands a struct of an object to a function that turns its slices: sound. -/
namespace Go.Own
open Go.RowKit
set_option linter.unusedVariables false

theorem QO(k:Int)(s:V):Own.fits (vI k) s=Own.fits (vI 0) s:=by
 cases s with
 | tup ws=>rfl
 | one w=>cases w<;>first | rfl | (rename_i y; cases y<;>rfl)

theorem Py{P:Program}{τ:TypeId→Option TI}{Sgs:FuncId→List Sg}(hT:bJ P τ){F:FA}{b b':B}{x:D}(hA:Ag F b x){S:TypeId}{i:TI}{f:FuncId}{c:Call}{o p0 tp tk t t' r r0 r2 id:Nat}{cells cells':List T}{k k':Int}{rs:List MR}
  {t1 t2 t3 t4:TypeId}{p1 p2 p3 p4:String}{f1 f2 f3 f4:Array Edge}(hi:τ S=some i)(h1:i.agg=false→i.size=1)(hM:PX P f i.agg i.size (rs.map fun m=>(m.off,m.g)))(hle:p0+i.size≤cells.length)
  (hc1:c.callee= .value (.func f))(hc2:c.args= #[.tmp t, .tmp t'])(hr2:r2=r)(htp:x.sl tp= .one (.ptr o p0))(htk:x.sl tk=vI k)(hob:x.ob o=some cells)
  (hC: ∀m∈rs, ∀sg∈Sgs m.g,sg.np=2→sg.no=0→TC P m.g sg [.one (.c (.sl m.es)), .one (.c (.int .i64 m.k))] [] (.one (.c (.int .i64 m.k1))) (some (.sl m.es')) [] none)(hch:Cx p0 rs cells k cells' k')
  (hc:mkC τ Sgs F b (rs.map fun m=>(m.off,m.g)) [⟨some t, .load S (.tmp tp),t1,p1,f1,none⟩,⟨some t', .move (.tmp tk),t2,p2,f2,none⟩,⟨some r, .call c,t3,p3,f3,none⟩,⟨some r0, .assign (.tmp r2),t4,p4,f4,none⟩]=some b'):
  Ag F b' ((D.updM o p0 rs x).put r0 (vI k'))∧ ∀g0 w0 (Q:Exit→Act→World→Prop) a w,Sim g0 w0 (b.S F.n x) a w→(∀a' w',Sim g0 w0 (b'.S F.n ((D.updM o p0 rs x).put r0 (vI k'))) a' w'→(∀z,z≠t→z≠t'→z≠r→z≠r0→a'.tmps.getD z undef=a.tmps.getD z undef)→Q .normal a' w')→
   (Code.region id #[⟨some t, .load S (.tmp tp),t1,p1,f1,none⟩,⟨some t', .move (.tmp tk),t2,p2,f2,none⟩,⟨some r, .call c,t3,p3,f3,none⟩,⟨some r0, .assign (.tmp r2),t4,p4,f4,none⟩] false).wp P Q a w:=by
 subst hr2
 simp only[mkC]at hc
 split at hc<;>try cases hc
 rename_i o' p0' hsh
 obtain⟨hq,hc⟩:=aJ hc
 simp only[Bool.and_eq_true]at hq
 obtain⟨⟨⟨⟨⟨c1,c2⟩,c3⟩,c4⟩,c5⟩,c6⟩:=hq
 have hop:o'=o∧p0'=p0:=by
  have hf:=hA.fits c1 (by rw[htp]; simp)
  rw[htp,hsh]at hf
  simp only[Own.fits,bZ,Bool.and_eq_true]at hf
  exact⟨(Nat.eq_of_beq_eq_true hf.1).symm,(Nat.eq_of_beq_eq_true hf.2).symm⟩
 obtain⟨rfl,rfl⟩:=hop
 cases hc
 have hc4: ∀m∈rs,(∃n,b.kd (.oc o' (p0'+m.off))= .U n)∧ ∃sg∈Sgs m.g,okSg sg=true:=fun m hm=>by
  have:=List.all_eq_true.1 c4 (m.off,m.g) (List.mem_map.2 ⟨m,hm,rfl⟩)
  simp only[Bool.and_eq_true]at this
  refine⟨?_,List.any_eq_true.1 this.2⟩
  revert this
  cases b.kd (.oc o' (p0'+m.off))<;>simp [isU]
 have hTC: ∀m∈rs,TCm P m:=fun m hm=>by
  obtain⟨sg,h2,h3⟩:=(hc4 m hm).2
  simp only[okSg,Bool.and_eq_true]at h3
  obtain⟨⟨⟨⟨⟨⟨q1,q2⟩,q3⟩,q4⟩,q5⟩,q6⟩,q7⟩:=h3
  exact⟨sg,hC m hm sg h2 (Nat.eq_of_beq_eq_true q2) (Nat.eq_of_beq_eq_true q3),of_decide_eq_true q1,Nat.eq_of_beq_eq_true q2,Pv q4,q5,q6,of_decide_eq_true q7⟩
 have hl0:=Low.self F.n b x
 have hl1:=uW (d:=t) (r:= .one .junk) (κ:=fun _ _=> .D) hA hl0
 have hA1:=hA.filt (oU F t)
 have hl2:=uW (d:=t') (r:=vI k) (κ:=kS) hA1 hl1
 have hA2:=hA1.filt (oU F t')
 have hV: ∀i,((b.filt (oU F t)).filt (oU F t')).has i=true→(((b.S F.n x).put t (.one .junk) (fun _ _=> .D)).put t' (vI k) kS).fl (.s i 0 0)= .V→((b.filt (oU F t)).filt (oU F t')).kd (.s i 0 0)= .V:=fun i hi hv=>by
  rw[fG,fG,Bool.and_eq_true,Bool.and_eq_true]at hi
  obtain⟨h2,h3,h4⟩:=hi
  rw[fM h2,fM h3]
  have e1:i≠t':=fun e=>by rw[e]at h2; simp [oU,Nat.beq_refl]at h2
  have e2:i≠t:=fun e=>by rw[e]at h3; simp [oU,Nat.beq_refl]at h3
  simp only[St.put,if_neg e1,if_neg e2]at hv
  split at hv
  ·cases hv
  ·split at hv
   ·cases hv
   ·exact hv
 obtain⟨hA3,hl3⟩:=Fs rs hA2 hl2 hV c2 hob hch
 have hl4:=uW (d:=r2) (r:=vI k') (κ:=kS) hA3 hl3
 have hA4:=hA3.filt (oU F r2)
 have hfit:Own.fits (vI k') (F.shOf r0)=true:=by rw[QO]; exact c6
 have hl5:=HT (d:=r0) (r:=vI k') (κ:=kS) (f:=fun _ _=> .S) hA4 hl4 (.inr hfit) (fun _ _ _ _=>rfl) (fun kk xs h=>by cases kk<;>simp [vI,V.comp]at h) (fun h=>absurd rfl h)
 have hA5:=hA4.put (d:=r0) (r:=vI k') (f:=fun _ _=> .S) (.inr hfit)
 have hmap:(rs.map fun m=>(m.off,m.g)).map (·.1)=rs.map (·.off):=by rw[List.map_map]; rfl
 rw[hmap]
 refine⟨hA5.nrm,fun g0 w0 Q a w hs hQ=> ?_⟩
 exact Na hT hs hi h1 hM hle hc1 hc2 (by simp only[Bool.and_eq_true]; exact c5) (by rw[qL c1]; exact htp) (by rw[qL c3]; exact htk) (by rw[JS c2]; exact hob) hTC (fun m hm=>(hc4 m hm).1) hch (fun a' w' hs' hz=>hQ a' w' (hs'.relax (hl5.le hA5)) hz)
end Go.Own

/- A region whose order is drawn comes out alike in every order. -/
namespace Go.Own
open Go.RowKit

theorem bS.drawn{g0:G}{w0:World}{st:St}{a:Act}{g:G}{w:World}(n:Nat)(h:bS g0 w0 st a g w):bS g0 w0 st a g { w with drawn:=n }:=by
 have hE:Evo g w g { w with drawn:=n } (fun _=>False):=⟨Nat.le_refl _,fun b _ _=>⟨rfl,rfl⟩⟩
 have hC:xP g w g { w with drawn:=n } (fun _=>False) st:= { evo:=hE,X:=fun _ h=>h.elim,V:= .inl fun b hb=>⟨hb,rfl⟩,os:=rfl,tape:=rfl,output:=rfl,ok:=⟨h.ok.own⟩ }
 refine⟨h.framed.trans hC.framed,hC.ok,h.size,h.defers,fun i=>RV.calm hC h.ok (fun _=>rfl) (fun _ _ _ h=>h) (h.slots i),fun o cells hc=> ?_,fun i hi hf=> ?_,h.bp,h.nle⟩
 ·obtain⟨arr,ty,h1,h2,h3,h4⟩:=h.obs o cells hc
  refine⟨arr,ty,h1,h2,h3,fun j x hx=> ?_⟩
  obtain⟨c,c1,c2,c3⟩:=h4 j x hx
  exact⟨c,c1,c2,hC.lf h.ok (by simp) (fun _ h=>h) c3⟩
 ·obtain⟨h1,h2⟩:=h.pls i hi hf
  refine⟨h1,h2.congr ?_ rfl (fun v0 x0 p v' x' e1 e2 e3=>h.pl_evo hE (fun h=>h) h1 (fun h=>h) e1 e2 e3)⟩
  cases aG (st.sl i)<;>rfl
theorem Sim.drawn{g0:G}{w0:World}{s:St}{a:Act}{w:World}(n:Nat)(h:Sim g0 w0 s a w):Sim g0 w0 s a { w with drawn:=n }:=by
 obtain⟨g,h⟩:=h
 exact⟨g,h.drawn n⟩
/-- All that has to be ahead of what is listed is listed. -/
def Hq(ops:Array Oper)(D:Nat→Prop):Prop:= ∀j o,ops[j]? =some o→D j→ ∀e∈o.after,Region.binds .any e=true→D e.on

theorem EH(ops:Array Oper)(D:Nat→Prop)(hD:Hq ops D): ∀(l:List Oper) (acc:Array Nat),(∀k o,l[k]? =some o→ops[acc.size+k]? =some o)→
  (∀j i,D j→j<acc.size→(acc.getD j 0).testBit i=true→D i)→
  ∀j i,D j→((l.foldl (init:=acc) fun acc o=>acc.push (o.after.foldl (fun s e=>if Region.binds .any e then s||| 2 ^ e.on||| acc.getD e.on 0 else s) 0)).getD j 0).testBit i=true→D i
 | [],acc,_,h2,j,i,hj,hb=>by
  simp only[List.foldl_nil]at hb
  by_cases hlt:j<acc.size
  ·exact h2 j i hj hlt hb
  ·have:acc.getD j 0=0:=by simp [Array.getD,hlt]
   rw[this]at hb; simp at hb
 | o::r,acc,h1,h2,j,i,hj,hb=>by
  rw[List.foldl_cons]at hb
  refine EH ops D hD r _ (fun k o' hk=> ?_) (fun j i hj hlt hb=> ?_) j i hj hb
  ·rw[Array.size_push,Nat.add_assoc,Nat.add_comm 1 k]
   exact h1 (k+1) o' (by simpa using hk)
  ·rw[Array.size_push]at hlt
   by_cases e:j=acc.size
   ·have ho:ops[j]? =some o:=by
     have:=h1 0 o rfl
     rw[e]; exact this
    subst e
    have hb':((o.after.foldl (fun s e=>if Region.binds .any e then s||| 2 ^ e.on||| acc.getD e.on 0 else s) 0)).testBit i=true:=by
     simpa [Array.getD]using hb
    rw[←Array.foldl_toList]at hb'
    have key: ∀(es:List Edge) (s:Nat),(∀e∈es,e∈o.after)→(s.testBit i=true→D i)→(es.foldl (fun s e=>if Region.binds .any e then s||| 2 ^ e.on||| acc.getD e.on 0 else s) s).testBit i=true→D i:=by
     intro es
     induction es with
     | nil=>intro s _ hs h; exact hs h
     | cons e es ih=>
      intro s hmem hs h
      rw[List.foldl_cons]at h
      refine ih _ (fun e he=>hmem e (List.mem_cons_of_mem _ he)) (fun h=> ?_) h
      split at h
      ·rename_i hbd
       have hon:=hD _ o ho hj e (hmem e List.mem_cons_self) hbd
       rw[Nat.testBit_or,Nat.testBit_or,Bool.or_eq_true,Bool.or_eq_true]at h
       rcases h with(h | h) | h
       ·exact hs h
       ·rw[Nat.testBit_two_pow]at h
        have:e.on=i:=by simpa using h
        rw[←this]; exact hon
       ·by_cases hlt:e.on<acc.size
        ·exact h2 _ _ hon hlt h
        ·have:acc.getD e.on 0=0:=by simp [Array.getD,hlt]
         rw[this]at h; simp at h
      ·exact hs h
    exact key _ 0 (fun e he=>Array.mem_toList_iff.1 he) (by simp) hb'
   ·refine h2 j i hj (by omega) ?_
    have hlt':j<acc.size:=by omega
    rw[Array.getD_eq_getD_getElem?,Array.getElem?_push_lt hlt']at hb
    rw[Array.getD_eq_getD_getElem?,Array.getElem?_eq_getElem hlt']; exact hb

theorem FL{ops:Array Oper}{D:Nat→Prop}(hD:Hq ops D){j i:Nat}(hj:D j)(h:((Region.before ops).getD j 0).testBit i=true):D i:=by
 unfold Region.before at h
 rw[←Array.foldl_toList]at h
 exact EH ops D hD ops.toList #[] (fun k o hk=>by simpa using hk) (fun j i _ hlt=>by simp at hlt) j i hj h

/-! ### levels -/
def Ik(F:FA)(L L':Lvl):Prop:= ∀m b,zP m L=some b→ ∃b',zP m L'=some b'∧Cv F b b'
theorem Ik.refl(F:FA)(L:Lvl):Ik F L L:=fun _ b h=>⟨b,h,Cv.refl F b⟩
theorem Ik.trans{F:FA}{a b c:Lvl}(h:Ik F a b)(k:Ik F b c):Ik F a c:=fun e x hx=>by
 obtain⟨y,h1,h2⟩:=h e x hx
 obtain⟨z,k1,k2⟩:=k e y h1
 exact⟨z,k1,h2.trans k2⟩

theorem LY{F:FA}{m:Nat}{b:B}{mt:B→B→B}: ∀ {L L':Lvl},Sp F m b mt L=some L'→Ik F L L'∧ ∃b',zP m L'=some b'∧Cv F b b'
 | [],L',h=>by
  cases h
  exact⟨fun _ _ h=>(by cases h),b,by simp [zP],Cv.refl F b⟩
 | (m',b0)::r,L',h=>by
  unfold Sp at h
  cases hm:Nat.beq m m' with
  | true=>
   rw[hm]at h
   simp only[cond_true]at h
   obtain⟨hc,h⟩:=aJ h
   simp only[Bool.and_eq_true]at hc
   cases h
   have e:=Nat.eq_of_beq_eq_true hm
   subst e
   refine⟨fun m2 b2 h2=> ?_,_,by simp [zP],Ct hc.2⟩
   simp only[zP]at h2 ⊢
   cases h3:Nat.beq m2 m with
   | true=>rw[h3]at h2; cases h2; exact⟨_,rfl,Ct hc.1⟩
   | false=>rw[h3]at h2; exact⟨b2,h2,Cv.refl F b2⟩
  | false=>
   rw[hm]at h
   simp only[cond_false]at h
   split at h<;>try cases h
   rename_i r' hr
   obtain⟨k1,b',k2,k3⟩:=LY hr
   refine⟨fun m2 b2 h2=> ?_,b',by simp only[zP,hm,cond_false]; exact k2,k3⟩
   simp only[zP]at h2 ⊢
   cases h3:Nat.beq m2 m' with
   | true=>rw[h3]at h2; cases h2; exact⟨_,rfl,Cv.refl F _⟩
   | false=>rw[h3]at h2; exact k1 m2 b2 h2

section
variable {τ:TypeId→Option TI} {Sgs:FuncId→List Sg} {F:FA} {ds:List (Option Nat)} {mt:B→B→B}

theorem yG{m:Nat}{b:B}: ∀ {r:List Oper} {i:Nat} {acc acc':Lvl},wV τ Sgs F ds mt m b i r acc=some acc'→Ik F acc acc'∧ ∀k o,r[k]? =some o→m.testBit (i+k)=false→xV m o=true→
  ∃b1 b2,Cb τ Sgs F ds b o=some b1∧zP (m||| 2 ^ (i+k)) acc'=some b2∧Cv F b1 b2
 | [],i,acc,acc',h=>by cases h; exact⟨Ik.refl F acc,fun k o hk=>by simp at hk⟩
 | o::r,i,acc,acc',h=>by
  unfold wV at h
  cases hc:(m.testBit i|| !(xV m o))with
  | true=>
   rw[hc]at h
   obtain⟨h1,h2⟩:=yG (show wV τ Sgs F ds mt m b (i+1) r acc=some acc' from h)
   refine⟨h1,fun k o' hk hb hr=> ?_⟩
   cases k with
   | zero=>
    simp only[List.getElem?_cons_zero,Option.some.injEq]at hk
    subst hk
    rw[Nat.add_zero]at hb
    rw[hb,hr]at hc
    cases hc
   | succ k=>
    rw[show i+(k+1)=i+1+k by omega]at hb ⊢
    exact h2 k o' (by simpa using hk) hb hr
  | false=>
   rw[hc]at h
   simp only[cond_false]at h
   split at h<;>try cases h
   rename_i b1 hb1
   split at h<;>try cases h
   rename_i acc1 ha
   obtain⟨a1,b2,a2,a3⟩:=LY ha
   obtain⟨h1,h2⟩:=yG h
   refine⟨a1.trans h1,fun k o' hk hb hr=> ?_⟩
   cases k with
   | zero=>
    simp only[List.getElem?_cons_zero,Option.some.injEq]at hk
    subst hk
    rw[Nat.add_zero]
    obtain⟨b3,q1,q2⟩:=h1 _ b2 a2
    exact⟨b1,b3,hb1,q1,a3.trans q2⟩
   | succ k=>
    rw[show i+(k+1)=i+1+k by omega]at hb ⊢
    exact h2 k o' (by simpa using hk) hb hr

theorem BR{os:List Oper}: ∀ {L acc L':Lvl},Hm τ Sgs F ds mt os L acc=some L'→Ik F acc L'∧ ∀m b,zP m L=some b→ ∀(k:Nat) o,os[k]? =some o→m.testBit k=false→xV m o=true→
  ∃b1 b2,Cb τ Sgs F ds b o=some b1∧zP (m||| 2 ^ k) L'=some b2∧Cv F b1 b2
 | [],acc,L',h=>by cases h; exact⟨Ik.refl F acc,fun m b h=>by cases h⟩
 | (m',b0)::r,acc,L',h=>by
  unfold Hm at h
  split at h<;>try cases h
  rename_i acc1 ha
  obtain⟨a1,a2⟩:=yG ha
  obtain⟨h1,h2⟩:=BR h
  refine⟨a1.trans h1,fun m b hm k o hk hb hr=> ?_⟩
  simp only[zP]at hm
  cases h3:Nat.beq m m' with
  | true=>
   rw[h3]at hm
   cases hm
   have e:=Nat.eq_of_beq_eq_true h3
   subst e
   obtain⟨b1,b2,q1,q2,q3⟩:=a2 k o hk (by rw[Nat.zero_add]; exact hb) hr
   rw[Nat.zero_add]at q2
   obtain⟨b3,q4,q5⟩:=h1 _ b2 q2
   exact⟨b1,b3,q1,q4,q3.trans q5⟩
  | false=>
   rw[h3]at hm
   exact h2 m b hm k o hk hb hr
end

section
variable {P:Program} {τ:TypeId→Option TI} {Sgs:FuncId→List Sg} {F:FA} {x x1 x2:D} {o:Oper} {b b1:B}

/-- A step. -/
theorem SD.step(hT:bJ P τ)(hA:Ag F b x){ops:Array Oper}{i:Nat}(hi:ops[i]? =some o)(h:SD P τ Sgs F (ops.toList.map (·.dst)) o x x1)(hc:Cb τ Sgs F (ops.toList.map (·.dst)) b o=some b1):
  Ag F b1 x1∧ ∀g0 w0 (Q:Exit→Act→World→Prop) (K:Act→World→Prop) a w,Sim g0 w0 (b.S F.n x) a w→(∀v w',Sim g0 w0 (b1.S F.n x1) (a.put o.dst v) w'→K (a.put o.dst v) w')→wpOp P ops Q i K a w:=by
 obtain⟨b0,hr,e1,hgb,hun⟩:=NJ hc
 have fin: ∀(t:Bool),bC (ops.toList.map (·.dst)) x o.guard=some t→(∀g0 w0 (Q:Exit→Act→World→Prop) (K:Act→World→Prop) a w,Sim g0 w0 (b.S F.n x) a w→(∀v w',Sim g0 w0 (b1.S F.n x1) (a.put o.dst v) w'→K (a.put o.dst v) w')→if t then o.wp P a w K Q else K (a.put o.dst undef) w)→
   ∀g0 w0 (Q:Exit→Act→World→Prop) (K:Act→World→Prop) a w,Sim g0 w0 (b.S F.n x) a w→(∀v w',Sim g0 w0 (b1.S F.n x1) (a.put o.dst v) w'→K (a.put o.dst v) w')→wpOp P ops Q i K a w:=fun t hg hone g0 w0 Q K a w hs hK=>by
  have hw:Region.wanted o (yielded ops a.tmps)=t:=by
   obtain⟨g,hsg⟩:=hs
   exact Gp (F:=F) hsg hgb hg
  exact Ke hi t hw (hone g0 w0 Q K a w hs hK)
 rcases h with⟨hg,rfl⟩ | ⟨hg,h1⟩ | ⟨hg,c,v,f,caps,ob,ob',r,nw,ho,hcal,hni,hx,hth,hob,hC,hsh,rfl⟩ | ⟨hg,c,v,f,r,t,xs,l,p,x0,es,es',ho,hcal,hio,hx,hth,hargs,hal,hat,hnav,hC,hsh,rfl⟩
 ·have hgn:o.guard≠none:=fun e=>by rw[e]at hg; cases hg
  obtain⟨hA1,hsk⟩:=Sx hA (hun hgn)
  rw[←e1]at hA1 hsk
  exact⟨hA1,fin false hg (fun g0 w0 Q K a w hs hK=>hK undef w (hsk _ _ _ _ hs))⟩
 ·have hr':cOp τ F b o=some b0:=by
   unfold Qj at hr
   rw[yH h1]at hr
   exact hr
  have hop:=op_S hT hA h1 hr'
  obtain⟨hA1,cs⟩:=((KX (F:=F) (fzL F b0 o.dst) b0).trans (Hi F _)) x1 hop.ag
  rw[←e1]at hA1 cs
  exact⟨hA1,fin true hg (fun g0 w0 Q K a w hs hK=>(hop.ok g0 w0).w Q K a w hs (fun v w' hs'=>hK v w' (cs _ _ _ _ hs')))⟩
 ·have hr':PT Sgs F b o c v=some b0:=by
   unfold Qj at hr
   rw[tF ho hcal]at hr
   simp only[hni,cond_false]at hr
   exact hr
  unfold PT at hr'
  split at hr'<;>try cases hr'
  rename_i f' caps' hshp
  obtain⟨sg,hsg,hcc⟩:=BP hr'
  obtain⟨hn,hcc⟩:=aJ hcc
  simp only[Bool.and_eq_true]at hn
  have hkv:dX b v=true:=by
   have hcc:=hcc
   unfold Me at hcc
   obtain⟨hq,_⟩:=aJ hcc
   simp only[Bool.and_eq_true]at hq
   exact hq.1.1.1.1.1.1.1.1.1.1
  have hfc:f'=f∧caps'=caps:=by
   rcases Cc hA hkv hx (by simp)with hf | ⟨_,hs⟩
   ·rw[hshp]at hf
    simp only[Own.fits,bZ,Bool.and_eq_true]at hf
    exact⟨(Nat.eq_of_beq_eq_true hf.1).symm,(of_decide_eq_true hf.2).symm⟩
   ·rw[hshp]at hs
    cases hs
    exact⟨rfl,rfl⟩
  obtain⟨rfl,rfl⟩:=hfc
  have hlen:(inV x c caps' (lE F c v)).length=c.args.toList.length+caps'.length:=by simp [inV]
  have hol:ob.length=(lE F c v).length:=by have:=congrArg List.length hob; simpa using this
  have hnp:sg.np=(inV x c caps' (lE F c v)).length:=by rw[hlen]; exact Nat.eq_of_beq_eq_true hn.1
  have hC:=hC sg hsg hnp (by rw[hol]; exact Nat.eq_of_beq_eq_true hn.2)
  obtain⟨hA0,hop⟩:=VB (P:=P) hA ho hcal hx hC rfl hob hnp hth hsh hcc
  obtain⟨hA1,cs⟩:=((KX (F:=F) (fzL F b0 o.dst) b0).trans (Hi F _)) _ hA0
  rw[←e1]at hA1 cs
  exact⟨hA1,fin true hg (fun g0 w0 Q K a w hs hK=>hop g0 w0 Q K a w hs (fun v w' hs'=>hK v w' (cs _ _ _ _ hs')))⟩
 ·have hr':ioC Sgs F b o c v=some b0:=by
   unfold Qj at hr
   rw[tF ho hcal]at hr
   simp only[hio,cond_true]at hr
   exact hr
  unfold ioC at hr'
  split at hr'<;>try cases hr'
  rename_i f' caps' hshp
  obtain⟨sg,hsg,hcc⟩:=BP hr'
  obtain⟨hn,hcc⟩:=aJ hcc
  simp only[Bool.and_eq_true]at hn
  have hkv:dX b v=true:=by
   have hcc:=hcc
   unfold cIo at hcc
   rw[hargs]at hcc
   simp only at hcc
   split at hcc<;>try cases hcc
   obtain⟨hq,_⟩:=aJ hcc
   simp only[Bool.and_eq_true]at hq
   exact hq.1.1.1.1.1.1.1.1.1.1.1.1.1.1.1.1
  have hfc:f'=f:=by
   rcases Cc hA hkv hx (by simp)with hf | ⟨_,hs⟩
   ·rw[hshp]at hf
    simp only[Own.fits,bZ,Bool.and_eq_true]at hf
    exact(Nat.eq_of_beq_eq_true hf.1).symm
   ·rw[hshp]at hs
    cases hs
    rfl
  subst hfc
  have hlen:(inV x c [] []).length=c.args.toList.length:=by simp [inV]
  have hnp:sg.np=(inV x c [] []).length:=by rw[hlen]; exact Nat.eq_of_beq_eq_true hn.1.1
  have hC:=hC sg hsg hnp (Nat.eq_of_beq_eq_true hn.2)
  obtain⟨hA0,hop⟩:=OB (P:=P) hA ho hcal hx hC rfl hnp hth hargs hal hat hnav hsh hcc
  obtain⟨hA1,cs⟩:=((KX (F:=F) (fzL F b0 o.dst) b0).trans (Hi F _)) _ hA0
  rw[←e1]at hA1 cs
  exact⟨hA1,fin true hg (fun g0 w0 Q K a w hs hK=>hop g0 w0 Q K a w hs (fun v w' hs'=>hK v w' (cs _ _ _ _ hs')))⟩

theorem Jm{ops:Array Oper}{listed:Array Bool}{i:Nat}(hsz:listed.size=ops.size)(hi:i<ops.size)(hun:listed.getD i true=false): ∃A C:List Nat,(List.range ops.size).filter (fun j=> !listed.getD j true)=A++i::C∧
  (List.range ops.size).filter (fun j=> !(listed.setIfInBounds i true).getD j true)=A++C∧ ∀j∈A,j<i∧listed.getD j true=false:=by
 have hr:List.range ops.size=List.range' 0 i++i::List.range' (i+1) (ops.size - i - 1):=by
  rw[List.range_eq_range',show ops.size=i+(1+(ops.size - i - 1))by omega, ←List.range'_append_1, ←List.range'_append_1]
  simp
 have h1: ∀j,j≠i→(listed.setIfInBounds i true).getD j true=listed.getD j true:=fun j hj=>getD_set_ne true (Ne.symm hj)
 have hset:(listed.setIfInBounds i true).getD i true=true:=by
  have:i<listed.size:=by omega
  simp [Array.getD,this]
 refine⟨(List.range' 0 i).filter (fun j=> !listed.getD j true),(List.range' (i+1) (ops.size - i - 1)).filter (fun j=> !listed.getD j true), ?_, ?_,fun j hj=> ?_⟩
 ·rw[hr,List.filter_append,List.filter_cons_of_pos (by simp [hun])]
 ·rw[hr,List.filter_append,List.filter_cons_of_neg (by simp [hset])]
  congr 1
  ·exact List.filter_congr fun j hj=>by
    have:=List.mem_range'_1.1 hj
    rw[h1 j (by omega)]
  ·exact List.filter_congr fun j hj=>by
    have:=List.mem_range'_1.1 hj
    rw[h1 j (by omega)]
 ·rw[List.mem_filter]at hj
  have:=List.mem_range'_1.1 hj.1
  exact⟨by omega,by simpa using hj.2⟩

theorem VF(hT:bJ P τ){ops:Array Oper}(hO:Ap F (ops.toList.map (·.dst)) ops=true){mt:B→B→B}{mf:Nat}{bf:B}{xn:D}{g0:G}{w0:World}{Q:Exit→Act→World→Prop}{a0:Act}
  (hQ: ∀a w,Ag F bf xn→Sim g0 w0 (bf.S F.n xn) a w→(∀z,Ig z ops.toList=true→a.tmps.getD z undef=a0.tmps.getD z undef)→Q .normal a w):
  ∀(k:Nat) (listed:Array Bool) (m:Nat) (L:Lvl) (b:B) (x:D) (a:Act) (w:World),Cr τ Sgs F (ops.toList.map (·.dst)) mt ops.toList k L=some [(mf,bf)]→zP m L=some b→listed.size=ops.size→(∀i,i<ops.size→m.testBit i=listed.getD i false)→
   Hq ops (fun j=>listed.getD j false=true)→(List.range ops.size).countP (fun i=> !listed.getD i true)=k→Ag F b x→KM P τ Sgs F (ops.toList.map (·.dst)) ops ((List.range ops.size).filter fun j=> !listed.getD j true) x xn→Sim g0 w0 (b.S F.n x) a w→
   (∀z,Ig z ops.toList=true→a.tmps.getD z undef=a0.tmps.getD z undef)→wpAny P .any ops Q k listed a w:=by
 simp only[Ap,Bool.and_eq_true,List.all_eq_true,List.mem_range]at hO
 obtain⟨hedge,hpair⟩:=hO
 have hgd: ∀(listed:Array Bool) j,listed.size=ops.size→j<ops.size→listed.getD j true=listed.getD j false:=by
  intro listed j h1 h2
  have:j<listed.size:=by omega
  simp [Array.getD,this]
 have hall: ∀listed:Array Bool,listed.size=ops.size→Region.ready .any ops listed=[]→ ∀j,j<ops.size→listed.getD j false=true:=by
  intro listed hsz hr j
  induction j using Nat.strongRecOn with
  | _ j ih=>
   intro hj
   rcases Bool.eq_false_or_eq_true (listed.getD j false)with h | h
   ·exact h
   ·exfalso
    have:j∈Region.ready .any ops listed:=by
     rw[mem_ready]
     refine⟨by rw[hgd listed j hsz hj]; exact h,ops[j],Array.getElem?_eq_getElem hj,fun e he hb=> ?_⟩
     have h1:=hedge j hj
     rw[Array.getElem?_eq_getElem hj]at h1
     simp only[Array.all_eq_true_iff_forall_mem]at h1
     have h2:=h1 e he
     simp only[hb,Bool.not_true,Bool.false_or]at h2
     have h3:e.on<j:=cJ h2
     exact ih e.on h3 (by omega)
    rw[hr]at this; cases this
 intro k
 induction k with
 | zero=>
  intro listed m L b x a w hL hm hsz hbit hcl hcount hA hrun hs hz
  have hlist: ∀j,j<ops.size→listed.getD j true=true:=fun j hj=>by
   rw[List.countP_eq_zero]at hcount
   have:=hcount j (List.mem_range.2 hj)
   simpa using this
  have hr:Region.ready .any ops listed=[]:=by
   apply List.eq_nil_iff_forall_not_mem.2
   intro j hj
   obtain⟨h1,o,ho,_⟩:=mem_ready.1 hj
   rw[hlist j (Array.getElem?_eq_some_iff.1 ho).1]at h1; cases h1
  refine⟨hr, ?_⟩
  have hf:(List.range ops.size).filter (fun j=> !listed.getD j true)=[]:=List.filter_eq_nil_iff.2 fun j hj=>by rw[hlist j (List.mem_range.1 hj)]; simp
  rw[hf]at hrun
  have hx:x=xn:=hrun
  subst hx
  cases hL
  simp only[zP]at hm
  cases h3:Nat.beq m mf with
  | true=>rw[h3]at hm; cases hm; exact hQ a w hA hs hz
  | false=>rw[h3]at hm; cases hm
 | succ k ih=>
  intro listed m L b x a w hL hm hsz hbit hcl hcount hA hrun hs hz
  unfold Cr at hL
  split at hL<;>try cases hL
  rename_i L' hL'
  refine⟨fun hr=> ?_,fun i hi=> ?_⟩
  ·exfalso
   have:(List.range ops.size).countP (fun i=> !listed.getD i true)=0:=List.countP_eq_zero.2 fun j hj=>by
    rw[hgd listed j hsz (List.mem_range.1 hj),hall listed hsz hr j (List.mem_range.1 hj)]; simp
   omega
  ·obtain⟨hun,o,ho,hafter⟩:=mem_ready.1 hi
   have hlt:i<ops.size:=(Array.getElem?_eq_some_iff.1 ho).1
   have hun':listed.getD i false=false:=by rw[←hgd listed i hsz hlt]; exact hun
   obtain⟨A,C,f1,f2,f3⟩:=Jm hsz hlt hun
   have hcl':Hq ops (fun j=>(listed.setIfInBounds i true).getD j false=true):=by
    intro j oj hoj hj e he hb
    by_cases hij:i=j
    ·subst hij
     rw[ho]at hoj; cases hoj
     exact getD_set_true (hafter e he hb)
    ·rw[getD_set_ne false hij]at hj
     exact getD_set_true (hcl j oj hoj hj e he hb)
   have hset:(listed.setIfInBounds i true).getD i false=true:=by
    have:i<listed.size:=by omega
    simp [Array.getD,this]
   rw[f1]at hrun
   obtain⟨hfo,x1,hsd,hrun1⟩:=hrun.front ho (fun j hj a' ha'=>by
    obtain⟨j1,j2⟩:=f3 j hj
    have h1:=hpair i hlt j j1
    rw[ha',ho]at h1
    simp only[Bool.or_eq_true]at h1
    refine h1.resolve_left (fun h2=> ?_)
    have:=FL (D:=fun j=>(listed.setIfInBounds i true).getD j false=true) hcl' hset h2
    rw[getD_set_ne false (by omega)]at this
    rw[hgd listed j hsz (by omega)]at j2
    rw[j2]at this; cases this)
   have hrdy:xV m o=true:=by
    simp only[xV,List.all_eq_true]
    intro e he
    cases hb:Region.binds .any e with
    | false=>rfl
    | true=>
     have h1:=hafter e (Array.mem_toList_iff.1 he) hb
     have h2:=hedge i hlt
     rw[ho]at h2
     simp only[Array.all_eq_true_iff_forall_mem]at h2
     have h3:=h2 e (Array.mem_toList_iff.1 he)
     simp only[hb,Bool.not_true,Bool.false_or]at h3
     have h4:=cJ h3
     simp only[Bool.not_true,Bool.false_or]
     rw[hbit e.on (by omega)]; exact h1
   obtain⟨b1,b2,s1,s2,cv⟩:=(BR hL').2 m b hm i o (by rw[Array.getElem?_toList]; exact ho) (by rw[hbit i hlt]; exact hun') hrdy
   obtain⟨hA1,hw1⟩:=hsd.step hT hA ho s1
   obtain⟨hA2,cs⟩:=cv x1 hA1
   refine hw1 g0 w0 Q _ a w hs (fun v w' hs'=>ih (listed.setIfInBounds i true) (m||| 2 ^ i) L' b2 x1 _ w' hL s2 (by simpa using hsz) (fun j hj=> ?_) hcl' ?_ hA2 (by rw[f2]; exact hrun1) (cs _ _ _ _ hs') (fun z hno=> ?_))
   ·rw[Nat.testBit_or,Nat.testBit_two_pow,hbit j hj]
    by_cases hij:i=j
    ·subst hij; rw[hset]; simp
    ·rw[getD_set_ne false hij]; simp [hij]
   ·rw[List.countP_eq_length_filter]at hcount ⊢
    rw[f1]at hcount
    rw[f2]
    simp only[List.length_append,List.length_cons]at hcount ⊢
    omega
   ·have hne:o.dst≠some z:=by
     have key: ∀l:List Oper,Ig z l=true→ ∀o∈l,o.dst≠some z:=by
      intro l
      induction l with
      | nil=>intro _ o h; cases h
      | cons p r ihl=>
       intro h o hm
       simp only[Ig,Bool.and_eq_true,Bool.not_eq_true',decide_eq_false_iff_not]at h
       cases hm with
       | head=>exact h.1
       | tail _ hm=>exact ihl h.2 o hm
     exact key ops.toList hno o (Array.mem_toList_iff.2 (Array.mem_of_getElem? ho))
    rw[GD hne]; exact hz z hno

theorem Lr(hT:bJ P τ){ops:Array Oper}(hO:Ap F (ops.toList.map (·.dst)) ops=true){mt:B→B→B}{mf:Nat}{bf:B}{xn:D}:
  ∀(k j m:Nat) (L:Lvl) (b:B) (x:D),j+k=ops.size→Cr τ Sgs F (ops.toList.map (·.dst)) mt ops.toList k L=some [(mf,bf)]→zP m L=some b→(∀i,i<ops.size→m.testBit i=decide (i<j))→Ag F b x→
   KM P τ Sgs F (ops.toList.map (·.dst)) ops (List.range' j k) x xn→Ag F bf xn:=by
 simp only[Ap,Bool.and_eq_true,List.all_eq_true,List.mem_range]at hO
 obtain⟨hedge,_⟩:=hO
 intro k
 induction k with
 | zero=>
  intro j m L b x hjk hL hm hbit hA hrun
  have hx:x=xn:=hrun
  subst hx
  cases hL
  simp only[zP]at hm
  cases h3:Nat.beq m mf with
  | true=>rw[h3]at hm; cases hm; exact hA
  | false=>rw[h3]at hm; cases hm
 | succ k ih=>
  intro j m L b x hjk hL hm hbit hA hrun
  unfold Cr at hL
  split at hL<;>try cases hL
  rename_i L' hL'
  rw[List.range'_succ]at hrun
  obtain⟨o,x1,ho,_,hsd,hrun1⟩:=hrun
  have hlt:j<ops.size:=by omega
  have hrdy:xV m o=true:=by
   simp only[xV,List.all_eq_true]
   intro e he
   have h2:=hedge j hlt
   rw[ho]at h2
   simp only[Array.all_eq_true_iff_forall_mem]at h2
   have h3:=h2 e (Array.mem_toList_iff.1 he)
   cases hb:Region.binds .any e with
   | false=>rfl
   | true=>
    simp only[hb,Bool.not_true,Bool.false_or]at h3
    have h4:=cJ h3
    simp only[Bool.not_true,Bool.false_or]
    rw[hbit e.on (by omega)]; exact decide_eq_true h4
  obtain⟨b1,b2,s1,s2,cv⟩:=(BR hL').2 m b hm j o (by rw[Array.getElem?_toList]; exact ho) (by rw[hbit j hlt]; simp) hrdy
  obtain⟨hA1,_⟩:=hsd.step hT hA ho s1
  refine ih (j+1) (m||| 2 ^ j) L' b2 x1 (by omega) hL s2 (fun i hi=> ?_) (cv x1 hA1).1 hrun1
  rw[Nat.testBit_or,Nat.testBit_two_pow,hbit i hi]
  by_cases hij:i=j
  ·subst hij; simp
  ·have:(decide (i<j+1))=decide (i<j):=by
    by_cases h:i<j
    ·rw[decide_eq_true h,decide_eq_true (by omega)]
    ·rw[decide_eq_false h,decide_eq_false (by omega)]
   rw[this]
   simp; omega

theorem BH{ds:List (Option Nat)}: ∀ {os:List Oper} {b b2:B},KI τ Sgs F ds b os=some b2→Mp τ Sgs F ds b os=some b2
 | [],b,b2,h=>h
 | o::r,b,b2,h=>by
  unfold KI at h
  obtain⟨_,h⟩:=aJ h
  unfold Mp
  split at h<;>try cases h
  rename_i b1 h1
  first
   | (rw[h1]; exact BH h)
   | exact BH h
theorem Lk{ds:List (Option Nat)}{os:List Oper}{b b2:B}(h:KI τ Sgs F ds b (o::os)=some b2):o.op.operands.toList.all (dX b)=true∧ ∃b1,Cb τ Sgs F ds b o=some b1∧KI τ Sgs F ds b1 os=some b2:=by
 unfold KI at h
 obtain⟨h0,h⟩:=aJ h
 split at h<;>try cases h
 rename_i b1 h1
 exact⟨h0,b1,h1,h⟩
theorem Dn.of(hA:Ag F b x)(h:o.op.operands.toList.all (dX b)=true):Dn F x o:=fun v hv=>by
 have:=List.all_eq_true.1 h v (by simpa using hv)
 cases v with
 | tmp t=>exact hA.sl t this
 | _=>trivial
end
end Go.Own

/- Code's runs are what their data tell: the theorem. -/
namespace Go.Own
open Go.RowKit

section
variable {P:Program} {τ:TypeId→Option TI} {An:FuncId→FA} {Sgs:FuncId→List Sg}

theorem CB{ops:Array Oper}{i:Nat}{o:Oper}{r:List Oper}(h:ops.toList.drop i=o::r):ops[i]? =some o∧ops.toList.drop (i+1)=r:=by
 have h1:(ops.toList.drop i)[0]? =some o:=by rw[h]; rfl
 rw[List.getElem?_drop,Nat.add_zero,Array.getElem?_toList]at h1
 refine⟨h1, ?_⟩
 have:(ops.toList.drop i).drop 1=r:=by rw[h]; rfl
 rw[List.drop_drop]at this
 exact this

/-- Behind one operation, the rest. -/
theorem vT(hT:bJ P τ){F:FA}{ops:Array Oper}{i:Nat}{o:Oper}{r:List Oper}{x x1 x2:D}{b b':B}(hdrop:ops.toList.drop i=o::r)(hA:Ag F b x)(hsd:SD P τ Sgs F (ops.toList.map (·.dst)) o x x1)(hb:Mp τ Sgs F (ops.toList.map (·.dst)) b (o::r)=some b')
  (ih:Mot P τ Sgs (.ops F (ops.toList.map (·.dst)) r x1 x2)):
  Ag F b' x2∧(∀g0 w0 (Q:Exit→Act→World→Prop) a w,Sim g0 w0 (b.S F.n x) a w→(∀a' w',Sim g0 w0 (b'.S F.n x2) a' w'→(∀z,Ig z (o::r)=true→a'.tmps.getD z undef=a.tmps.getD z undef)→Q .normal a' w')→wpOps P ops Q (List.range' i (o::r).length) a w)∧
   ∀b2,KI τ Sgs F (ops.toList.map (·.dst)) b (o::r)=some b2→KM P τ Sgs F (ops.toList.map (·.dst)) ops (List.range' i (o::r).length) x x2:=by
 obtain⟨hi,hdrop'⟩:=CB hdrop
 simp only[Mp]at hb
 split at hb<;>try cases hb
 rename_i b1 hb1
 obtain⟨hA1,hw1⟩:=hsd.step hT hA hi hb1
 obtain⟨hA2,hw2,hr2⟩:=ih ops (i+1) hdrop' rfl b1 b' hb hA1
 refine⟨hA2,fun g0 w0 Q a w hs hQ=> ?_,fun b2 hK=> ?_⟩
 ·rw[List.length_cons,List.range'_succ,wpOps_cons]
  refine hw1 g0 w0 Q _ a w hs (fun v w' hs'=>hw2 g0 w0 Q _ w' hs' (fun a' w'' hs'' hz=>hQ a' w'' hs'' (fun z hno=> ?_)))
  simp only[Ig,Bool.and_eq_true,Bool.not_eq_true',decide_eq_false_iff_not]at hno
  rw[hz z hno.2]
  exact GD hno.1
 ·obtain⟨h0,b1',h1,h2⟩:=Lk hK
  rw[hb1]at h1; cases h1
  rw[List.length_cons,List.range'_succ]
  exact⟨o,x1,hi,Dn.of hA h0,hsd,hr2 b2 h2⟩

theorem GZ{K:Act→World→Prop}{Q:Exit→Act→World→Prop}{e:Ek}(he:e≠ .n){a:Act}{w:World}:Exit.then K Q e.exit a w=Q e.exit a w:=by
 cases e with
 | n=>exact absurd rfl he
 | r=>rfl
 | e i=>rfl

theorem Jq{Q:Exit→Act→World→Prop}{id:Nat}{e:Ek}{a:Act}{w:World}(h:Q (nH id e).exit a w):Exit.inBlock id Q e.exit a w:=by
 unfold nH at h
 cases e with
 | n=>rw[if_neg (by simp)]at h; exact h
 | r=>rw[if_neg (by simp)]at h; exact h
 | e i=>
  by_cases hi:i=id
  ·subst hi
   rw[if_pos rfl]at h
   simp only[Exit.inBlock,Ek.exit,if_true]
   exact h
  ·rw[if_neg (by simpa using hi)]at h
   simp only[Exit.inBlock,Ek.exit,if_neg hi]
   exact h

theorem BZ{F:FA}: ∀ {l:List V} {i0:Nat},mE F i0 l=true→ ∀ {i:Nat} {v:V},l[i]? =some v→fits v (F.shOf (i0+i))=true
 | [],_,_,i,v,h=>by simp at h
 | p::r,i0,h,0,v,h2=>by
  simp only[mE,Bool.and_eq_true]at h
  simp only[List.getElem?_cons_zero,Option.some.injEq]at h2
  subst h2; exact h.1
 | p::r,i0,h,i+1,v,h2=>by
  simp only[mE,Bool.and_eq_true]at h
  simp only[List.getElem?_cons_succ]at h2
  have:=BZ h.2 h2
  rwa[show i0+1+i=i0+(i+1)by omega]at this
theorem BY{F:FA}: ∀ {l:List (List T)} {i0:Nat},nJ F i0 l=true→ ∀ {i:Nat} {v:List T},l[i]? =some v→eU v (F.obOf (par+(i0+i)))=true
 | [],_,_,i,v,h=>by simp at h
 | p::r,i0,h,0,v,h2=>by
  simp only[nJ,Bool.and_eq_true]at h
  simp only[List.getElem?_cons_zero,Option.some.injEq]at h2
  subst h2; exact h.1
 | p::r,i0,h,i+1,v,h2=>by
  simp only[nJ,Bool.and_eq_true]at h
  simp only[List.getElem?_cons_succ]at h2
  have:=BY h.2 h2
  rwa[show i0+1+i=i0+(i+1)by omega]at this
theorem GG{x:D}: ∀ {l l':List (List T)} {i0:Nat},uF x i0 l=some l'→l'.length=l.length∧ ∀j,j<l.length→l'[j]? =x.ob (par+(i0+j))
 | [],l',i0,h=>by cases h; exact⟨rfl,fun j hj=>by simp at hj⟩
 | p::r,l',i0,h=>by
  unfold uF at h
  split at h<;>try cases h
  rename_i cs css h1 h2
  obtain⟨q1,q2⟩:=GG h2
  refine⟨by simp [q1],fun j hj=> ?_⟩
  cases j with
  | zero=>simp [h1]
  | succ j=>
   have:=q2 j (by simpa using hj)
   simp only[List.getElem?_cons_succ]
   rw[this,show i0+1+j=i0+(j+1)by omega]

theorem MH(hM:P.follows .mixedOrders=true)(hT:bJ P τ)(hS: ∀f sg,sg∈Sgs f→ ∀fn c,P.funcs[f]? =some fn→fn.body=some c→fnC τ An Sgs f sg fn c=true){J:Jd}(h:Big P τ An J):Mot P τ Sgs J:=by
 induction h with
 | skip F x=>exact fun b outs hb hA=>by cases hb; exact⟨b,0,rfl,hA,fun g0 w0 Q a w hs hQ=>⟨wp_skip (hQ a w hs (fun _ _=>rfl)),fun c' e=>by cases e⟩⟩
 | label F l x=>exact fun b outs hb hA=>by cases hb; exact⟨b,0,rfl,hA,fun g0 w0 Q a w hs hQ=>⟨wp_label (hQ a w hs (fun _ _=>rfl)),fun c' e=>by cases e⟩⟩
 | exit F i x=>
  intro b outs hb hA
  cases hb
  refine⟨b,0,by simp [qJ,wC],hA,fun g0 w0 Q a w hs hQ=>⟨wp_exit (hQ a w hs (fun _ _=>rfl)),fun c' e=>by cases e⟩⟩
 | ret F x=>exact fun b outs hb hA=>by cases hb; exact⟨b,0,rfl,hA,fun g0 w0 Q a w hs hQ=>⟨wp_ret (hQ a w hs (fun _ _=>rfl)),fun c' e=>by cases e⟩⟩
 | @seqN F c d x x1 x2 e h1 h2 ih1 ih2=>
  intro b outs hb hA
  simp only[qS]at hb
  split at hb<;>try cases hb
  rename_i o1 ho1
  obtain⟨b1,k1,g1,hA1,w1⟩:=ih1 b o1 ho1 hA
  rw[g1]at hb
  simp only at hb
  split at hb<;>try cases hb
  rename_i o2 ho2
  obtain⟨b2,k2,g2,hA2,w2⟩:=ih2 b1 o2 ho2 hA1
  obtain⟨m1,_⟩:=vW hb
  obtain⟨b3,g3,cv⟩:=m1 e b2 g2
  obtain⟨hA3,cs⟩:=cv x2 hA2
  refine⟨b3,0,g3,hA3,fun g0 w0 Q a w hs hQ=>⟨wp_seq (w1 g0 w0 _ a w hs (fun a' w' hs' hz=> ?_)).1,fun c' e=>by cases e⟩⟩
  refine(w2 g0 w0 Q a' w' hs' (fun a'' w'' hs'' hz2=>hQ a'' w'' (cs _ _ _ _ hs'') (fun z hno=> ?_))).1
  simp only[noD,Bool.and_eq_true]at hno
  rw[hz2 z hno.2,hz z hno.1]
 | @seqX F c d x x1 e h1 he ih1=>
  intro b outs hb hA
  simp only[qS]at hb
  split at hb<;>try cases hb
  rename_i o1 ho1
  obtain⟨b1,k1,g1,hA1,w1⟩:=ih1 b o1 ho1 hA
  have key: ∀b',qJ e outs=some b'→Ag F b' x1→(∀g0 w0 a w,Sim g0 w0 (b1.S F.n x1) a w→Sim g0 w0 (b'.S F.n x1) a w)→ ∃(b':B) (k:Nat),qJ e outs=some b'∧Ag F b' x1∧ ∀g0 w0 (Q:Exit→Act→World→Prop) a w,Sim g0 w0 (b.S F.n x) a w→
   (∀a' w',Sim g0 w0 (b'.S F.n x1) a' w'→(∀z,noD z (.seq c d)=true→a'.tmps.getD z undef=a.tmps.getD z undef)→Q e.exit a' w')→(Code.seq c d).wp P Q a w∧ ∀c',Code.seq c d= .loop c'→Code.rounds P c' Q k a w:=fun b' hg hA' hcv=>
   ⟨b',0,hg,hA',fun g0 w0 Q a w hs hQ=>⟨wp_seq (w1 g0 w0 _ a w hs (fun a' w' hs' hz=>by
    rw[GZ he]
    refine hQ a' w' (hcv _ _ _ _ hs') (fun z hno=> ?_)
    simp only[noD,Bool.and_eq_true]at hno
    exact hz z hno.1)).1,fun c' e=>by cases e⟩⟩
  cases hn:qJ .n o1 with
  | none=>
   rw[hn]at hb
   cases hb
   exact key b1 g1 hA1 (fun _ _ _ _ h=>h)
  | some bn=>
   rw[hn]at hb
   simp only at hb
   split at hb<;>try cases hb
   rename_i o2 ho2
   obtain⟨_,m2⟩:=vW hb
   obtain⟨b3,g3,cv⟩:=m2 e b1 (by rw[pP he]; exact g1)
   obtain⟨hA3,cs⟩:=cv x1 hA1
   exact key b3 g3 hA3 cs
 | @cond F cnd c d x x1 e t hc h1 ih1=>
  intro b outs hb hA
  simp only[qS]at hb
  obtain⟨hk,hb⟩:=aJ hb
  split at hb<;>try cases hb
  rename_i o1 o2 ho1 ho2
  obtain⟨m1,m2⟩:=vW hb
  have hcv: ∀ {g0:G} {w0:World} {a:Act} {w:World},Sim g0 w0 (b.S F.n x) a w→a.eval cnd= .bool t:=fun hs=>by
   obtain⟨g,hsg⟩:=hs
   have:=hsg.ev_rv cnd (fun _ _=> .none)
   rw[oZ hk,hc]at this
   exact HR this
  cases t with
  | true=>
   obtain⟨b1,k1,g1,hA1,w1⟩:=ih1 b o1 ho1 hA
   obtain⟨b3,g3,cv⟩:=m2 e b1 g1
   obtain⟨hA3,cs⟩:=cv x1 hA1
   refine⟨b3,0,g3,hA3,fun g0 w0 Q a w hs hQ=>⟨wp_cond_true (hcv hs) (w1 g0 w0 Q a w hs (fun a' w' hs' hz=>hQ a' w' (cs _ _ _ _ hs') (fun z hno=> ?_))).1,fun c' e=>by cases e⟩⟩
   simp only[noD,Bool.and_eq_true]at hno
   exact hz z hno.1
  | false=>
   obtain⟨b1,k1,g1,hA1,w1⟩:=ih1 b o2 ho2 hA
   obtain⟨b3,g3,cv⟩:=m1 e b1 g1
   obtain⟨hA3,cs⟩:=cv x1 hA1
   refine⟨b3,0,g3,hA3,fun g0 w0 Q a w hs hQ=>⟨wp_cond_false (hcv hs) (w1 g0 w0 Q a w hs (fun a' w' hs' hz=>hQ a' w' (cs _ _ _ _ hs') (fun z hno=> ?_))).1,fun c' e=>by cases e⟩⟩
   simp only[noD,Bool.and_eq_true]at hno
   exact hz z hno.2
 | @block F id c x x1 e h1 ih1=>
  intro b outs hb hA
  simp only[qS]at hb
  split at hb<;>try cases hb
  rename_i o1 ho1
  obtain⟨b1,k1,g1,hA1,w1⟩:=ih1 b o1 ho1 hA
  have key: ∀b',qJ (nH id e) outs=some b'→Cv F b1 b'→ ∃(b':B) (k:Nat),qJ (nH id e) outs=some b'∧Ag F b' x1∧ ∀g0 w0 (Q:Exit→Act→World→Prop) a w,Sim g0 w0 (b.S F.n x) a w→
   (∀a' w',Sim g0 w0 (b'.S F.n x1) a' w'→(∀z,noD z (.block id c)=true→a'.tmps.getD z undef=a.tmps.getD z undef)→Q (nH id e).exit a' w')→(Code.block id c).wp P Q a w∧ ∀c',Code.block id c= .loop c'→Code.rounds P c' Q k a w:=fun b' hg hcv=>by
   obtain⟨hA',cs⟩:=hcv x1 hA1
   exact⟨b',0,hg,hA',fun g0 w0 Q a w hs hQ=>⟨wp_block (w1 g0 w0 _ a w hs (fun a' w' hs' hz=>Jq (hQ a' w' (cs _ _ _ _ hs') hz))).1,fun c' e=>by cases e⟩⟩
  cases hi:qJ (.e id) o1 with
  | none=>
   rw[hi]at hb
   cases hb
   have hne:e≠ .e id:=fun he=>by subst he; rw[hi]at g1; cases g1
   have e1:nH id e=e:=by unfold nH; rw[if_neg hne]
   rw[e1]at key ⊢
   exact key b1 g1 (Cv.refl F b1)
  | some bi=>
   rw[hi]at hb
   simp only at hb
   obtain⟨a1,b',a2,a3⟩:=LZ hb
   by_cases he:e= .e id
   ·have e1:nH id e= .n:=by unfold nH; rw[if_pos he]
    rw[e1]at key ⊢
    rw[he,hi]at g1
    cases g1
    exact key b' a2 a3
   ·have e1:nH id e=e:=by unfold nH; rw[if_neg he]
    rw[e1]at key ⊢
    obtain⟨b3,g3,cv⟩:=a1 e b1 (by rw[pP he]; exact g1)
    exact key b3 g3 cv
 | @loopX F c x x1 e h1 he ih1=>
  intro b outs hb hA
  simp only[qS]at hb
  obtain⟨hd,o,cv,hf,ho,_,_⟩:=Ed hb
  obtain⟨hAh,csh⟩:=cv x hA
  obtain⟨b1,k1,g1,hA1,w1⟩:=ih1 hd o hf hAh
  refine⟨b1,1,by rw[ho,pP he]; exact g1,hA1,fun g0 w0 Q a w hs hQ=> ?_⟩
  have hr:Code.rounds P c Q 1 a w:=(w1 g0 w0 _ a w (csh _ _ _ _ hs) (fun a' w' hs' hz=>by rw[GZ he]; exact hQ a' w' hs' hz)).1
  exact⟨wp_loop_rounds 1 hr,fun c' e=>by cases e; exact hr⟩
 | @loopN F c x x1 x2 e h1 h2 ih1 ih2=>
  intro b outs hb hA
  simp only[qS]at hb
  obtain⟨hd,o,cv,hf,ho,hback,hfix⟩:=Ed hb
  obtain⟨hAh,csh⟩:=cv x hA
  obtain⟨b1,k1,g1,hA1,w1⟩:=ih1 hd o hf hAh
  obtain⟨hA1',csb⟩:=hback b1 g1 x1 hA1
  obtain⟨b2,k2,g2,hA2,w2⟩:=ih2 hd outs (hfix 3) hA1'
  refine⟨b2,k2+1,g2,hA2,fun g0 w0 Q a w hs hQ=> ?_⟩
  have hr:Code.rounds P c Q (k2+1) a w:=by
   rw[rounds_succ]
   refine(w1 g0 w0 _ a w (csh _ _ _ _ hs) (fun a' w' hs' hz=> ?_)).1
   exact(w2 g0 w0 Q a' w' (csb _ _ _ _ hs') (fun a'' w'' hs'' hz2=>hQ a'' w'' hs'' (fun z hno=>(hz2 z hno).trans (hz z hno)))).2 c rfl
  exact⟨wp_loop_rounds _ hr,fun c' e=>by cases e; exact hr⟩
 | @regionM F id x S i f c o p0 tp tk t t' r r0 r2 cells cells' k k' rs t1 t2 t3 t4 p1 p2 p3 p4 f1 f2 f3 f4 hmk hi h1 hM hle hc1 hc2 hr2 htp htk hob hch hB ihB=>
  intro b outs hb hA
  simp only[qS]at hb
  rw[show List.any (Array.toList _) Es=false from rfl]at hb
  simp only[hmk,cond_false]at hb
  split at hb<;>try cases hb
  rename_i b1 hb1
  obtain⟨hA1,hw⟩:=Py (Sgs:=Sgs) hT hA (id:=id) hi h1 hM hle hc1 hc2 hr2 htp htk hob (fun m hm sg h2 h3 h4=>ihB m hm sg h2 h3 h4) hch hb1
  obtain⟨hA2,cs⟩:=Hb F id b1 _ hA1
  refine⟨_,0,rfl,hA2,fun g0 w0 Q a w hs hQ=>⟨hw g0 w0 Q a w hs (fun a' w' hs' hz=>hQ a' w' (cs _ _ _ _ hs') (fun z hno=> ?_)),fun c' e=>by cases e⟩⟩
  simp only[noD,Ig,Bool.and_eq_true,Bool.not_eq_true',decide_eq_false_iff_not,Option.some.injEq]at hno
  exact hz z (Ne.symm hno.1) (Ne.symm hno.2.1) (Ne.symm hno.2.2.1) (Ne.symm hno.2.2.2.1)
 | @region F id ops dr x x1 hmk h1 ih1=>
  intro b outs hb hA
  simp only[qS,hmk,QT h1,cond_false]at hb
  cases dr with
  | true=>
   simp only[cond_true]at hb
   split at hb<;>try cases hb
   rename_i b1 hb1
   unfold anyC at hb1
   obtain⟨hc,hb1⟩:=aJ hb1
   simp only[Bool.and_eq_true]at hc
   obtain⟨hO,hK⟩:=hc
   split at hb1<;>try cases hb1
   rename_i mf hlv
   obtain⟨b2,hK⟩:=Option.isSome_iff_exists.1 hK
   obtain⟨hA1,_,hrun⟩:=ih1 ops 0 rfl rfl b b2 (BH hK) hA
   have hrun:=hrun b2 hK
   have hle:(List.range ops.size).filter (fun j=> !(Array.replicate ops.size false).getD j true)=List.range' 0 ops.toList.length:=by
    rw[List.filter_eq_self.2 (fun j hj=>by
     have:=List.mem_range.1 hj
     simp [Array.getD,this]),List.range_eq_range']
    simp
   have hgo: ∀(g0:G) (w0:World) (Q:Exit→Act→World→Prop) (a:Act) (w:World),Sim g0 w0 (b.S F.n x) a w→(∀a' w',Ag F b1 x1→Sim g0 w0 (b1.S F.n x1) a' w'→(∀z,Ig z ops.toList=true→a'.tmps.getD z undef=a.tmps.getD z undef)→Q .normal a' w')→
     wpAny P .any ops Q ops.size (Array.replicate ops.size false) a { w with drawn:=w.drawn+1 }:=fun g0 w0 Q a w hs hQ=>
    VF (a0:=a) hT hO hQ ops.size (Array.replicate ops.size false) 0 [(0,b)] b x a _ hlv (by simp [zP]) (by simp) (fun i hi=>by simp [Array.getD,hi]) (fun j o ho hj=>by
     have:=(Array.getElem?_eq_some_iff.1 ho).1
     simp [Array.getD,this]at hj) (by
     rw[List.countP_eq_length_filter,hle]; simp) hA (by rw[hle]; exact hrun) (hs.drawn _) (fun _ _=>rfl)
   have hA2:=Lr hT hO ops.size 0 0 [(0,b)] b x (by simp) hlv (by simp [zP]) (fun i hi=>by simp) hA (by simpa using hrun)
   obtain⟨hA3,cs⟩:=Hb F id b1 x1 hA2
   exact⟨_,0,rfl,hA3,fun g0 w0 Q a w hs hQ=>⟨wp_region_any hM (hgo g0 w0 Q a w hs (fun a' w' _ hs' hz=>hQ a' w' (cs _ _ _ _ hs') hz)),fun c' e=>by cases e⟩⟩
  | false=>
   simp only[cond_false]at hb
   split at hb<;>try cases hb
   rename_i b1 hb1
   obtain⟨hA1,w1,_⟩:=ih1 ops 0 rfl rfl b b1 hb1 hA
   obtain⟨hA2,cs⟩:=Hb F id b1 x1 hA1
   refine⟨_,0,rfl,hA2,fun g0 w0 Q a w hs hQ=>⟨wp_region ?_,fun c' e=>by cases e⟩⟩
   have:=w1 g0 w0 Q a w hs (fun a' w' hs' hz=>hQ a' w' (cs _ _ _ _ hs') hz)
   rw[List.range_eq_range']
   simpa using this
 | opsNil F ds x=>
  intro ops i _ _ b b' hb hA
  cases hb
  exact⟨hA,fun g0 w0 Q a w hs hQ=>hQ a w hs (fun _ _=>rfl),fun b2 _=>rfl⟩
 | @opsSkip F ds o r x x2 hg h2 ih2=>
  intro ops i hdrop hds b b' hb hA
  subst hds
  exact vT hT hdrop hA (.inl ⟨hg,rfl⟩) hb ih2
 | @opsRun F ds o r x x1 x2 hg h1 h2 ih2=>
  intro ops i hdrop hds b b' hb hA
  subst hds
  exact vT hT hdrop hA (.inr (.inl ⟨hg,h1⟩)) hb ih2
 | @opsCall F ds o rs x x2 c v f caps ob ob' r nw hg ho hcal hni hx hth hob h1 hsh h2 ih1 ih2=>
  intro ops i hdrop hds b b' hb hA
  subst hds
  exact vT hT hdrop hA (.inr (.inr (.inl ⟨hg,c,v,f,caps,ob,ob',r,nw,ho,hcal,hni,hx,hth,hob,fun sg hsg e1 e2=>ih1 sg hsg e1 e2,hsh,rfl⟩))) hb ih2
 | @opsIo F ds o rs x x2 c v f r t xs l p x0 es es' hg ho hcal hio hx hth hargs hal hat hnav h1 hsh h2 ih1 ih2=>
  intro ops i hdrop hds b b' hb hA
  subst hds
  exact vT hT hdrop hA (.inr (.inr (.inr ⟨hg,c,v,f,r,t,xs,l,p,x0,es,es',ho,hcal,hio,hx,hth,hargs,hal,hat,hnav,fun sg hsg e1 e2=>ih1 sg hsg e1 e2,hsh,rfl⟩))) hb ih2
 | @fn f fn c vs ob ob' e x' ws iov hf hb hsh hso h1 he hws hio hob ih1=>
  intro sg hsg hnp hno g w us hsim
  have hq:=hS f sg hsg fn c hf hb
  unfold fnC at hq
  cases hlb:(An f).lb with
  | some q=>
   exfalso
   rw[hlb]at hq
   obtain⟨_,l2,l3⟩:=LE hq
   obtain⟨v,vs',rfl⟩: ∃v vs',vs=v::vs':=by
    cases vs with
    | nil=>simp only[List.length_nil]at hnp; omega
    | cons v r=>exact⟨v,r,rfl⟩
   simp only[mE,Bool.and_eq_true,FA.shOf,l2,List.getElem?_nil]at hsh
   have h0:=hsh.1
   cases v with
   | one w=>cases w<;>exact absurd h0 (by simp [fits,bZ])
   | tup ws=>exact absurd h0 (by simp [fits])
  | none=>
  rw[hlb]at hq
  simp only at hq
  simp only[Bool.and_eq_true]at hq
  obtain⟨⟨⟨⟨⟨⟨⟨⟨⟨q1,q2⟩,q3⟩,q4⟩,q5⟩,q6⟩,q7⟩,q8⟩,q9⟩,q10⟩:=hq
  have hn:=Nat.eq_of_beq_eq_true q1
  have hp:=Nat.le_of_ble_eq_true q2
  have hio0:sg.io=(An f).io:=of_decide_eq_true q7
  cases hout:qS τ Sgs (An f) c sg.bi with
  | none=>rw[hout]at q10; cases q10
  | some outs=>
   rw[hout]at q10
   simp only[Bool.and_eq_true]at q10
   -- what it is entered with
   have hAg:Ag (An f) sg.bi (DA vs ob):=by
    refine⟨fun i hi=> ?_,fun o ho=> ?_⟩
    ·right
     simp only[B.has]at hi
     cases hl:cG i sg.bi.sl with
     | none=>rw[hl]at hi; cases hi
     | some κ=>
      have hlt:i<vs.length:=by rw[←hnp]; exact cJ (List.all_eq_true.1 q5 _ (fF hl))
      have:=BZ hsh (List.getElem?_eq_getElem hlt)
      rw[Nat.zero_add]at this
      have e:(DA vs ob).sl i=vs[i]:=by simp [DA,List.getD,List.getElem?_eq_getElem hlt]
      rw[e]; exact this
    ·simp only[B.hasO]at ho
     cases hl:cG o sg.bi.ob with
     | none=>rw[hl]at ho; cases ho
     | some κ=>
      have h3:=List.all_eq_true.1 q6 _ (fF hl)
      simp only[Bool.and_eq_true]at h3
      have h4:=Nat.le_of_ble_eq_true h3.1
      have h5:=cJ h3.2
      have hlt:o - par<ob.length:=by rw[←hno]; omega
      have:=BY hso (List.getElem?_eq_getElem hlt)
      rw[Nat.zero_add,Nat.add_sub_of_le h4]at this
      exact⟨ob[o - par],by simp [DA,h4,List.getElem?_eq_getElem hlt],this⟩
   obtain⟨b',k,hg,hA',hw⟩:=ih1 sg.bi outs hout hAg
   have hcall:(callFunc f us).run P w= .ok (.enter f us) w:=by
    have hne:fn.name≠ "runtime.NumGoroutine" :=by simpa using q4
    simp [callFunc,run_program,hf,hne,hb]
   rw[hcall]
   show Calls P f us w _
   refine calls_of_wp hf hb ?_
   have hsim2:=hsim.body (n:=fn.ntmps) (Nat.le_of_ble_eq_true q3) hp
   rw[hn]at hw
   refine(hw g w _ _ w ⟨g,hsim2⟩ (fun a' w' hs' hz=> ?_)).1
   obtain⟨g',hs'⟩:=hs'
   have hchk:xU (An f) b' sg.bo (yM (An f) fn.results.toList (An f).n0 (An f).io) 0 fn.results.toList=true∧Jy (An f) b' sg.bo (An f).n0=true∧Ma (An f) b' sg.bo fn.results.toList c=true:=by
    rcases he with rfl | rfl
    ·have:=q10.1; rw[hg]at this; simpa [and_assoc]using this
    ·have:=q10.2; rw[hg]at this; simpa [and_assoc]using this
   have hbo: ∀i,sg.bo.has i=true→i=0∨(i=1∧(An f).io.isSome=true):=fun i hi=>by
    simp only[B.has]at hi
    cases hl:cG i sg.bo.sl with
    | none=>rw[hl]at hi; cases hi
    | some κ=>
     have:=List.all_eq_true.1 q8 _ (fF hl)
     simp only[Bool.or_eq_true,Bool.and_eq_true]at this
     rcases this with h | h
     ·exact .inl (Nat.eq_of_beq_eq_true h)
     ·exact .inr ⟨Nat.eq_of_beq_eq_true h.1,h.2⟩
   have hobd: ∀oc o1,sg.bo.hasO oc=true→sI (An f).n0 o1=some oc→(DR ((HL ws).to (sI (An f).n0)) iov ob' ((An f).n0.bind x'.ob)).ob oc=x'.ob o1:=fun oc o1 hoc hret=>by
    -- the objects that were handed in
    obtain⟨hol,hog⟩:=GG hob
    simp only[sI]at hret
    split at hret
    ·rename_i hpo
     cases hret
     have h1:sg.bi.hasO oc=true:=by
      simp only[B.hasO]at hoc
      cases hl:cG oc sg.bo.ob with
      | none=>rw[hl]at hoc; cases hoc
      | some κ=>
       have:=List.all_eq_true.1 q9 _ (fF hl)
       simp only[Bool.or_eq_true]at this
       rcases this with h | h
       ·have:=Nat.eq_of_beq_eq_true h
        subst this
        exact absurd hpo EL
       ·exact h
     simp only[B.hasO]at h1
     cases hl:cG oc sg.bi.ob with
     | none=>rw[hl]at h1; cases h1
     | some κ=>
      have h3:=List.all_eq_true.1 q6 _ (fF hl)
      simp only[Bool.and_eq_true]at h3
      have h5:=cJ h3.2
      have hlt:oc - par<ob.length:=by rw[←hno]; omega
      have:=hog (oc - par) hlt
      rw[Nat.zero_add,Nat.add_sub_of_le hpo]at this
      simp only[DR,if_pos hpo,this]
    ·split at hret
     ·rename_i hpo hn0
      cases hret
      simp only[DR,if_neg EL,if_true,hn0,Option.bind_some]
     ·cases hret
   obtain⟨us',hl',hrun,g'',hfin⟩:=bS.ret hT hs' hA' (io:=(An f).io) (iov:=iov) (u1:=us.getD (sg.io.getD 0) undef) (ob:=ob') (nw:=(An f).n0.bind x'.ob) hws hchk.1 hchk.2.1 hobd (fun z e=>by
    have h3:=hchk.2.2
    unfold Ma at h3
    rw[e]at h3 hio
    simp only[Bool.and_eq_true,Bool.or_eq_true,Bool.not_eq_true',decide_eq_true_eq]at h3
    obtain⟨⟨⟨z1,z2⟩,z3⟩,z4⟩:=h3
    simp only[PO]at hio
    split at hio<;>try cases hio
    rename_i tt ht
    refine⟨?_,z1,⟨tt,ht,rfl⟩,z2,fun hh=> ?_⟩
    ·rw[hz z z4,hio0,e]
     show(us++Array.replicate (fn.ntmps - us.size) undef).getD z undef=us.getD z undef
     simp only[Array.getD_eq_getD_getElem?,Array.getElem?_append]
     split
     ·rfl
     ·rename_i hi
      rw[Array.getElem?_eq_none (xs:=us) (by omega)]
      simp only[Array.getElem?_replicate]
      split<;>rfl
    ·rcases z3 with z3 | z3
     ·rw[z3]at hh; cases hh
     ·rw[e]; exact z3) (fun hn=>by
    cases h1:sg.bo.has 1 with
    | false=>rfl
    | true=>
     rcases hbo 1 h1 with h | h
     ·cases h
     ·rw[hn]at h; cases h.2) (fun i hi=>by rcases hbo i hi with h | h<;>omega)
   have hres:=Hx (P:=P) (w:=w') (fn:=fn) (tmps:=a'.tmps) hl' hrun
   have hpost:bodyPost P fn (fun e w'=> ∃v,e= .returned v∧ ∃g',bS g w (sg.bo.S 2 (DR ((HL ws).to (sI (An f).n0)) iov ob' ((An f).n0.bind x'.ob))) ⟨#[v,us.getD (sg.io.getD 0) undef],[]⟩ g' w') .normal a' w':=⟨hs'.defers,_,hres,_,rfl,g'',hfin⟩
   rcases he with rfl | rfl
   ·exact hpost
   ·exact hpost
 | @lib f fn c vs r q hf hb hq h1=>
  intro sg hsg hnp hno
  have hh:=hS f sg hsg fn c hf hb
  unfold fnC at hh
  rw[hq]at hh
  obtain⟨e,_,_⟩:=LE hh
  rw[e]
  exact h1
end
end Go.Own

/- Conditions under which code runs on data to what is wanted. -/
namespace Go.Own
open Go.RowKit

section
variable (P:Program) (τ:TypeId→Option TI) (An:FuncId→FA)

/-- A run to what Q tells. -/
def Wd(F:FA)(c:Code)(x:D)(Q:Ek→D→Prop):Prop:= ∃e x',Big P τ An (.code F c x e x')∧Q e x'
def Wo(F:FA)(ds:List (Option Nat))(os:List Oper)(x:D)(Q:D→Prop):Prop:= ∃x',Big P τ An (.ops F ds os x x')∧Q x'

def Qp(K:D→Prop)(Q:Ek→D→Prop):Ek→D→Prop
 | .n,x=>K x
 | e,x=>Q e x
def blkD(id:Nat)(Q:Ek→D→Prop)(e:Ek)(x:D):Prop:=Q (nH id e) x

/-- A call's condition. -/
def Su(F:FA)(o:Oper)(c:Call)(v:Operand)(x:D)(K:D→Prop):Prop:=
 sB F c=false∧ ∃f caps ob ob' r nw,ev x.sl v= .one (.fn f caps)∧c.args.toList.all (fun v=>dZ (ev x.sl v))=true∧ob.map some=(lE F c v).map x.ob∧Big P τ An (.fn f (inV x c caps (lE F c v)) ob r none ob' nw)∧
  bH F (x.call o.dst (sJ F o.dst) (lE F c v) (DR r none ob' nw)) o.dst (sJ F o.dst) (lE F c v)=true∧K (x.call o.dst (sJ F o.dst) (lE F c v) (DR r none ob' nw))
/-- The condition of a call that turns its first argument in place. -/
def vcIo(F:FA)(o:Oper)(c:Call)(v:Operand)(x:D)(K:D→Prop):Prop:=
 sB F c=true∧ ∃f r t xs l p x0 es es',ev x.sl v= .one (.fn f [])∧c.args.toList.all (fun v=>dZ (ev x.sl v))=true∧c.args.toList= .tmp t::xs∧x.sl t= .one (.al l p)∧x.at l=some x0∧nav x0 p=some (.sl es)∧Big P τ An (.fn f (inV x c [] []) [] r (some (.sl es')) [] none)∧
  bH F (x.call o.dst none [] (DR r (some (.sl es')) [] none)) o.dst none []=true∧K ((x.call o.dst none [] (DR r (some (.sl es')) [] none)).upd l (eT x0 p (.sl es')))
def Ht(F:FA)(o:Oper)(x:D)(K:D→Prop):Prop:=match dH o with
 | some (c,v)=>Su P τ An F o c v x K∨vcIo P τ An F o c v x K
 | none=> ∃x1,dOp τ F x o=some x1∧K x1
def Ca(F:FA)(ds:List (Option Nat))(o:Oper)(x:D)(K:D→Prop):Prop:=match bC ds x o.guard with
 | some true=>Ht P τ An F o x K
 | some false=>K (pI x o.dst)
 | none=>False
def aY(F:FA)(ds:List (Option Nat)):List Oper→D→(D→Prop)→Prop
 | [],x,K=>K x
 | o::r,x,K=>Ca P τ An F ds o x (fun x1=>aY F ds r x1 K)

def vcC(F:FA):Code→D→(Ek→D→Prop)→Prop
 | .skip,x,Q=>Q .n x
 | .label _,x,Q=>Q .n x
 | .exit i,x,Q=>Q (.e i) x
 | .ret,x,Q=>Q .r x
 | .seq a b,x,Q=>vcC F a x (Qp (fun x1=>vcC F b x1 Q) Q)
 | .cond c a b,x,Q=> ∃t,ev x.sl c= .one (.c (.bool t))∧(t=true→vcC F a x Q)∧(t=false→vcC F b x Q)
 | .block id c,x,Q=>vcC F c x (blkD id Q)
 | .loop c,x,Q=>Wd P τ An F (.loop c) x Q
 | .region id ops dr,x,Q=>(cG id F.mks=none∧aY P τ An F (ops.toList.map (·.dst)) ops.toList x (fun x1=>Q .n x1))∨ ∃x1,Big P τ An (.code F (.region id ops dr) x .n x1)∧Q .n x1
 | _,_,_=>False
end

section
variable {P:Program} {τ:TypeId→Option TI} {An:FuncId→FA}

theorem vK{F:FA}{ds:List (Option Nat)}: ∀ {os:List Oper} {x:D} {K:D→Prop},aY P τ An F ds os x K→Wo P τ An F ds os x K
 | [],x,K,h=>⟨x, .opsNil F ds x,h⟩
 | o::r,x,K,h=>by
  simp only[aY,Ca]at h
  split at h
  ·rename_i hg
   unfold Ht at h
   split at h
   ·rename_i c v hc
    have hoc:o.op= .call c∧c.callee= .value v:=by
     unfold dH at hc
     split at hc<;>try cases hc
     rename_i c' ho
     split at hc<;>try cases hc
     rename_i v' hv
     exact⟨ho,hv⟩
    rcases h with⟨h0,f,caps,ob,ob',rr,nw,h1,h2,h3,h4,h5,h6⟩ | ⟨h0,f,rr,t,xs,l,p,x0,es,es',h1,h2,h3,h4,h5,h6,h7,h8,h9⟩
    ·obtain⟨x',q1,q2⟩:=vK h6
     exact⟨x', .opsCall hg hoc.1 hoc.2 h0 h1 h2 h3 h4 h5 q1,q2⟩
    ·obtain⟨x',q1,q2⟩:=vK h9
     exact⟨x', .opsIo hg hoc.1 hoc.2 h0 h1 h2 h3 h4 h5 h6 h7 h8 q1,q2⟩
   ·obtain⟨x1,h1,h2⟩:=h
    obtain⟨x',q1,q2⟩:=vK h2
    exact⟨x', .opsRun hg h1 q1,q2⟩
  ·rename_i hg
   obtain⟨x',q1,q2⟩:=vK h
   exact⟨x', .opsSkip hg q1,q2⟩
  ·exact h.elim

theorem xQ{F:FA}: ∀ {c:Code} {x:D} {Q:Ek→D→Prop},vcC P τ An F c x Q→Wd P τ An F c x Q
 | .skip,x,Q,h=>⟨.n,x, .skip F x,h⟩
 | .label l,x,Q,h=>⟨.n,x, .label F l x,h⟩
 | .exit i,x,Q,h=>⟨.e i,x, .exit F i x,h⟩
 | .ret,x,Q,h=>⟨.r,x, .ret F x,h⟩
 | .seq a b,x,Q,h=>by
  obtain⟨e,x1,h1,h2⟩:=xQ (c:=a) h
  by_cases he:e= .n
  ·subst he
   obtain⟨e2,x2,q1,q2⟩:=xQ (c:=b) h2
   exact⟨e2,x2, .seqN h1 q1,q2⟩
  ·refine⟨e,x1, .seqX h1 he, ?_⟩
   cases e with
   | n=>exact absurd rfl he
   | r=>exact h2
   | e i=>exact h2
 | .cond c a b,x,Q,h=>by
  obtain⟨t,hc,h1,h2⟩:=h
  cases t with
  | true=>
   obtain⟨e,x1,q1,q2⟩:=xQ (c:=a) (h1 rfl)
   exact⟨e,x1, .cond hc q1,q2⟩
  | false=>
   obtain⟨e,x1,q1,q2⟩:=xQ (c:=b) (h2 rfl)
   exact⟨e,x1, .cond hc q1,q2⟩
 | .block id c,x,Q,h=>by
  obtain⟨e,x1,h1,h2⟩:=xQ (c:=c) h
  exact⟨_,x1, .block h1,h2⟩
 | .loop c,x,Q,h=>h
 | .region id ops dr,x,Q,h=>by
  rcases h with⟨h0,h⟩ | ⟨x1,h1,h2⟩
  ·obtain⟨x1,h1,h2⟩:=vK h
   exact⟨.n,x1, .region h0 h1,h2⟩
  ·exact⟨.n,x1,h1,h2⟩
 | .scope c,x,Q,h=>h.elim
 | .rangeFunc _ _ _ _,x,Q,h=>h.elim
 | .goto _,x,Q,h=>h.elim
 | .refuse _,x,Q,h=>h.elim

end
end Go.Own

/- A function's run; how data are looked up. -/
namespace Go.Own
open Go.RowKit

section
variable {P:Program} {τ:TypeId→Option TI} {An:FuncId→FA}

theorem Big.of{f:FuncId}{fn:Func}{c:Code}{vs:List V}{ob ob':List (List T)}{r:V}{nw:Option (List T)}(hf:P.funcs[f]? =some fn)(hb:fn.body=some c)(hsh:mE (An f) 0 vs=true)(hso:nJ (An f) 0 ob=true)(hio:(An f).io=none)
  (h:vcC P τ An (An f) c (DA vs ob) (fun e x=>(e= .n∨e= .r)∧ ∃ws,Ay τ x fn.results.toList=some ws∧(HL ws).to (sI (An f).n0)=r∧uF x 0 ob=some ob'∧(An f).n0.bind x.ob=nw)):Big P τ An (.fn f vs ob r none ob' nw):=by
 obtain⟨e,x',h1,he,ws,h2,rfl,h3,rfl⟩:=xQ h
 exact .fn hf hb hsh hso h1 he h2 (by rw[hio]; rfl) h3

theorem Big.ofIo{f:FuncId}{fn:Func}{c:Code}{vs:List V}{ob ob':List (List T)}{r:V}{nw:Option (List T)}{z:Nat}{y:T}(hf:P.funcs[f]? =some fn)(hb:fn.body=some c)(hsh:mE (An f) 0 vs=true)(hso:nJ (An f) 0 ob=true)(hio:(An f).io=some z)
  (h:vcC P τ An (An f) c (DA vs ob) (fun e x=>(e= .n∨e= .r)∧ ∃ws,Ay τ x fn.results.toList=some ws∧(HL ws).to (sI (An f).n0)=r∧uF x 0 ob=some ob'∧(An f).n0.bind x.ob=nw∧x.sl z= .one (.c y))):Big P τ An (.fn f vs ob r (some y) ob' nw):=by
 obtain⟨e,x',h1,he,ws,h2,rfl,h3,rfl,h4⟩:=xQ h
 exact .fn hf hb hsh hso h1 he h2 (by rw[hio]; simp only[PO,h4]) h3

section
variable (x:D) (d i:Nat) (v:V)
@[simp] theorem put_ob:(x.put d v).ob=x.ob:=rfl.trans rfl
end
/-- A put whose shape is seen. -/
theorem eE{F:FA}{x:D}{d:Nat}{v:V}(h:fits v (F.shOf d)=true):pU F x d v=some (x.put d v):=by
 unfold pU; rw[h]; rfl
end
end Go.Own

/- From a row's world to the call. -/
namespace Go.Own
open Go.RowKit

def G.old:G:= { β:=fun _=>0,own:=fun _=> .none }

theorem TC.row{P:Program}{f:FuncId}{fn:Func}{c:Code}{sg:Sg}{args:List V}(h:TC P f sg args [] (.one (.c (.bool true))) none [] none)(hb0:sg.bo.has 0=true)(hbo:sg.bi.ob=[])(hnp:sg.np=args.length)(hle:sg.np≤par)
  (hf:P.funcs[f]? =some fn)(hb:fn.body=some c)(hname:(fn.name == "runtime.NumGoroutine")=false)(w:World)(us:Array Value)(hsz:us.size=args.length)
  (hroot: ∀i,aG (args.getD i (.one .junk))= .none)(hvs: ∀i,sg.bi.has i=true→RV G.old w (fun k j=>sg.bi.kd (.s i k j)) (fun k j=> .s i k j) (us.getD i undef) (args.getD i (.one .junk))):
  Calls P f us w fun e w'=>e= .returned (.bool true)∧Below w.heap.size w w':=by
 have hs:bS G.old w (sg.bi.S sg.np (DA args [])) ⟨us,[]⟩ G.old w:=by
  refine⟨oY.refl _ _,⟨fun b h=>absurd rfl h⟩,by rw[hsz, ←hnp]; rfl,rfl,fun i=> ?_,fun o cells ho=> ?_,fun i hi=> ?_,fun _ _=>rfl,hle⟩
  ·show RV _ w (fun k j=>sg.bi.kd (.s i k j)) _ (us.getD i undef) (if sg.bi.has i=true then args.getD i (.one .junk)else .one .junk)
   by_cases e:sg.bi.has i=true
   ·rw[if_pos e]; exact hvs i e
   ·rw[if_neg e]; trivial
  ·have ho':(if sg.bi.hasO o=true then(DA args []).ob o else none)=some cells:=ho
   split at ho'<;>try cases ho'
   rename_i e
   simp only[B.hasO,hbo,cG]at e
   cases e
  ·exfalso
   apply hi
   show aG (if sg.bi.has i=true then args.getD i (.one .junk)else .one .junk)= .none
   split
   ·exact hroot i
   ·rfl
 have h1:=h _ w us hs
 have hne:fn.name≠ "runtime.NumGoroutine" :=by simpa using hname
 have hcall:(callFunc f us).run P w= .ok (.enter f us) w:=by simp [callFunc,run_program,hf,hne,hb]
 rw[hcall]at h1
 refine Calls.mono h1 ?_
 rintro e w' ⟨v,rfl,g',h2⟩
 have hr:=h2.slots 0
 rw[qL hb0]at hr
 have hv:v= .bool true:=HR hr
 subst hv
 exact⟨rfl,h2.framed.os,h2.framed.tape,h2.framed.output,h2.framed.evo.size,fun k hk=>(h2.framed.evo.keep k hk (fun h=>h (.inl rfl))).2⟩

/-- A function's contract, out of its run and the checks. -/
theorem TC.of{P:Program}{τ:TypeId→Option TI}{An:FuncId→FA}{Sgs:FuncId→List Sg}(hM:P.follows .mixedOrders=true)(hT:bJ P τ)(hS: ∀f sg,sg∈Sgs f→ ∀fn c,P.funcs[f]? =some fn→fn.body=some c→fnC τ An Sgs f sg fn c=true)
  {f:FuncId}{vs:List V}{ob ob':List (List T)}{r:V}{nw:Option (List T)}(h:Big P τ An (.fn f vs ob r none ob' nw)){sg:Sg}(hsg:sg∈Sgs f)(hnp:sg.np=vs.length)(hno:sg.no=ob.length):TC P f sg vs ob r none ob' nw:=
 MH hM hT hS h sg hsg hnp hno
end Go.Own

/- Steps through code, one at a time. -/
namespace Go.Own
open Go.RowKit

section
variable {P:Program} {τ:TypeId→Option TI} {An:FuncId→FA} {F:FA} {ds:List (Option Nat)} {o:Oper} {r:List Oper} {x x1:D} {K:D→Prop} {Q:Ek→D→Prop}

theorem bY(hg:bC ds x o.guard=some true)(hc:dH o=none)(h1:dOp τ F x o=some x1)(h:aY P τ An F ds r x1 K):aY P τ An F ds (o::r) x K:=by
 simp only[aY,Ca,hg,Ht,hc]
 exact⟨x1,h1,h⟩
theorem Lh(hg:bC ds x o.guard=some false)(h1:pI x o.dst=x1)(h:aY P τ An F ds r x1 K):aY P τ An F ds (o::r) x K:=by
 subst h1
 simp only[aY,Ca,hg]
 exact h
theorem NI(h:K x):aY P τ An F ds [] x K:=h
theorem JA{c:Call}{v:Operand}{os:List Nat}(h:lE F c v=os)(hn:os≠[0,0]):sB F c=false:=by
 unfold lE at h
 cases e:sB F c with
 | false=>rfl
 | true=>rw[e]at h; exact absurd h.symm hn
theorem Fx{c:Call}{v:Operand}{f:FuncId}{caps:List (Nat×Nat)}{vs:List V}{ob ob':List (List T)}{rr:V}{nw:Option (List T)}{x1:D}(hg:bC ds x o.guard=some true)(hc:dH o=some (c,v))(hni:sB F c=false)(hx:ev x.sl v= .one (.fn f caps))(hth:c.args.toList.all (fun v=>dZ (ev x.sl v))=true)
  (hob:ob.map some=(lE F c v).map x.ob)(hvs:inV x c caps (lE F c v)=vs)(hB:Big P τ An (.fn f vs ob rr none ob' nw))(hx1:x.call o.dst (sJ F o.dst) (lE F c v) (DR rr none ob' nw)=x1)(hsh:bH F x1 o.dst (sJ F o.dst) (lE F c v)=true)
  (h:aY P τ An F ds r x1 K):aY P τ An F ds (o::r) x K:=by
 subst hx1; subst hvs
 simp only[aY,Ca,hg,Ht,hc]
 exact .inl ⟨hni,f,caps,ob,ob',rr,nw,hx,hth,hob,hB,hsh,h⟩
theorem Pf{c:Call}{v:Operand}{f:FuncId}{vs:List V}{rr:V}{t:Nat}{xs:List Operand}{l:Loc}{p:List (Nat×Nat)}{x0:T}{es es':List (List T)}(hg:bC ds x o.guard=some true)(hc:dH o=some (c,v))(hio:sB F c=true)(hx:ev x.sl v= .one (.fn f []))(hth:c.args.toList.all (fun v=>dZ (ev x.sl v))=true)
  (hargs:c.args.toList= .tmp t::xs)(hal:x.sl t= .one (.al l p))(hat:x.at l=some x0)(hnav:nav x0 p=some (.sl es))(hvs:inV x c [] []=vs)(hB:Big P τ An (.fn f vs [] rr (some (.sl es')) [] none))(hsh:bH F (x.call o.dst none [] (DR rr (some (.sl es')) [] none)) o.dst none []=true)
  (h:aY P τ An F ds r ((x.call o.dst none [] (DR rr (some (.sl es')) [] none)).upd l (eT x0 p (.sl es'))) K):aY P τ An F ds (o::r) x K:=by
 subst hvs
 simp only[aY,Ca,hg,Ht,hc]
 exact .inr ⟨hio,f,rr,t,xs,l,p,x0,es,es',hx,hth,hargs,hal,hat,hnav,hB,hsh,h⟩
end

end Go.Own

/- Steps by the form of the operation. -/
namespace Go.Own
open Go.RowKit

section
variable {P:Program} {τ:TypeId→Option TI} {An:FuncId→FA} {F:FA} {ds:List (Option Nat)} {r:List Oper} {x:D} {K:D→Prop} {ty:TypeId} {pos:String} {after:Array Edge} {gd:Option (Nat×Bool)} {d:Nat}

theorem NK{y:Operand}{v:V}(hg:bC ds x gd=some true)(hv:ev x.sl y=v)(ht:dZ v=true)(hf:fits v (F.shOf d)=true)(h:aY P τ An F ds r (x.put d v) K):aY P τ An F ds (⟨some d, .assign y,ty,pos,after,gd⟩::r) x K:=by
 subst hv
 refine bY hg rfl ?_ h
 show uX F x d y=_
 unfold uX
 rw[ht]; exact eE hf
theorem Sz{y:Operand}{v:V}(hg:bC ds x gd=some true)(hm:mem d F.al=false)(hv:ev x.sl y=v)(ht:dZ v=true)(hf:fits v (F.shOf d)=true)(h:aY P τ An F ds r (x.put d v) K):aY P τ An F ds (⟨some d, .move y,ty,pos,after,gd⟩::r) x K:=by
 subst hv
 refine bY hg rfl ?_ h
 show(bif mem d F.al then rC F x d y else uX F x d y)=_
 rw[hm]
 unfold uX
 rw[cond_false,ht]; exact eE hf
theorem Sy{c y z:Operand}{b:Bool}{t:T}(hg:bC ds x gd=some true)(hc:ev x.sl c= .one (.c (.bool b)))(hv:ev x.sl (if b then y else z)= .one (.c t))(hs:scal t=true)(hf:fits (.one (.c t)) (F.shOf d)=true)(h:aY P τ An F ds r (x.put d (.one (.c t))) K):aY P τ An F ds (⟨some d, .pick c y z,ty,pos,after,gd⟩::r) x K:=by
 refine bY hg rfl ?_ h
 show Ch F x d c y z=_
 unfold Ch
 rw[hc]
 cases b with
 | true=>
  have hv:ev x.sl y= .one (.c t):=hv
  simp only[hv,hs,cond_true]; exact eE hf
 | false=>
  have hv:ev x.sl z= .one (.c t):=hv
  simp only[hv,hs,cond_true]; exact eE hf
theorem s_bin{op:BinOp}{t t2:TypeId}{y z:Operand}{v1 v2:V}{w:T}(hg:bC ds x gd=some true)(h1:evD x y=v1)(h2:evD x z=v2)(hb:MP τ op t v1 v2=some w)(hf:fits (.one (.c w)) (F.shOf d)=true)(h:aY P τ An F ds r (x.put d (.one (.c w))) K):aY P τ An F ds (⟨some d, .binOp op t y z t2,ty,pos,after,gd⟩::r) x K:=by
 subst h1; subst h2
 refine bY hg rfl ?_ h
 show nS τ F x d (.binOp op t y z t2)=_
 unfold nS
 simp only[kM,hb]
 exact eE hf
end
end Go.Own

/- One tactic for a step. -/
namespace Go.Own
open Go.RowKit

end Go.Own

/- More steps by the form of the operation. -/
namespace Go.Own
open Go.RowKit

section
variable {P:Program} {τ:TypeId→Option TI} {An:FuncId→FA} {F:FA} {ds:List (Option Nat)} {r:List Oper} {x:D} {K:D→Prop} {ty:TypeId} {pos:String} {after:Array Edge} {gd:Option (Nat×Bool)} {d:Nat}

/-- A read of any form. -/
theorem OS{op:Op}{w:T}(hg:bC ds x gd=some true)(hc:dH ⟨some d,op,ty,pos,after,gd⟩=none)(hd:dOp τ F x ⟨some d,op,ty,pos,after,gd⟩=nS τ F x d op)(hr:kM τ (evD x) op=some w)(hf:fits (.one (.c w)) (F.shOf d)=true)(h:aY P τ An F ds r (x.put d (.one (.c w))) K):
    aY P τ An F ds (⟨some d,op,ty,pos,after,gd⟩::r) x K:=by
  refine bY hg hc ?_ h
  rw[hd]
  unfold nS
  rw[hr]; exact eE hf
theorem s_len{y:Operand}{t e:TypeId}{es:List (List T)}(hg:bC ds x gd=some true)(ht:tk τ t=some (.sl e))(hv:evD x y= .one (.c (.sl es)))(hf:fits (.one (.c (.int .i64 0))) (F.shOf d)=true)(h:aY P τ An F ds r (x.put d (.one (.c (.int .i64 es.length)))) K):
    aY P τ An F ds (⟨some d, .call { callee:= .builtin .len,args:= #[y],argTypes:= #[t] },ty,pos,after,gd⟩::r) x K:=by
  refine OS hg rfl rfl ?_ (by
    revert hf
    cases F.shOf d with
    | tup ws=>simp [fits]
    | one w => cases w <;> simp [fits, bZ]
               rename_i z; cases z<;>simp [tO]) h
  show(match tk τ t,evD x y with
      | some .str, .one (.c (.str s))=>some (T.int .i64 s.length)
      | some (.sl _), .one (.c (.sl es))=>some (.int .i64 es.length)
      | _,_=>none)=_
  rw[ht,hv]
theorem Pm{t e:TypeId}{ei:TI}{v i:Operand}{es:List (List T)}{row:List T}{k:IntKind}{n:Int}(hg:bC ds x gd=some true)(ht:tk τ t=some (.sl e))(he:τ e=some ei)(hv:ev x.sl v= .one (.c (.sl es)))(hi:ev x.sl i= .one (.c (.int k n)))(h0:0≤n)(hrow:es[n.toNat]? =some row)(hsz:row.length=ei.size)
    (hf:fits (.one (.cp row)) (F.shOf d)=true)(h:aY P τ An F ds r (x.put d (.one (.cp row))) K):aY P τ An F ds (⟨some d, .indexAddr t v i,ty,pos,after,gd⟩::r) x K:=by
  refine bY hg rfl ?_ h
  show oW τ F x d t v i=_
  unfold oW
  simp only[ht,hi,hv,idx,he,h0,if_true,hrow,hsz,Nat.beq_refl,cond_true]
  exact eE hf
theorem Pk{t:TypeId}{v:Operand}{ti:TI}{xs:List T}{w:V}(hg:bC ds x gd=some true)(ht:τ t=some ti)(hv:ev x.sl v= .one (.cp xs))(hl:oG ti xs=some w)(hf:fits w (F.shOf d)=true)(h:aY P τ An F ds r (x.put d w) K):
    aY P τ An F ds (⟨some d, .load t v,ty,pos,after,gd⟩::r) x K:=by
  refine bY hg rfl ?_ h
  show oT τ F x d t v (mem d F.al)=_
  unfold oT
  simp only[ht,hv,hl]
  exact eE hf
theorem Pj{t:TypeId}{v:Operand}{ti:TI}{ob p:Nat}{cells:List T}{w:V}(hg:bC ds x gd=some true)(ht:τ t=some ti)(hm:mem d F.al=false)(hv:ev x.sl v= .one (.ptr ob p))(hc:x.ob ob=some cells)(hl:oG ti (cells.drop p)=some w)(hf:fits w (F.shOf d)=true)(h:aY P τ An F ds r (x.put d w) K):
    aY P τ An F ds (⟨some d, .load t v,ty,pos,after,gd⟩::r) x K:=by
  refine bY hg rfl ?_ h
  show oT τ F x d t v (mem d F.al)=_
  unfold oT
  simp only[ht,hv,hc,hm,cond_false,hl]
  exact eE hf
theorem NL{t u e:TypeId}{ei:TI}{v y:Operand}{es1 es2:List (List T)}(hg:bC ds x gd=some true)(ht:tk τ t=some (.sl e))(he:τ e=some ei)(hv:ev x.sl v= .one (.c (.sl es1)))(hy:Ih (ev x.sl y)=some es2)(hu:wS τ u e=true)(hok:Mg ei es1 es2=true)
    (hf:fits (.one (.c (.sl []))) (F.shOf d)=true)(h:aY P τ An F ds r (x.put d (.one (.c (.sl (es1++es2))))) K):aY P τ An F ds (⟨some d, .call { callee:= .builtin .append,args:= #[v,y],argTypes:= #[t,u] },ty,pos,after,gd⟩::r) x K:=by
  refine bY hg rfl ?_ h
  show qH τ F x d t u v y=_
  unfold qH
  simp only[ht,he,hv,hy,hu,hok,Bool.and_self,cond_true]
  exact eE (by
    revert hf
    cases F.shOf d with
    | tup ws=>simp [fits]
    | one w => cases w <;> simp [fits, bZ]
               rename_i z; cases z<;>simp [tO])
end
end Go.Own
