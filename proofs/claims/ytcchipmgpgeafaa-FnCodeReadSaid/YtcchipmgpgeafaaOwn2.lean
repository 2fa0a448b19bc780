/- A calculus for runs on plain data (part 3): whoever runs code on data, with its owners checked, runs the program. No conditions. -/
import Derived.Test.YtcchipmgpgeafaaOwn1
import Derived.LoopN
set_option linter.unusedVariables false
set_option linter.unusedSimpArgs false
set_option linter.unnecessarySimpa false
namespace Go.Own
open Go.RowKit
set_option linter.unusedVariables false

structure Tq (w w1:World):Prop where
 size:w.heap.size≤w1.heap.size
 keep: ∀b,b<w.heap.size→w1.heap[b]? =w.heap[b]?
 os:w1.os=w.os
 tape:w1.tape=w.tape
 output:w1.output=w.output
def St.turn(st:St)(l:Loc)(κ:K)(z:T):St:=((st.killV.drop (isL l)).upd l z).raise l κ

open Classical in
noncomputable def G.one (g:G) (l:Loc):G:= { β:=g.β,own:=fun b=>if g.own b=l then .s 0 0 0 else if g.own b= .none then .none else .ext }
open Classical in
noncomputable def G.two (g a:G) (w:World) (l:Loc):G:= { β:=g.β,own:=fun b=>if a.own b= .s 1 0 0 then l else if b<w.heap.size∧g.own b≠l then g.own b else if a.own b= .none then .none else .ext }

theorem Uy{P:Program}{g0:G}{w0:World}{st:St}{a:Act}{g:G}{w w1:World}(hs:bZ g0 w0 st a g w)(I:Tq w w1){f:FuncId}{sg:Sg}{y0 y':T}{k M:Int}{l:Loc}{n n1:Nat}{x:Value}(O:TC P f sg [.one (.c y0), .one (.c (.int .i64 k))] [] (.one (.c (.int .i64 M))) (some y') [] none)
  (hio:sg.io=some 0)(hnp:sg.np=2)(hbi:sg.bi=⟨[(0,[[.U 0]]),(1,[[.S]])],[]⟩)(hb0:sg.bo.has 0=true)(hb1:sg.bo.has 1=true)(hbo:sg.bo.kd (.s 1 0 0)= .U n1)(hln:l.place=true)(hfl:st.fl l= .U n)(y:st.at l=some y0)(hv:vAt a.tmps g.β w l=some x):
  rY P ((callFunc f #[x, .int .i64 k]).run P w1) (fun u w'=>u= .int .i64 M∧ ∃N,bZ g0 w0 (st.turn l (.U n1) y') a N w'∧N.β=g.β∧(∀o b,g.own b= .obj o→w'.heap[b]? =w.heap[b]?)∧(∀b,b<w1.heap.size→g.own b= .none→b<w'.heap.size∧w'.heap[b]? =w1.heap[b]? ∧N.own b= .none)):=by
 have q:=Loc.place_ne hln; obtain⟨v0',hv',hna,C⟩:=hs.get y; rw[hv]at hv'; cases hv'; rw[hfl]at C; have C:Ow (frz g w) true w (iR n) (fun b=>g.own b=l) x y0:=C
 have Y: ∀b,g.own b≠ .none→b<w.heap.size:=hs.ok.own; have hin:bZ (g.one l) w1 (sg.bi.S sg.np (DA [.one (.c y0), .one (.c (.int .i64 k))] [])) ⟨#[x, .int .i64 k],[]⟩ (g.one l) w1:=by
  refine⟨tA.refl _ _,⟨fun b d=> ?_⟩, ?_,rfl,fun i=> ?_,fun o cells Z=> ?_,fun i hi _=> ?_,fun _ _=>rfl, ?_⟩
  ·refine z60 (Y b fun e=>d ?_) I.size
   simp only[G.one]; rw[e,z15 (Ne.symm q.1),z20 rfl]
  ·rw[hnp]; rfl
  ·rw[hbi]
   match i with
   | 0=>
    show oB x∧LF (g.one l) w1 (.U 0) (.s 0 0 0) x y0; refine⟨hna, ?_⟩
    show Ow _ true w1 none _ x y0; exact C.any.mono id (fun e=>by cases e) (fun b d=>⟨by simp only[G.one]; rw[z20 d],I.keep b (Y b (by rw[d]; exact q.1))⟩)
   | 1=>
    show oB (.int .i64 k)∧LF (g.one l) w1 .S (.s 1 0 0) (.int .i64 k) (.int .i64 k); exact⟨⟨by simp,by simp⟩,rfl, .int .i64 k⟩
   | i+2=>trivial
  ·exfalso
   have Z:(if sg.bi.hasO o=true then(DA [.one (.c y0), .one (.c (.int .i64 k))] []).ob o else none)=some cells:=Z
   rw[hbi]at Z; simp [B.hasO,dM]at Z
  ·exfalso
   apply hi
   show aI (if sg.bi.has i=true then _ else _)=_
   split
   ·match i with
    | 0=>rfl
    | 1=>rfl
    | i+2=>rfl
   ·rfl
  ·rw[hnp]; show 2≤par; unfold par; omega
 have O:=O _ _ _ hin
 have key: ∀u w',(∃g',bZ (g.one l) w1 (sg.bo.S 2 (DR (.one (.c (.int .i64 M))) (some y') [] none)) ⟨#[u,(#[x, .int .i64 k]:Array Value).getD (sg.io.getD 0) undef],[]⟩ g' w')→
   u= .int .i64 M∧ ∃N,bZ g0 w0 (st.turn l (.U n1) y') a N w'∧N.β=g.β∧(∀o b,g.own b= .obj o→w'.heap[b]? =w.heap[b]?)∧(∀b,b<w1.heap.size→g.own b= .none→b<w'.heap.size∧w'.heap[b]? =w1.heap[b]? ∧N.own b= .none):=by
  rintro u w' ⟨g',h1⟩
  have hu:u= .int .i64 M:=by
   have h5:=h1.slots 0; rw[show(sg.bo.S 2 (DR (.one (.c (.int .i64 M))) (some y') [] none)).sl 0= .one (.c (.int .i64 M))from qU hb0]at h5; have:=LF.scal (g':=g') (w':=w') (κ':= .F) (l':= .none) h5.2 rfl; have this:Rd _ _ _ _:=this; cases this; rfl
  have hy:Ow (frz g' w') true w' (iR n1) (fun b=>g'.own b= .s 1 0 0) x y':=by
   have h5:=h1.slots 1; rw[show(sg.bo.S 2 (DR (.one (.c (.int .i64 M))) (some y') [] none)).sl 1= .one (.c y')from qU hb1]at h5; have h7:LF g' w' (sg.bo.kd (.s 1 0 0)) (.s 1 0 0) _ y':=h5.2; rw[hbo]at h7; have h7:Ow (frz g' w') true w' (iR n1) (fun b=>g'.own b= .s 1 0 0) _ y':=h7
   have E:(#[u,(#[x, .int .i64 k]:Array Value).getD (sg.io.getD 0) undef]:Array Value).getD 1 undef=x:=by rw[hio]; rfl
   rw[E]at h7; exact h7
  have A: ∀b,b<w.heap.size→g.own b≠l→g'.own b=(g.one l).own b∧w'.heap[b]? =w.heap[b]? ∧(g'.own b= .none∨g'.own b= .ext):=fun b d r=>by
   have R:(g.one l).own b= .none∨(g.one l).own b= .ext:=by
    simp only[G.one]; rw[z15 r]; split
    ·exact .inl rfl
    ·exact .inr rfl
   obtain⟨k1,k2⟩:=h1.framed.evo.keep b (z60 d I.size) (fun h=>h R)
   exact⟨k1,k2.trans (I.keep b d),by rw[k1]; exact R⟩
  have hown: ∀b,b<w.heap.size→g.own b≠l→(g.two g' w l).own b=g.own b:=fun b d r=>by
   obtain⟨_,_,k3⟩:=A b d r; simp only[G.two]; rw[z15 (fun e=>by rcases k3 with k3 | k3<;>(rw[k3]at e; cases e)),z20 ⟨d,r⟩]
  have hNl: ∀b,g'.own b= .s 1 0 0→(g.two g' w l).own b=l:=fun b d=>by simp only[G.two]; rw[z20 d]
  have hsz:w.heap.size≤w'.heap.size:=z95 I.size h1.framed.evo.size; have hok:GOk (g.two g' w l) w':=⟨fun b d=>by
   by_cases E:g'.own b= .s 1 0 0
   ·exact h1.ok.own b (by rw[E]; simp)
   ·by_cases e2:b<w.heap.size∧g.own b≠l
    ·exact z60 e2.1 hsz
    ·refine h1.ok.own b fun e3=>d ?_
     simp only[G.two]; rw[z15 E,z15 e2,z20 e3]⟩
  have J:LF (g.two g' w l) w' (.U n1) l x y':=by
   show Ow _ true w' (iR n1) _ x y'; exact hy.mono id (fun e=>by cases e) (fun b d=>⟨hNl b d,rfl⟩)
  have K: ∀o b,g.own b= .obj o→w'.heap[b]? =w.heap[b]? :=fun o b d=>(A b (Y b (by rw[d]; simp)) (by rw[d]; exact Ne.symm (q.2.2 o))).2.1
  have hv3:vAt a.tmps g.β w' l=some x:=by
   cases l with
   | s i kk j=>exact hv
   | oc o j=>
    simp only[vAt]at hv ⊢; rw[St.at_oc,z14]at y; obtain⟨cells,hcl,_⟩:=y; obtain⟨arr,ty,_,_,k3,_⟩:=hs.obs o cells hcl; rw[cJ (K o _ k3)]; exact hv
   | _=>cases hln
  have X:isL l .none=false:=z9 (Ne.symm q.1); have hsk:=hs.killV; have hatk:st.killV.at l=some y0:=y; have hsd:=hsk.drop (isL l) X; have t:(st.killV.drop (isL l)).at l=some y0:=y; have hfld:(st.killV.drop (isL l)).fl l= .D:=by rw[DK X hatk,z20 (by simp [isL])]
  have hnoV: ∀m,(st.killV.drop (isL l)).fl m≠ .V:=fun m=>by
   refine rJ (fun m=> ?_) m
   split
   ·simp
   ·exact sP st m
  have Q:zG g w (g.two g' w l) w' (fun m=>m=l) (st.killV.drop (isL l)):=⟨⟨hsz,fun b d r=>⟨hown b d r,(A b d r).2.1⟩⟩,fun m e=>by subst e; exact⟨fun h=>by rcases h with h | h; exact q.1 h; exact q.2.1 h,q.2.2⟩, .inr hnoV,h1.framed.os.trans I.os,h1.framed.tape.trans I.tape,h1.framed.output.trans I.output,hok⟩
  have h4:=hsd.upd (g':=g.two g' w l) (w':=w') Q (fun _=>rfl) (z:=y') t hv (fun _ _ _ _ h=>h) (.inl (fun i n j hsl=>by
   have hsl':st.sl i= .one (.pp l [] n j):=hsl; have e:st.killV.sl i=st.sl i:=rfl; simp only[St.drop,St.setf,e,hsl']; exact z20 ⟨trivial,trivial,by simp [aI,isL]⟩)) (by
   rw[hfld]; intro hsc; exact(LF.scal (g':=g.two g' w l) (w':=w') (κ':= .D) (l':=l) J hsc) hsc)
  refine⟨hu,g.two g' w l, ?_,rfl,K,fun b d hn=> ?_⟩
  rotate_left
  ·have hbl:g.own b≠l:=by rw[hn]; exact Ne.symm q.1
   have E:(g.one l).own b= .none:=by simp only[G.one]; rw[z15 hbl,z20 hn]
   obtain⟨k1,k2⟩:=h1.framed.evo.keep b d (fun h=>h (.inl E))
   refine⟨z60 d h1.framed.evo.size,k2, ?_⟩
   simp only[G.two]; rw[z15 (by rw[k1,E]; simp)]
   split
   ·exact hn
   ·rw[z20 (by rw[k1,E])]
  unfold St.turn St.raise; refine h4.setf (g':=g.two g' w l) X (fun _=>rfl) h4.ok (fun _ _=>rfl) (fun _ _ h=>h) (fun _ h=>h) (fun m z u' hz hu' R=> ?_) (fun i kk zs b off p Z=> ?_) (fun i hi hR R=> ?_)
  ·by_cases e:m=l
   ·rw[z20 e]
    subst e; rw[upd_at t,z20 rfl]at hz; cases hz; have L:vAt a.tmps g.β w' m=some u':=hu'; rw[hv3]at L; cases L; exact J
   ·rw[z15 e]; exact R
  ·by_cases e:Loc.s i kk 0=l
   ·exfalso
    have H:=upd_at (z:=y') (m:=l) t; rw[z20 rfl, ←e,St.at_s]at H; rw[←e]at p; cases hsi:((st.killV.drop (isL (.s i kk 0))).upd (.s i kk 0) y').sl i with
    | one u=>
     rw[hsi]at p H; cases kk with
     | zero=>simp only[V.comp,z10]at p; subst p; simp [V.leaf,W.leaf]at H
     | succ kk=>simp [V.comp]at p
    | tup ws=>
     rw[hsi]at p H; simp only[V.comp]at p; simp [V.leaf,p,W.leaf]at H
   ·rw[z15 e]; exact Z
  ·by_cases e:Loc.s i 0 0=l
   ·exfalso
    have H:=upd_at (z:=y') (m:=l) t; rw[z20 rfl, ←e]at H; rw[←e]at hi; exact hi (uX H)
   ·rw[z15 e]at R
    refine⟨R,fun hh=> ?_⟩
    split
    ·rfl
    ·exact hh
 unfold rY at O ⊢; split at O
 ·exact key _ _ O
 ·refine Calls.mono O ?_
  rintro e w' ⟨v,rfl,h⟩
  exact⟨v,rfl,key _ _ h⟩
 ·exact O.elim
set_option linter.unusedVariables false

def KQ(P:Program):List (Nat×FuncId)→List Value→Int→World→(Nat→Prop)→(Value→World→Prop)→Prop
 | [],cs,k,w,e,Q=> ∀d,Tq w d→Q (.int .i64 k) d
 | (f,g)::L,cs,k,w,e,Q=> ∀d (a:Nat→Prop),Tq w d→(∀b,e b→a b)→(∀b,a b→ ¬ e b→w.heap.size≤b)→(∀b,a b→b<d.heap.size)→
   ∃c,cs[f]? =some c∧rY P ((callFunc g #[c, .int .i64 k]).run P d) (fun u h=> ∃i,u= .int .i64 i∧(∀b,a b→b<h.heap.size∧h.heap[b]? =d.heap[b]?)∧KQ P L cs i h a Q)

theorem rY.mono{P:Program}{n:Result Next}{R a:Value→World→Prop}(h:rY P n R)(b: ∀u w,R u w→a u w):rY P n a:=by
 unfold rY at h ⊢; split at h
 ·exact b _ _ h
 ·exact Calls.mono h fun e w ⟨v,c,h1⟩=>⟨v,c,b _ _ h1⟩
 ·exact h.elim

def Wh(a:Bool)(v:Value)(cs:List Value):Prop:=if a=true then v= .agg cs.toArray else cs=[v]
def UH(P:Program)(f:FuncId)(a:Bool)(n:Nat)(L:List (Nat×FuncId)):Prop:=
 (∀x∈L,x.1<n)∧ ∀(v:Value) (cs:List Value) (k:Int) (w:World) (c:Nat→Prop) (Q:Value→World→Prop),Wh a v cs→cs.length=n→(∀b,c b→b<w.heap.size)→KQ P L cs k w c Q→rY P ((callFunc f #[v, .int .i64 k]).run P w) Q
theorem SH{P:Program}{τ:TypeId→Option TI}(x:bI P τ){t:TypeId}{i:TI}(A:τ t=some i){w:World}{b p:Nat}{a:Array Value}{s:TypeId}(y:w.heap[b]? =some (.cells a s (0,0)))(B:p+i.size≤a.size)(h1:i.agg=false→i.size=1):
  ∃u,(loadVar t ⟨b,p,none⟩).run P w= .ok u w∧Wh i.agg u ((a.toList.drop p).take i.size):=by
 obtain⟨q,d,z,D,r,E,F,G,H,I,J,m⟩:=x.get A; have e: ∀j,w.cell? ⟨b,p+j,none⟩=a[p+j]? :=fun j=>by rw[cS w b _ a s _ y]
 cases hag:i.agg with
 | true=>
  rw[hag]at m; have g:((a.toList.drop p).take i.size).length=i.size:=by simp; omega
  have l: ∀(j:Nat) v,((a.toList.drop p).take i.size)[j]? =some v→w.cell? ((⟨b,p,none⟩:Addr).add j)=some v:=by
   intro j v k; rw[z80]at k
   split at k
   ·rw[z43,z27]at k
    rw[kN,e,k]
   ·cases k
  have f:=run_loadCells_list (P:=P) w ⟨b,p,none⟩ _ l; rw[g]at f; have c:(isAgg t).run P w= .ok true w:=by
   simp only[isAgg,Sem.run_bind,run_underlying r,Result.andThen_ok]; cases d<;>first | (simp at m; done) | rfl
  refine⟨.agg ((a.toList.drop p).take i.size).toArray, ?_,by simp [Wh]⟩
  simp only[loadVar,Sem.run_bind,c,Result.andThen_ok,if_true,sizeOf,typeInfo,run_program,D,Sem.run_pure,E,f]
 | false=>
  rw[hag]at m; have C:=h1 hag; have h:p<a.size:=by omega
  have o:w.cell? ⟨b,p,none⟩=some a[p]:=by
   have:=e 0; rw[z77]at this; rw[this,z75 h]
  have c:(isAgg t).run P w= .ok false w:=by
   simp only[isAgg,Sem.run_bind,run_underlying r,Result.andThen_ok]; cases d<;>first | (simp at m; done) | rfl
  refine⟨a[p], ?_, ?_⟩
  ·simp only[loadVar,Sem.run_bind,c,Result.andThen_ok,z54,if_false,run_load,o]
  ·simp only[Wh,z54,if_false,C]
   have:a.toList.drop p=a[p]::a.toList.drop (p+1):=by
    rw[z88 (by simpa using h)]; simp
   rw[this]; rfl
structure MR where
 off:Nat
 g:FuncId
 es:List (List T)
 es':List (List T)
 k:Int
 k1:Int
def FL(c:Nat):List MR→List T→Int→List T→Int→Prop
 | [],cells,k,a,b=>a=cells∧b=k
 | m::r,cells,k,a,b=>cells[c+m.off]? =some (.sl m.es)∧m.k=k∧FL c r (cells.set (c+m.off) (.sl m.es')) m.k1 a b
def biM:B:=⟨[(0,[[.U 0]]),(1,[[.S]])],[]⟩
def rW(F:FA)(d i:Nat):Bool:= !(Nat.beq i d)&& !(aY d (aI (F.shOf i)))
def B.turn(F:FA)(b:B)(l:Loc):B:=((((b.killV F).setf F (isL l) (fun m q=>if isL l m=true then .D else q)).filt (gE F l)).setf F (isL l) (fun m q=>if m=l then .U 0 else q))
def B.turnM(F:FA)(o a:Nat):List Nat→B→B
 | [],b=>b
 | j::r,b=>B.turnM F o a r (b.turn F (.oc o (a+j)))
def D.updM(o a:Nat):List MR→D→D
 | [],x=>x
 | m::r,x=>D.updM o a r (x.upd (.oc o (a+m.off)) (.sl m.es'))
def vI(k:Int):V:= .one (.c (.int .i64 k))
def okBi:B→Bool
 | ⟨[(0,[[.U 0]]),(1,[[.S]])],[]⟩=>true
 | _=>false
theorem Uh{b:B}(h:okBi b=true):b=biM:=by
 unfold okBi at h; split at h
 ·rfl
 ·cases h
def okSg(sg:Sg):Bool:=decide (sg.io=some 0)&&Nat.beq sg.np 2&&Nat.beq sg.no 0&&okBi sg.bi&&sg.bo.has 0&&sg.bo.has 1&&decide (sg.bo.kd (.s 1 0 0)= .U 0)
def B.mkReg(F:FA)(b:B)(o a t d r c:Nat)(L:List Nat):B:=((((b.filt (rW F t)).filt (rW F d)).turnM F o a L).filt (rW F r)).put F c (fun _ _=> .S)
def mkC(τ:TypeId→Option TI)(Sgs:FuncId→List Sg)(F:FA)(b:B)(L:List (Nat×FuncId)):List Oper→Option B
 | [⟨some t, .load S (.tmp tp),_,_,_,none⟩,⟨some t', .move (.tmp tk),_,_,_,none⟩,⟨some r, .call _,_,_,_,none⟩,⟨some r0, .assign (.tmp _),_,_,_,none⟩]=>
  (match F.shOf tp with
  | .one (.ptr o a)=>bif b.has tp&&b.hasO o&&b.has tk&&L.all (fun x=>isU (b.kd (.oc o (a+x.1)))&&(Sgs x.2).any okSg)&&(Nat.blt t t'&&Nat.blt t' r&&Nat.blt r F.n&&Nat.blt r0 F.n&& !(Nat.beq tk t)&& !(Nat.beq tp t))&&Own.fits (vI 0) (F.shOf r0)then some ((b.mkReg F o a t t' r r0 (L.map (·.1))).nrm F)else none
  | _=>none)
 | _=>none

def G.relab(g:G)(σ:Loc→Loc)(β':Nat→Nat):G:= { β:=β',own:=fun b=>σ (g.own b) }

structure Np (σ:Loc→Loc):Prop where
 none:σ .none= .none
 ext:σ .ext= .ext
 obj: ∀l,(∀o,l≠ .obj o)→ ∀o,σ l≠ .obj o

theorem LF.relab{g:G}{w:World}{σ:Loc→Loc}{β':Nat→Nat}(f:Np σ)(d:GOk g w){c q:K}{l l':Loc}{v:Value}{x:T}(j:l.place=true)(h:LF g w c l v x)(i:c.hand true q=true)(k:q.hold=true→σ l=l'):LF (g.relab σ β') w q l' v x:=
 h.hand (ext:=true) d j i (fun b a=>by show σ (g.own b)=_; rw[a]; exact f.none) (fun e=>by cases e) (fun b a o=>f.obj _ a o) (fun m b a=>by show σ (g.own b)=l'; rw[a]; exact k m)

theorem CpR.relab{g:G}{w:World}{σ:Loc→Loc}{β':Nat→Nat}(f:Np σ){c q:K}{b a:Nat}{xs:List T}(h:CpR g w c b a xs)(i:c.hand true q=true)(j:q= .D∨q= .F∨q= .V):CpR (g.relab σ β') w q b a xs:=
 h.hand (ext:=true) i (fun b d=>by show σ (g.own b)=_; rw[d]; exact f.none) (fun e=>by cases e) (fun b d o=>f.obj _ d o) j

theorem bZ.relab{g0:G}{w0:World}{st:St}{a:Act}{g:G}{w:World}(h:bZ g0 w0 st a g w){σ:Loc→Loc}(q:Np σ){β':Nat→Nat}(a2:Act)(d:St)(y: ∀o,par≤o→β' o=g.β o)
  (v:a2.tmps.size=d.n)(hn:d.n≤par)(K:a2.defers=[])(m: ∀i,aI (d.sl i)= .none)(u: ∀i,RV (g.relab σ β') w (fun k j=>d.fl (.s i k j)) (fun k j=> .s i k j) (a2.tmps.getD i undef) (d.sl i))
  (t: ∀o cells,d.ob o=some cells→ ∃f,st.ob f=some cells∧β' o=g.β f∧σ (.obj f)= .obj o∧ ∀j,(st.fl (.oc f j)).hand true (d.fl (.oc o j))=true∧((d.fl (.oc o j)).hold=true→σ (.oc f j)= .oc o j)):
  bZ g0 w0 d a2 (g.relab σ β') w:=by
 refine⟨⟨h.framed.os,h.framed.tape,h.framed.output,h.framed.evo.size,fun b p A=> ?_⟩,⟨fun b p=>h.ok.own b (fun e=>p ?_)⟩,v,K,u,fun o cells J=> ?_,fun i M=>absurd (m i) M,fun o ho=>(y o ho).trans (h.bp o ho),hn⟩
 ·obtain⟨E,F⟩:=h.framed.evo.keep b p A
  have L:pY (g0.own b):=z159.1 A; refine⟨?_,F⟩
  show σ (g.own b)=_; rw[E]; rcases L with e | e
  ·rw[e]; exact q.none
  ·rw[e]; exact q.ext
 ·show σ (g.own b)= .none
  rw[e]; exact q.none
 ·obtain⟨f,h1,H,I,z⟩:=t o cells J
  obtain⟨r,S,O,P,Q,R⟩:=h.obs f cells h1; have p:(g.relab σ β').β o=g.β f:=H; rw[p]; refine⟨r,S,O,P, ?_,fun j x N=> ?_⟩
  ·show σ (g.own (g.β f))= .obj o
   rw[Q,I]
  ·obtain⟨c,B,C,D⟩:=R j x N
   exact⟨c,B,C,D.relab q h.ok rfl (z j).1 (z j).2⟩

theorem bZ.body{c:B}{x:D}{b:Nat}{g:G}{w:World}{vs:Array Value}{n:Nat}(h:bZ g w (c.S b x) ⟨vs,[]⟩ g w)(hn:b≤n)(f:n≤par):
  bZ g w (c.S n x) ⟨vs++Array.replicate (n - vs.size) undef,[]⟩ g w:=by
 have m:vs.size=b:=h.size; have a: ∀i,(vs++Array.replicate (n - vs.size) undef).getD i undef=vs.getD i undef:=by
  intro i; simp only[z59,z173]
  split
  ·rfl
  ·rename_i d
   rw[z171 (xs:=vs) (by omega)]
   simp only[z160]
   split<;>rfl
 have p: ∀l,vAt (vs++Array.replicate (n - vs.size) undef) g.β w l=vAt vs g.β w l:=fun l=>by
  cases l with
  | s i k j=>simp only[vAt]; rw[a]
  | _=>rfl
 refine⟨h.framed,h.ok, ?_,rfl,fun i=> ?_,h.obs,fun i d e=> ?_,h.bp,f⟩
 ·show(vs++Array.replicate (n - vs.size) undef).size=n
  simp; omega
 ·show RV g w _ _ ((vs++Array.replicate (n - vs.size) undef).getD i undef) _
  rw[a]; exact h.slots i
 ·obtain⟨q,r⟩:=h.pls i d e
  refine⟨q, ?_⟩
  show GF _ _ _ _ ((vs++Array.replicate (n - vs.size) undef).getD i undef) _; rw[a]; exact r.congr (p _) rfl (fun _ _ _ _ _ _ _ h=>h)

def RQ(τ:TypeId→Option TI)(x:D):ResultVar→Option W
 | .tmp t=>(match x.sl t with | .one w=>some w | _=>none)
 | .cell t a=>(match τ a,x.sl t with
  | some i, .one (.ptr o p)=>(match x.ob o with
   | some cells=>(match qC i (cells.drop p)with | some (.one w)=>some w | _=>none)
   | none=>none)
  | _,_=>none)
def DS(τ:TypeId→Option TI)(x:D):List ResultVar→Option (List W)
 | []=>some []
 | r::rs=>match RQ τ x r,DS τ x rs with
  | some w,some ws=>some (w::ws)
  | _,_=>none
def IV(a:List W):V:=match a with
 | [w]=> .one w
 | a=> .tup a

def Qj(F:FA):ResultVar→Nat→Loc
 | .tmp t,j=> .s t 0 j
 | .cell t _,j=>match F.shOf t with | .one (.ptr o p)=> .oc o (p+j) | _=> .none

theorem Il{τ:TypeId→Option TI}{x:D}: ∀ {rs:List ResultVar} {a:List W},DS τ x rs=some a→rs.length=a.length∧ ∀(k:Nat) r,rs[k]? =some r→ ∃w,a[k]? =some w∧RQ τ x r=some w
 | [],a,h=>by cases h; exact⟨rfl,fun k r h=>by simp at h⟩
 | r::rs,a,h=>by
  unfold DS at h; split at h<;>try cases h
  rename_i w g h1 c; obtain⟨d,e⟩:=Il c; refine⟨by simp [d],fun k f b=> ?_⟩
  cases k with
  | zero=>simp only[z22,z10]at b ⊢; subst b; exact⟨w,rfl,h1⟩
  | succ k=>simp only[z24]at b ⊢; exact e k f b

def Ah(tmps:Array Value):ResultVar→Sem Value
 | .tmp t=>pure (tmps.getD t undef)
 | .cell a t=>do loadVar t (←asAddr (tmps.getD a undef))

theorem Lu{α:Type}{P:Program}{w:World}(f:α→Sem Value): ∀ {l:List α} {us:List Value},l.length=us.length→(∀(k:Nat) x u,l[k]? =some x→us[k]? =some u→(f x).run P w= .ok u w)→(l.mapM f).run P w= .ok us w
 | [],us,h,_=>by
  cases us with
  | nil=>simp
  | cons u us=>simp at h
 | x::l,us,h,a=>by
  cases us with
  | nil=>simp at h
  | cons u us=>
   have h1:=a 0 x u rfl rfl; have b:=Lu f (l:=l) (us:=us) (by simpa using h) (fun k y v d c=>a (k+1) y v (by simpa using d) (by simpa using c))
   simp [List.mapM_cons,Sem.run_bind,h1,b]

def wX(us:List Value):Value:=match us with
 | [u]=>u
 | us=> .tuple us.toArray

theorem LD{P:Program}{w:World}{fn:Func}{tmps:Array Value}{us:List Value}(h:fn.results.toList.length=us.length)(b: ∀(k:Nat) x u,fn.results.toList[k]? =some x→us[k]? =some u→(Ah tmps x).run P w= .ok u w):
  (results fn tmps).run P w= .ok (wX us) w:=by
 have h1:=Lu (P:=P) (w:=w) (Ah tmps) h b; have a:(results fn tmps)=(fn.results.mapM (Ah tmps) >>=fun vs=>pure (if h:vs.size=1 then vs[0]else .tuple vs)):=by
  unfold results; congr 1
 rw[a,z156]; simp [h1]; match us with
 | []=>simp [wX]
 | [u]=>simp [wX]
 | u::v::r=>simp [wX]

def ON(t:Nat):List ResultVar→Nat→Option Nat
 | [],_=>none
 | .tmp a::r,i=>bif Nat.beq a t then some i else ON t r (i+1)
 | _::r,i=>ON t r (i+1)
def Gv(F:FA)(o j:Nat):List ResultVar→Nat→Option (Nat×Nat)
 | [],_=>none
 | .cell t _::r,i=>(match F.shOf t with
  | .one (.ptr a p)=>bif Nat.beq a o&&Nat.ble p j then some (i,j - p)else Gv F o j r (i+1)
  | _=>Gv F o j r (i+1))
 | _::r,i=>Gv F o j r (i+1)
def BF(F:FA)(rs:List ResultVar)(a io:Option Nat):Loc→Loc
 | .s t k j=>bif Nat.beq k 0 then(match ON t rs 0 with | some i=> .s 0 i j | none=>if io=some t∧j=0 then .s 1 0 0 else .ext)else .ext
 | .oc o j=>if par≤o then .oc o j else if a=some o then .oc 0 j else(match Gv F o j rs 0 with | some (i,j')=> .s 0 i j' | none=> .ext)
 | .obj o=>if par≤o then .obj o else if a=some o then .obj 0 else .ext
 | .none=> .none
 | .ext=> .ext

theorem Mw(F:FA)(rs:List ResultVar)(c io:Option Nat):Np (BF F rs c io):=by
 refine⟨rfl,rfl,fun l b o=> ?_⟩
 cases l with
 | obj a=>exact absurd rfl (b a)
 | none=>simp [BF]
 | ext=>simp [BF]
 | s t k j=>
  simp only[BF]; cases Nat.beq k 0 with
  | false=>simp
  | true=>
   simp only[z16]; split
   ·simp
   ·split<;>simp
 | oc a j=>
  simp only[BF]
  (repeat' split)<;>simp

def uY(a:Option Nat)(o:Nat):Option Nat:=if par≤o then some o else if a=some o then some 0 else none

def IK(F:FA)(b:B)(σ:Loc→Loc)(r:ResultVar)(k:Nat):Nat→List K→Bool
 | _,[]=>true
 | j,q::row=>(b.kd (Qj F r j)).hand true q&&(!q.hold||decide (σ (Qj F r j)= .s 0 k j))&&IK F b σ r k (j+1) row
theorem Im{F:FA}{b:B}{σ:Loc→Loc}{r:ResultVar}{k:Nat}: ∀ {l:List K} {a:Nat},IK F b σ r k a l=true→ ∀ {j:Nat} {q:K},l[j]? =some q→(b.kd (Qj F r (a+j))).hand true q=true∧(q.hold=true→σ (Qj F r (a+j))= .s 0 k (a+j))
 | [],_,_,j,q,h=>by simp at h
 | p::l,a,h,0,q,c=>by
  simp only[IK,z7]at h; simp only[z22,z10]at c
  subst c; refine⟨h.1.1,fun d=> ?_⟩
  have:=h.1.2; rw[d]at this; simpa using this
 | p::l,a,h,j+1,q,c=>by
  simp only[IK,z7]at h; simp only[z24]at c
  have:=Im h.2 c; rwa[show a+1+j=a+(j+1)by omega]at this

def IL(F:FA)(b:B)(a:B)(σ:Loc→Loc)(k:Nat)(r:ResultVar):Bool:=
 (match dM 0 a.sl with | some κ=>(match κ[k]? with | some row=>IK F b σ r k 0 row | none=>true) | none=>true)&&
 (match r with
  | .tmp t=>b.has t&&(match F.shOf t with | .one (.cp _)=>dfv (a.kd (.s 0 k 0)) | .one (.al _ _)=>false | .one (.pp _ _ _ _)=>false | _=>true)
  | .cell t _=>b.has t&&(match F.shOf t with | .one (.ptr o _)=>b.hasO o | _=>false))
def Ai(F:FA)(b:B)(a:B)(σ:Loc→Loc):Nat→List ResultVar→Bool
 | _,[]=>true
 | k,r::rs=>IL F b a σ k r&&Ai F b a σ (k+1) rs
theorem In{F:FA}{b c:B}{σ:Loc→Loc}: ∀ {l:List ResultVar} {k0:Nat},Ai F b c σ k0 l=true→ ∀ {k:Nat} {r:ResultVar},l[k]? =some r→IL F b c σ (k0+k) r=true
 | [],_,_,k,r,h=>by simp at h
 | p::l,k0,h,0,r,a=>by
  simp only[Ai,z7]at h; simp only[z22,z10]at a
  subst a; exact h.1
 | p::l,k0,h,k+1,r,a=>by
  simp only[Ai,z7]at h; simp only[z24]at a
  have:=In h.2 a; rwa[show k0+1+k=k0+(k+1)by omega]at this

theorem Pt{F:FA}{b a:B}{σ:Loc→Loc}{k:Nat}{r:ResultVar}(h:IL F b a σ k r=true)(j:Nat):(b.kd (Qj F r j)).hand true (a.kd (.s 0 k j))=true∧((a.kd (.s 0 k j)).hold=true→σ (Qj F r j)= .s 0 k j):=by
 simp only[IL,z7]at h; have h:=h.1; simp only[B.kd,B.get]at h ⊢; cases hl:dM 0 a.sl with
 | none=>exact⟨rfl,fun e=>by cases e⟩
 | some κ=>
  rw[hl]at h; simp only[Bh]at h ⊢; cases hr:κ[k]? with
  | none=>exact⟨rfl,fun e=>by cases e⟩
  | some row=>
   rw[hr]at h; cases hq:row[j]? with
   | none=>simp only[hq]; exact⟨rfl,fun e=>by cases e⟩
   | some q=>
    have:=Im h hq; simp only[z29]at this; simp only[hq]; exact this

theorem Xc{q:K}(h:dfv q=true):q= .D∨q= .F∨q= .V:=by cases q<;>simp_all [dfv]

def Ni(F:FA)(b a:B)(c:Option Nat):Bool:=a.ob.all fun p=>
 if par≤p.1 then b.hasO p.1&&rQ true (fun j=>b.kd (.oc p.1 j)) 0 p.2
 else Nat.beq p.1 0&&(match c with | some o=> !(decide (par≤o))&&b.hasO o&&rQ true (fun j=>b.kd (.oc o j)) 0 p.2 | none=>false)

theorem Rx{F:FA}{b e:B}{k:Option Nat}(h:Ni F b e k=true){oc:Nat}(ho:e.hasO oc=true): ∃d,uY k d=some oc∧b.hasO d=true∧ ∀j,(b.kd (.oc d j)).hand true (e.kd (.oc oc j))=true:=by
 simp only[B.hasO]at ho; cases hl:dM oc e.ob with
 | none=>rw[hl]at ho; cases ho
 | some r=>
  have c:=z18.1 h _ (iE hl); simp only at c; have f: ∀d,rQ true (fun j=>b.kd (.oc d j)) 0 r=true→ ∀j,(b.kd (.oc d j)).hand true (e.kd (.oc oc j))=true:=fun d h1 j=>by
   simp only[B.kd,B.get,hl]at h1 ⊢; cases hq:r[j]? with
   | none=>simp only[hq]; rfl
   | some q=>
    have:=wF h1 hq; simp only[z29]at this; simp only[hq]; exact this
  by_cases g:par≤oc
  ·rw[z20 g,z7]at c
   exact⟨oc,by simp [uY,g],c.1,f oc c.2⟩
  ·rw[z15 g,z7]at c
   have h0:=z17 c.1; subst h0; have a:=c.2; cases hn:k with
   | none=>rw[hn]at a; cases a
   | some o=>
    rw[hn]at a; simp only[z7]at a; obtain⟨⟨l,m⟩,p⟩:=a; have i: ¬ par≤o:=by simpa using l
    exact⟨o,by simp [uY,i],m,f o p⟩

theorem EH{α:Type}: ∀ {rs:List α} {Q:Nat→Value→Prop},(∀(k:Nat) r,rs[k]? =some r→ ∃u,Q k u)→ ∃us:List Value,rs.length=us.length∧ ∀(k:Nat) u,us[k]? =some u→Q k u
 | [],Q,_=>⟨[],rfl,fun k u h=>by simp at h⟩
 | r::rs,Q,h=>by
  obtain⟨u,d⟩:=h 0 r rfl; obtain⟨us,h1,b⟩:=EH (rs:=rs) (Q:=fun k u=>Q (k+1) u) (fun k r c=>h (k+1) r (by simpa using c))
  refine⟨u::us,by simp [h1],fun k v a=> ?_⟩
  cases k with
  | zero=>simp only[z22,z10]at a; subst a; exact d
  | succ k=>exact b k v (by simpa using a)

theorem bZ.ret{P:Program}{τ:TypeId→Option TI}(hT:bI P τ){F:FA}{g0:G}{w0:World}{b:B}{x:D}{a:Act}{g:G}{w:World}{n:Nat}(h:bZ g0 w0 (b.S n x) a g w)(hA:Ag F b x){rs:List ResultVar}{J:List W}{m:B}{C io:Option Nat}{ob:List (List T)}{nw:Option (List T)}{iov:Option T}{u1:Value}
  (hws:DS τ x rs=some J)(hr:Ai F b m (BF F rs C io) 0 rs=true)(hob:Ni F b m C=true)(hobd: ∀oc R,m.hasO oc=true→uY C R=some oc→(DR ((IV J).to (uY C)) iov ob nw).ob oc=x.ob R)
  (hio: ∀z,io=some z→a.tmps.getD z undef=u1∧b.has z=true∧(∃t,x.sl z= .one (.c t)∧iov=some t)∧(b.kd (.s z 0 0)).hand true (m.kd (.s 1 0 0))=true∧((m.kd (.s 1 0 0)).hold=true→BF F rs C io (.s z 0 0)= .s 1 0 0))(hio0:io=none→m.has 1=false)
  (hb2: ∀i,m.has i=true→i<2): ∃us:List Value,rs.length=us.length∧(∀(k:Nat) r u,rs[k]? =some r→us[k]? =some u→(Ah a.tmps r).run P w= .ok u w)∧ ∃g',bZ g0 w0 (m.S 2 (DR ((IV J).to (uY C)) iov ob nw)) ⟨#[wX us,u1],[]⟩ g' w:=by
 let σ:=BF F rs C io
 have hσ:Np σ:=Mw F rs C io; let β':Nat→Nat:=fun o=>if par≤o then g.β o else(C.map g.β).getD 0
 have hβp: ∀o,par≤o→β' o=g.β o:=fun o h=>by simp only[β',z20 h]
 have hβ: ∀o o',uY C o=some o'→β' o'=g.β o:=by
  intro o o' h; simp only[uY]at h; split at h
  ·rename_i Z; cases h; exact hβp o Z
  ·split at h
   ·rename_i h1; cases h
    simp only[β',z15 Gk,h1,z37,z73]
   ·cases h
 have hok':GOk (g.relab σ β') w:=⟨fun b X=>h.ok.own b (fun e=>X (by show σ (g.own b)= .none; rw[e]; exact hσ.none))⟩
 obtain⟨hlen,hget⟩:=Il hws; have hone: ∀(k:Nat) r,rs[k]? =some r→ ∃u A,J[k]? =some A∧(Ah a.tmps r).run P w= .ok u w∧RW (g.relab σ β') w (fun j=>m.kd (.s 0 k j)) (fun j=> .s 0 k j) u (A.to (uY C)):=by
  intro k r E; obtain⟨A,hwk,f⟩:=hget k r E; have l:=In hr E; rw[z29]at l; have M:=fun j=>Pt l j
  simp only[IL,z7]at l; have l:=l.2; cases r with
  | tmp t=>
   simp only[z7]at l; obtain⟨c1,c2⟩:=l; unfold RQ at f; simp only at f; split at f<;>try cases f
   rename_i hx; have H:=h.slots t; rw[qU c1,hx]at H; have H:RW g w (fun j=>b.kd (.s t 0 j)) (fun j=> .s t 0 j) (a.tmps.getD t undef) A:=H
   refine⟨a.tmps.getD t undef,A,hwk,by simp [Ah],H.to (fun o o' ho=>hβ o o' ho) (fun j z u _ _ _ K=>K.relab hσ h.ok rfl (M j).1 (M j).2) (fun zs e bb off hc=> ?_)⟩
   have K:=hA.fits c1 (by rw[hx]; simp)
   rw[hx,e]at K; cases hs2:F.shOf t with
   | tup J=>rw[hs2]at K; simp [Own.fits]at K
   | one y=>
    rw[hs2]at K c2; cases y<;>simp [Own.fits,bY]at K
    exact hc.relab hσ (M 0).1 (Xc c2)
  | cell t ty=>
   simp only[z7]at l; obtain⟨c1,c2⟩:=l; unfold RQ at f; simp only at f; split at f<;>try cases f
   rename_i i o p hi hx; split at f<;>try cases f
   rename_i cells L; split at f<;>try cases f
   rename_i d; have N:=Kl hA (v:= .tmp t) c1 hx; have N:F.shOf t= .one (.ptr o p):=N; rw[N]at c2; have hsrc: ∀j,Qj F (.cell t ty) j= .oc o (p+j):=fun j=>by simp only[Qj,N]
   have H:=h.slots t; rw[qU c1,hx]at H; have hptr:a.tmps.getD t undef= .pointer (some ⟨g.β o,p,none⟩):=H; obtain⟨arr,ty',k1,k2,k3,k4⟩:=h.obs o cells (by rw[Lo c2]; exact L)
   have I: ∀(j:Nat) z,(cells.drop p)[j]? =some z→ ∃c,w.cell? ⟨g.β o,p+j,none⟩=some c∧oB c∧LF (g.relab σ β') w (m.kd (.s 0 k j)) (.s 0 k j) c z:=fun j z hz=>by
    rw[z43]at hz
    obtain⟨c,d1,d2,d3⟩:=k4 _ z hz; refine⟨c,by rw[cS w _ _ arr ty' _ k1]; exact d1,d2, ?_⟩
    have q:=M j; rw[hsrc]at q; exact LF.relab hσ h.ok rfl d3 q.1 q.2
   obtain⟨u,r1,r2,r3,r4⟩:=vB hT hi (l':=fun _ j=> .s 0 k j) I d (fun j c z K=>K.cp hok' rfl)
   refine⟨u,A,hwk, ?_, ?_⟩
   ·simp only[Ah,hptr,asAddr,Sem.run_bind,Sem.run_pure,Result.andThen_ok,r1]
   ·have r2':RV (g.relab σ β') w (fun _ j=>if kI i.zero j then .S else(m.kd (.s 0 k j)).cp) (fun _ j=> .s 0 k j) u (.one A):=r2
    have hto:A.to (uY C)=A:=by
     unfold qC at d; split at d<;>try cases d
     split at d
     ·cases d; rfl
     ·split at d<;>cases d; rfl
    rw[hto]; have:=r2'.map (g':=g.relab σ β') (w':=w) (κ':=fun _ j=>m.kd (.s 0 k j)) (l':=fun _ j=> .s 0 k j) (fun _=>rfl) (fun k' j z u' hz hu hn K=>by
     obtain⟨q0,_⟩:=wE d hz; subst q0; obtain⟨q1,q2⟩:=r4 j z hz; obtain⟨c,d1,d2,d3⟩:=I j z q1; rw[hu]at q2; have q2:some u'=some c:=q2.trans d1; cases q2; exact d3) (fun k' zs hz=>by
     exfalso
     unfold qC at d; split at d<;>try cases d
     split at d
     ·cases d; cases k'<;>simp [V.comp]at hz
     ·split at d<;>cases d
      cases k'<;>simp [V.comp]at hz)
    exact this
 obtain⟨us,hul,hus⟩:=EH (rs:=rs) (Q:=fun k u=> ∃r A,rs[k]? =some r∧J[k]? =some A∧(Ah a.tmps r).run P w= .ok u w∧RW (g.relab σ β') w (fun j=>m.kd (.s 0 k j)) (fun j=> .s 0 k j) u (A.to (uY C))) (fun k r E=>by
  obtain⟨u,A,h1,h2,h3⟩:=hone k r E; exact⟨u,r,A,E,h1,h2,h3⟩)
 refine⟨us,hul,fun k r u E hu=> ?_,g.relab σ β', ?_⟩
 ·obtain⟨r',A,h1,_,h3,_⟩:=hus k u hu
  rw[E]at h1; cases h1; exact h3
 have f:RV (g.relab σ β') w (fun k j=>m.kd (.s 0 k j)) (fun k j=> .s 0 k j) (wX us) ((IV J).to (uY C)):=by
  have hwl:J.length=us.length:=by omega
  have E: ∀(k:Nat) u A,us[k]? =some u→J[k]? =some A→RW (g.relab σ β') w (fun j=>m.kd (.s 0 k j)) (fun j=> .s 0 k j) u (A.to (uY C)):=fun k u A hu hw=>by
   obtain⟨r',wk',_,h2,_,h4⟩:=hus k u hu; rw[hw]at h2; cases h2; exact h4
  have tuple:RV (g.relab σ β') w (fun k j=>m.kd (.s 0 k j)) (fun k j=> .s 0 k j) (.tuple us.toArray) ((V.tup J).to (uY C)):=by
   refine⟨us.toArray,rfl,by simp [hwl],fun k A hw=> ?_⟩
   rw[z35]at hw
   obtain⟨w0',hw0,rfl⟩:=z23.1 hw; have hlt:k<us.length:=by have:=cR hw0; omega
   exact⟨us[k],by simp [hlt],E k us[k] w0' (z13 hlt) hw0⟩
  match us,J,hwl,E,tuple with
  | [u],[w1],_,E,_=>exact E 0 u w1 rfl rfl
  | [],[],_,_,t=>exact t
  | u::u'::us',w1::w2::ws',_,_,t=>exact t
 refine h.relab hσ _ _ hβp (by simp [B.S]) (by show 2≤par; unfold par; omega) rfl (fun i=> ?_) (fun i=> ?_) (fun oc cells hc=> ?_)
 ·show aI (if m.has i=true then(DR _ iov ob nw).sl i else .one .junk)= .none
  split
  ·match i with
   | 0=>exact V.to_root
   | 1=>simp only[DR]; cases iov<;>rfl
   | i+2=>rfl
  ·rfl
 ·show RV _ w (fun k j=>m.kd (.s i k j)) _ (#[wX us,u1].getD i undef) (if m.has i=true then(DR _ iov ob nw).sl i else .one .junk)
  by_cases X:m.has i=true
  ·rw[z20 X]
   match i,hb2 i X with
   | 0,_=>exact f
   | 1,_=>
    cases hz:io with
    | none=>rw[hio0 hz]at X; cases X
    | some z=>
     obtain⟨z1,z2,⟨t,z3,z4⟩,z5,z6⟩:=hio z hz; have H:=h.slots z; rw[qU z2,z3]at H; rw[z1]at H; simp only[DR,z4]; exact⟨H.1,LF.relab hσ h.ok rfl H.2 z5 z6⟩
  ·rw[z15 X]; trivial
 ·have Y:(if m.hasO oc=true then(DR _ iov ob nw).ob oc else none)=some cells:=hc
  split at Y<;>try cases Y
  rename_i hoc; obtain⟨R,U,p2,p3⟩:=Rx hob hoc; have O:σ (.obj R)= .obj oc∧ ∀j,σ (.oc R j)= .oc oc j:=by
   simp only[uY]at U; split at U
   ·rename_i Z; cases U
    exact⟨by show BF _ _ _ _ _=_; simp only[BF,z20 Z],fun j=>by show BF _ _ _ _ _=_; simp only[BF,z20 Z]⟩
   ·rename_i Z
    split at U
    ·rename_i hn; cases U
     exact⟨by show BF _ _ _ _ _=_; simp only[BF,z15 Z,z20 hn],fun j=>by show BF _ _ _ _ _=_; simp only[BF,z15 Z,z20 hn]⟩
    ·cases U
  refine⟨R, ?_,hβ R oc U,O.1,fun j=>⟨p3 j,fun _=>O.2 j⟩⟩
  rw[Lo p2, ←hobd oc R hoc U]; exact Y

inductive Ek where
 | n | r | e (i:Nat)
 deriving DecidableEq
def Ek.exit:Ek→Exit
 | .n=> .normal
 | .r=> .ret
 | .e i=> .exit i

def bN(ds:List (Option Nat))(x:D):Option (Nat×Bool)→Option Bool
 | none=>some true
 | some (j,want)=>match ds[j]? with
  | some (some t)=>(match x.sl t with
   | .one (.c (.bool b))=>some (b == want)
   | .tup []=>some false
   | _=>none)
  | _=>some false
def sK(x:D):Option Nat→D
 | some d=>x.put d (.tup [])
 | none=>x

def objsW:W→List Nat
 | .ptr o _=> [o]
 | .fn _ cs=>cs.map (·.1)
 | _=> []
def OV:List Nat→List Nat→List Nat
 | [],d=>d
 | o::r,d=>bif mem o d then OV r d else OV r (d++[o])
def TP(F:FA)(v:Operand):List Nat:=match oA F v with | .one w=>objsW w | _=> []
def wR(F:FA)(c:Call):Bool:=match c.args.toList with
 | .tmp t::_=>mem t F.ioa
 | _=>false
def kH(F:FA)(c:Call)(v:Operand):List Nat:=bif wR F c then [0,0]else OV (c.args.toList.flatMap (TP F)++TP F v) []
def rZ(F:FA)(d:Option Nat):Option Nat:=match d with | some d=>bif mem d F.nw then some d else none | none=>none

def oD(F:FA):Nat→List V→Bool
 | _,[]=>true
 | i,v::r=>fits v (F.shOf i)&&oD F (i+1) r
def pH(F:FA):Nat→List (List T)→Bool
 | _,[]=>true
 | i,cs::r=>fT cs (F.obOf (par+i))&&pH F (i+1) r
def xS(x:D):Nat→List (List T)→Option (List (List T))
 | _,[]=>some []
 | i,_::r=>match x.ob (par+i),xS x (i+1) r with
  | some cs,some css=>some (cs::css)
  | _,_=>none

inductive Jd where
 | code (F:FA) (c:Code) (x:D) (e:Ek) (x':D)
 | ops (F:FA) (ds:List (Option Nat)) (os:List Oper) (x x':D)
 | fn (f:FuncId) (vs:List V) (ob:List (List T)) (r:V) (io:Option T) (ob':List (List T)) (nw:Option (List T))

def UA(z:Option Nat)(x:D):Option (Option T):=match z with
 | none=>some none
 | some z=>(match x.sl z with | .one (.c t)=>some (some t) | _=>none)

def pF(id:Nat)(e:Ek):Ek:=if e= .e id then .n else e

def Tt:Nat→List (List (List K))→List (Nat×List (List K))
 | _,[]=> []
 | i,κ::r=>(i,κ)::Tt (i+1) r
def WI(q:List (List (List K))×List (List K)×Bool):Sg:= { bi:= { sl:=Tt 0 q.1,ob:=[] },bo:= { sl:=[(0,q.2.1)],ob:=[] },np:=q.1.length,ext:=q.2.2 }
inductive Big (P:Program) (τ:TypeId→Option TI) (An:FuncId→FA):Jd→Prop
 | skip (F:FA) (x:D):Big P τ An (.code F .skip x .n x)
 | label (F:FA) (l:Nat) (x:D):Big P τ An (.code F (.label l) x .n x)
 | exit (F:FA) (i:Nat) (x:D):Big P τ An (.code F (.exit i) x (.e i) x)
 | ret (F:FA) (x:D):Big P τ An (.code F .ret x .r x)
 | seqN {F:FA} {a b:Code} {x x1 x2:D} {e:Ek} (h1:Big P τ An (.code F a x .n x1)) (h2:Big P τ An (.code F b x1 e x2)):Big P τ An (.code F (.seq a b) x e x2)
 | seqX {F:FA} {a b:Code} {x x1:D} {e:Ek} (h1:Big P τ An (.code F a x e x1)) (he:e≠ .n):Big P τ An (.code F (.seq a b) x e x1)
 | cond {F:FA} {c:Operand} {a b:Code} {x x1:D} {e:Ek} {t:Bool} (hc:ev x.sl c= .one (.c (.bool t))) (h1:Big P τ An (.code F (if t then a else b) x e x1)):Big P τ An (.code F (.cond c a b) x e x1)
 | block {F:FA} {id:Nat} {c:Code} {x x1:D} {e:Ek} (h1:Big P τ An (.code F c x e x1)):Big P τ An (.code F (.block id c) x (pF id e) x1)
 | loopX {F:FA} {c:Code} {x x1:D} {e:Ek} (h1:Big P τ An (.code F c x e x1)) (he:e≠ .n):Big P τ An (.code F (.loop c) x e x1)
 | loopN {F:FA} {c:Code} {x x1 x2:D} {e:Ek} (h1:Big P τ An (.code F c x .n x1)) (h2:Big P τ An (.code F (.loop c) x1 e x2)):Big P τ An (.code F (.loop c) x e x2)
 | regionM {F:FA} {id:Nat} {x:D} {S:TypeId} {i:TI} {f:FuncId} {c:Call} {o p0 tp tk t t' r r0 r2:Nat} {cells cells':List T} {k k':Int} {rs:List MR} {t1 t2 t3 t4:TypeId} {p1 p2 p3 p4:String} {f1 f2 f3 f4:Array Edge} (hmk:dM id F.mks=some (rs.map fun m=>(m.off,m.g))) (hi:τ S=some i) (h1:i.agg=false→i.size=1)
   (hM:UH P f i.agg i.size (rs.map fun m=>(m.off,m.g))) (hle:p0+i.size≤cells.length) (hc1:c.callee= .value (.func f)) (hc2:c.args= #[.tmp t, .tmp t']) (hr2:r2=r) (htp:x.sl tp= .one (.ptr o p0)) (htk:x.sl tk=vI k) (hob:x.ob o=some cells) (hch:FL p0 rs cells k cells' k')
   (hB: ∀m∈rs,Big P τ An (.fn m.g [.one (.c (.sl m.es)), .one (.c (.int .i64 m.k))] [] (.one (.c (.int .i64 m.k1))) (some (.sl m.es')) [] none)):
   Big P τ An (.code F (.region id #[⟨some t, .load S (.tmp tp),t1,p1,f1,none⟩,⟨some t', .move (.tmp tk),t2,p2,f2,none⟩,⟨some r, .call c,t3,p3,f3,none⟩,⟨some r0, .assign (.tmp r2),t4,p4,f4,none⟩] false) x .n ((D.updM o p0 rs x).put r0 (vI k')))
 | region {F:FA} {id:Nat} {ops:Array Oper} {dr:Bool} {x x1:D} (hmk:dM id F.mks=none) (h1:Big P τ An (.ops F (ops.toList.map (·.dst)) ops.toList x x1)):Big P τ An (.code F (.region id ops dr) x .n x1)
 | opsNil (F:FA) (ds:List (Option Nat)) (x:D):Big P τ An (.ops F ds [] x x)
 | opsSkip {F:FA} {ds:List (Option Nat)} {o:Oper} {r:List Oper} {x x2:D} (hg:bN ds x o.guard=some false) (h2:Big P τ An (.ops F ds r (sK x o.dst) x2)):Big P τ An (.ops F ds (o::r) x x2)
 | opsRun {F:FA} {ds:List (Option Nat)} {o:Oper} {r:List Oper} {x x1 x2:D} (hg:bN ds x o.guard=some true) (h1:dOp τ F x o=some x1) (h2:Big P τ An (.ops F ds r x1 x2)):Big P τ An (.ops F ds (o::r) x x2)
 | opsCall {F:FA} {ds:List (Option Nat)} {o:Oper} {rs:List Oper} {x x2:D} {c:Call} {v:Operand} {f:FuncId} {caps:List (Nat×Nat)} {ob ob':List (List T)} {r:V} {nw:Option (List T)} (hg:bN ds x o.guard=some true) (ho:o.op= .call c) (hcal:c.callee= .value v) (hni:wR F c=false)
   (hx:ev x.sl v= .one (.fn f caps)) (hth:c.args.toList.all (fun v=>gC (ev x.sl v))=true) (hob:ob.map some=(kH F c v).map x.ob) (h1:Big P τ An (.fn f (inV x c caps (kH F c v)) ob r none ob' nw))
   (hsh:bL F (x.call o.dst (rZ F o.dst) (kH F c v) (DR r none ob' nw)) o.dst (rZ F o.dst) (kH F c v)=true) (h2:Big P τ An (.ops F ds rs (x.call o.dst (rZ F o.dst) (kH F c v) (DR r none ob' nw)) x2)):Big P τ An (.ops F ds (o::rs) x x2)
 | opsIo {F:FA} {ds:List (Option Nat)} {o:Oper} {rs:List Oper} {x x2:D} {c:Call} {v:Operand} {f:FuncId} {r:V} {t:Nat} {xs:List Operand} {l:Loc} {p:List (Nat×Nat)} {x0:T} {es es':List (List T)} (hg:bN ds x o.guard=some true) (ho:o.op= .call c) (hcal:c.callee= .value v) (hio:wR F c=true)
   (hx:ev x.sl v= .one (.fn f [])) (hth:c.args.toList.all (fun v=>gC (ev x.sl v))=true) (hargs:c.args.toList= .tmp t::xs) (hal:x.sl t= .one (.al l p)) (hat:x.at l=some x0) (hnav:nav x0 p=some (.sl es)) (h1:Big P τ An (.fn f (inV x c [] []) [] r (some (.sl es')) [] none))
   (hsh:bL F (x.call o.dst none [] (DR r (some (.sl es')) [] none)) o.dst none []=true) (h2:Big P τ An (.ops F ds rs ((x.call o.dst none [] (DR r (some (.sl es')) [] none)).upd l (cZ x0 p (.sl es'))) x2)):Big P τ An (.ops F ds (o::rs) x x2)
 | fn {f:FuncId} {fn:Func} {c:Code} {vs:List V} {ob ob':List (List T)} {e:Ek} {x':D} {ws:List W} {iov:Option T} (hf:P.funcs[f]? =some fn) (hb:fn.body=some c) (hsh:oD (An f) 0 vs=true) (hso:pH (An f) 0 ob=true) (h1:Big P τ An (.code (An f) c (DA vs ob) e x'))
   (he:e= .n∨e= .r) (hws:DS τ x' fn.results.toList=some ws) (hio:UA (An f).io x'=some iov) (hob:xS x' 0 ob=some ob'):Big P τ An (.fn f vs ob ((IV ws).to (uY (An f).n0)) iov ob' ((An f).n0.bind x'.ob))
 | lib {f:FuncId} {fn:Func} {c:Code} {vs:List V} {r:V} {q:List (List (List K))×List (List K)×Bool} (hf:P.funcs[f]? =some fn) (hb:fn.body=some c) (hq:(An f).lb=some q) (h1:TC P f (WI q) vs [] r none [] none):Big P τ An (.fn f vs [] r none [] none)
def HX(o:Oper):Bool:=match o.dst,o.guard with
 | none,none=>(match o.op with | .panic _=>true | _=>false)
 | _,_=>false

def BV:List K→List K→Bool
 | _,[]=>true
 | [],q::r=>decide (q= .D)&&BV [] r
 | p::ps,q::r=>p.lo q&&BV ps r
def xU:List (List K)→List (List K)→Bool
 | _,[]=>true
 | [],q::r=>BV [] q&&xU [] r
 | p::ps,q::r=>BV p q&&xU ps r

theorem CC: ∀ {ps qs:List K},BV ps qs=true→ ∀ {j:Nat} {q:K},qs[j]? =some q→(match ps[j]? with | some p=>p | none=> .D).lo q=true
 | _,[],_,j,q,h=>by simp at h
 | [],q::r,h,0,b,a=>by
  simp only[BV,z7]at h; simp only[z22,z10]at a
  subst a; rw[of_decide_eq_true h.1]; rfl
 | [],q::r,h,j+1,b,a=>by
  simp only[BV,z7]at h; simp only[z24]at a
  have:=CC h.2 a; simpa using this
 | p::ps,q::r,h,0,b,a=>by
  simp only[BV,z7]at h; simp only[z22,z10]at a
  subst a; exact h.1
 | p::ps,q::r,h,j+1,b,a=>by
  simp only[BV,z7]at h; simp only[z24]at a ⊢
  exact CC h.2 a

theorem Df: ∀ {ps qs:List (List K)},xU ps qs=true→ ∀ {k:Nat} {r:List K},qs[k]? =some r→BV (match ps[k]? with | some p=>p | none=> []) r=true
 | _,[],_,j,q,h=>by simp at h
 | [],q::r,h,0,b,a=>by
  simp only[xU,z7]at h; simp only[z22,z10]at a
  subst a; exact h.1
 | [],q::r,h,j+1,b,a=>by
  simp only[xU,z7]at h; simp only[z24]at a
  have:=Df h.2 a; simpa using this
 | p::ps,q::r,h,0,b,a=>by
  simp only[xU,z7]at h; simp only[z22,z10]at a
  subst a; exact h.1
 | p::ps,q::r,h,j+1,b,a=>by
  simp only[xU,z7]at h; simp only[z24]at a ⊢
  exact Df h.2 a

def leB(a b:B):Bool:=a.sl.all (fun p=>match dM p.1 b.sl with | some κ=>xU κ p.2 | none=>false)&&a.ob.all (fun p=>match dM p.1 b.ob with | some r=>BV r p.2 | none=>false)

theorem OM{a b:B}(h:leB a b=true):(∀i,a.has i=true→b.has i=true)∧(∀o,a.hasO o=true→b.hasO o=true)∧ ∀l,(b.kd l).lo (a.kd l)=true:=by
 simp only[leB,z7]at h; refine⟨fun i f=> ?_,fun o ho=> ?_,fun l=> ?_⟩
 ·simp only[B.has]at f ⊢
  cases hl:dM i a.sl with
  | none=>rw[hl]at f; cases f
  | some κ=>
   have:=z18.1 h.1 _ (iE hl); simp only at this; split at this
   ·rename_i c; rw[c]; rfl
   ·cases this
 ·simp only[B.hasO]at ho ⊢
  cases hl:dM o a.ob with
  | none=>rw[hl]at ho; cases ho
  | some κ=>
   have:=z18.1 h.2 _ (iE hl); simp only at this; split at this
   ·rename_i c; rw[c]; rfl
   ·cases this
 ·cases hg:a.get l with
  | none=>
   have:a.kd l= .D:=by simp only[B.kd,hg]
   rw[this]; exact IW _
  | some q=>
   have g:a.kd l=q:=by simp only[B.kd,hg]
   rw[g]; cases l with
   | s i k j=>
    simp only[B.get]at hg; cases hl:dM i a.sl with
    | none=>rw[hl]at hg; cases hg
    | some κ=>
     rw[hl]at hg; simp only[Bh]at hg; have:=z18.1 h.1 _ (iE hl); simp only at this; cases c:dM i b.sl with
     | none=>rw[c]at this; cases this
     | some κ2=>
      rw[c]at this; have this:xU κ2 κ=true:=this; cases hr:κ[k]? with
      | none=>rw[hr]at hg; cases hg
      | some r=>
       rw[hr]at hg; have d:=CC (Df this hr) hg; have e:b.kd (.s i k j)=(match(match κ2[k]? with | some p=>p | none=> [])[j]? with | some p=>p | none=> .D):=by
        simp only[B.kd,B.get,c,Bh]; cases κ2[k]? with
        | none=>rfl
        | some r0=>simp only; cases r0[j]? <;>rfl
       rw[e]; exact d
   | oc o j=>
    simp only[B.get]at hg; cases hl:dM o a.ob with
    | none=>rw[hl]at hg; cases hg
    | some r=>
     rw[hl]at hg; have:=z18.1 h.2 _ (iE hl); simp only at this; cases c:dM o b.ob with
     | none=>rw[c]at this; cases this
     | some r2=>
      rw[c]at this; have d:=CC this hg; have e:b.kd (.oc o j)=(match r2[j]? with | some p=>p | none=> .D):=by
       simp only[B.kd,B.get,c]; cases r2[j]? <;>rfl
      rw[e]; exact d
   | _=>cases hg

def Cv(F:FA)(b c:B):Prop:= ∀x,Ag F b x→Ag F c x∧ ∀g0 w0 a w,Sim g0 w0 (b.S F.n x) a w→Sim g0 w0 (c.S F.n x) a w
theorem Cv.refl(F:FA)(b:B):Cv F b b:=fun _ h=>⟨h,fun _ _ _ _ h=>h⟩
theorem Cv.trans{F:FA}{a b c:B}(h:Cv F a b)(k:Cv F b c):Cv F a c:=fun x e=>by
 obtain⟨h1,d⟩:=h x e; obtain⟨g,i⟩:=k x h1; exact⟨g,fun g0 w0 a w f=>i g0 w0 a w (d g0 w0 a w f)⟩

theorem PC{a b:K}(h:a.lo b=true)(c:b≠ .D):a≠ .D:=fun e=>by subst e; cases b<;>simp [K.lo]at h c

theorem FG{F:FA}{d b:B}(h:leB d b=true):Cv F b (d.nrm F):=fun x j=>by
 obtain⟨h1,g,e⟩:=OM h; have c:Ag F d x:=⟨fun i f=>j.sl i (h1 i f),fun o ho=>j.ob o (g o ho)⟩
 refine⟨c.nrm,fun g0 w0 a w p=>p.relax (Low.le c ⟨rfl,fun i f=>qU (h1 i f),fun o ho=>Lo (g o ho),fun l t _ _=>e l,fun i k xs _ _=>e _,fun i _ _ m=>PC (e _) m⟩)⟩

def IS{α β:Type}(f:α→Option β):List α→Option β
 | []=>none
 | a::r=>match f a with | some b=>some b | none=>IS f r
theorem Dk{α β:Type}{f:α→Option β}: ∀ {l:List α} {b:β},IS f l=some b→ ∃a∈l,f a=some b
 | [],b,h=>by cases h
 | a::r,b,h=>by
  unfold IS at h; split at h
  ·rename_i g e; cases h; exact⟨a,z32,e⟩
  ·obtain⟨c,h1,d⟩:=Dk h; exact⟨c,z28 _ h1,d⟩

def fzX(F:FA)(b:B)(d:Nat):List (Nat×Nat)→List Loc
 | []=> []
 | (i,t)::r=>(bif Nat.beq i d then(holds F b t).map fun m=> .s t m.1 m.2 else [])++fzX F b d r
def fzL(F:FA)(b:B):Option Nat→List Loc
 | some d=>(bif mem d F.fz then(holds F b d).map fun m=> .s d m.1 m.2 else [])++fzX F b d F.fx
 | none=> []
def Ks(a:List (Option Nat))(b:B):Option (Nat×Bool)→Bool
 | none=>true
 | some (j,_)=>match a[j]? with
  | some (some t)=>b.has t
  | _=>true
def Gc(F:FA)(b b1:B)(d:Option Nat):Bool:=match d with
 | some d=>Nat.blt d F.n&&leB (b1.filt fun i=> !(Nat.beq i d)) b&&b1.sl.all (fun p=>Nat.beq p.1 d|| !(aY d (aI (F.shOf p.1))))
 | none=>false

def UE(Sg:FuncId→List Sg)(F:FA)(b:B)(o:Oper)(c:Call)(v:Operand):Option B:=match oA F v with
 | .one (.fn f caps)=>IS (fun sg=>bif Nat.beq sg.np (c.args.toList.length+caps.length)&&Nat.beq sg.no (kH F c v).length then RD F b sg c v o.dst (rZ F o.dst) (kH F c v)else none) (Sg f)
 | _=>none
def ioC(Sg:FuncId→List Sg)(F:FA)(b:B)(o:Oper)(c:Call)(v:Operand):Option B:=match oA F v with
 | .one (.fn f caps)=>IS (fun sg=>bif Nat.beq sg.np c.args.toList.length&&Nat.beq caps.length 0&&Nat.beq sg.no 0 then cIo F b sg c v o.dst else none) (Sg f)
 | _=>none
def dI(o:Oper):Option (Call×Operand):=match o.op with
 | .call c=>(match c.callee with | .value v=>some (c,v) | _=>none)
 | _=>none
def RN(τ:TypeId→Option TI)(Sg:FuncId→List Sg)(F:FA)(b:B)(o:Oper):Option B:=match dI o with
 | some (c,v)=>bif wR F c then ioC Sg F b o c v else UE Sg F b o c v
 | none=>cOp τ F b o
def tU(τ:TypeId→Option TI)(Sg:FuncId→List Sg)(F:FA)(a:List (Option Nat))(b:B)(o:Oper):Option B:=match RN τ Sg F b o with
 | some b1=>bif Ks a b o.guard&&(match o.guard with | none=>true | some _=>Gc F b (b1.frz F (fzL F b1 o.dst)) o.dst)then some ((b1.frz F (fzL F b1 o.dst)).nrm F)else none
 | none=>none
def RR(τ:TypeId→Option TI)(Sg:FuncId→List Sg)(F:FA)(a:List (Option Nat)):B→List Oper→Option B
 | b,[]=>some b
 | b,o::r=>match tU τ Sg F a b o with | some b1=>RR τ Sg F a b1 r | none=>none

theorem OP{F:FA}(L:List Loc)(b:B):Cv F b (b.frz F L):=fun x d=>by
 obtain⟨h1,c⟩:=UC (n:=F.n) L d; exact⟨h1,fun g0 w0 a w e=>c e⟩

theorem XD{F:FA}{b b1:B}{x:D}{d:Option Nat}(y:Ag F b x)(h:Gc F b b1 d=true):Ag F (b1.nrm F) (sK x d)∧ ∀g0 w0 a w,Sim g0 w0 (b.S F.n x) a w→Sim g0 w0 ((b1.nrm F).S F.n (sK x d)) (a.put d undef) w:=by
 cases d with
 | none=>cases h
 | some d=>
  simp only[Gc,z7]at h; obtain⟨⟨h0,h1⟩,K⟩:=h; obtain⟨O,I,J⟩:=OM h1; have c: ∀i,i≠d→b1.has i=true→b.has i=true:=fun i e m=>O i (by rw[fF,m,dU e]; rfl)
  have p: ∀i,i≠d→b1.has i=true→aY d (aI (F.shOf i))=false:=fun i e m=>by
   simp only[B.has]at m; cases hl:dM i b1.sl with
   | none=>rw[hl]at m; cases m
   | some κ=>
    have:=z18.1 K _ (iE hl); simp only[dU e,z39]at this; simpa using this
  have v: ∀i k j,i≠d→(b.kd (.s i k j)).lo (b1.kd (.s i k j))=true:=fun i k j e=>by
   have:=J (.s i k j); rwa[gR (by rw[dU e]; rfl)]at this
  have z:Ag F b1 (sK x (some d)):=by
   refine⟨fun i m=> ?_,fun o ho=>y.ob o (I o ho)⟩
   by_cases e:i=d
   ·subst e; left; simp [sK,D.put]
   ·have:=y.sl i (c i e m)
    simpa [sK,D.put,e]using this
  refine⟨z.nrm,fun g0 w0 a w G=> ?_⟩
  obtain⟨g,G⟩:=G; have L:=G.set (u:=undef) (r:= .tup []) (κ:=fun _ _=> .D) (dC h0) ⟨#[],rfl,rfl,fun k x H=>by simp at H⟩ (fun h=>absurd rfl h)
  refine⟨g,L.relax (Low.le z ⟨rfl,fun i m=> ?_,fun o ho=>Lo (n:=F.n) (I o ho),fun l t C N=> ?_,fun i k xs m H=> ?_,fun i m M A=> ?_⟩)⟩
  ·by_cases e:i=d
   ·subst e; simp [St.put,sK,D.put]
   ·simp only[St.put,sK,D.put,z15 e]; exact qU (c i e m)
  ·cases l with
   | s i k j=>
    by_cases e:i=d
    ·subst e
     exfalso
     simp [D.at,atL,sK,D.put,V.leaf]at N
    ·have A:((b.S F.n x).put d (.tup []) (fun _ _=> .D)).fl (.s i k j)=b.kd (.s i k j):=by
      simp only[St.put,z15 e]; rw[z15]
      ·rfl
      ·rintro ⟨_,_,f⟩
       rw[qU (c i e C)]at f; rcases y.sl i (c i e C)with q | q
       ·rw[q]at f; cases f
       ·rw[eO q,p i e C]at f; cases f
     rw[A]; exact v i k j e
   | oc o j=>exact J (.oc o j)
   | _=>cases C
  ·by_cases e:i=d
   ·subst e
    simp [sK,D.put,V.comp]at H
   ·have A:((b.S F.n x).put d (.tup []) (fun _ _=> .D)).fl (.s i k 0)=b.kd (.s i k 0):=by
     simp only[St.put,z15 e]; rw[z15]
     ·rfl
     ·rintro ⟨_,_,f⟩
      rw[qU (c i e m)]at f; rcases y.sl i (c i e m)with q | q
      ·rw[q]at f; cases f
      ·rw[eO q,p i e m]at f; cases f
    rw[A]; exact v i k 0 e
  ·by_cases e:i=d
   ·subst e
    exact absurd (show aI ((sK x (some i)).sl i)= .none by simp [sK,D.put,aI]) M
   ·have E:((b.S F.n x).put d (.tup []) (fun _ _=> .D)).fl (.s i 0 0)=b.kd (.s i 0 0):=by
     simp only[St.put,z15 e]; rw[z15]
     ·rfl
     ·rintro ⟨_,_,f⟩
      rw[qU (c i e m)]at f; rcases y.sl i (c i e m)with q | q
      ·rw[q]at f; cases f
      ·rw[eO q,p i e m]at f; cases f
    rw[E]; exact PC (v i 0 0 e) A

structure Eff where
  d:Option Nat
  u:V
  ob:Nat→Option (Option (List T))
def Eff.on(E:Eff)(x:D):D:=
  { sl:=fun i=>if E.d=some i then E.u else x.sl i
    ob:=fun o=>match E.ob o with | some c=>c | none=>x.ob o }
def Eff.put(d:Nat)(u:V):Eff:=⟨some d,u,fun _=>none⟩
def Eff.skip(d:Option Nat):Eff:=⟨d, .tup [],fun _=>none⟩
def Eff.new(d:Nat)(u:V)(cs:List T):Eff:=⟨some d,u,fun o=>if o=d then some (some cs)else none⟩
def Eff.call(d nd:Option Nat)(os:List Nat)(y:D):Eff:=⟨d,(y.sl 0).to (tZ os nd),fun o=>match qT os nd o with | some oc=>some (y.ob oc) | none=>none⟩

theorem D.ext{x y:D}(h1: ∀i,x.sl i=y.sl i)(a: ∀o,x.ob o=y.ob o):x=y:=by
  cases x; cases y; simp only[D.mk.injEq]; exact⟨funext h1,funext a⟩

theorem Eff.put_on(d:Nat)(u:V)(x:D):(Eff.put d u).on x=x.put d u:=D.ext (fun i=>by
  simp only[Eff.on,Eff.put,D.put,z10]; by_cases e:d=i
  · rw[z20 e,z20 e.symm]
  · rw[z15 e,z15 (fun h=>e h.symm)]) (fun _=>rfl)
theorem Eff.skip_on(d:Option Nat)(x:D):(Eff.skip d).on x=sK x d:=D.ext (fun i=>by
  cases d with
  | none=>simp [Eff.on,Eff.skip,sK]
  | some d=>
    simp only[Eff.on,Eff.skip,sK,D.put,z10]; by_cases e:d=i
    · rw[z20 e,z20 e.symm]
    · rw[z15 e,z15 (fun h=>e h.symm)]) (fun _=>by cases d<;>rfl)
theorem Eff.new_on(d:Nat)(u:V)(cs:List T)(x:D):(Eff.new d u cs).on x=(x.put d u).setO d cs:=D.ext (fun i=>by
  simp only[Eff.on,Eff.new,D.put,D.setO,z10]; by_cases e:d=i
  · rw[z20 e,z20 e.symm]
  · rw[z15 e,z15 (fun h=>e h.symm)]) (fun o=>by
  simp only[Eff.on,Eff.new,D.put,D.setO]; by_cases e:o=d
  · rw[z20 e,z20 e]
  · rw[z15 e,z15 e])
theorem Eff.call_on(d nd:Option Nat)(os:List Nat)(y x:D):(Eff.call d nd os y).on x=x.call d nd os y:=D.ext (fun _=>rfl) (fun o=>by
  simp only[Eff.on,Eff.call,D.call]; cases qT os nd o<;>rfl)

def sA(x y:D)(v:Operand):Prop:=ev y.sl v=ev x.sl v∧(match ev x.sl v with
  | .one (.ptr ob _)=>y.ob ob=x.ob ob
  | .one (.pp l _ _ _)=>y.at l=x.at l
  | .one (.al l _)=>y.at l=x.at l
  | _=>True)

theorem sA.evD{x y:D}{v:Operand}(h:sA x y v):evD y v=evD x v:=by
  unfold Own.evD; rw[h.1]; have a:=h.2; unfold vL; split
  · rename_i l p e
    rw[e]at a; have a:atL y.sl y.ob l=atL x.sl x.ob l:=a; rw[a]
  · rfl

section
variable {τ:TypeId→Option TI} {F:FA} {x y x1:D} {o:Oper}

def rX(f:D→Option D)(x y x1:D)(d:Nat):Prop:= ∃u,x1=x.put d u∧f y=some (y.put d u)

theorem gP{d:Nat}{v:V}{f:D→Option D}(h:sH F x d v=some x1)(a:f y=sH F y d v):rX f x y x1 d:=by
  obtain⟨h1,rfl⟩:=cI h; exact⟨v,rfl,by rw[a]; unfold sH; rw[h1]; rfl⟩

theorem Gl{d:Nat}{v:Operand}(b:ev y.sl v=ev x.sl v)(h:yK F x d v=some x1):rX (fun y=>yK F y d v) x y x1 d:=by
  unfold yK at h; obtain⟨a,h⟩:=aJ h; exact gP h (by simp only[yK,b,a,z16])
theorem Mg{d:Nat}{v:Operand}(a:ev y.sl v=ev x.sl v)(h:uG F x d v=some x1):rX (fun y=>uG F y d v) x y x1 d:=by
  unfold uG at h; split at h<;>try cases h
  rename_i t; split at h<;>try cases h
  rename_i e; have h1:y.sl t=x.sl t:=a; exact gP h (by simp only[uG,h1,e])
theorem NW{d k:Nat}{v:Operand}(b:sA x y v)(h:pI F x d k v=some x1):rX (fun y=>pI F y d k v) x y x1 d:=by
  unfold pI at h; split at h<;>try cases h
  rename_i t; split at h<;>try cases h
  rename_i c e; split at h<;>try cases h
  rename_i w a; have h1:y.sl t=x.sl t:=b.1; exact gP h (by simp only[pI,h1,e,a])
theorem Ue{d:Nat}{c v z:Operand}(h1:sA x y c)(b:sA x y v)(f:sA x y z)(h:Ey F x d c v z=some x1):rX (fun y=>Ey F y d c v z) x y x1 d:=by
  unfold Ey at h; split at h<;>try cases h
  all_goals
    rename_i e; split at h<;>try cases h
    rename_i a; obtain⟨g,h⟩:=aJ h; exact gP h (by simp only[Ey,h1.1,b.1,f.1,e,a,g,z16])
theorem MW{d:Nat}{s:TypeId}{v:Operand}{f:Nat}(c:ev y.sl v=ev x.sl v)(h:vR τ F x d s v f=some x1):rX (fun y=>vR τ F y d s v f) x y x1 d:=by
  unfold vR at h; split at h<;>try cases h
  rename_i e; split at h<;>try cases h
  rename_i a; split at h<;>try cases h
  rename_i b; exact gP h (by simp only[vR,c,e,a,b])
theorem TQ{d:Nat}{v:Operand}(a:ev y.sl v=ev x.sl v)(h:Mo F x d v=some x1):rX (fun y=>Mo F y d v) x y x1 d:=by
  unfold Mo at h; split at h<;>try cases h
  all_goals
    rename_i e; exact gP h (by simp only[Mo,a,e])
theorem VF{d:Nat}{f:FuncId}{caps:Array Operand}(a: ∀v∈caps.toList,sA x y v)(h:DV F x d f caps=some x1):rX (fun y=>DV F y d f caps) x y x1 d:=by
  unfold DV at h; split at h<;>try cases h
  rename_i e; have:caps.toList.map (ev y.sl)=caps.toList.map (ev x.sl):=z46 fun v b=>(a v b).1
  exact gP h (by simp only[DV,this,e])
theorem Ub{d:Nat}{op:Op}(a: ∀v∈op.operands,sA x y v)(h:oO τ F x d op=some x1):rX (fun y=>oO τ F y d op) x y x1 d:=by
  unfold oO at h; split at h<;>try cases h
  rename_i e; exact gP h (by simp only[oO,yD op (fun v b=>(a v b).evD),e])
theorem QR{d:Nat}{t:TypeId}{v i:Operand}(h1:sA x y v)(g:sA x y i)(h:oS τ F x d t v i=some x1):rX (fun y=>oS τ F y d t v i) x y x1 d:=by
  unfold oS at h; split at h<;>try cases h
  rename_i s e k n j a b c; split at h<;>try cases h
  rename_i row f; exact gP h (by simp only[oS,h1.1,g.1,a,b,c,f])
theorem SW{d:Nat}{t:TypeId}{v i:Operand}(h1:sA x y v)(j:sA x y i)(h:oK τ F x d t v i=some x1):rX (fun y=>oK τ F y d t v i) x y x1 d:=by
  unfold oK at h; split at h<;>try cases h
  · rename_i c e
    split at h<;>try cases h
    · rename_i l p a
      split at h<;>try cases h
      rename_i k g; split at h<;>try cases h
      rename_i b; have f:=h1.2; rw[a]at f; have f:y.at l=x.at l:=f; exact gP h (by simp only[oK,h1.1,j.1,c,e,a,f,g,b])
    · rename_i k a
      split at h<;>try cases h
      rename_i b; exact gP h (by simp only[oK,h1.1,j.1,c,e,a,b])
  · rename_i c e
    split at h<;>try cases h
    rename_i a g; split at h<;>try cases h
    rename_i b; exact gP h (by simp only[oK,h1.1,j.1,c,e,a,g]; rw[z20 b])
theorem Ur{d:Nat}{t:TypeId}{v:Operand}{al:Bool}(h1:sA x y v)(h:rV τ F x d t v al=some x1):rX (fun y=>rV τ F y d t v al) x y x1 d:=by
  unfold rV at h; split at h<;>try cases h
  · rename_i c b
    have a:=h1.2; rw[b]at a; split at h<;>try cases h
    rename_i e; simp only at a; cases al with
    | true=>
      simp only[z16]at h; obtain⟨g,h⟩:=aJ h; exact gP h (by simp only[rV,h1.1,c,b,a,e,z16,g])
    | false=>
      simp only[z12]at h; split at h<;>try cases h
      rename_i f; exact gP h (by simp only[rV,h1.1,c,b,a,e,z12,f])
  · rename_i c b
    split at h<;>try cases h
    rename_i e; exact gP h (by simp only[rV,h1.1,c,b,e])
  · rename_i l p n j c b
    have a:=h1.2; rw[b]at a; have a:y.at l=x.at l:=a; split at h<;>try cases h
    rename_i e; split at h<;>try cases h
    rename_i f; cases al with
    | true=>
      simp only[z16]at h; obtain⟨g,h⟩:=aJ h; exact gP h (by simp only[rV,h1.1,c,b,a,e,f,z16,g])
    | false=>
      simp only[z12]at h; split at h<;>try cases h
      rename_i i; exact gP h (by simp only[rV,h1.1,c,b,a,e,f,z12,i])
theorem Qe{d:Nat}{t u:TypeId}{v z:Operand}(h1:sA x y v)(f:sA x y z)(h:tF τ F x d t u v z=some x1):rX (fun y=>tF τ F y d t u v z) x y x1 d:=by
  unfold tF at h; split at h<;>try cases h
  rename_i a; split at h<;>try cases h
  rename_i b c e; obtain⟨g,h⟩:=aJ h; exact gP h (by simp only[tF,h1.1,f.1,a,b,c,e,g,z16])
theorem XS{d:Nat}{t:TypeId}{n:Nat}{a:Array (Nat×Operand)}(g: ∀v∈a.toList.map (·.2),sA x y v)(h:Nz τ F x d t n a=some x1):rX (fun y=>Nz τ F y d t n a) x y x1 d:=by
  unfold Nz at h; split at h<;>try cases h
  rename_i b; split at h<;>try cases h
  rename_i c e; obtain⟨f,h⟩:=aJ h; have:(a.toList.map (·.2)).map (ev y.sl)=(a.toList.map (·.2)).map (ev x.sl):=z46 fun v i=>(g v i).1
  exact gP h (by simp only[Nz,this,b,c,e,f,z16])
theorem Um{d:Nat}{t:TypeId}{v z:Operand}(h1:sA x y v)(g:sA x y z)(h:Ez τ F x d t v z=some x1):rX (fun y=>Ez τ F y d t v z) x y x1 d:=by
  unfold Ez at h; split at h<;>try cases h
  rename_i a; split at h<;>try cases h
  rename_i b c e; split at h<;>try cases h
  rename_i f; exact gP h (by simp only[Ez,h1.1,g.1,a,b,c,e]; rw[z20 f])
theorem Sp{d:Nat}{t:TypeId}{a:Array (Nat×Operand)}(g: ∀v∈a.toList.map (·.2),sA x y v)(h:xW τ F x d t a=some x1):rX (fun y=>xW τ F y d t a) x y x1 d:=by
  unfold xW at h; split at h<;>try cases h
  rename_i b; split at h<;>try cases h
  rename_i c; split at h<;>try cases h
  rename_i e; have:a.toList.map (fun p=>(p.1,ev y.sl p.2))=a.toList.map (fun p=>(p.1,ev x.sl p.2)):=z46 fun p f=>by rw[(g p.2 (z49.2 ⟨p,f,rfl⟩)).1]
  exact gP h (by simp only[xW,this,b,c,e])

def Ql(o:Oper):List Nat:=match o.dst,o.op with
  | some d, .alloc _=> [d]
  | some d, .box _ _=> [d]
  | _,_=> []
def wY(o:Oper):Bool:=match o.op with | .store _ _ _=>true | _=>false
def isTk(F:FA)(o:Oper):Bool:=match o.dst,o.op with
  | some d, .load _ v=>mem d F.tk&&(!(mem d F.al)&&KK F v)
  | _,_=>false
def noTk(F:FA)(x:D)(o:Oper):Prop:= ∀d t v,o.dst=some d→o.op= .load t v→(mem d F.tk&&(!(mem d F.al)&&iL (ev x.sl v)))=false

theorem rX.eff{f:D→Option D}{d:Nat}(h:rX f x y x1 d)(b:o.dst=some d)(c:f y=dOp τ F y o): ∃E:Eff,E.d=o.dst∧(∀z,(E.ob z).isSome=true→z∈Ql o)∧x1=E.on x∧dOp τ F y o=some (E.on y):=by
  obtain⟨u,rfl,a⟩:=h; exact⟨Eff.put d u,b.symm,(fun z hz=>by cases hz),(Eff.put_on d u x).symm,(by rw[←c,a,Eff.put_on])⟩

theorem Sk(h:dOp τ F x o=some x1)(A:wY o=false)(I:noTk F x o)(g: ∀v∈o.op.operands,sA x y v): ∃E:Eff,E.d=o.dst∧(∀z,(E.ob z).isSome=true→z∈Ql o)∧x1=E.on x∧dOp τ F y o=some (E.on y):=by
  have h0:=h; unfold dOp at h; cases hd:o.dst with
  | none=>
    rw[hd]at h; simp only at h; split at h<;>try cases h
    rename_i ho; rw[wY,ho]at A; cases A
  | some d=>
    rw[hd]at h; simp only at h; rw[←hd]; have q: ∀op,o.op=op→(∀y,dOp τ F y o=oO τ F y d op)→oO τ F x d op=some x1→ ∃E:Eff,E.d=o.dst∧(∀z,(E.ob z).isSome=true→z∈Ql o)∧x1=E.on x∧dOp τ F y o=some (E.on y):=fun op C r G=>
      rX.eff (Ub (y:=y) (by rw[←C]; exact g) G) hd (r y).symm
    cases ho:o.op with
    | assign v=>rw[ho]at h g; exact(Gl (g v (by simp [Op.operands])).1 h).eff hd (by simp only[dOp,hd,ho])
    | move v=>
      rw[ho]at h g; simp only at h; cases j:mem d F.al with
      | true=>rw[j]at h; exact(Mg (g v (by simp [Op.operands])).1 h).eff hd (by simp only[dOp,hd,ho,j,z16])
      | false=>rw[j]at h; exact(Gl (g v (by simp [Op.operands])).1 h).eff hd (by simp only[dOp,hd,ho,j,z12])
    | extract v k=>rw[ho]at h g; exact(NW (g v (by simp [Op.operands])) h).eff hd (by simp only[dOp,hd,ho])
    | pick c a b=>rw[ho]at h g; exact(Ue (g c (by simp [Op.operands])) (g a (by simp [Op.operands])) (g b (by simp [Op.operands])) h).eff hd (by simp only[dOp,hd,ho])
    | fieldAddr s v f=>rw[ho]at h g; exact(MW (g v (by simp [Op.operands])).1 h).eff hd (by simp only[dOp,hd,ho])
    | nilCheck v=>rw[ho]at h g; exact(TQ (g v (by simp [Op.operands])).1 h).eff hd (by simp only[dOp,hd,ho])
    | makeFunc fn first caps=>
      rw[ho]at h g; cases fn with
      | func f=>
        simp only at h; obtain⟨L,h⟩:=aJ h; exact(VF (fun v B=>g v (by simp [Op.operands]; exact .inr (by simpa using B))) h).eff hd (by simp only[dOp,hd,ho,L,z16])
      | _=>simp only[oO,iA]at h; cases h
    | indexAddr t v i=>
      rw[ho]at h g; have l:=g v (by simp [Op.operands])
      simp only at h; cases j:(iL (F.shOf d)&&qD (ev x.sl v))with
      | true=>
        have m:(iL (F.shOf d)&&qD (ev y.sl v))=true:=by rw[l.1]; exact j
        rw[j]at h; exact(QR l (g i (by simp [Op.operands])) h).eff hd (by simp only[dOp,hd,ho,m,z16])
      | false=>
        have m:(iL (F.shOf d)&&qD (ev y.sl v))=false:=by rw[l.1]; exact j
        rw[j]at h; exact(SW l (g i (by simp [Op.operands])) h).eff hd (by simp only[dOp,hd,ho,m,z12])
    | load t v=>
      rw[ho]at h g; have j:=I d t v hd ho; have l:=g v (by simp [Op.operands])
      have m:(mem d F.tk&&(!(mem d F.al)&&iL (ev y.sl v)))=false:=by rw[l.1]; exact j
      simp only[j,z12]at h; exact(Ur l h).eff hd (by simp only[dOp,hd,ho,m,z12])
    | alloc t=>
      rw[ho]at h; simp only at h; unfold Br at h; split at h<;>try cases h
      rename_i i e; obtain⟨H,h⟩:=aJ h; cases h; refine⟨Eff.new d (.one (.ptr d 0)) i.zero,hd.symm,fun z hz=> ?_,(Eff.new_on _ _ _ x).symm, ?_⟩
      · simp only[Ql,hd,ho,z68]
        simp only[Eff.new]at hz; by_cases e:z=d
        · exact e
        · rw[z15 e]at hz; cases hz
      · simp only[dOp,hd,ho,Br,e,H,z16,Eff.new_on]
    | box t v=>
      rw[ho]at h g; simp only at h; unfold RZ at h; split at h<;>try cases h
      rename_i J; split at h<;>try cases h
      rename_i xs e; obtain⟨H,h⟩:=aJ h; cases h; have h1:y.sl J=x.sl J:=(g (.tmp J) (by simp [Op.operands])).1
      refine⟨Eff.new d (.one (.ptr d 0)) xs,hd.symm,fun z hz=> ?_,(Eff.new_on _ _ _ x).symm, ?_⟩
      · simp only[Ql,hd,ho,z68]
        simp only[Eff.new]at hz; by_cases e:z=d
        · exact e
        · rw[z15 e]at hz; cases hz
      · simp only[dOp,hd,ho,RZ,h1,e,H,z16,Eff.new_on]
    | buildSlice t n p=>rw[ho]at h g; exact(XS (fun v B=>g v (by simpa [Op.operands]using B)) h).eff hd (by simp only[dOp,hd,ho])
    | makeSlice t v z=>rw[ho]at h g; exact(Um (g v (by simp [Op.operands])) (g z (by simp [Op.operands])) h).eff hd (by simp only[dOp,hd,ho])
    | build t p=>rw[ho]at h g; exact(Sp (fun v B=>g v (by simpa [Op.operands]using B)) h).eff hd (by simp only[dOp,hd,ho])
    | call c=>
      rw[ho]at h g; simp only at h; split at h
      · rename_i v z t u C r G
        have j: ∀w,w∈c.args.toList→sA x y w:=fun w N=>g w (by simp only[Op.operands,Call.operands]; simp; exact .inr (by simpa using N))
        exact(Qe (j v (by rw[r]; simp)) (j z (by rw[r]; simp)) h).eff hd (by simp only[dOp,hd,ho,C,r,G])
      · rename_i M
        refine q (.call c) ho (fun y=> ?_) h
        simp only[dOp,hd,ho]
    | store t v z=>rw[ho]at h; simp only[oO,iA]at h; cases h
    | binOp a b c K e=>rw[ho]at h; exact q _ ho (fun y=>by simp only[dOp,hd,ho]) h
    | unOp a b c=>rw[ho]at h; exact q _ ho (fun y=>by simp only[dOp,hd,ho]) h
    | convert a b c=>rw[ho]at h; exact q _ ho (fun y=>by simp only[dOp,hd,ho]) h
    | index a b c=>rw[ho]at h; exact q _ ho (fun y=>by simp only[dOp,hd,ho]) h
    | slice a b c K e=>rw[ho]at h; exact q _ ho (fun y=>by simp only[dOp,hd,ho]) h
    | _=>rw[ho]at h; simp only[oO,iA]at h; cases h
def KJ(o:Oper):Bool:=match o.op with
  | .move _=>true
  | .assign _=>true
  | .nilCheck _=>true
  | .fieldAddr _ _ _=>true
  | _=>false
def AM(l:Bool)(x y:D)(v:Operand):Prop:=match l with
  | true=>ev y.sl v=ev x.sl v
  | false=>sA x y v
theorem AM.ev{l:Bool}{v:Operand}(h:AM l x y v):ev y.sl v=ev x.sl v:=by
  cases l with
  | true=>exact h
  | false=>exact h.1
theorem PX(h:dOp τ F x o=some x1)(b:wY o=false)(c:noTk F x o)(a: ∀v∈o.op.operands,AM (KJ o) x y v): ∃E:Eff,E.d=o.dst∧(∀z,(E.ob z).isSome=true→z∈Ql o)∧x1=E.on x∧dOp τ F y o=some (E.on y):=by
  cases hl:KJ o with
  | false=>
    rw[hl]at a; exact Sk h b c a
  | true=>
    rw[hl]at a; have a: ∀v∈o.op.operands,Own.ev y.sl v=Own.ev x.sl v:=a; unfold dOp at h; cases hd:o.dst with
    | none=>
      rw[hd]at h; simp only at h; split at h<;>try cases h
      rename_i ho; unfold KJ at hl; rw[ho]at hl; cases hl
    | some d=>
      rw[hd]at h; simp only at h; rw[←hd]; cases ho:o.op with
      | assign v=>rw[ho]at h a; exact(Gl (a v (by simp [Op.operands])) h).eff hd (by simp only[dOp,hd,ho])
      | move v=>
        rw[ho]at h a; simp only at h; cases hm:mem d F.al with
        | true=>rw[hm]at h; exact(Mg (a v (by simp [Op.operands])) h).eff hd (by simp only[dOp,hd,ho,hm,z16])
        | false=>rw[hm]at h; exact(Gl (a v (by simp [Op.operands])) h).eff hd (by simp only[dOp,hd,ho,hm,z12])
      | fieldAddr s v f=>rw[ho]at h a; exact(MW (a v (by simp [Op.operands])) h).eff hd (by simp only[dOp,hd,ho])
      | nilCheck v=>rw[ho]at h a; exact(TQ (a v (by simp [Op.operands])) h).eff hd (by simp only[dOp,hd,ho])
      | _=>unfold KJ at hl; rw[ho]at hl; cases hl
end

def SD(P:Program)(τ:TypeId→Option TI)(Sgs:FuncId→List Sg)(F:FA)(ds:List (Option Nat))(o:Oper)(x x1:D):Prop:=
 (bN ds x o.guard=some false∧x1=sK x o.dst)∨
 (bN ds x o.guard=some true∧dOp τ F x o=some x1)∨
 (bN ds x o.guard=some true∧ ∃c v f caps ob a r nw,o.op= .call c∧c.callee= .value v∧wR F c=false∧ev x.sl v= .one (.fn f caps)∧c.args.toList.all (fun v=>gC (ev x.sl v))=true∧ob.map some=(kH F c v).map x.ob∧
  (∀sg∈Sgs f,sg.np=(inV x c caps (kH F c v)).length→sg.no=ob.length→TC P f sg (inV x c caps (kH F c v)) ob r none a nw)∧
  bL F (x.call o.dst (rZ F o.dst) (kH F c v) (DR r none a nw)) o.dst (rZ F o.dst) (kH F c v)=true∧x1=x.call o.dst (rZ F o.dst) (kH F c v) (DR r none a nw))∨
 (bN ds x o.guard=some true∧ ∃c v f r t xs l p x0 b es',o.op= .call c∧c.callee= .value v∧wR F c=true∧ev x.sl v= .one (.fn f [])∧c.args.toList.all (fun v=>gC (ev x.sl v))=true∧c.args.toList= .tmp t::xs∧x.sl t= .one (.al l p)∧x.at l=some x0∧nav x0 p=some (.sl b)∧
  (∀sg∈Sgs f,sg.np=(inV x c [] []).length→sg.no=0→TC P f sg (inV x c [] []) [] r (some (.sl es')) [] none)∧bL F (x.call o.dst none [] (DR r (some (.sl es')) [] none)) o.dst none []=true∧x1=(x.call o.dst none [] (DR r (some (.sl es')) [] none)).upd l (cZ x0 p (.sl es')))
def Qr(F:FA)(o:Oper):Bool:=match o.op with
 | .store _ v _=>(match oA F v with | .one (.ptr _ _)=>true | .one (.pp (.s _ _ _) _ _ _)=>true | .one (.pp (.oc _ _) _ _ _)=>true | _=>false)
 | _=>false
def stL(F:FA)(o:Oper):Option Loc:=match o.op with
 | .store _ v _=>(match oA F v with | .one (.pp l _ _ _)=>some l | _=>none)
 | _=>none
def rS(F:FA)(o:Oper):Option Nat:=match stL F o with
 | some (.s i _ _)=>some i
 | _=>none
def wD(F:FA)(o:Oper):Option Nat:=match o.dst with
 | some d=>some d
 | none=>rS F o
def Tm(F:FA)(o:Oper):Bool:=(wY o&& !(Qr F o))||(isTk F o||(match dI o with | some (c,_)=>wR F c | none=>false))

def UB(ds:List (Option Nat)):Option (Nat×Bool)→Option Nat
 | none=>none
 | some (j,_)=>match ds[j]? with
  | some (some t)=>some t
  | _=>none
def stO(F:FA)(o:Oper):List Nat:=match o.op with
 | .store _ v _=>(match oA F v with | .one (.ptr ob _)=> [ob] | .one (.pp (.oc ob _) _ _ _)=> [ob] | _=> [])
 | _=> []
def wO(F:FA)(o:Oper):List Nat:=match dI o with
 | some (c,v)=>dW (kH F c v) (rZ F o.dst)
 | none=>Ql o++stO F o
def rO(F:FA)(o:Oper):List Nat:=match dI o with
 | some (c,v)=>kH F c v
 | none=>stO F o

def RX(F:FA)(x:D):Operand→Prop
 | .tmp t=>x.sl t= .tup []∨fits (x.sl t) (F.shOf t)=true
 | _=>True
def EO(F:FA)(x:D)(o:Oper):Prop:= ∀v∈o.op.operands,RX F x v

def xY(d:Option Nat)(a:List Nat):Loc→Bool
 | .s i _ _=>decide (d=some i)
 | .oc o _=>mem o a
 | _=>false
def Nk(F:FA)(d:Option Nat)(a:List Nat)(v:Operand):Bool:=
 (match v with | .tmp t=>decide (d=some t) | _=>false)||
 (match oA F v with
  | .one (.ptr ob _)=>mem ob a
  | .one (.pp l _ _ _)=>xY d a l
  | .one (.al l _)=>xY d a l
  | _=>false)
def Nf(d:Option Nat)(v:Operand):Bool:=match v with | .tmp t=>decide (d=some t) | _=>false
def OQ(l:Bool)(F:FA)(d:Option Nat)(a:List Nat)(v:Operand):Bool:=bif l then Nf d v else Nk F d a v
theorem EG{l:Bool}{F:FA}{d:Option Nat}{a:List Nat}{v:Operand}(h:OQ l F d a v=false):Nf d v=false:=by
 cases l with
 | true=>exact h
 | false=>
  have h:Nk F d a v=false:=h; unfold Nk at h; simp only[z51]at h; exact h.1
def DB(F:FA)(ds:List (Option Nat))(a b:Oper):Bool:=
 b.op.operands.toList.any (OQ (KJ b) F (wD F a) (wO F a))||(match UB ds b.guard with | some t=>decide (wD F a=some t) | none=>false)||((rO F b).any (fun z=>mem z (wO F a))||(match rS F b with | some t=>decide (wD F a=some t) | none=>false))
def Qz(F:FA)(ds:List (Option Nat))(a b:Oper):Bool:=
 !(Tm F a)&& !(Tm F b)&&(match wD F a with | some d=> !(decide (wD F b=some d)) | none=>true)&& !(DB F ds a b)&& !(DB F ds b a)&&(wO F a).all (fun z=> !(mem z (wO F b)))

theorem Vs{z:Nat}: ∀ {l:List Nat},z∈l→mem z l=true
 | y::r,h=>by
  simp only[mem,z45]; cases h with
  | head=>exact .inl (z44 _)
  | tail _ h=>exact .inr (Vs h)

section
variable {P:Program} {τ:TypeId→Option TI} {Sgs:FuncId→List Sg} {F:FA} {ds:List (Option Nat)} {x y x1 x2:D} {o:Oper}

theorem RE{E:Eff}{a:Option Nat}{b:List Nat}(f: ∀d,E.d=some d→a=some d)(m: ∀z,(E.ob z).isSome=true→z∈b){l:Loc}(h:xY a b l=false):(E.on x).at l=x.at l:=by
 cases l with
 | s i k j=>
  simp only[xY,z50]at h; simp only[D.at,atL,Eff.on,z15 (fun e=>h (f i e))]
 | oc ob j=>
  simp only[xY]at h; have:E.ob ob=none:=by
   cases he:E.ob ob with
   | none=>rfl
   | some c=>rw[Vs (m ob (by rw[he]; rfl))]at h; cases h
  simp only[D.at,atL,Eff.on,this]
 | _=>rfl

theorem UU{E:Eff}{wd:Option Nat}{wo:List Nat}(hD: ∀d,E.d=some d→wd=some d)(hE: ∀z,(E.ob z).isSome=true→z∈wo){v:Operand}(hf:RX F x v)(h:Nk F wd wo v=false):sA x (E.on x) v:=by
 have hob: ∀ob,mem ob wo=false→(E.on x).ob ob=x.ob ob:=fun ob hm=>by
  have:E.ob ob=none:=by
   cases he:E.ob ob with
   | none=>rfl
   | some c=>rw[Vs (hE ob (by rw[he]; rfl))]at hm; cases hm
  simp only[Eff.on,this]
 simp only[Nk,z51]at h; cases v with
 | tmp t=>
  obtain⟨h1,h2⟩:=h; have h1:wd≠some t:=by simpa using h1
  have e0:(E.on x).sl t=x.sl t:=by simp only[Eff.on,z15 (fun e=>h1 (hD t e))]
  refine⟨e0, ?_⟩
  have h2:(match F.shOf t with | .one (.ptr ob _)=>mem ob wo | .one (.pp l _ _ _)=>xY wd wo l | .one (.al l _)=>xY wd wo l | _=>false)=false:=h2
  have hf:x.sl t= .tup []∨fits (x.sl t) (F.shOf t)=true:=hf; show match x.sl t with | .one (.ptr ob _)=>_ | .one (.pp l _ _ _)=>_ | .one (.al l _)=>_ | _=>True
  rcases hf with e | hf
  ·rw[e]; trivial
  ·split
   ·rename_i ob p e
    rw[e]at hf; cases hs:F.shOf t with
    | tup ws=>rw[hs]at hf; simp [Own.fits]at hf
    | one w=>
     rw[hs]at hf h2; cases w<;>simp [Own.fits,bY]at hf
     obtain⟨rfl,_⟩:=hf; exact hob _ h2
   ·rename_i l p i j e
    rw[e]at hf; cases hs:F.shOf t with
    | tup ws=>rw[hs]at hf; simp [Own.fits]at hf
    | one w=>
     rw[hs]at hf h2; cases w<;>simp [Own.fits,bY]at hf
     obtain⟨⟨rfl,_⟩,_⟩:=hf; exact RE hD hE h2
   ·rename_i l p e
    rw[e]at hf; cases hs:F.shOf t with
    | tup ws=>rw[hs]at hf; simp [Own.fits]at hf
    | one w=>
     rw[hs]at hf h2; cases w<;>simp [Own.fits,bY]at hf
     obtain⟨rfl,_⟩:=hf; exact RE hD hE h2
   ·trivial
 | const u=>
  refine⟨rfl, ?_⟩
  obtain⟨_,h2⟩:=h; show match bQ u with | .one (.ptr ob _)=>_ | .one (.pp l _ _ _)=>_ | .one (.al l _)=>_ | _=>True
  have h2:(match bQ u with | .one (.ptr ob _)=>mem ob wo | .one (.pp l _ _ _)=>xY wd wo l | .one (.al l _)=>xY wd wo l | _=>false)=false:=h2
  split
  ·rename_i e; rw[e]at h2; exact hob _ h2
  ·rename_i e; rw[e]at h2; exact RE hD hE h2
  ·rename_i e; rw[e]at h2; exact RE hD hE h2
  ·trivial
 | func f=>exact⟨rfl,trivial⟩
 | global i=>exact⟨rfl,trivial⟩

theorem sA.refl(x:D)(v:Operand):sA x x v:=⟨rfl,by split<;>trivial⟩
theorem sA.symm{v:Operand}(h:sA x y v):sA y x v:=by
 refine⟨h.1.symm, ?_⟩
 rw[h.1]; have a:=h.2; split<;>rename_i e<;>first | trivial | (rw[e]at a; exact a.symm)

theorem AM.refl(l:Bool)(x:D)(v:Operand):AM l x x v:=by
 cases l with
 | true=>exact rfl
 | false=>exact sA.refl x v
theorem AM.symm{l:Bool}{v:Operand}(h:AM l x y v):AM l y x v:=by
 cases l with
 | true=>exact Eq.symm h
 | false=>exact sA.symm h
theorem AM.fit{l:Bool}{v:Operand}(h:AM l x y v)(a:RX F x v):RX F y v:=by
 cases v with
 | tmp t=>
  have e:y.sl t=x.sl t:=h.ev; show y.sl t= .tup []∨fits (y.sl t) (F.shOf t)=true; rw[e]; exact a
 | _=>trivial
structure wT (F:FA) (ds:List (Option Nat)) (x y:D) (o:Oper):Prop where
 vs: ∀v∈o.op.operands,AM (KJ o) x y v
 g: ∀t,UB ds o.guard=some t→y.sl t=x.sl t
 os: ∀z∈rO F o,y.ob z=x.ob z
 ps: ∀t,rS F o=some t→y.sl t=x.sl t

theorem wT.refl(x:D)(o:Oper):wT F ds x x o:=⟨fun v _=> .refl _ x v,fun _ _=>rfl,fun _ _=>rfl,fun _ _=>rfl⟩
theorem wT.symm(h:wT F ds x y o):wT F ds y x o:=⟨fun v b=>(h.vs v b).symm,fun t a=>(h.g t a).symm,fun z hz=>(h.os z hz).symm,fun t a=>(h.ps t a).symm⟩
theorem wT.fit(h:wT F ds x y o)(b:EO F x o):EO F y o:=fun v a=>(h.vs v a).fit (b v a)

theorem wT.guard(h:wT F ds x y o):bN ds y o.guard=bN ds x o.guard:=by
 have a:=h.g; cases hq:o.guard with
 | none=>rfl
 | some p=>
  obtain⟨j,w⟩:=p; rw[hq]at a; simp only[UB]at a; simp only[bN]; split
  ·rename_i t e
   rw[e]at a; simp only at a; rw[a t rfl]
  ·rfl

theorem Lt{a:Oper}{E:Eff}(f: ∀d,E.d=some d→wD F a=some d)(m: ∀z,(E.ob z).isSome=true→z∈wO F a)(r:EO F x o)(h:DB F ds a o=false):wT F ds x (E.on x) o:=by
 simp only[DB,z51]at h; obtain⟨⟨h1,i⟩,q,b⟩:=h; refine⟨fun v p=> ?_,fun t l=> ?_,fun z hz=> ?_,fun t l=> ?_⟩
 ·have b:=WV.1 h1 v (by simpa using p)
  have j:OQ (KJ o) F (wD F a) (wO F a) v=false:=by simpa using b
  cases hl:KJ o with
  | true=>
   have k:=EG j; cases v with
   | tmp t=>
    have k:wD F a≠some t:=by simpa [Nf]using k
    show(E.on x).sl t=x.sl t; simp only[Eff.on,z15 (fun e=>k (f t e))]
   | _=>exact rfl
  | false=>
   rw[hl]at j; exact UU f m (r v p) j
 ·rw[l]at i
  simp only[z50]at i; simp only[Eff.on,z15 (fun e=>i (f t e))]
 ·have:=WV.1 q z hz
  have hn:E.ob z=none:=by
   cases he:E.ob z with
   | none=>rfl
   | some c=>exact absurd (Vs (m z (by rw[he]; rfl))) this
  simp only[Eff.on,hn]
 ·rw[l]at b
  simp only[z50]at b; simp only[Eff.on,z15 (fun e=>b (f t e))]

theorem wK{c:Call}{v:Operand}(ho:o.op= .call c)(a:c.callee= .value v):dI o=some (c,v):=by
 unfold dI; rw[ho]; simp only[a]
theorem wI(h:dOp τ F x o=some x1):dI o=none:=by
 unfold dI; split
 ·rename_i c ho
  split
  ·rename_i v a
   exfalso
   unfold dOp at h; cases hd:o.dst with
   | none=>rw[hd,ho]at h; simp at h
   | some d=>
    rw[hd,ho]at h; simp only[a]at h; simp only[oO,iA,a]at h; cases h
  ·rfl
 ·rfl

theorem Pz{os:List Nat}{nd:Option Nat}{z:Nat}{y:D}{d:Option Nat}(h:((Eff.call d nd os y).ob z).isSome=true):z∈dW os nd:=by
 simp only[Eff.call]at h; cases hi:qT os nd z with
 | none=>rw[hi]at h; cases h
 | some oc=>exact sW.1 (by rw[hi]; rfl)

theorem Hg{d nd:Option Nat}{os:List Nat}{r:D}:bL F (y.call d nd os r) d nd os=bL F (x.call d nd os r) d nd os:=by
 simp only[bL]; congr 1
 ·cases d with
  | none=>rfl
  | some d=>simp [D.call]
 ·rw[RK,z18,z18]
  have: ∀z∈dW os nd,(y.call d nd os r).ob z=(x.call d nd os r).ob z:=fun z hz=>by
   simp only[D.call]; cases hi:qT os nd z with
   | none=>have:=sW.2 hz; rw[hi]at this; cases this
   | some oc=>rfl
  exact⟨fun h z hz=>by rw[←this z hz]; exact h z hz,fun h z hz=>by rw[this z hz]; exact h z hz⟩

theorem XJ{v:Operand}{ob p:Nat}(a:RX F x v)(h:ev x.sl v= .one (.ptr ob p)):oA F v= .one (.ptr ob p):=by
 cases v with
 | tmp b=>
  have h:x.sl b= .one (.ptr ob p):=h; have a:x.sl b= .tup []∨fits (x.sl b) (F.shOf b)=true:=a; rw[h]at a; rcases a with a | a
  ·cases a
  ·show F.shOf b=_
   cases hs:F.shOf b with
   | tup d=>rw[hs]at a; simp [fits]at a
   | one w=>
    rw[hs]at a; cases w<;>simp [fits,bY]at a
    rw[a.1,a.2]
 | const c=>exact h
 | func f=>cases h
 | global g=>cases h
theorem pp_sh{v:Operand}{l:Loc}{p:List (Nat×Nat)}{n j:Nat}(a:RX F x v)(h:ev x.sl v= .one (.pp l p n j)): ∃e n' d,oA F v= .one (.pp l e n' d):=by
 cases v with
 | tmp b=>
  have h:x.sl b= .one (.pp l p n j):=h; have a:x.sl b= .tup []∨fits (x.sl b) (F.shOf b)=true:=a; rw[h]at a; rcases a with a | a
  ·cases a
  ·show ∃e n' d,F.shOf b=_
   cases hs:F.shOf b with
   | tup i=>rw[hs]at a; simp [fits]at a
   | one w=>
    rw[hs]at a; cases w<;>simp [fits,bY]at a
    rw[a.1.1]; exact⟨_,_,_,rfl⟩
 | const c=>exact⟨_,_,_,h⟩
 | func f=>cases h
 | global g=>cases h
theorem Pq(h:dOp τ F x o=some x1)(hst:Qr F o=true)(hfit:EO F x o)(hs: ∀v∈o.op.operands,sA x y v)(hos: ∀z∈stO F o,y.ob z=x.ob z)(hps: ∀t,rS F o=some t→y.sl t=x.sl t): ∃E:Eff,(∀d,E.d=some d→wD F o=some d)∧(∀z,(E.ob z).isSome=true→z∈stO F o)∧x1=E.on x∧dOp τ F y o=some (E.on y):=by
 unfold Qr at hst; split at hst<;>try cases hst
 rename_i t v w ho; have h0:=h; unfold dOp at h; cases hd:o.dst with
 | some d=>rw[hd]at h; simp only at h; rw[ho]at h; simp only[oO,iA]at h; cases h
 | none=>
  rw[hd,ho]at h; simp only at h; have hfv:=hfit v (by rw[ho]; simp [Op.operands])
  have h1:=hs v (by rw[ho]; simp [Op.operands])
  have h2:=hs w (by rw[ho]; simp [Op.operands])
  split at h<;>try cases h
  ·rename_i i ob' p' xs hi hv hy
   have hsh:=XJ hfv hv; have e1:ev y.sl v= .one (.ptr ob' p'):=h1.1.trans hv; have e2:aZ (ev y.sl w)=some xs:=by rw[h2.1]; exact hy
   have e3:y.ob ob'=x.ob ob':=by
    have:=h1.2; rw[hv]at this; exact this
   unfold tE at h; split at h<;>try cases h
   rename_i cells hcl; obtain⟨hc,h⟩:=aJ h; cases h; have hon: ∀z:D,(Eff.on ⟨none, .tup [],fun o'=>if o'=ob' then some (some (cells.take p'++xs++cells.drop (p'+xs.length)))else none⟩ z)=z.setO ob' (cells.take p'++xs++cells.drop (p'+xs.length)):=fun z=>D.ext (fun i=>by simp [Eff.on,D.setO]) (fun i=>by
    simp only[Eff.on,D.setO]; by_cases e:i=ob'
    ·rw[z20 e,z20 e]
    ·rw[z15 e,z15 e])
   refine⟨⟨none, .tup [],fun o'=>if o'=ob' then some (some (cells.take p'++xs++cells.drop (p'+xs.length)))else none⟩,(fun d hd=>by cases hd),fun z hz=> ?_,(hon x).symm, ?_⟩
   ·simp only at hz
    by_cases e:z=ob'
    ·unfold stO; rw[ho]; simp only[hsh]; simp [e]
    ·rw[z15 e]at hz; cases hz
   ·rw[hon y]
    unfold dOp; rw[hd,ho]; simp only[hi,e1,e2,tE,e3,hcl,hc,z16]
  ·rename_i i l pp n j xs hi hv hy
   obtain⟨p',n',j',hsh⟩:=pp_sh hfv hv; have e1:ev y.sl v= .one (.pp l pp n j):=h1.1.trans hv; have e2:aZ (ev y.sl w)=some xs:=by rw[h2.1]; exact hy
   have e3:y.at l=x.at l:=by
    have:=h1.2; rw[hv]at this; exact this
   have hstL:stL F o=some l:=by unfold stL; rw[ho]; simp only[hsh]
   unfold rR at h; split at h<;>try cases h
   rename_i x0 hx0; split at h<;>try cases h
   rename_i es hes; split at h<;>try cases h
   rename_i row hrow; obtain⟨hc,h⟩:=aJ h; cases h; have hy2:dOp τ F y o=some (y.upd l (cZ x0 pp (.sl (es.set n (row.take j++xs++row.drop (j+xs.length)))))):=by
    unfold dOp; rw[hd,ho]; simp only[hi,e1,e2,rR,e3,hx0,hes,hrow,hc,z16]
   generalize cZ x0 pp (.sl (es.set n (row.take j++xs++row.drop (j+xs.length))))=q at hy2; rw[hsh]at hst; cases l with
   | s i0 k0 j0=>
    have e4:y.sl i0=x.sl i0:=hps i0 (by unfold rS; rw[hstL])
    have hon: ∀z:D,z.sl i0=x.sl i0→(Eff.on ⟨some i0,(x.sl i0).setLeaf k0 j0 q,fun _=>none⟩ z)=z.upd (.s i0 k0 j0) q:=fun z hz=>D.ext (fun i=>by
     simp only[Eff.on,D.upd,lF,z10]; by_cases e:i0=i
     ·subst e; rw[z20 rfl,z20 rfl,hz]
     ·rw[z15 e,z15 (fun e2=>e e2.symm)]) (fun i=>rfl)
    refine⟨⟨some i0,(x.sl i0).setLeaf k0 j0 q,fun _=>none⟩,fun d e=> ?_,(fun z hz=>by cases hz),(hon x rfl).symm,by rw[hon y e4]; exact hy2⟩
    cases e; unfold wD rS; rw[hd,hstL]
   | oc ob j0=>
    have hmem:ob∈stO F o:=by unfold stO; rw[ho]; simp only[hsh]; simp
    have e4:y.ob ob=x.ob ob:=hos ob hmem; have hon: ∀z:D,z.ob ob=x.ob ob→(Eff.on ⟨none, .tup [],fun o'=>if o'=ob then some ((x.ob ob).map (·.set j0 q))else none⟩ z)=z.upd (.oc ob j0) q:=fun z hz=>D.ext (fun i=>by simp [Eff.on,D.upd,lF]) (fun i=>by
     simp only[Eff.on,D.upd,tV]; by_cases e:i=ob
     ·rw[z20 e,z20 e,e,hz]
     ·rw[z15 e,z15 e])
    refine⟨⟨none, .tup [],fun o'=>if o'=ob then some ((x.ob ob).map (·.set j0 q))else none⟩,(fun d e=>by cases e),(fun z hz=> ?_),(hon x rfl).symm,by rw[hon y e4]; exact hy2⟩
    simp only at hz; by_cases e:z=ob
    ·rw[e]; exact hmem
    ·rw[z15 e]at hz; cases hz
   | _=>cases hst
theorem OG{E:Eff}(h:E.d=o.dst): ∀d,E.d=some d→wD F o=some d:=fun d e=>by
 rw[h]at e; unfold wD; rw[e]
theorem SD.eff(h:SD P τ Sgs F ds o x x1)(hfit:EO F x o)(hst:Tm F o=false)(hs:wT F ds x y o): ∃E:Eff,(∀d,E.d=some d→wD F o=some d)∧(∀z,(E.ob z).isSome=true→z∈wO F o)∧x1=E.on x∧SD P τ Sgs F ds o y (E.on y):=by
 rcases h with⟨hg,rfl⟩ | ⟨hg,h⟩ | ⟨hg,c,v,f,caps,ob,ob',r,nw,h1,h2,h0,h3,h4,h5,h6,h7,rfl⟩ | ⟨hg,c,v,f,r,t,xs,l,p,x0,es,es',h1,h2,h3,_⟩
 ·exact⟨Eff.skip o.dst,OG rfl,(fun z hz=>by cases hz),(Eff.skip_on _ x).symm, .inl ⟨by rw[hs.guard,hg],Eff.skip_on _ y⟩⟩
 ·cases hs2:wY o with
  | false=>
   obtain⟨E,e1,e2,e3,e4⟩:=PX h hs2 (fun d t v hd ho=>by
    simp only[Tm,z51]at hst; have htk:=hst.2.1; unfold isTk at htk; rw[hd,ho]at htk; have htk:(mem d F.tk&&(!(mem d F.al)&&KK F v))=false:=htk; cases hp:iL (ev x.sl v)with
    | false=>rw[z58,z58]
    | true=>
     obtain⟨l,p,n,j,e⟩:=HJ hp; have:KK F v=true:=by
      cases v with
      | tmp tt=>
       have hf:x.sl tt= .tup []∨fits (x.sl tt) (F.shOf tt)=true:=hfit (.tmp tt) (by rw[ho]; simp [Op.operands])
       have e:x.sl tt= .one (.pp l p n j):=e; rw[e]at hf; rcases hf with hf | hf
       ·cases hf
       ·unfold KK
        show(match F.shOf tt with | .one (.pp _ _ _ _)=>true | _=>false)=true
        cases hs3:F.shOf tt with
        | tup ws=>rw[hs3]at hf; simp [fits]at hf
        | one w=>rw[hs3]at hf; cases w<;>simp [fits,bY]at hf; rfl
      | const c=>
       have e:bQ c= .one (.pp l p n j):=e; unfold bQ at e; (repeat' split at e)<;>cases e
      | func f=>cases e
      | global g=>cases e
     rw[this]at htk; exact htk) hs.vs
   exact⟨E,OG e1,(fun z hz=>by simp only[wO,wI h]; exact List.mem_append_left _ (e2 z hz)),e3, .inr (.inl ⟨by rw[hs.guard,hg],e4⟩)⟩
  | true=>
   have hp:Qr F o=true:=by
    simp only[Tm,z51,hs2,z31,Bool.not_eq_false']at hst; exact hst.1
   have hlf:KJ o=false:=by
    unfold wY at hs2; unfold KJ; split at hs2<;>try cases hs2
    rename_i e; rw[e]
   obtain⟨E,e1,e2,e3,e4⟩:=Pq h hp hfit (fun v hv=>by have:=hs.vs v hv; rw[hlf]at this; exact this) (fun z hz=>hs.os z (by simp only[rO,wI h]; exact hz)) hs.ps
   exact⟨E,e1,(fun z hz=>by simp only[wO,wI h]; exact z174 _ (e2 z hz)),e3, .inr (.inl ⟨by rw[hs.guard,hg],e4⟩)⟩
 ·have hc:=wK h1 h2
  have hlf:KJ o=false:=by unfold KJ; rw[h1]
  have hsv: ∀v∈o.op.operands,sA x y v:=fun v hv=>by have:=hs.vs v hv; rw[hlf]at this; exact this
  have hv: ∀w,(w=v∨w∈c.args.toList)→sA x y w:=fun w hw=>hsv w (by
   rw[h1]; simp only[Op.operands,Call.operands,h2]; simp; rcases hw with rfl | hw
   ·exact .inl rfl
   ·exact .inr (by simpa using hw))
  have e1:inV y c caps (kH F c v)=inV x c caps (kH F c v):=by
   simp only[inV]; congr 1
   exact z46 fun w hw=>by rw[(hv w (.inr hw)).evD]
  have e2:(kH F c v).map y.ob=(kH F c v).map x.ob:=z46 fun z hz=>hs.os z (by simp only[rO,hc]; exact hz)
  refine⟨Eff.call o.dst (rZ F o.dst) (kH F c v) (DR r none ob' nw),OG rfl,(fun z hz=>by simp only[wO,hc]; exact Pz hz),(Eff.call_on _ _ _ _ x).symm, .inr (.inr (.inl ⟨by rw[hs.guard,hg],c,v,f,caps,ob,ob',r,nw,h1,h2,h0,by rw[(hv v (.inl rfl)).1,h3], ?_,by rw[e2,h5], ?_, ?_,Eff.call_on _ _ _ _ y⟩))⟩
  ·rw[z18]at h4 ⊢
   exact fun w hw=>by rw[(hv w (.inr hw)).1]; exact h4 w hw
  ·rw[e1]; exact h6
  ·rw[Hg (x:=x)]; exact h7
 ·simp only[Tm,wK h1 h2,h3,Qf]at hst
  cases hst

theorem Eff.comm{E E':Eff}{z:D}(a: ∀d,E.d=some d→E'.d≠some d)(ho: ∀o,(E.ob o).isSome=true→E'.ob o=none):E.on (E'.on z)=E'.on (E.on z):=by
 refine D.ext (fun i=> ?_) (fun o=> ?_)
 ·simp only[Eff.on]
  by_cases e:E.d=some i
  ·rw[z20 e,z15 (a i e),z20 e]
  ·rw[z15 e,z15 e]
 ·simp only[Eff.on]
  cases h:E.ob o with
  | none=>rfl
  | some c=>rw[ho o (by rw[h]; rfl)]

theorem SD.swap{a b:Oper}(h1:SD P τ Sgs F ds a x x1)(N:SD P τ Sgs F ds b x1 x2)(j:EO F x a)(q:EO F x1 b)(u:Qz F ds a b=true):EO F x b∧ ∃y,SD P τ Sgs F ds b x y∧EO F y a∧SD P τ Sgs F ds a y x2:=by
 simp only[Qz,z7,z40]at u; obtain⟨⟨⟨⟨⟨C,S⟩,s⟩,f⟩,m⟩,O⟩:=u; obtain⟨A,a1,a2,a3,_⟩:=h1.eff j C (wT.refl x a); have h:EO F x b:=fun v w=>by
  have r:Nf (wD F a) v=false:=by
   simp only[DB,z51]at f; have:=WV.1 f.1.1 v (by simpa using w)
   exact EG (by simpa using this)
  have:=q v w; cases v with
  | tmp t=>
   simp only[Nf,z50]at r; have e:x1.sl t=x.sl t:=by rw[a3]; simp only[Eff.on,z15 (fun e=>r (a1 t e))]
   have this:x1.sl t= .tup []∨fits (x1.sl t) (F.shOf t)=true:=this; rw[e]at this; exact this
  | _=>trivial
 have p:wT F ds x x1 b:=by rw[a3]; exact Lt a1 a2 h f
 obtain⟨B,b1,b2,H,I⟩:=N.eff q S p.symm; have i:wT F ds x (B.on x) a:=Lt b1 b2 j m; obtain⟨G,J,K,L,M⟩:=h1.eff j C i; refine⟨h,B.on x,I,i.fit j, ?_⟩
 rw[H,L, ←Eff.comm (E:=G) (E':=B)]
 ·exact M
 ·intro d k l
  have k:=J d k; have l:=b1 d l; rw[k]at s; simp [l]at s
 ·intro z hz
  cases hB:B.ob z with
  | none=>rfl
  | some c=>
   have Q:=K z hz; have R:=b2 z (by rw[hB]; rfl)
   have:=z18.1 O z Q; rw[Vs R]at this; cases this

def EN(P:Program)(τ:TypeId→Option TI)(Sgs:FuncId→List Sg)(F:FA)(ds:List (Option Nat))(ops:Array Oper):List Nat→D→D→Prop
 | [],x,x'=>x=x'
 | i::r,x,x'=> ∃o x1,ops[i]? =some o∧EO F x o∧SD P τ Sgs F ds o x x1∧EN P τ Sgs F ds ops r x1 x'

theorem EN.front{ops:Array Oper}{i:Nat}(ho:ops[i]? =some o){f:List Nat}{x':D}: ∀ {b:List Nat} {x:D},EN P τ Sgs F ds ops (b++i::f) x x'→(∀j∈b, ∀a,ops[j]? =some a→Qz F ds a o=true)→
  EO F x o∧ ∃x1,SD P τ Sgs F ds o x x1∧EN P τ Sgs F ds ops (b++f) x1 x'
 | [],x,h,_=>by
  obtain⟨B,x1,h1,c,d,e⟩:=h; rw[ho]at h1; cases h1; exact⟨c,x1,d,e⟩
 | j::r,x,h,k=>by
  obtain⟨a,x1,h1,c,d,e⟩:=h; obtain⟨m,x2,p,q⟩:=EN.front ho e (fun j l=>k j (z28 _ l))
  obtain⟨s,y,u,w,A⟩:=d.swap p c m (k j z32 a h1); exact⟨s,y,u,a,x2,h1,w,A,q⟩
end

abbrev Lvl:=List (Nat×B)
def rC(m:Nat):Lvl→Option B
 | []=>none
 | (a,b)::r=>bif Nat.beq m a then some b else rC m r
def Vv(F:FA)(m:Nat)(b:B)(mt:B→B→B):Lvl→Option Lvl
 | []=>some [(m,b)]
 | (c,a)::r=>bif Nat.beq m c then(bif leB (mt a b) a&&leB (mt a b) b then some ((c,(mt a b).nrm F)::r)else none)
  else(match Vv F m b mt r with | some r'=>some ((c,a)::r') | none=>none)
def jI(m:Nat)(o:Oper):Bool:=o.after.toList.all fun e=> !(Region.binds .any e)||m.testBit e.on

section
variable (τ:TypeId→Option TI) (Sgs:FuncId→List Sg) (F:FA) (ds:List (Option Nat)) (mt:B→B→B)
def xB(m:Nat)(b:B):Nat→List Oper→Lvl→Option Lvl
 | _,[],a=>some a
 | i,o::r,a=>bif m.testBit i|| !(jI m o)then xB m b (i+1) r a
  else(match tU τ Sgs F ds b o with
   | some b1=>(match Vv F (m||| 2 ^ i) b1 mt a with | some acc'=>xB m b (i+1) r acc' | none=>none)
   | none=>none)
def FJ(os:List Oper):Lvl→Lvl→Option Lvl
 | [],a=>some a
 | (m,b)::r,a=>match xB τ Sgs F ds mt m b 0 os a with | some acc'=>FJ os r acc' | none=>none
def IQ(os:List Oper):Nat→Lvl→Option Lvl
 | 0,L=>some L
 | n+1,L=>match FJ τ Sgs F ds mt os L []with | some L'=>IQ os n L' | none=>none
def KI:B→List Oper→Option B
 | b,[]=>some b
 | b,o::r=>bif o.op.operands.toList.all (dR b)then(match tU τ Sgs F ds b o with | some b1=>KI b1 r | none=>none)else none
end

def nW(F:FA)(ds:List (Option Nat))(ops:Array Oper):Bool:=
 (List.range ops.size).all (fun j=>match ops[j]? with | some o=>o.after.all (fun e=> !Region.binds .any e||Nat.blt e.on j) | none=>true)&&
 (List.range ops.size).all (fun j=>(List.range j).all fun i=>match ops[i]?,ops[j]? with
  | some a,some b=>((Region.before ops).getD j 0).testBit i||Qz F ds a b
  | _,_=>true)

def Tu(F:FA)(v:Operand):Bool:=match oA F v with
 | .one (.ptr _ _)=>true
 | .one (.pp _ _ _ _)=>true
 | .one (.cp _)=>true
 | _=>false
def To(F:FA)(o:Oper):Bool:=o.guard.isNone&&(match o.dst,o.op with
 | some _, .move _=>true
 | some _, .assign _=>true
 | some _, .nilCheck v=>Tu F v
 | some _, .fieldAddr _ v _=>Tu F v
 | _,_=>false)
def RB(F:FA)(ops:Array Oper)(i:Nat):Bool:=match ops[i]? with
 | some o=>To F o&&(List.range ops.size).all (fun j=>Nat.beq j i||((Region.before ops).getD i 0).testBit j||(match ops[j]? with
   | some p=>p.after.any (fun e=>Region.binds .any e&&Nat.beq e.on i)||o.apart ops p
   | none=>true))
 | none=>false
def Wp(F:FA)(ops:Array Oper):List Bool:=bif Region.noSelect ops then(List.range ops.size).map (RB F ops)else []
def DT(m:Nat):Nat→List Oper→List Bool→Option (Nat×Oper)
 | i,o::r,e::a=>bif e&&(!(m.testBit i)&&jI m o)then some (i,o)else DT m (i+1) r a
 | _,_,_=>none
section
variable (τ:TypeId→Option TI) (Sgs:FuncId→List Sg) (F:FA) (ds:List (Option Nat)) (mt:B→B→B)
def DH(E:List Bool)(os:List Oper):Lvl→Lvl→Option Lvl
 | [],a=>some a
 | (m,b)::r,a=>match DT m 0 os E with
  | some (i,o)=>(match tU τ Sgs F ds b o with
   | some b1=>(match Vv F (m||| 2 ^ i) b1 mt a with | some acc'=>DH E os r acc' | none=>none)
   | none=>none)
  | none=>(match xB τ Sgs F ds mt m b 0 os a with | some acc'=>DH E os r acc' | none=>none)
def Gn(E:List Bool)(os:List Oper):Nat→Lvl→Option Lvl
 | 0,L=>some L
 | n+1,L=>match DH τ Sgs F ds mt E os L []with | some L'=>Gn E os n L' | none=>none
end
def RT(d:Nat):Operand→Bool
 | .tmp t=> !(Nat.beq d t)
 | _=>true
def Qn(F:FA)(v y:Operand)(o:Oper):Bool:=o.guard.isNone&&(match o.dst,o.op with
 | some d, .indexAddr _ z _=>RT d v&&RT d y&&(iL (F.shOf d)&&uF F z)
 | none, .store _ (.tmp tx) _=>(match F.shOf tx with | .one (.pp (.s k _ _) _ _ _)=>RT k v | _=>false)
 | _,_=>false)
def xV(n:Nat)(o:Oper):Oper:= { o with after:=((List.range n).map fun j=>⟨j, .data⟩).toArray }
def lP:List Oper→Nat→List Oper
 | [],_=> []
 | [o],n=> [xV n o]
 | o::p::r,n=>o::lP (p::r) (n+1)
section
variable (τ:TypeId→Option TI) (Sgs:FuncId→List Sg) (F:FA) (ds:List (Option Nat)) (mt:B→B→B)
def rP(q:Nat→B→Bool)(os:List Oper):Nat→Lvl→Option Lvl
 | 0,L=>some L
 | n+1,L=>bif L.all (fun p=>q p.1 p.2)then(match FJ τ Sgs F ds mt os L []with | some L'=>rP q os n L' | none=>none)else none
end
def Jc(A:Oper)(v y:Operand)(ob:Nat)(m:Nat)(b:B):Bool:= !(jI m A)||(dR b v&&dR b y&&b.hasO ob)

def Tx(τ:TypeId→Option TI)(Sgs:FuncId→List Sg)(F:FA)(mt:B→B→B)(b:B)(ops:Array Oper):Option B:=match ops.toList.drop (ops.size - 1)with
 | [A]=>(match A.dst,A.op,A.guard with
  | none, .store _ (.tmp tv) y,none=>(match F.shOf tv with
   | .one (.ptr ob _)=>
    bif A.after.all (fun e=> !(Region.binds .any e)||Nat.blt e.on (ops.size - 1))&&((List.range (ops.size - 1)).all (fun j=>((Region.before ops).getD (ops.size - 1) 0).testBit j||(match ops[j]? with | some o=>Qn F (.tmp tv) y o | none=>true))&&
     (nW F ((lP ops.toList 0).map (·.dst)) (lP ops.toList 0).toArray&&(KI τ Sgs F (ops.toList.map (·.dst)) b ops.toList).isSome))then
     (match rP τ Sgs F ((lP ops.toList 0).map (·.dst)) mt (Jc A (.tmp tv) y ob) (lP ops.toList 0) ops.size [(0,b)]with | some [(_,b1)]=>some b1 | _=>none)else none
   | _=>none)
  | _,_,_=>none)
 | _=>none
def anyC(τ:TypeId→Option TI)(Sgs:FuncId→List Sg)(F:FA)(mt:B→B→B)(b:B)(ops:Array Oper):Option B:=
 bif nW F (ops.toList.map (·.dst)) ops&&(KI τ Sgs F (ops.toList.map (·.dst)) b ops.toList).isSome then
  (match Gn τ Sgs F (ops.toList.map (·.dst)) mt (Wp F ops) ops.toList ops.size [(0,b)]with | some [(_,b1)]=>some b1 | _=>none)else Tx τ Sgs F mt b ops

def meetK(a b:K):K:=if a.lo b then b else if b.lo a then a else if a.lo .V&&b.lo .V then .V else .D
def Ka:List K→List K→List K
 | p::ps,q::qs=>meetK p q::Ka ps qs
 | _,_=> []
def MF:List (List K)→List (List K)→List (List K)
 | p::ps,q::qs=>Ka p q::MF ps qs
 | _,_=> []
def Tv(b2:List (Nat×List (List K))):List (Nat×List (List K))→List (Nat×List (List K))
 | []=> []
 | p::r=>match dM p.1 b2 with | some κ=>(p.1,MF p.2 κ)::Tv b2 r | none=>Tv b2 r
def Tw(b2:List (Nat×List K)):List (Nat×List K)→List (Nat×List K)
 | []=> []
 | p::r=>match dM p.1 b2 with | some κ=>(p.1,Ka p.2 κ)::Tw b2 r | none=>Tw b2 r
def LL(b1 b2:B):B:= { sl:=Tv b2.sl b1.sl,ob:=Tw b2.ob b1.ob }

def Mn:Ek→Ek→Bool
 | .n, .n=>true
 | .r, .r=>true
 | .e i, .e j=>Nat.beq i j
 | _,_=>false
theorem DJ{a b:Ek}:Mn a b=true↔a=b:=by
 cases a<;>cases b<;>simp [Mn]

abbrev Bi:=List (Ek×B)
def tI(e:Ek):Bi→Option B
 | []=>none
 | (a,b)::r=>bif Mn e a then some b else tI e r
def DU(e:Ek):Bi→Bi
 | []=> []
 | (a,b)::r=>bif Mn e a then DU e r else(a,b)::DU e r

theorem sQ{e a:Ek}(h:a≠e): ∀ {o:Bi},tI a (DU e o)=tI a o
 | []=>rfl
 | (c,b)::r=>by
  simp only[DU]; cases h2:Mn e c with
  | true=>
   have:=DJ.1 h2; subst this; simp only[z16,tI]; rw[sQ h]; cases h3:Mn a e with
   | true=>exact absurd (DJ.1 h3) h
   | false=>rfl
  | false=>
   simp only[z12,tI]; rw[sQ h]

theorem zX(e:Ek):Mn e e=true:=DJ.2 rfl
theorem PV{a b:Ek}(h:a≠b):Mn a b=false:=by
 cases h2:Mn a b with
 | true=>exact absurd (DJ.1 h2) h
 | false=>rfl

def Wt(F:FA)(e:Ek)(b:B)(o:Bi):Option Bi:=match tI e o with
 | none=>some ((e,b)::o)
 | some b0=>bif leB (LL b0 b) b0&&leB (LL b0 b) b then some ((e,(LL b0 b).nrm F)::DU e o)else none
def IP(F:FA):Bi→Bi→Option Bi
 | [],o=>some o
 | (e,b)::r,o=>match Wt F e b o with | some o'=>IP F r o' | none=>none

def Sub(F:FA)(o c:Bi):Prop:= ∀e b,tI e o=some b→ ∃a,tI e c=some a∧Cv F b a
theorem Sub.refl(F:FA)(o:Bi):Sub F o o:=fun _ b h=>⟨b,h,Cv.refl F b⟩
theorem Sub.trans{F:FA}{a b c:Bi}(h:Sub F a b)(k:Sub F b c):Sub F a c:=fun e x f=>by
 obtain⟨y,h1,d⟩:=h e x f; obtain⟨z,g,i⟩:=k e y h1; exact⟨z,g,d.trans i⟩

theorem Pg{F:FA}{e:Ek}{b:B}{o i:Bi}(h:Wt F e b o=some i):Sub F o i∧ ∃j,tI e i=some j∧Cv F b j:=by
 unfold Wt at h; split at h
 ·rename_i g
  cases h; refine⟨fun d b2 c=> ?_,b,by simp [tI,zX],Cv.refl F b⟩
  have a:d≠e:=fun k=>by subst k; rw[g]at c; cases c
  exact⟨b2,by simp only[tI,PV a,z12]; exact c,Cv.refl F b2⟩
 ·rename_i l g
  obtain⟨f,h⟩:=aJ h; simp only[z7]at f; cases h; refine⟨fun d b2 c=> ?_,_,by simp [tI,zX],FG f.2⟩
  by_cases a:d=e
  ·subst a
   rw[g]at c; cases c; exact⟨_,by simp [tI,zX],FG f.1⟩
  ·exact⟨b2,by simp only[tI,PV a,z12]; rw[sQ a]; exact c,Cv.refl F b2⟩

theorem zQ{F:FA}: ∀ {l o c:Bi},IP F l o=some c→Sub F o c∧Sub F l c
 | [],o,c,h=>by cases h; exact⟨Sub.refl F o,fun e b h=>by cases h⟩
 | (e,b)::r,o,c,h=>by
  unfold IP at h; split at h<;>try cases h
  rename_i p h1; obtain⟨a1,i,a2,a3⟩:=Pg h1; obtain⟨g,j⟩:=zQ h; refine⟨a1.trans g,fun f b2 a=> ?_⟩
  simp only[tI]at a; cases h3:Mn f e with
  | true=>
   have:=DJ.1 h3; subst this; rw[h3]at a; cases a; obtain⟨d,k,m⟩:=g _ i a2; exact⟨d,k,a3.trans m⟩
  | false=>
   rw[h3]at a; exact j f b2 a

def Qu(F:FA)(b:B):Bool:=b.sl.all fun p=>Lk F b p.1
theorem SB{F:FA}{b:B}(h:Qu F b=true)(n:Nat)(x:D):(b.nrm F).S n x=b.S n x:=by
 have e: ∀i,b.has i=true→Lk F b i=true:=fun i a=>by
  simp only[B.has]at a; cases hl:dM i b.sl with
  | none=>rw[hl]at a; cases a
  | some κ=>exact z18.1 h _ (iE hl)
 have c: ∀i,(b.nrm F).has i=b.has i:=fun i=>by
  rw[xT,fF]; cases a:b.has i with
  | false=>simp
  | true=>rw[e i a]; rfl
 have d:(b.nrm F).kd=b.kd:=funext fun l=>by
  cases l with
  | s i k j=>
   by_cases a:b.has i=true
   ·rw[xT]; exact gR (e i a)
   ·rw[TW (show(b.nrm F).hasL (.s i k j)=false by show(b.nrm F).has i=false; rw[c]; simpa using a),TW (show b.hasL (.s i k j)=false by show b.has i=false; simpa using a)]
  | _=>rfl
 simp only[B.S,c,d]; rfl
theorem Kq(F:FA)(b:B):Cv F b (b.nrm F):=fun x c=>⟨c.nrm,fun g0 w0 a w d=>d.relax ((Low.self F.n b x).le c)⟩
theorem Uu{F:FA}{c b:B}(h:leB c b=true)(hn:Qu F c=true):Cv F b c:=fun x d=>by
 obtain⟨h1,f,k⟩:=OM h; have e:Ag F c x:=⟨fun i g=>d.sl i (h1 i g),fun o ho=>d.ob o (f o ho)⟩
 obtain⟨_,q⟩:=FG h x d; exact⟨e,fun g0 w0 a w j=>by rw[←SB hn]; exact q g0 w0 a w j⟩

def Je(F:FA)(f:B→Option Bi):Nat→B→Option Bi
 | 0,_=>none
 | n+1,h=>match f h with
  | none=>none
  | some o=>match tI .n o with
   | none=>some (DU .n o)
   | some b1=>bif leB h b1&&Qu F h then some (DU .n o)else bif leB (LL h b1) h then Je F f n ((LL h b1).nrm F)else none

theorem HI{F:FA}{f:B→Option Bi}: ∀ {n:Nat} {h:B} {b:Bi},Je F f n h=some b→ ∃c o,Cv F h c∧f c=some o∧b=DU .n o∧(∀b1,tI .n o=some b1→Cv F b1 c)∧ ∀k,Je F f (k+1) c=some b
 | 0,h,b,a=>by cases a
 | n+1,h,b,a=>by
  have d:=a; unfold Je at a; cases hf:f h with
  | none=>rw[hf]at a; cases a
  | some o=>
   rw[hf]at a; simp only at a; cases hg:tI .n o with
   | none=>
    rw[hg]at a; cases a; exact⟨h,o,Cv.refl F h,hf,rfl,fun b1 e=>(by rw[hg]at e; cases e),fun k=>by unfold Je; rw[hf]; simp only[hg]⟩
   | some b1=>
    rw[hg]at a; simp only at a; cases hc:(leB h b1&&Qu F h)with
    | true=>
     rw[hc]at a; cases a; simp only[z7]at hc; refine⟨h,o,Cv.refl F h,hf,rfl,fun b2 e=>(by rw[hg]at e; cases e; exact Uu hc.1 hc.2),fun k=> ?_⟩
     unfold Je; rw[hf]; simp only[hg,hc.1,hc.2,z86,z16]
    | false=>
     rw[hc]at a; simp only[z12]at a; obtain⟨g,a⟩:=aJ a; obtain⟨c,i,j,l⟩:=HI a; exact⟨c,i,(FG g).trans j,l⟩

def Tz(F:FA)(id:Nat)(b:B):B:=match dM id F.keep with
 | some l=>b.filt fun i=>mem i l
 | none=>b
theorem Gr(F:FA)(id:Nat)(b:B):Cv F b ((Tz F id b).nrm F):=fun x f=>by
 unfold Tz; split
 ·rename_i l _
  have d:=f.filt (F:=F) (fun i=>mem i l)
  refine⟨d.nrm,fun g0 w0 a w h=>h.relax (Low.le d ⟨rfl,fun i c=>qU ?_,fun o ho=>Lo (n:=F.n) ho,fun l' t e _=> ?_,fun i k xs c _=> ?_,fun i c _ g=> ?_⟩)⟩
  ·rw[fF,z7]at c; exact c.2
  ·cases l' with
   | s i k j=>
    have e:(b.filt fun i=>mem i l).has i=true:=e
    rw[fF,z7]at e; rw[gR e.1]; exact dV _
   | oc o j=>exact dV _
   | _=>cases e
  ·rw[fF,z7]at c
   rw[gR c.1]; exact dV _
  ·rw[fF,z7]at c
   rw[gR c.1]at g; exact g
 ·exact Kq F b x f

def tW(τ:TypeId→Option TI)(Sg:FuncId→List Sg)(F:FA):Code→B→Option Bi
 | .skip,b=>some [(.n,b)]
 | .label _,b=>some [(.n,b)]
 | .exit i,b=>some [(.e i,b)]
 | .ret,b=>some [(.r,b)]
 | .seq x y,b=>match tW τ Sg F x b with
  | none=>none
  | some o1=>match tI .n o1 with
   | none=>some o1
   | some b1=>match tW τ Sg F y b1 with
    | none=>none
    | some o2=>IP F (DU .n o1) o2
 | .cond c x y,b=>bif dR b c then(match tW τ Sg F x b,tW τ Sg F y b with
  | some o1,some o2=>IP F o1 o2
  | _,_=>none)else none
 | .block id c,b=>match tW τ Sg F c b with
  | none=>none
  | some o=>match tI (.e id) o with
   | none=>some o
   | some b1=>Wt F .n b1 (DU (.e id) o)
 | .loop c,b=>Je F (tW τ Sg F c) 4 b
 | .region id ops a,b=>bif ops.toList.any HX then some []else match(match dM id F.mks with | some L=>bif a then none else mkC τ Sg F b L ops.toList | none=>bif a then anyC τ Sg F LL b ops else RR τ Sg F (ops.toList.map (·.dst)) b ops.toList)with
  | some b1=>some [(.n,(Tz F id b1).nrm F)]
  | none=>none
 | _,_=>some []

theorem KT{g:G}{w:World}{κ:Nat→Nat→K}{l:Nat→Nat→Loc}{v:Value}{b:Bool}(h:RV g w κ l v (.one (.c (.bool b)))):v= .bool b:=by
 have:=LF.scal (g':=g) (w':=w) (κ':= .F) (l':= .none) h.2 rfl; have this:Rd _ _ _ _:=this; cases this; rfl

theorem Jj{F:FA}{b:B}{x:D}{n:Nat}{g0:G}{w0:World}{ops:Array Oper}{o:Oper}{g:G}{w:World}{a:Act}{t:Bool}(m:bZ g0 w0 (b.S n x) a g w)(e:Ks (ops.toList.map (·.dst)) b o.guard=true)(h:bN (ops.toList.map (·.dst)) x o.guard=some t):
  Region.wanted o (yielded ops a.tmps)=t:=by
 have _:=F; unfold Region.wanted; cases hg:o.guard with
 | none=>rw[hg]at h; simp only[bN,z10]at h; exact h
 | some p=>
  obtain⟨j,i⟩:=p; rw[hg]at h e; simp only[bN,z35,z27]at h
  simp only[Ks,z35,z27]at e
  simp only[yielded]; cases ho:ops[j]? with
  | none=>rw[ho]at h; simp only[Vg,z10]at h; subst h; simp
  | some oj=>
   rw[ho]at h e; simp only[z37]at h e; simp only[z8]; cases hd:oj.dst with
   | none=>rw[hd]at h; simp only[z10]at h; subst h; simp
   | some d=>
    rw[hd]at h e; simp only at h e; simp only[z8]; have f:=m.slots d; rw[qU e]at f; split at h
    ·rename_i l k
     rw[k]at f; have c:=KT f; simp only[z10]at h; rw[z59]at c; cases ht:a.tmps[d]? with
     | none=>rw[ht]at c; simp [undef]at c
     | some u=>
      rw[ht]at c; simp only[z73]at c; subst c; simp only; rw[←h]; cases l<;>cases i<;>rfl
    ·rename_i k
     rw[k]at f; obtain⟨vs,c,hn,_⟩:=f; simp only[z10]at h; subst h; rw[z59]at c; cases ht:a.tmps[d]? with
     | none=>simp
     | some u=>
      rw[ht]at c; simp only[z73]at c; subst c; simp
    ·cases h

def yN(z:Nat):List Oper→Bool
 | []=>true
 | o::r=> !(decide (o.dst=some z))&&yN z r
def noD(z:Nat):Code→Bool
 | .seq a b=>noD z a&&noD z b
 | .cond _ a b=>noD z a&&noD z b
 | .block _ c=>noD z c
 | .loop c=>noD z c
 | .region _ ops _=>yN z ops.toList
 | _=>true

theorem zK{a:Act}{d:Option Nat}{u:Value}{z:Nat}(h:d≠some z):(a.put d u).tmps.getD z undef=a.tmps.getD z undef:=pA a d u z h

def Qx(F:FA)(b a:B)(rs:List ResultVar)(c:Code):Bool:=match F.io with
 | none=>true
 | some z=>b.has z&&(b.kd (.s z 0 0)).hand true (a.kd (.s 1 0 0))&&(!(a.kd (.s 1 0 0)).hold||decide (BF F rs F.n0 F.io (.s z 0 0)= .s 1 0 0))&&noD z c
def libC(F:FA)(q:List (List (List K))×List (List K)×Bool)(sg:Sg):Bool:=
 F.sh.isEmpty&&decide (sg.bi.sl=Tt 0 q.1)&&sg.bi.ob.isEmpty&&decide (sg.bo.sl=[(0,q.2.1)])&&sg.bo.ob.isEmpty&&Nat.beq sg.np q.1.length&&Nat.ble 1 sg.np&&decide (sg.io=none)&&decide (sg.ext=q.2.2)&&Nat.beq sg.no 0
def fnC(τ:TypeId→Option TI)(An:FuncId→FA)(Sgs:FuncId→List Sg)(f:FuncId)(sg:Sg)(fn:Func)(c:Code):Bool:=match(An f).lb with
 | some q=>libC (An f) q sg
 | none=>
 Nat.beq (An f).n fn.ntmps&&Nat.ble fn.ntmps par&&Nat.ble sg.np fn.ntmps&& !(fn.name == "runtime.NumGoroutine")&&sg.bi.sl.all (fun p=>Nat.blt p.1 sg.np)&&sg.bi.ob.all (fun p=>Nat.ble par p.1&&Nat.blt p.1 (par+sg.no))&&
 decide (sg.io=(An f).io)&&sg.bo.sl.all (fun p=>Nat.beq p.1 0||(Nat.beq p.1 1&&(An f).io.isSome))&&sg.bo.ob.all (fun p=>Nat.beq p.1 0||sg.bi.hasO p.1)&&
 (match tW τ Sgs (An f) c sg.bi with
  | none=>false
  | some outs=>(match tI .n outs with | none=>true | some b=>Ai (An f) b sg.bo (BF (An f) fn.results.toList (An f).n0 (An f).io) 0 fn.results.toList&&Ni (An f) b sg.bo (An f).n0&&Qx (An f) b sg.bo fn.results.toList c)&&
   (match tI .r outs with | none=>true | some b=>Ai (An f) b sg.bo (BF (An f) fn.results.toList (An f).n0 (An f).io) 0 fn.results.toList&&Ni (An f) b sg.bo (An f).n0&&Qx (An f) b sg.bo fn.results.toList c))

def Mot(P:Program)(τ:TypeId→Option TI)(Sgs:FuncId→List Sg):Jd→Prop
 | .code F c x e x'=> ∀b d,tW τ Sgs F c b=some d→Ag F b x→ ∃(h:B) (k:Nat),tI e d=some h∧Ag F h x'∧ ∀g0 w0 (Q:Exit→Act→World→Prop) a w,Sim g0 w0 (b.S F.n x) a w→
   (∀g w',Sim g0 w0 (h.S F.n x') g w'→(∀z,noD z c=true→g.tmps.getD z undef=a.tmps.getD z undef)→Q e.exit g w')→c.wp P Q a w∧ ∀m,c= .loop m→Code.rounds P m Q k a w
 | .ops F j os x x'=> ∀(ops:Array Oper) i,ops.toList.drop i=os→j=ops.toList.map (·.dst)→ ∀b h,RR τ Sgs F j b os=some h→Ag F b x→Ag F h x'∧(∀g0 w0 (Q:Exit→Act→World→Prop) a w,Sim g0 w0 (b.S F.n x) a w→
   (∀g w',Sim g0 w0 (h.S F.n x') g w'→(∀z,yN z os=true→g.tmps.getD z undef=a.tmps.getD z undef)→Q .normal g w')→wpOps P ops Q (List.range' i os.length) a w)∧ ∀b2,KI τ Sgs F j b os=some b2→EN P τ Sgs F j ops (List.range' i os.length) x x'
 | .fn f vs ob r io l nw=> ∀sg∈Sgs f,sg.np=vs.length→sg.no=ob.length→TC P f sg vs ob r io l nw

theorem Cy{P:Program}{ops:Array Oper}{o:Oper}{i:Nat}{Q:Exit→Act→World→Prop}{K:Act→World→Prop}{a:Act}{w:World}(b:ops[i]? =some o)(t:Bool)(c:Region.wanted o (yielded ops a.tmps)=t)(h:if t then o.wp P a w K Q else K (a.put o.dst undef) w):wpOp P ops Q i K a w:=by
 unfold Go.wpOp; simp only[b]; rw[c]; cases t with
 | true=>exact .inl h
 | false=>exact h

theorem HA{τ:TypeId→Option TI}{Sgs:FuncId→List Sg}{F:FA}{d:List (Option Nat)}{b c:B}{o:Oper}(h:tU τ Sgs F d b o=some c): ∃b1,RN τ Sgs F b o=some b1∧c=(b1.frz F (fzL F b1 o.dst)).nrm F∧Ks d b o.guard=true∧(o.guard≠none→Gc F b (b1.frz F (fzL F b1 o.dst)) o.dst=true):=by
 unfold tU at h; split at h<;>try cases h
 rename_i b1 h1; obtain⟨a,h⟩:=aJ h; cases h; simp only[z7]at a; refine⟨b1,h1,rfl,a.1,fun f=> ?_⟩
 have:=a.2; split at this
 ·rename_i e; exact absurd e f
 ·exact this
theorem Sj{P:Program}{τ:TypeId→Option TI}{An:FuncId→FA}{J:Jd}(h:Big P τ An J):match J with | .ops _ _ os _ _=>os.any HX=false | _=>True:=by
 induction h with
 | opsNil F ds x=>rfl
 | @opsSkip F ds o r x x2 hg h2 ih2=>
  simp only[Vf,z51]; refine⟨?_,ih2⟩
  unfold HX; split
  ·rename_i e1 e2
   rw[e2]at hg; cases hg
  ·rfl
 | @opsRun F ds o r x x1 x2 hg h1 h2 ih2=>
  simp only[Vf,z51]; refine⟨?_,ih2⟩
  unfold HX; split
  ·rename_i e1 e2
   split
   ·rename_i v e3
    unfold dOp at h1; rw[e1]at h1; simp only[e3]at h1; cases h1
   ·rfl
  ·rfl
 | @opsCall F ds o rs x x2 c v f caps ob ob' r nw hg ho hcal hni hx hth hob h1 hsh h2 ih1 ih2=>
  simp only[Vf,z51]; refine⟨?_,ih2⟩
  unfold HX; rw[ho]; split<;>rfl
 | @opsIo F ds o rs x x2 c v f r t xs l p x0 es es' hg ho hcal hio hx hth hargs hal hat hnav h1 hsh h2 ih1 ih2=>
  simp only[Vf,z51]; refine⟨?_,ih2⟩
  unfold HX; rw[ho]; split<;>rfl
 | _=>trivial
theorem VO{P:Program}{τ:TypeId→Option TI}{An:FuncId→FA}{F:FA}{a:List (Option Nat)}{os:List Oper}{x x':D}(h:Big P τ An (.ops F a os x x')):os.any HX=false:=Sj h
theorem PD{F:FA}{q:List (List (List K))×List (List K)×Bool}{sg:Sg}(h:libC F q sg=true):sg=WI q∧F.sh=[]∧1≤sg.np:=by
 unfold libC at h; simp only[z7,List.isEmpty_iff,z26]at h; obtain⟨⟨⟨⟨⟨⟨⟨⟨⟨h1,c⟩,d⟩,e⟩,f⟩,b⟩,g⟩,i⟩,j⟩,a⟩:=h; obtain⟨⟨k,l⟩,⟨m,o⟩,p,r,s,t⟩:=sg; simp only at c d e f b g i j a; have b:=z17 b; have a:=z17 a; subst c d e f b i j a; exact⟨rfl,h1,z33 g⟩
set_option linter.unusedVariables false

theorem OE{P:Program}{o:Oper}{a:Act}{w w':World}{v:Value}{K:Act→World→Prop}{Q:Exit→Act→World→Prop}(h:(execOp a.eval o).run P w= .ok (.value v) w')(b:K (a.put o.dst v) w'):o.wp P a w K Q:=by
 unfold Oper.wp; rw[h]; exact b
theorem Rb{P:Program}{o:Oper}{a:Act}{w:World}{c:Call}{g:FuncId}{K:Act→World→Prop}{Q:Exit→Act→World→Prop}(ho:o.op= .call c)(hc:c.callee= .value (.func g))(h:rY P ((callFunc g (c.args.map a.eval)).run P w) (fun u w'=>K (a.put o.dst u) w')):o.wp P a w K Q:=by
 have hrun:(execOp a.eval o).run P w=(callFunc g (c.args.map a.eval)).run P w:=by
  obtain⟨dst,op,ty,pos,after,guard⟩:=o; simp only at ho; subst ho; have hfv:a.eval (.func g)= .func (.func g) #[] #[]:=rfl; simp only[execOp,resolve,hc,hfv,Deferred.ofValue,Sem.run_bind,Sem.run_pure,Result.andThen_ok,invoke]; congr 2
  apply Nt
  simp
 unfold Oper.wp; rw[hrun]; revert h
 generalize (callFunc g _).run P w=r; intro hC; unfold rY at hC; split at hC
 ·exact hC
 ·rw[Oper.upon_enter]
  refine Calls.mono hC ?_
  rintro e w' ⟨v,rfl,h⟩
  exact h
 ·exact hC.elim
theorem Rq{P:Program}{ρ:Operand→Value}{o:Oper}{x:Operand}{w:World}(ho:o.op= .move x):(execOp ρ o).run P w= .ok (.value (ρ x)) w:=by
 obtain⟨c,op,e,d,a,b⟩:=o; simp only at ho; subst ho; rfl
theorem Mz{P:Program}{ρ:Operand→Value}{o:Oper}{x:Operand}{w:World}(ho:o.op= .assign x):(execOp ρ o).run P w= .ok (.value (ρ x)) w:=by
 obtain⟨c,op,e,d,a,b⟩:=o; simp only at ho; subst ho; rfl
theorem wB{P:Program}{ops:Array Oper}{o:Oper}{i:Nat}{Q:Exit→Act→World→Prop}{K:Act→World→Prop}{a:Act}{w:World}(c:ops[i]? =some o)(b:o.guard=none)(h:o.wp P a w K Q):wpOp P ops Q i K a w:=
 Cy c true (by unfold Region.wanted; rw[b]) h

section
variable {P:Program} {τ:TypeId→Option TI}
end
section
variable {P:Program} {τ:TypeId→Option TI}
end
set_option linter.unusedVariables false

def TCm(P:Program)(m:MR):Prop:= ∃sg:Sg,TC P m.g sg [.one (.c (.sl m.es)), .one (.c (.int .i64 m.k))] [] (.one (.c (.int .i64 m.k1))) (some (.sl m.es')) [] none∧sg.io=some 0∧sg.np=2∧sg.bi=biM∧sg.bo.has 0=true∧sg.bo.has 1=true∧sg.bo.kd (.s 1 0 0)= .U 0
def turnM(o a:Nat):List MR→St→St
 | [],st=>st
 | m::r,st=>turnM o a r (st.turn (.oc o (a+m.off)) (.U 0) (.sl m.es'))

theorem UM{st:St}{o j:Nat}{κ:K}{z:T}(a:Nat):(st.turn (.oc o j) κ z).ob a=if a=o then(st.ob a).map (·.set j z)else st.ob a:=rfl
theorem UN{st:St}{o j:Nat}{κ:K}{z:T}(b a:Nat):(st.turn (.oc o j) κ z).fl (.oc b a)=if Loc.oc b a= .oc o j then κ else if st.fl (.oc b a)= .V then .D else st.fl (.oc b a):=by
 show(if Loc.oc b a= .oc o j then κ else _)=_
 by_cases e:Loc.oc b a= .oc o j
 ·rw[z20 e,z20 e]
 ·rw[z15 e,z15 e]
  show(if isL (.oc o j) (.oc b a)=true then K.D else st.killV.fl (.oc b a))=_
  rw[z15 (by simpa [isL]using e)]
  rfl

theorem Oe{P:Program}{g0:G}{w0:World}{a:Act}{o q:Nat}{cs:List Value}{f:List T}{N:Int}{Q:Value→World→Prop}: ∀(rs:List MR) {st:St} {g:G} {w:World} {s:Nat→Prop} {cells:List T} {k:Int},bZ g0 w0 st a g w→st.ob o=some cells→(∀m∈rs,TCm P m)→(∀m∈rs, ∃n,st.fl (.oc o (q+m.off))= .U n)→
  FL q rs cells k f N→(∀b,s b→b<w.heap.size∧g.own b= .none)→(∀m∈rs,cs[m.off]? =w.cell? ⟨g.β o,q+m.off,none⟩)→(∀z L D,bZ g0 w0 (turnM o q rs st) a D z→D.β=g.β→Tq z L→Q (.int .i64 N) L)→
  KQ P (rs.map fun m=>(m.off,m.g)) cs k w s Q
 | [],st,g,w,s,cells,k,p,i,E,J,d,M,l,H=>fun z F=>by
  obtain⟨rfl,rfl⟩:=d; exact H w z g p rfl F
 | m::r,st,g,w,s,cells,k,p,i,E,J,d,M,l,H=>fun z C F h2 h3 A=>by
  obtain⟨I,rfl,d⟩:=d; obtain⟨sg,V,W,X,Y,Z,c6,c7⟩:=E m z32; obtain⟨n,hn⟩:=J m z32; have t:st.at (.oc o (q+m.off))=some (.sl m.es):=by rw[St.at_oc,i]; exact I
  obtain⟨R,v,_,_⟩:=p.get t; have j:cs[m.off]? =some R:=(l m z32).trans v; refine⟨R,j,(Uy p F V W X Y Z c6 c7 rfl hn t v).mono fun u L ⟨e,D,q1,O,q3,B⟩=> ?_⟩
  have h: ∀b,C b→g.own b= .none:=fun b c=>by
   by_cases e:s b
   ·exact(M b e).2
   ·have hge:=h3 b c e
    cases hg:g.own b with
    | none=>rfl
    | _=>
     exfalso
     have:=p.ok.own b (by rw[hg]; simp)
     omega
  obtain⟨S,ty,r1,r2,r3,_⟩:=p.obs o cells i; refine⟨m.k1,e,fun b c=>⟨(B b (A b c) (h b c)).1,(B b (A b c) (h b c)).2.1⟩, ?_⟩
  refine Oe r q1 (cells:=cells.set (q+m.off) (.sl m.es')) (by rw[UM,z20 rfl,i]; rfl) (fun x y=>E x (z28 _ y)) (fun x y=> ?_) d (fun b c=>⟨(B b (A b c) (h b c)).1,(B b (A b c) (h b c)).2.2⟩) (fun x y=> ?_) (fun w3 w4 gc h5 h6 h7=>H w3 w4 gc h5 (h6.trans O) h7)
  ·obtain⟨n',K⟩:=J x (z28 _ y)
   rw[UN]; split
   ·exact⟨0,rfl⟩
   ·rw[K]; exact⟨n',by simp⟩
  ·rw[l x (z28 _ y),O]
   exact(cJ (q3 o _ r3)).symm
set_option linter.unusedVariables false

theorem Tq.calm{g:G}{w d:World}(c:GOk g w)(h:Tq w d)(st:St):zG g w g d (fun _=>False) st:=
 ⟨⟨h.size,fun b a _=>⟨rfl,h.keep b a⟩⟩,fun _ h=>h.elim, .inl fun b a=>⟨⟨z60 a.1 h.size,a.2⟩,h.keep b a.1⟩,h.os,h.tape,h.output,⟨fun b a=>z60 (c.own b a) h.size⟩⟩

def kS(_ _:Nat):K:= .S
theorem Ts(g:G)(w:World)(l:Nat→Nat→Loc)(k:Int):RV g w kS l (.int .i64 k) (vI k):=⟨⟨by simp,by simp⟩,rfl, .int .i64 k⟩
theorem vI_ev{g:G}{w:World}{κ:Nat→Nat→K}{l:Nat→Nat→Loc}{v:Value}{k:Int}(h:RV g w κ l v (vI k)):v= .int .i64 k:=by
 have:=LF.scal (g':=g) (w':=w) (κ':= .F) (l':= .none) h.2 rfl; have this:Rd _ _ _ _:=this; cases this; rfl

def St.mkSt(st:St)(o b t d r c:Nat)(rs:List MR)(k a:Int):St:=
 ((turnM o b rs ((st.put t (.one .junk) (fun _ _=> .D)).put d (vI k) kS)).put r (vI a) kS).put c (vI a) kS

theorem Ge{o a:Nat}: ∀ {rs:List MR} {st:St},(turnM o a rs st).n=st.n
 | [],st=>rfl
 | m::r,st=>by simp only[turnM]; rw[Ge]; rfl

theorem SF{P:Program}{τ:TypeId→Option TI}(hT:bI P τ){g0:G}{w0:World}{st:St}{S:TypeId}{i:TI}{f:FuncId}{c:Call}{o q F tk t e r l id:Nat}{cells s:List T}{k b:Int}{rs:List MR}{a:Act}{w:World}{Q:Exit→Act→World→Prop}
  {t1 t2 t3 t4:TypeId}{p1 p2 p3 p4:String}{f1 f2 f3 f4:Array Edge}(A:Sim g0 w0 st a w)(hi:τ S=some i)(h1:i.agg=false→i.size=1)(hM:UH P f i.agg i.size (rs.map fun m=>(m.off,m.g)))(hle:q+i.size≤cells.length)
  (Z:c.callee= .value (.func f))(hc2:c.args= #[.tmp t, .tmp e])(hd:(Nat.blt t e&&Nat.blt e r&&Nat.blt r st.n&&Nat.blt l st.n&& !(Nat.beq tk t)&& !(Nat.beq F t))=true)
  (htp:st.sl F= .one (.ptr o q))(htk:st.sl tk=vI k)(L:st.ob o=some cells)(hC: ∀m∈rs,TCm P m)(hk: ∀m∈rs, ∃n,st.fl (.oc o (q+m.off))= .U n)(hch:FL q rs cells k s b)
  (hQ: ∀W w',Sim g0 w0 (st.mkSt o q t e r l rs k b) W w'→(∀z,z≠t→z≠e→z≠r→z≠l→W.tmps.getD z undef=a.tmps.getD z undef)→Q .normal W w'):
  (Code.region id #[⟨some t, .load S (.tmp F),t1,p1,f1,none⟩,⟨some e, .move (.tmp tk),t2,p2,f2,none⟩,⟨some r, .call c,t3,p3,f3,none⟩,⟨some l, .assign (.tmp r),t4,p4,f4,none⟩] false).wp P Q a w:=by
 obtain⟨g,A⟩:=A; simp only[z7,z40]at hd; obtain⟨⟨⟨⟨⟨e1,e2⟩,e3⟩,e4⟩,O⟩,e6⟩:=hd; have e1:=dC e1; have e2:=dC e2; have e3:=dC e3; have e4:=dC e4; have O:tk≠t:=fun h=>by rw[h,z44]at O; cases O
 have hst1:(st.put t (.one .junk) (fun _ _=> .D)).n=st.n:=rfl
 obtain⟨I,ty,r1,r2,r3,_⟩:=A.obs o cells L; obtain⟨u,hu,hv⟩:=SH hT hi (p:=q) r1 (by rw[r2]; exact hle) h1
 have N:a.tmps.getD F undef= .pointer (some ⟨g.β o,q,none⟩):=by
  have:=A.slots F; rw[htp]at this; exact this
 have hkv:a.tmps.getD tk undef= .int .i64 k:=by
  have:=A.slots tk; rw[htk]at this; exact vI_ev this
 refine wp_region ?_
 show wpOps P _ Q [0,1,2,3] a w; rw[wpOps_cons]; refine wB rfl rfl (OE (v:=u) (tP (ρ:=a.eval) (x:= .tmp F) rfl N hu) ?_)
 show wpOps P _ Q [1,2,3] (a.put (some t) u) w; have R: ∀j,(a.put (some t) u).tmps.getD j undef=if j=t then u else a.tmps.getD j undef:=fun j=>Act.put_getD a t _ j (by rw[A.size]; omega)
 have B:=A.set (d:=t) (u:=u) (r:= .one .junk) (κ:=fun _ _=> .D) (by omega) trivial (fun h=>absurd rfl h)
 generalize a.put (some t) u=a1 at R B; rw[wpOps_cons]
 refine wB rfl rfl (OE (v:= .int .i64 k) (by
  rw[Rq (x:= .tmp tk) rfl]; show Result.ok (Next.value (a1.tmps.getD tk undef)) w=_; rw[R,z15 O,hkv]) ?_)
 show wpOps P _ Q [2,3] (a1.put (some e) (.int .i64 k)) w; have V: ∀j,(a1.put (some e) (.int .i64 k)).tmps.getD j undef=if j=e then .int .i64 k else a1.tmps.getD j undef:=fun j=>Act.put_getD a1 e _ j (by rw[B.size]; show e<st.n; omega)
 have C:=B.set (d:=e) (u:= .int .i64 k) (r:=vI k) (κ:=kS) (by show e<st.n; omega) (Ts g w _ k) (fun h=>absurd rfl h)
 generalize a1.put (some e) (.int .i64 k)=a2 at V C; rw[wpOps_cons]; refine wB rfl rfl (Rb (c:=c) rfl Z ?_)
 have y:c.args.map a2.eval= #[u, .int .i64 k]:=by
  have q1:a2.eval (.tmp t)=u:=by
   show a2.tmps.getD t undef=_; rw[V,z15 (by omega),R,z20 rfl]
  have q2:a2.eval (.tmp e)= .int .i64 k:=by
   show a2.tmps.getD e undef=_; rw[V,z20 rfl]
  rw[hc2]; simp [q1,q2]
 rw[y]; have J:((I.toList.drop q).take i.size).length=i.size:=by simp; omega
 have M: ∀m∈rs,m.off<i.size:=fun m K=>hM.1 (m.off,m.g) (z49.2 ⟨m,K,rfl⟩)
 refine hM.2 u _ k w (fun _=>False) _ hv J (fun _ h=>h.elim) (Oe rs (cells:=cells) C L hC (fun m K=> ?_) hch (fun _ h=>h.elim) (fun m K=> ?_) (fun w1 H Y h5 h6 hE=> ?_))
 ·obtain⟨n,hn⟩:=hk m K
  exact⟨n,hn⟩
 ·rw[z80,z20 (M m K),z43,cS w _ _ I ty _ r1]; simp
 ·show wpOps P _ Q [3] (a2.put (some r) (.int .i64 b)) H
  have X: ∀j,(a2.put (some r) (.int .i64 b)).tmps.getD j undef=if j=r then .int .i64 b else a2.tmps.getD j undef:=fun j=>Act.put_getD a2 r _ j (by rw[C.size]; show r<st.n; omega)
  have E:=h5.put (hE.calm h5.ok _) (fun _=>rfl) (d:=r) (by rw[Ge]; show r<st.n; omega) (fun _ _ _ _ h=>h) (u:= .int .i64 b) (r:=vI b) (κ:=kS) (Ts Y H _ b) (fun h=>absurd rfl h)
  generalize a2.put (some r) (.int .i64 b)=a3 at X E; rw[wpOps_cons]
  refine wB rfl rfl (OE (v:= .int .i64 b) (by
   rw[Mz (x:= .tmp r) rfl]; show Result.ok (Next.value (a3.tmps.getD r undef)) H=_; rw[X,z20 rfl]) ?_)
  have g4: ∀j,(a3.put (some l) (.int .i64 b)).tmps.getD j undef=if j=l then .int .i64 b else a3.tmps.getD j undef:=fun j=>Act.put_getD a3 l _ j (by
   rw[E.size]; show l<(turnM o q rs _).n; rw[Ge]; show l<st.n; omega)
  have hs4:=E.set (d:=l) (u:= .int .i64 b) (r:=vI b) (κ:=kS) (by
   show l<(turnM o q rs _).n; rw[Ge]; show l<st.n; omega) (Ts Y H _ b) (fun h=>absurd rfl h)
  show Q .normal (a3.put (some l) (.int .i64 b)) H; refine hQ _ H ⟨Y,hs4⟩ (fun z z1 z2 z3 z4=> ?_)
  rw[g4,z15 z4,X,z15 z3,V,z15 z2,R,z15 z1]
set_option linter.unusedVariables false

theorem yI{F:FA}{n:Nat}{b:B}{x:D}{s:St}(A:Ag F b x)(h:Low n b x s){d:Nat}{r:V}{κ:Nat→Nat→K}:Low n (b.filt (rW F d)) x (s.put d r κ):=by
 have a: ∀i,(b.filt (rW F d)).has i=true→b.has i=true∧i≠d∧aY d (aI (F.shOf i))=false:=fun i c=>by
  rw[fF,z7]at c; have h1:=c.1; simp only[rW,z7,z40]at h1; exact⟨c.2,(fun e=>by rw[e,z44]at h1; cases h1.1),h1.2⟩
 have m: ∀i,(b.filt (rW F d)).has i=true→aY d (aI (s.sl i))=false:=fun i c=>by
  obtain⟨h1,_,z⟩:=a i c; rw[h.sl i h1]; rcases A.sl i h1 with q | q
  ·rw[q]; rfl
  ·rw[eO q]; exact z
 have g: ∀i k j,(b.filt (rW F d)).has i=true→(b.filt (rW F d)).kd (.s i k j)=b.kd (.s i k j):=fun i k j c=>gR (by rw[fF,z7]at c; exact c.1)
 have f: ∀i k j,(b.filt (rW F d)).has i=true→(s.put d r κ).fl (.s i k j)=s.fl (.s i k j):=fun i k j c=>by
  simp only[St.put,z15 (a i c).2.1]; rw[z15]; rintro ⟨_,_,v⟩
  rw[m i c]at v; cases v
 refine⟨h.n,fun i c=> ?_,fun o ho=>h.ob o ho,fun l t p y=> ?_,fun i k xs c C=> ?_,fun i c u w=> ?_⟩
 ·simp only[St.put,z15 (a i c).2.1]; exact h.sl i (a i c).1
 ·cases l with
  | s i k j=>rw[f i k j p,g i k j p]; exact h.fl (.s i k j) t (a i p).1 y
  | oc o j=>exact h.fl (.oc o j) t p y
  | _=>cases p
 ·rw[f i k 0 c,g i k 0 c]; exact h.cp i k xs (a i c).1 C
 ·rw[f i 0 0 c]
  rw[g i 0 0 c]at w; exact h.al i (a i c).1 u w

theorem Pk{F:FA}{b:B}{l:Loc}{o:Nat}:(b.turn F l).hasO o=b.hasO o:=by
 unfold B.turn B.killV; rw[gT,zW,gT,gT]
theorem VP(a es':List (List T))(u:T):tJ (.sl a) u=tJ (.sl es') u:=by cases u<;>rfl
theorem Rg{F:FA}{n:Nat}{b:B}{x:D}{s:St}(y:Ag F b x)(h:Low n b x s){o j:Nat}{w es':List (List T)}(G: ∀i,b.has i=true→s.fl (.s i 0 0)= .V→b.kd (.s i 0 0)= .V)(E:b.hasO o=true)(t:x.at (.oc o j)=some (.sl w)):
  Ag F (b.turn F (.oc o j)) (x.upd (.oc o j) (.sl es'))∧Low n (b.turn F (.oc o j)) (x.upd (.oc o j) (.sl es')) (s.turn (.oc o j) (.U 0) (.sl es')):=by
 have v:isL (.oc o j) .none=false:=rfl; have g:Ag F (b.killV F) x:=y.setf _ _; have h1:Low n (b.killV F) x s.killV:=kM y h rfl (fun l _ a=>by
  by_cases e:b.kd l= .V
  ·rw[z20 e]; exact IW _
  ·rw[z15 e]
   by_cases d:s.fl l= .V
   ·rw[d]at a
    have:b.kd l= .D:=by
     revert a e
     cases b.kd l<;>simp [K.lo]
    rw[this]; exact IW _
   ·rw[z15 d]; exact a) (fun i H a c=>by
   by_cases e:b.kd (.s i 0 0)= .V
   ·rw[z20 e]at c; exact absurd rfl c
   ·rw[z15 e]at c
    have:=a c; by_cases d:s.fl (.s i 0 0)= .V
    ·exact absurd (G i H d) e
    ·rw[z15 d]; exact this)
 have k:Ag F ((b.killV F).setf F (isL (.oc o j)) (fun m q=>if isL (.oc o j) m=true then .D else q)) x:=g.setf _ _
 have A:Low n ((b.killV F).setf F (isL (.oc o j)) (fun m q=>if isL (.oc o j) m=true then .D else q)) x (s.killV.drop (isL (.oc o j))):=kM g h1 v (fun m _ a=>by
   by_cases e:isL (.oc o j) m=true
   ·rw[z20 e,z20 e]; exact dV _
   ·rw[z15 e,z15 e]; exact a) (fun i _ a c=>by
   by_cases e:isL (.oc o j) (.s i 0 0)=true
   ·rw[z20 e]at c; exact absurd rfl c
   ·rw[z15 e]at c ⊢; exact a c)
 have r:((b.killV F).setf F (isL (.oc o j)) (fun m q=>if isL (.oc o j) m=true then .D else q)).hasL (.oc o j)=true:=by
  show B.hasO _ o=true; unfold B.killV; rw[gT,gT]; exact E
 have C:=Gb (z:= .sl es') k A r t (by simp)
 have p:=(k.upd (z:= .sl es') r t (fun u=>VP w es' u)).filt (gE F (.oc o j))
 refine⟨p.setf _ _,kM (R:=isL (.oc o j)) (f:=fun m=>if m= .oc o j then .U 0 else((s.killV.drop (isL (.oc o j))).upd (.oc o j) (.sl es')).fl m) p C v (fun m _ a=> ?_) (fun i _ a c=> ?_)⟩
 ·by_cases e:m= .oc o j
  ·rw[z20 e,z20 e]; exact dV _
  ·rw[z15 e,z15 e]; exact a
 ·rw[z15 (by simp)]at c ⊢; exact a c
theorem Rf{st:St}{l:Loc}{κ:K}{z:T}(a:κ≠ .V)(m:Loc):(st.turn l κ z).fl m≠ .V:=by
 unfold St.turn St.raise; refine rJ (fun m=> ?_) m
 split
 ·exact a
 ·show((st.killV.drop (isL l)).upd l z).fl m≠ .V
  have h0: ∀m,(st.killV.drop (isL l)).fl m≠ .V:=fun m=>by
   refine rJ (fun m=> ?_) m
   split
   ·simp
   ·exact sP st m
  cases m with
  | s i k j=>
   simp only[St.upd]; split
   ·simp
   ·exact h0 _
  | none=>exact h0 .none
  | ext=>exact h0 .ext
  | obj o=>exact h0 (.obj o)
  | oc o j=>exact h0 (.oc o j)
theorem If{F:FA}{n o c:Nat}{a:List T}{t:Int}: ∀(rs:List MR) {b:B} {x:D} {s:St} {cells:List T} {k:Int},Ag F b x→Low n b x s→(∀i,b.has i=true→s.fl (.s i 0 0)= .V→b.kd (.s i 0 0)= .V)→b.hasO o=true→x.ob o=some cells→FL c rs cells k a t→
  Ag F (B.turnM F o c (rs.map (·.off)) b) (D.updM o c rs x)∧Low n (B.turnM F o c (rs.map (·.off)) b) (D.updM o c rs x) (turnM o c rs s)
 | [],b,x,s,cells,k,f,h,_,_,_,_=>⟨f,h⟩
 | m::r,b,x,s,cells,k,f,h,q,l,d,j=>by
  obtain⟨h1,rfl,p⟩:=j; have g:x.at (.oc o (c+m.off))=some (.sl m.es):=by
   show(x.ob o).bind (·[c+m.off]?)=_
   rw[d]; exact h1
  obtain⟨u,v⟩:=Rg (es':=m.es') f h q l g; refine If r u v (fun i _ e=>absurd e (Rf (by simp) _)) (by rw[Pk]; exact l) ?_ p
  show tV x.ob (.oc o (c+m.off)) (.sl m.es') o=_; simp only[tV,if_true,d]; rfl
set_option linter.unusedVariables false

theorem VJ(k:Int)(s:V):Own.fits (vI k) s=Own.fits (vI 0) s:=by
 cases s with
 | tup a=>rfl
 | one w=>cases w<;>first | rfl | (rename_i y; cases y<;>rfl)

theorem Uk{P:Program}{τ:TypeId→Option TI}{Sgs:FuncId→List Sg}(hT:bI P τ){F:FA}{b b':B}{x:D}(hA:Ag F b x){S:TypeId}{i:TI}{f:FuncId}{c:Call}{o H tp tk t j r q r2 id:Nat}{cells l:List T}{k v:Int}{rs:List MR}
  {t1 t2 t3 t4:TypeId}{p1 p2 p3 p4:String}{f1 f2 f3 f4:Array Edge}(Z:τ S=some i)(h1:i.agg=false→i.size=1)(hM:UH P f i.agg i.size (rs.map fun m=>(m.off,m.g)))(hle:H+i.size≤cells.length)
  (hc1:c.callee= .value (.func f))(hc2:c.args= #[.tmp t, .tmp j])(hr2:r2=r)(u:x.sl tp= .one (.ptr o H))(htk:x.sl tk=vI k)(X:x.ob o=some cells)
  (hC: ∀m∈rs, ∀sg∈Sgs m.g,sg.np=2→sg.no=0→TC P m.g sg [.one (.c (.sl m.es)), .one (.c (.int .i64 m.k))] [] (.one (.c (.int .i64 m.k1))) (some (.sl m.es')) [] none)(R:FL H rs cells k l v)
  (C:mkC τ Sgs F b (rs.map fun m=>(m.off,m.g)) [⟨some t, .load S (.tmp tp),t1,p1,f1,none⟩,⟨some j, .move (.tmp tk),t2,p2,f2,none⟩,⟨some r, .call c,t3,p3,f3,none⟩,⟨some q, .assign (.tmp r2),t4,p4,f4,none⟩]=some b'):
  Ag F b' ((D.updM o H rs x).put q (vI v))∧ ∀g0 w0 (Q:Exit→Act→World→Prop) a w,Sim g0 w0 (b.S F.n x) a w→(∀I w',Sim g0 w0 (b'.S F.n ((D.updM o H rs x).put q (vI v))) I w'→(∀z,z≠t→z≠j→z≠r→z≠q→I.tmps.getD z undef=a.tmps.getD z undef)→Q .normal I w')→
   (Code.region id #[⟨some t, .load S (.tmp tp),t1,p1,f1,none⟩,⟨some j, .move (.tmp tk),t2,p2,f2,none⟩,⟨some r, .call c,t3,p3,f3,none⟩,⟨some q, .assign (.tmp r2),t4,p4,f4,none⟩] false).wp P Q a w:=by
 subst hr2; simp only[mkC]at C; split at C<;>try cases C
 rename_i o' y hsh; obtain⟨hq,C⟩:=aJ C; simp only[z7]at hq; obtain⟨⟨⟨⟨⟨c1,c2⟩,c3⟩,c4⟩,c5⟩,c6⟩:=hq; have hop:o'=o∧y=H:=by
  have Y:=hA.fits c1 (by rw[u]; simp)
  rw[u,hsh]at Y; simp only[Own.fits,bY,z7]at Y; exact⟨(z17 Y.1).symm,(z17 Y.2).symm⟩
 obtain⟨rfl,rfl⟩:=hop; cases C; have O: ∀m∈rs,(∃n,b.kd (.oc o' (y+m.off))= .U n)∧ ∃sg∈Sgs m.g,okSg sg=true:=fun m E=>by
  have:=z18.1 c4 (m.off,m.g) (z49.2 ⟨m,E,rfl⟩); simp only[z7]at this; refine⟨?_,z168.1 this.2⟩
  revert this
  cases b.kd (.oc o' (y+m.off))<;>simp [isU]
 have hTC: ∀m∈rs,TCm P m:=fun m E=>by
  obtain⟨sg,J,A⟩:=(O m E).2; simp only[okSg,z7]at A; obtain⟨⟨⟨⟨⟨⟨q1,q2⟩,q3⟩,q4⟩,q5⟩,q6⟩,q7⟩:=A; exact⟨sg,hC m E sg J (z17 q2) (z17 q3),of_decide_eq_true q1,z17 q2,Uh q4,q5,q6,of_decide_eq_true q7⟩
 have hl0:=Low.self F.n b x; have hl1:=yI (d:=t) (r:= .one .junk) (κ:=fun _ _=> .D) hA hl0
 have K:=hA.filt (rW F t); have hl2:=yI (d:=j) (r:=vI k) (κ:=kS) K hl1; have hA2:=K.filt (rW F j); have hV: ∀i,((b.filt (rW F t)).filt (rW F j)).has i=true→(((b.S F.n x).put t (.one .junk) (fun _ _=> .D)).put j (vI k) kS).fl (.s i 0 0)= .V→((b.filt (rW F t)).filt (rW F j)).kd (.s i 0 0)= .V:=fun i Z G=>by
  rw[fF,fF,z7,z7]at Z; obtain⟨J,A,h4⟩:=Z; rw[gR J,gR A]; have e1:i≠j:=fun e=>by rw[e]at J; simp [rW,z44]at J
  have e2:i≠t:=fun e=>by rw[e]at A; simp [rW,z44]at A
  simp only[St.put,z15 e1,z15 e2]at G; split at G
  ·cases G
  ·split at G
   ·cases G
   ·exact G
 obtain⟨L,hl3⟩:=If rs hA2 hl2 hV c2 X R; have hl4:=yI (d:=r2) (r:=vI v) (κ:=kS) L hl3; have M:=L.filt (rW F r2); have p:Own.fits (vI v) (F.shOf q)=true:=by rw[VJ]; exact c6
 have hl5:=Gi (d:=q) (r:=vI v) (κ:=kS) (f:=fun _ _=> .S) M hl4 (.inr p) (fun _ _ _ _=>rfl) (fun kk xs h=>by cases kk<;>simp [vI,V.comp]at h) (fun h=>absurd rfl h)
 have N:=M.put (d:=q) (r:=vI v) (f:=fun _ _=> .S) (.inr p)
 have W:(rs.map fun m=>(m.off,m.g)).map (·.1)=rs.map (·.off):=by rw[Ve]; rfl
 rw[W]; refine⟨N.nrm,fun g0 w0 Q a w hs hQ=> ?_⟩
 exact SF hT hs Z h1 hM hle hc1 hc2 (by simp only[z7]; exact c5) (by rw[qU c1]; exact u) (by rw[qU c3]; exact htk) (by rw[Lo c2]; exact X) hTC (fun m E=>(O m E).1) R (fun I w' hs' hz=>hQ I w' (hs'.relax (hl5.le N)) hz)

theorem bZ.drawn{g0:G}{w0:World}{st:St}{a:Act}{g:G}{w:World}(n:Nat)(h:bZ g0 w0 st a g w):bZ g0 w0 st a g { w with drawn:=n }:=by
 have k:Evo g w g { w with drawn:=n } (fun _=>False):=⟨z36 _,fun b _ _=>⟨rfl,rfl⟩⟩
 have d:zG g w g { w with drawn:=n } (fun _=>False) st:= { evo:=k,X:=fun _ h=>h.elim,V:= .inl fun b y=>⟨y,rfl⟩,os:=rfl,tape:=rfl,output:=rfl,ok:=⟨h.ok.own⟩ }
 refine⟨h.framed.trans d.framed,d.ok,h.size,h.defers,fun i=>RV.calm d h.ok (fun _=>rfl) (fun _ _ _ h=>h) (h.slots i),fun o cells z=> ?_,fun i E C=> ?_,h.bp,h.nle⟩
 ·obtain⟨e,I,h1,f,u,v⟩:=h.obs o cells z
  refine⟨e,I,h1,f,u,fun j x H=> ?_⟩
  obtain⟨c,l,m,q⟩:=v j x H; exact⟨c,l,m,d.lf h.ok (by simp) (fun _ h=>h) q⟩
 ·obtain⟨h1,f⟩:=h.pls i E C
  refine⟨h1,f.congr ?_ rfl (fun J x0 p v' x' r s t=>h.pl_evo k (fun h=>h) h1 (fun h=>h) r s t)⟩
  cases aI (st.sl i)<;>rfl
theorem Sim.drawn{g0:G}{w0:World}{s:St}{a:Act}{w:World}(n:Nat)(h:Sim g0 w0 s a w):Sim g0 w0 s a { w with drawn:=n }:=by
 obtain⟨g,h⟩:=h; exact⟨g,h.drawn n⟩
def oL(ops:Array Oper)(D:Nat→Prop):Prop:= ∀j o,ops[j]? =some o→D j→ ∀e∈o.after,Region.binds .any e=true→D e.on

theorem GY(ops:Array Oper)(D:Nat→Prop)(C:oL ops D): ∀(l:List Oper) (a:Array Nat),(∀k o,l[k]? =some o→ops[a.size+k]? =some o)→
  (∀j i,D j→j<a.size→(a.getD j 0).testBit i=true→D i)→
  ∀j i,D j→((l.foldl (init:=a) fun a o=>a.push (o.after.foldl (fun s e=>if Region.binds .any e then s||| 2 ^ e.on||| a.getD e.on 0 else s) 0)).getD j 0).testBit i=true→D i
 | [],a,_,u,j,i,m,d=>by
  simp only[List.foldl_nil]at d; by_cases c:j<a.size
  ·exact u j i m c d
  ·have:a.getD j 0=0:=by simp [Array.getD,c]
   rw[this]at d; simp at d
 | o::r,a,h1,u,j,i,m,d=>by
  rw[WS]at d; refine GY ops D C r _ (fun k G E=> ?_) (fun j i m c d=> ?_) j i m d
  ·rw[Array.size_push,RI,z183 1 k]
   exact h1 (k+1) G (by simpa using E)
  ·rw[Array.size_push]at c
   by_cases e:j=a.size
   ·have ho:ops[j]? =some o:=by
     have:=h1 0 o rfl; rw[e]; exact this
    subst e; have q:((o.after.foldl (fun s e=>if Region.binds .any e then s||| 2 ^ e.on||| a.getD e.on 0 else s) 0)).testBit i=true:=by
     simpa [Array.getD]using d
    rw[←WY]at q; have z: ∀(p:List Edge) (s:Nat),(∀e∈p,e∈o.after)→(s.testBit i=true→D i)→(p.foldl (fun s e=>if Region.binds .any e then s||| 2 ^ e.on||| a.getD e.on 0 else s) s).testBit i=true→D i:=by
     intro p; induction p with
     | nil=>intro s _ v h; exact v h
     | cons e p ih=>
      intro s g v h; rw[WS]at h; refine ih _ (fun e y=>g e (z28 _ y)) (fun h=> ?_) h
      split at h
      ·rename_i w
       have t:=C _ o ho m e (g e z32) w; rw[Tf,Tf,z45,z45]at h; rcases h with(h | h) | h
       ·exact v h
       ·rw[Vm]at h
        have:e.on=i:=by simpa using h
        rw[←this]; exact t
       ·by_cases c:e.on<a.size
        ·exact u _ _ t c h
        ·have:a.getD e.on 0=0:=by simp [Array.getD,c]
         rw[this]at h; simp at h
      ·exact v h
    exact z _ 0 (fun e y=>z42.1 y) (by simp) q
   ·refine u j i m (by omega) ?_
    have f:j<a.size:=by omega
    rw[z59,Array.getElem?_push_lt f]at d
    rw[z59,z75 f]; exact d

theorem nO{ops:Array Oper}{D:Nat→Prop}(c:oL ops D){j i:Nat}(d:D j)(h:((Region.before ops).getD j 0).testBit i=true):D i:=by
 unfold Region.before at h; rw[←WY]at h; exact GY ops D c ops.toList #[] (fun k o e=>by simpa using e) (fun j i _ a=>by simp at a) j i d h

def IZ(F:FA)(L c:Lvl):Prop:= ∀m b,rC m L=some b→ ∃a,rC m c=some a∧Cv F b a
theorem IZ.refl(F:FA)(L:Lvl):IZ F L L:=fun _ b h=>⟨b,h,Cv.refl F b⟩
theorem IZ.trans{F:FA}{a b c:Lvl}(h:IZ F a b)(k:IZ F b c):IZ F a c:=fun e x f=>by
 obtain⟨y,h1,d⟩:=h e x f; obtain⟨z,g,i⟩:=k e y h1; exact⟨z,g,d.trans i⟩

theorem Kk{F:FA}{m:Nat}{b:B}{mt:B→B→B}: ∀ {L c:Lvl},Vv F m b mt L=some c→IZ F L c∧ ∃d,rC m c=some d∧Cv F b d
 | [],c,h=>by
  cases h; exact⟨fun _ _ h=>(by cases h),b,by simp [rC],Cv.refl F b⟩
 | (i,q)::r,c,h=>by
  unfold Vv at h; cases hm:Nat.beq m i with
  | true=>
   rw[hm]at h; simp only[z16]at h; obtain⟨g,h⟩:=aJ h; simp only[z7]at g; cases h; have e:=z17 hm; subst e; refine⟨fun f b2 a=> ?_,_,by simp [rC],FG g.2⟩
   simp only[rC]at a ⊢; cases h3:Nat.beq f m with
   | true=>rw[h3]at a; cases a; exact⟨_,rfl,FG g.1⟩
   | false=>rw[h3]at a; exact⟨b2,a,Cv.refl F b2⟩
  | false=>
   rw[hm]at h; simp only[z12]at h; split at h<;>try cases h
   rename_i s j; obtain⟨k,d,l,p⟩:=Kk j; refine⟨fun f b2 a=> ?_,d,by simp only[rC,hm,z12]; exact l,p⟩
   simp only[rC]at a ⊢; cases h3:Nat.beq f i with
   | true=>rw[h3]at a; cases a; exact⟨_,rfl,Cv.refl F _⟩
   | false=>rw[h3]at a; exact k f b2 a

section
variable {τ:TypeId→Option TI} {Sgs:FuncId→List Sg} {F:FA} {ds:List (Option Nat)} {mt:B→B→B}

theorem wG{m:Nat}{b:B}: ∀ {r:List Oper} {i:Nat} {c a:Lvl},xB τ Sgs F ds mt m b i r c=some a→IZ F c a∧ ∀k o,r[k]? =some o→m.testBit (i+k)=false→jI m o=true→
  ∃b1 b2,tU τ Sgs F ds b o=some b1∧rC (m||| 2 ^ (i+k)) a=some b2∧Cv F b1 b2
 | [],i,c,a,h=>by cases h; exact⟨IZ.refl F c,fun k o d=>by simp at d⟩
 | o::r,i,c,a,h=>by
  unfold xB at h; cases hc:(m.testBit i|| !(jI m o))with
  | true=>
   rw[hc]at h; obtain⟨h1,g⟩:=wG (show xB τ Sgs F ds mt m b (i+1) r c=some a from h); refine⟨h1,fun k l d e f=> ?_⟩
   cases k with
   | zero=>
    simp only[z22,z10]at d
    subst d; rw[z77]at e; rw[e,f]at hc; cases hc
   | succ k=>
    rw[show i+(k+1)=i+1+k by omega]at e ⊢
    exact g k l (by simpa using d) e f
  | false=>
   rw[hc]at h; simp only[z12]at h; split at h<;>try cases h
   rename_i b1 j; split at h<;>try cases h
   rename_i p s; obtain⟨a1,b2,a2,a3⟩:=Kk s; obtain⟨h1,g⟩:=wG h; refine⟨a1.trans h1,fun k l d e f=> ?_⟩
   cases k with
   | zero=>
    simp only[z22,z10]at d
    subst d; rw[z77]; obtain⟨q,t,u⟩:=h1 _ b2 a2; exact⟨b1,q,j,t,a3.trans u⟩
   | succ k=>
    rw[show i+(k+1)=i+1+k by omega]at e ⊢
    exact g k l (by simpa using d) e f

theorem vC{os:List Oper}: ∀ {L a c:Lvl},FJ τ Sgs F ds mt os L a=some c→IZ F a c∧ ∀m b,rC m L=some b→ ∀(k:Nat) o,os[k]? =some o→m.testBit k=false→jI m o=true→
  ∃b1 b2,tU τ Sgs F ds b o=some b1∧rC (m||| 2 ^ k) c=some b2∧Cv F b1 b2
 | [],a,c,h=>by cases h; exact⟨IZ.refl F a,fun m b h=>by cases h⟩
 | (t,z)::r,a,c,h=>by
  unfold FJ at h; split at h<;>try cases h
  rename_i f s; obtain⟨a1,a2⟩:=wG s; obtain⟨h1,q⟩:=vC h; refine⟨a1.trans h1,fun m b d k o i g j=> ?_⟩
  simp only[rC]at d; cases h3:Nat.beq m t with
  | true=>
   rw[h3]at d; cases d; have e:=z17 h3; subst e; obtain⟨b1,b2,u,l,v⟩:=a2 k o i (by rw[z29]; exact g) j
   rw[z29]at l; obtain⟨p,w,y⟩:=h1 _ b2 l; exact⟨b1,p,u,w,v.trans y⟩
  | false=>
   rw[h3]at d; exact q m b d k o i g j
end

section
variable {P:Program} {τ:TypeId→Option TI} {Sgs:FuncId→List Sg} {F:FA} {x x1 x2:D} {o:Oper} {b b1:B}

theorem SD.step(hT:bI P τ)(U:Ag F b x){ops:Array Oper}{i:Nat}(hi:ops[i]? =some o)(h:SD P τ Sgs F (ops.toList.map (·.dst)) o x x1)(hc:tU τ Sgs F (ops.toList.map (·.dst)) b o=some b1):
  Ag F b1 x1∧ ∀g0 w0 (Q:Exit→Act→World→Prop) (K:Act→World→Prop) a w,Sim g0 w0 (b.S F.n x) a w→(∀v w',Sim g0 w0 (b1.S F.n x1) (a.put o.dst v) w'→K (a.put o.dst v) w')→wpOp P ops Q i K a w:=by
 obtain⟨I,E,Y,Z,hun⟩:=HA hc
 have J: ∀(t:Bool),bN (ops.toList.map (·.dst)) x o.guard=some t→(∀g0 w0 (Q:Exit→Act→World→Prop) (K:Act→World→Prop) a w,Sim g0 w0 (b.S F.n x) a w→(∀v w',Sim g0 w0 (b1.S F.n x1) (a.put o.dst v) w'→K (a.put o.dst v) w')→if t then o.wp P a w K Q else K (a.put o.dst undef) w)→
   ∀g0 w0 (Q:Exit→Act→World→Prop) (K:Act→World→Prop) a w,Sim g0 w0 (b.S F.n x) a w→(∀v w',Sim g0 w0 (b1.S F.n x1) (a.put o.dst v) w'→K (a.put o.dst v) w')→wpOp P ops Q i K a w:=fun t y V g0 w0 Q K a w s L=>by
  have hw:Region.wanted o (yielded ops a.tmps)=t:=by
   obtain⟨g,H⟩:=s; exact Jj (F:=F) H Z y
  exact Cy hi t hw (V g0 w0 Q K a w s L)
 rcases h with⟨y,rfl⟩ | ⟨y,h1⟩ | ⟨y,c,v,f,caps,ob,ob',r,nw,ho,hcal,hni,hx,hth,hob,O,hsh,rfl⟩ | ⟨y,c,v,f,r,t,xs,l,p,x0,es,es',ho,hcal,hio,hx,hth,hargs,hal,hat,hnav,O,hsh,rfl⟩
 ·have hgn:o.guard≠none:=fun e=>by rw[e]at y; cases y
  obtain⟨k,X⟩:=XD U (hun hgn); rw[←Y]at k X; exact⟨k,J false y (fun g0 w0 Q K a w s L=>L undef w (X _ _ _ _ s))⟩
 ·have m:cOp τ F b o=some I:=by
   unfold RN at E; rw[wI h1]at E; exact E
  have u:=op_S hT U h1 m; obtain⟨k,cs⟩:=((OP (F:=F) (fzL F I o.dst) I).trans (Kq F _)) x1 u.ag; rw[←Y]at k cs; exact⟨k,J true y (fun g0 w0 Q K a w s L=>(u.ok g0 w0).w Q K a w s (fun v w' G=>L v w' (cs _ _ _ _ G)))⟩
 ·have m:UE Sgs F b o c v=some I:=by
   unfold RN at E; rw[wK ho hcal]at E; simp only[hni,z12]at E; exact E
  unfold UE at m; split at m<;>try cases m
  rename_i f' j q; obtain⟨sg,H,d⟩:=Dk m; obtain⟨hn,d⟩:=aJ d; simp only[z7]at hn; have T:dR b v=true:=by
   have d:=d; unfold RD at d; obtain⟨W,_⟩:=aJ d; simp only[z7]at W; exact W.1.1.1.1.1.1.1.1.1.1
  have R:f'=f∧j=caps:=by
   rcases BS U T hx (by simp)with M | ⟨_,s⟩
   ·rw[q]at M
    simp only[Own.fits,bY,z7]at M; exact⟨(z17 M.1).symm,(of_decide_eq_true M.2).symm⟩
   ·rw[q]at s
    cases s; exact⟨rfl,rfl⟩
  obtain⟨rfl,rfl⟩:=R; have z:(inV x c j (kH F c v)).length=c.args.toList.length+j.length:=by simp [inV]
  have hol:ob.length=(kH F c v).length:=by have:=congrArg List.length hob; simpa using this
  have C:sg.np=(inV x c j (kH F c v)).length:=by rw[z]; exact z17 hn.1
  have O:=O sg H C (by rw[hol]; exact z17 hn.2)
  obtain⟨N,u⟩:=Xi (P:=P) U ho hcal hx O rfl hob C hth hsh d; obtain⟨k,cs⟩:=((OP (F:=F) (fzL F I o.dst) I).trans (Kq F _)) _ N; rw[←Y]at k cs; exact⟨k,J true y (fun g0 w0 Q K a w s L=>u g0 w0 Q K a w s (fun v w' G=>L v w' (cs _ _ _ _ G)))⟩
 ·have m:ioC Sgs F b o c v=some I:=by
   unfold RN at E; rw[wK ho hcal]at E; simp only[hio,z16]at E; exact E
  unfold ioC at m; split at m<;>try cases m
  rename_i f' j q; obtain⟨sg,H,d⟩:=Dk m; obtain⟨hn,d⟩:=aJ d; simp only[z7]at hn; have T:dR b v=true:=by
   have d:=d; unfold cIo at d; rw[hargs]at d; simp only at d; split at d<;>try cases d
   obtain⟨W,_⟩:=aJ d; simp only[z7]at W; exact W.1.1.1.1.1.1.1.1.1.1.1.1.1.1.1.1
  have R:f'=f:=by
   rcases BS U T hx (by simp)with M | ⟨_,s⟩
   ·rw[q]at M
    simp only[Own.fits,bY,z7]at M; exact(z17 M.1).symm
   ·rw[q]at s
    cases s; rfl
  subst R; have z:(inV x c [] []).length=c.args.toList.length:=by simp [inV]
  have C:sg.np=(inV x c [] []).length:=by rw[z]; exact z17 hn.1.1
  have O:=O sg H C (z17 hn.2); obtain⟨N,u⟩:=Sn (P:=P) U ho hcal hx O rfl C hth hargs hal hat hnav hsh d; obtain⟨k,cs⟩:=((OP (F:=F) (fzL F I o.dst) I).trans (Kq F _)) _ N; rw[←Y]at k cs; exact⟨k,J true y (fun g0 w0 Q K a w s L=>u g0 w0 Q K a w s (fun v w' G=>L v w' (cs _ _ _ _ G)))⟩

theorem Ax{ops:Array Oper}{a:Array Bool}{i:Nat}(g:a.size=ops.size)(h:i<ops.size)(e:a.getD i true=false): ∃A C:List Nat,(List.range ops.size).filter (fun j=> !a.getD j true)=A++i::C∧
  (List.range ops.size).filter (fun j=> !(a.setIfInBounds i true).getD j true)=A++C∧ ∀j∈A,j<i∧a.getD j true=false:=by
 have f:List.range ops.size=List.range' 0 i++i::List.range' (i+1) (ops.size - i - 1):=by
  rw[Wb,show ops.size=i+(1+(ops.size - i - 1))by omega, ←List.range'_append_1, ←List.range'_append_1]
  simp
 have h1: ∀j,j≠i→(a.setIfInBounds i true).getD j true=a.getD j true:=fun j c=>getD_set_ne true (Ne.symm c)
 have d:(a.setIfInBounds i true).getD i true=true:=by
  have:i<a.size:=by omega
  simp [Array.getD,this]
 refine⟨(List.range' 0 i).filter (fun j=> !a.getD j true),(List.range' (i+1) (ops.size - i - 1)).filter (fun j=> !a.getD j true), ?_, ?_,fun j c=> ?_⟩
 ·rw[f,WW,z167 (by simp [e])]
 ·rw[f,WW,List.filter_cons_of_neg (by simp [d])]
  congr 1
  ·exact List.filter_congr fun j c=>by
    have:=z161.1 c; rw[h1 j (by omega)]
  ·exact List.filter_congr fun j c=>by
    have:=z161.1 c; rw[h1 j (by omega)]
 ·rw[z81]at c
  have:=z161.1 c.1; exact⟨by omega,by simpa using c.2⟩

theorem QB(K:bI P τ){ops:Array Oper}(E:nW F (ops.toList.map (·.dst)) ops=true){mt:B→B→B}{G:Nat}{C:B}{xn:D}:
  ∀(k j m:Nat) (L:Lvl) (b:B) (x:D),j+k=ops.size→IQ τ Sgs F (ops.toList.map (·.dst)) mt ops.toList k L=some [(G,C)]→rC m L=some b→(∀i,i<ops.size→m.testBit i=decide (i<j))→Ag F b x→
   EN P τ Sgs F (ops.toList.map (·.dst)) ops (List.range' j k) x xn→Ag F C xn:=by
 simp only[nW,z7,z18,z61]at E; obtain⟨d,_⟩:=E; intro k; induction k with
 | zero=>
  intro j m L b x y l f a t c; have O:x=xn:=c; subst O; cases l; simp only[rC]at f; cases p:Nat.beq m G with
  | true=>rw[p]at f; cases f; exact t
  | false=>rw[p]at f; cases f
 | succ k Q=>
  intro j m L b x y l f a t c; unfold IQ at l; split at l<;>try cases l
  rename_i H v; rw[z170]at c; obtain⟨o,x1,ho,_,z,g⟩:=c; have q:j<ops.size:=by omega
  have r:jI m o=true:=by
   simp only[jI,z18]; intro e M; have s:=d j q; rw[ho]at s; simp only[z85]at s; have p:=s e (z42.1 M); cases hb:Region.binds .any e with
   | false=>rfl
   | true=>
    simp only[hb,z38,z39]at p; have J:=dC p; simp only[z38,z39]; rw[a e.on (by omega)]; exact z11 J
  obtain⟨b1,b2,R,S,I⟩:=(vC v).2 m b f j o (by rw[z27]; exact ho) (by rw[a j q]; simp) r
  obtain⟨u,_⟩:=z.step K t ho R; refine Q (j+1) (m||| 2 ^ j) H b2 x1 (by omega) l S (fun i N=> ?_) (I x1 u).1 g
  rw[Tf,Vm,a i N]; by_cases w:i=j
  ·subst w; simp
  ·have:(decide (i<j+1))=decide (i<j):=by
    by_cases h:i<j
    ·rw[z11 h,z11 (by omega)]
    ·rw[z9 h,z9 (by omega)]
   rw[this]; simp; omega

theorem zN{ds:List (Option Nat)}: ∀ {os:List Oper} {b b2:B},KI τ Sgs F ds b os=some b2→RR τ Sgs F ds b os=some b2
 | [],b,b2,h=>h
 | o::r,b,b2,h=>by
  unfold KI at h; obtain⟨_,h⟩:=aJ h; unfold RR; split at h<;>try cases h
  rename_i b1 h1
  first
   | (rw[h1]; exact zN h)
   | exact zN h
theorem Pu{ds:List (Option Nat)}{os:List Oper}{b b2:B}(h:KI τ Sgs F ds b (o::os)=some b2):o.op.operands.toList.all (dR b)=true∧ ∃b1,tU τ Sgs F ds b o=some b1∧KI τ Sgs F ds b1 os=some b2:=by
 unfold KI at h; obtain⟨h0,h⟩:=aJ h; split at h<;>try cases h
 rename_i b1 h1; exact⟨h0,b1,h1,h⟩
theorem EO.of(a:Ag F b x)(h:o.op.operands.toList.all (dR b)=true):EO F x o:=fun v c=>by
 have:=z18.1 h v (by simpa using c)
 cases v with
 | tmp t=>exact a.sl t this
 | _=>trivial
end

section
variable {P:Program} {τ:TypeId→Option TI} {Sgs:FuncId→List Sg} {F:FA} {x x1 xn:D} {o:Oper} {b b1:B} {g0:G} {w0:World} {a:Act} {g:G} {w:World} {ds:List (Option Nat)} {mt:B→B→B}
theorem Ly{m:Nat}: ∀ {r:List Oper} {c:List Bool} {i j:Nat} {o:Oper},DT m i r c=some (j,o)→ ∃k,j=i+k∧r[k]? =some o∧c[k]? =some true∧m.testBit j=false∧jI m o=true
 | [],_,i,j,o,h=>by simp [DT]at h
 | _::_,[],i,j,o,h=>by simp [DT]at h
 | o'::r,e::c,i,j,o,h=>by
  simp only[DT]at h; cases hc:(e&&(!(m.testBit i)&&jI m o'))with
  | true=>
   rw[hc]at h; cases h; simp only[z7,z40]at hc; obtain⟨rfl,h1,d⟩:=hc; exact⟨0,rfl,rfl,rfl,h1,d⟩
  | false=>
   rw[hc]at h; obtain⟨k,rfl,d,f,l⟩:=Ly (show DT m (i+1) r c=some (j,o)from h); exact⟨k+1,by omega,by simpa using d,by simpa using f,l⟩
theorem Ay{E:List Bool}{os:List Oper}: ∀ {L c f:Lvl},DH τ Sgs F ds mt E os L c=some f→IZ F c f∧ ∀m b,rC m L=some b→
  (∃i o,DT m 0 os E=some (i,o)∧ ∃b1 b2,tU τ Sgs F ds b o=some b1∧rC (m||| 2 ^ i) f=some b2∧Cv F b1 b2)∨
  (DT m 0 os E=none∧ ∀(k:Nat) o,os[k]? =some o→m.testBit k=false→jI m o=true→ ∃b1 b2,tU τ Sgs F ds b o=some b1∧rC (m||| 2 ^ k) f=some b2∧Cv F b1 b2)
 | [],c,f,h=>by cases h; exact⟨IZ.refl F c,fun m b h=>by cases h⟩
 | (v,K)::r,c,f,h=>by
  unfold DH at h; cases hp:DT v 0 os E with
  | some p=>
   obtain⟨i,o⟩:=p; rw[hp]at h; simp only at h; split at h<;>try cases h
   rename_i b1 u; split at h<;>try cases h
   rename_i j t; obtain⟨a1,b2,a2,a3⟩:=Kk t; obtain⟨h1,s⟩:=Ay h; refine⟨a1.trans h1,fun m b d=> ?_⟩
   simp only[rC]at d; cases h3:Nat.beq m v with
   | true=>
    rw[h3]at d; cases d; have e:=z17 h3; subst e; obtain⟨q,y,l⟩:=h1 _ b2 a2; exact .inl ⟨i,o,hp,b1,q,u,y,a3.trans l⟩
   | false=>rw[h3]at d; exact s m b d
  | none=>
   rw[hp]at h; simp only at h; split at h<;>try cases h
   rename_i j t; obtain⟨a1,a2⟩:=wG t; obtain⟨h1,s⟩:=Ay h; refine⟨a1.trans h1,fun m b d=> ?_⟩
   simp only[rC]at d; cases h3:Nat.beq m v with
   | true=>
    rw[h3]at d; cases d; have e:=z17 h3; subst e; refine .inr ⟨hp,fun k o A z C=> ?_⟩
    obtain⟨b1,b2,y,l,H⟩:=a2 k o A (by rw[z29]; exact z) C
    rw[z29]at l; obtain⟨q,I,J⟩:=h1 _ b2 l; exact⟨b1,q,y,I,H.trans J⟩
   | false=>rw[h3]at d; exact s m b d

theorem Oi(z:Ag F b x){v:Operand}{d:Nat}(m:bZ g0 w0 (b.S F.n x) a g w)(k:dR b v=true)(C:IU F b d v=true)(c:(∃ob p,ev x.sl v= .one (.ptr ob p))∨(∃xs,ev x.sl v= .one (.cp xs))∨ ∃l p i j,ev x.sl v= .one (.pp l p i j)): ∃b h,a.eval v= .pointer (some ⟨b,h,none⟩):=by
 have h1:=m.ev_rv v (fun _ _=> .none)
 rcases c with⟨ob,p,c⟩ | ⟨xs,c⟩ | ⟨l,p,i,j,c⟩
 ·rw[oQ k,c]at h1
  exact⟨_,_,h1⟩
 ·rw[oQ k,c]at h1
  obtain⟨b,h,e,_⟩:=h1; exact⟨b,h,e⟩
 ·obtain⟨a1,a2,a3⟩:=CJ z k C c
  cases v with
  | tmp t=>
   have q:(b.S F.n x).sl t= .one (.pp l p i j):=(qU k).trans c
   have A:(b.S F.n x).fl (.s t 0 0)≠ .D:=fun e=>a3 (by
    have e:b.kd (.s t 0 0)= .D:=e; simp [GE,e,K.cp])
   have:=m.pls t (by rw[q]; exact a1) A
   rw[q]at this; obtain⟨E,O,x0,b,N,len,r,M,e,H,I,J,L,y⟩:=this; exact⟨_,_,y⟩
  | const u=>
   exfalso
   have:bQ u= .one (.pp l p i j):=c; unfold bQ at this
   (repeat' split at this)<;>simp at this
  | func f=>simp [ev]at c
  | global n=>simp [ev]at c
theorem VN(T:bI P τ)(E:Ag F b x)(k:To F o=true)(C:bZ g0 w0 (b.S F.n x) a g w)(h1:dOp τ F x o=some x1)(t:cOp τ F b o=some b1): ∃v, ∀u,(execOp a.eval o).run P u= .ok (.value v) u:=by
 unfold To at k; simp only[z7]at k; obtain⟨_,k⟩:=k; unfold dOp at h1; unfold cOp at t; split at k
 ·rename_i d v z ho
  exact⟨a.eval v,fun u=>by
   obtain⟨y,op,N,A,c,h⟩:=o; simp only at ho; subst ho; rfl⟩
 ·rename_i d v z ho
  exact⟨a.eval v,fun u=>by
   obtain⟨y,op,N,A,c,h⟩:=o; simp only at ho; subst ho; rfl⟩
 ·rename_i d v z ho
  rw[z,ho]at h1 t; simp only at h1 t; obtain⟨m,_⟩:=aJ t; simp only[z7]at m; have J:(∃ob p,ev x.sl v= .one (.ptr ob p))∨(∃xs,ev x.sl v= .one (.cp xs))∨ ∃l p i j,ev x.sl v= .one (.pp l p i j):=by
   unfold Mo at h1; split at h1<;>try cases h1
   ·rename_i e; exact .inl ⟨_,_,e⟩
   ·rename_i e; exact .inr (.inl ⟨_,e⟩)
   ·rename_i f cs e
    exfalso
    unfold Tu at k; rcases BS E m.1.2 e (by simp)with L | ⟨_,C⟩
    ·split at k<;>try cases k
     all_goals (rename_i R; rw[R]at L; simp [Own.fits,bY]at L)
    ·rw[C]at k; cases k
   ·rename_i e; exact .inr (.inr ⟨_,_,_,_,e⟩)
  obtain⟨Q,K,e⟩:=Oi E C m.1.2 m.2 J; refine⟨a.eval v,fun u=> ?_⟩
  obtain⟨y,op,N,A,c,h⟩:=o; simp only at ho; subst ho; simp only[execOp,e]; rfl
 ·rename_i d s v f z ho
  rw[z,ho]at h1 t; simp only at h1 t; obtain⟨m,_⟩:=aJ t; simp only[z7]at m; unfold vR at h1; split at h1<;>try cases h1
  rename_i fs H; split at h1<;>try cases h1
  rename_i q U; split at h1<;>try cases h1
  rename_i r I; obtain⟨K,size,O⟩:=q; have J:(∃ob p,ev x.sl v= .one (.ptr ob p))∨(∃xs,ev x.sl v= .one (.cp xs))∨ ∃l p i j,ev x.sl v= .one (.pp l p i j):=by
   unfold Al at I; split at I<;>try cases I
   ·rename_i e; exact .inl ⟨_,_,e⟩
   ·rename_i e; exact .inr (.inl ⟨_,e⟩)
   ·rename_i e; exact .inr (.inr ⟨_,_,_,_,e⟩)
  obtain⟨Q,M,e⟩:=Oi E C m.1.2 m.2 J; exact⟨_,fun u=>qJ T H U (ρ:=a.eval) e ho u⟩
 ·cases k
end

def NoQ':Exit→Act→World→Prop:=fun _ _ _=>False
theorem Wx{P:Program}{ops:Array Oper}{i:Nat}{o:Oper}{K:Act→World→Prop}{a:Act}{w:World}(h:wpOp P ops NoQ' i K a w)(d:ops[i]? =some o)(c:o.guard=none):o.wp P a w K NoQ':=by
 unfold wpOp at h; simp only[d,Region.wanted,c,if_true]at h; exact h.resolve_right (fun e=>e.2.elim fun _ h=>h.elim fun _ h=>h)
theorem NA{ops:Array Oper}{c:Array Bool}(q:c.size=ops.size)(m: ∀j o,ops[j]? =some o→ ∀e∈o.after,Region.binds .any e=true→e.on<j)(p:Region.ready .any ops c=[]): ∀j,j<ops.size→c.getD j false=true:=by
 have f: ∀j,j<ops.size→c.getD j true=c.getD j false:=fun j s=>by
  have:j<c.size:=by omega
  simp [Array.getD,this]
 intro j; induction j using Nat.strongRecOn with
 | _ j r=>
  intro i; rcases z162 (c.getD j false)with h | h
  ·exact h
  ·exfalso
   have:j∈Region.ready .any ops c:=by
    rw[mem_ready]; refine⟨by rw[f j i]; exact h,ops[j],z75 i,fun e d l=> ?_⟩
    have k:=m j _ (z75 i) e d l
    exact r e.on k (by omega)
   rw[p]at this; cases this

section
variable {P:Program} {τ:TypeId→Option TI} {Sgs:FuncId→List Sg} {F:FA} {ds:List (Option Nat)} {x x1:D} {o:Oper}
theorem XE(h:SD P τ Sgs F ds o x x1)(e:o.guard=none)(d: ∀c,o.op≠ .call c):dOp τ F x o=some x1:=by
 rcases h with⟨h,_⟩ | ⟨_,h⟩ | ⟨_,c,v,f,caps,ob,i,r,nw,h,_⟩ | ⟨_,c,v,f,r,t,xs,l,p,x0,j,es',h,_⟩
 ·rw[e]at h; cases h
 ·exact h
 ·exact absurd h (d c)
 ·exact absurd h (d c)
theorem VU{ds:List (Option Nat)}{b b1:B}{o:Oper}(h:tU τ Sgs F ds b o=some b1)(f: ∀c,o.op≠ .call c): ∃b2,cOp τ F b o=some b2:=by
 obtain⟨b2,d,_⟩:=HA h; refine⟨b2, ?_⟩
 unfold RN at d; have:dI o=none:=by
  unfold dI; split
  ·rename_i c e; exact absurd e (f c)
  ·rfl
 rw[this]at d; exact d
end
def NoP(Q:Exit→Act→World→Prop):Exit→Act→World→Prop:=fun e a w=>e= .normal∧Q e a w
theorem ME{Q:Exit→Act→World→Prop}: ¬ LetsOut (NoP Q):=fun⟨_,_,h,_⟩=>by cases h
theorem UL{P:Program}{o:Oper}{a:Act}{K K':Act→World→Prop}{Q:Exit→Act→World→Prop}(d: ∀a w,K a w→K' a w){r:Result Next}(h:o.upon P a K (NoP Q) r):o.upon P a K' Q r:=by
 cases r with
 | ok n w'=>
  cases n<;>simp only[Oper.upon]at h ⊢ <;>first
   | exact d _ _ h
   | exact Calls.mono h (fun e f c=>by
     cases e
     ·exact d _ _ c
     ·cases c.1
     ·exact absurd c ME)
   | exact Rows.mono h (fun v f c=>d _ _ c)
   | exact h
 | halt x w'=>
  cases x<;>simp only[Oper.upon]at h ⊢ <;>first | exact h | cases h.1
theorem UK{P:Program}{ops:Array Oper}{Q:Exit→Act→World→Prop}{i:Nat}{K K':Act→World→Prop}{a:Act}{w:World}(c: ∀a w,K a w→K' a w)(h:wpOp P ops (NoP Q) i K a w):wpOp P ops Q i K' a w:=by
 unfold wpOp at h ⊢; split
 ·rename_i e; rw[e]at h; exact c _ _ h
 ·rename_i o e
  rw[e]at h; simp only at h; split
  ·rename_i d
   rw[z20 d]at h; rcases h with h | ⟨_,h⟩
   ·exact .inl (UL c h)
   ·exact absurd h ME
  ·rename_i d
   rw[z15 d]at h; exact c _ _ h
theorem Lr{P:Program}{d:Region.Mode}{ops:Array Oper}{Q:Exit→Act→World→Prop}: ∀ {k:Nat} {c:Array Bool} {a:Act} {w:World},wpAny P d ops (NoP Q) k c a w→wpAny P d ops Q k c a w
 | 0,_,_,_,h=>⟨h.1,h.2.2⟩
 | k+1,_,_,_,h=>⟨fun f=>(h.1 f).2,fun i e=>UK (fun _ _ h=>Lr h) (h.2 i e)⟩

section
variable {P:Program} {τ:TypeId→Option TI} {Sgs:FuncId→List Sg} {F:FA} {xn:D} {g0:G} {w0:World} {mt:B→B→B}
theorem LV{ops:Array Oper}{i:Nat}{o:Oper}(u:ops[i]? =some o)(h:RB F ops i=true):To F o=true∧ ∀(c:Array Bool),oL ops (fun j=>c.getD j false=true)→(∀e∈o.after,Region.binds .any e=true→c.getD e.on false=true)→
  ∀j m,ops[j]? =some m→j≠i→c.getD j false=false→(∀e∈m.after,Region.binds .any e=true→e.on≠i)→o.apart ops m=true:=by
 unfold RB at h; rw[u]at h; simp only[z7,z18,z61]at h; refine⟨h.1,fun c p t j m v f z s=> ?_⟩
 have h1:=h.2 j (z30.1 v).1
 rw[v]at h1; simp only[z45]at h1; rcases h1 with(h1 | h1) | h1 | h1
 ·exact absurd (z17 h1) f
 ·exfalso
  have y:oL ops (fun j=>j=i∨c.getD j false=true):=by
   intro k A r q e l d; rcases q with rfl | q
   ·rw[u]at r
    cases r; exact .inr (t e l d)
   ·exact .inr (p k A r q e l d)
  rcases nO y (.inl rfl) h1 with e | e
  ·exact f e
  ·rw[z]at e; cases e
 ·exfalso
  obtain⟨e,l,d⟩:=Array.any_eq_true'.1 h1; simp only[z7]at d; exact s e l d.1 (z17 d.2)
 ·exact h1
theorem Si{ops:Array Oper}{i:Nat}(h:(Wp F ops)[i]? =some true):Region.noSelect ops=true∧RB F ops i=true:=by
 unfold Wp at h; cases hs:Region.noSelect ops with
 | false=>rw[hs]at h; simp at h
 | true=>
  rw[hs]at h; simp only[z16,z35]at h
  obtain⟨k,d,e⟩:=z23.1 h; have:k=i:=by
   have h1:=Wg.1 d
   obtain⟨f,c⟩:=h1; simpa using c.symm
  subst this; exact⟨rfl,e⟩
theorem VX(hT:bI P τ){ops:Array Oper}(hO:nW F (ops.toList.map (·.dst)) ops=true){mf:Nat}{bf:B}:
  ∀(k:Nat) (listed:Array Bool) (m:Nat) (L:Lvl) (b:B) (x:D),Gn τ Sgs F (ops.toList.map (·.dst)) mt (Wp F ops) ops.toList k L=some [(mf,bf)]→rC m L=some b→listed.size=ops.size→(∀i,i<ops.size→m.testBit i=listed.getD i false)→
   oL ops (fun j=>listed.getD j false=true)→(List.range ops.size).countP (fun i=> !listed.getD i true)=k→Ag F b x→EN P τ Sgs F (ops.toList.map (·.dst)) ops ((List.range ops.size).filter fun j=> !listed.getD j true) x xn→
   Ag F bf xn∧ ∀ {Q:Exit→Act→World→Prop} {a0:Act},(∀a w,Sim g0 w0 (bf.S F.n xn) a w→(∀z,yN z ops.toList=true→a.tmps.getD z undef=a0.tmps.getD z undef)→Q .normal a w)→
    ∀(a:Act) (w:World),Sim g0 w0 (b.S F.n x) a w→(∀z,yN z ops.toList=true→a.tmps.getD z undef=a0.tmps.getD z undef)→wpAny P .any ops (NoP Q) k listed a w:=by
 simp only[nW,z7,z18,z61]at hO; obtain⟨hedge,hpair⟩:=hO; have hgd: ∀(listed:Array Bool) j,listed.size=ops.size→j<ops.size→listed.getD j true=listed.getD j false:=by
  intro listed j h1 h2; have:j<listed.size:=by omega
  simp [Array.getD,this]
 have hedge': ∀j o,ops[j]? =some o→ ∀e∈o.after,Region.binds .any e=true→e.on<j:=fun j o ho e he hb=>by
  have h1:=hedge j (z30.1 ho).1
  rw[ho]at h1; simp only[z85]at h1; have h2:=h1 e he; simp only[hb,z38,z39]at h2; exact dC h2
 intro k; induction k with
 | zero=>
  intro listed m L b x hL hm hsz hbit hcl hcount hA hrun; have hlist: ∀j,j<ops.size→listed.getD j true=true:=fun j hj=>by
   rw[List.countP_eq_zero]at hcount; have:=hcount j (z61.2 hj); simpa using this
  have hr:Region.ready .any ops listed=[]:=by
   apply z139.2
   intro j hj; obtain⟨h1,o,ho,_⟩:=mem_ready.1 hj; rw[hlist j (z30.1 ho).1]at h1; cases h1
  have hf:(List.range ops.size).filter (fun j=> !listed.getD j true)=[]:=Wf.2 fun j hj=>by rw[hlist j (z61.1 hj)]; simp
  rw[hf]at hrun; have hx:x=xn:=hrun; subst hx; cases hL; simp only[rC]at hm; cases h3:Nat.beq m mf with
  | true=>rw[h3]at hm; cases hm; exact⟨hA,fun hQ a w hs hz=>⟨hr,rfl,hQ a w hs hz⟩⟩
  | false=>rw[h3]at hm; cases hm
 | succ k ih=>
  intro listed m L b x hL hm hsz hbit hcl hcount hA hrun; unfold Gn at hL; split at hL<;>try cases hL
  rename_i L' hL'
  have take: ∀(i:Nat) (o:Oper),ops[i]? =some o→listed.getD i false=false→(∀e∈o.after,Region.binds .any e=true→listed.getD e.on false=true)→(∃b1 b2,tU τ Sgs F (ops.toList.map (·.dst)) b o=some b1∧rC (m||| 2 ^ i) L'=some b2∧Cv F b1 b2)→
    ∃(x1:D) (b1 b2:B),SD P τ Sgs F (ops.toList.map (·.dst)) o x x1∧tU τ Sgs F (ops.toList.map (·.dst)) b o=some b1∧(∀g0 w0 (Q:Exit→Act→World→Prop) (K:Act→World→Prop) a w,Sim g0 w0 (b.S F.n x) a w→(∀v w',Sim g0 w0 (b2.S F.n x1) (a.put o.dst v) w'→K (a.put o.dst v) w')→wpOp P ops Q i K a w)∧
     Ag F bf xn∧ ∀ {Q:Exit→Act→World→Prop} {a0:Act},(∀a w,Sim g0 w0 (bf.S F.n xn) a w→(∀z,yN z ops.toList=true→a.tmps.getD z undef=a0.tmps.getD z undef)→Q .normal a w)→
      ∀(a:Act) (v:Value) (w:World),Sim g0 w0 (b2.S F.n x1) (a.put o.dst v) w→(∀z,yN z ops.toList=true→a.tmps.getD z undef=a0.tmps.getD z undef)→wpAny P .any ops (NoP Q) k (listed.setIfInBounds i true) (a.put o.dst v) w:=by
   intro i o ho hun' hafter ⟨b1,b2,s1,s2,cv⟩; have hlt:i<ops.size:=(z30.1 ho).1
   have hun:listed.getD i true=false:=by rw[hgd listed i hsz hlt]; exact hun'
   obtain⟨A,C,f1,f2,f3⟩:=Ax hsz hlt hun; have hcl':oL ops (fun j=>(listed.setIfInBounds i true).getD j false=true):=by
    intro j oj hoj hj e he hb; by_cases hij:i=j
    ·subst hij
     rw[ho]at hoj; cases hoj; exact getD_set_true (hafter e he hb)
    ·rw[getD_set_ne false hij]at hj
     exact getD_set_true (hcl j oj hoj hj e he hb)
   have hset:(listed.setIfInBounds i true).getD i false=true:=by
    have:i<listed.size:=by omega
    simp [Array.getD,this]
   rw[f1]at hrun; obtain⟨hfo,x1,hsd,hrun1⟩:=hrun.front ho (fun j hj a' ha'=>by
    obtain⟨j1,j2⟩:=f3 j hj; have h1:=hpair i hlt j j1; rw[ha',ho]at h1; simp only[z45]at h1; refine h1.resolve_left (fun h2=> ?_)
    have:=nO (D:=fun j=>(listed.setIfInBounds i true).getD j false=true) hcl' hset h2
    rw[getD_set_ne false (by omega)]at this
    rw[hgd listed j hsz (by omega)]at j2
    rw[j2]at this; cases this)
   obtain⟨hA1,hw1⟩:=hsd.step (P:=P) hT hA ho s1; obtain⟨hA2,cs⟩:=cv x1 hA1; have hnx:=ih (listed.setIfInBounds i true) (m||| 2 ^ i) L' b2 x1 hL s2 (by simpa using hsz) (fun j hj=>by
    rw[Tf,Vm,hbit j hj]; by_cases hij:i=j
    ·subst hij; rw[hset]; simp
    ·rw[getD_set_ne false hij]; simp [hij]) hcl' (by
    rw[z63]at hcount ⊢; rw[f1]at hcount; rw[f2]; simp only[z19,z48]at hcount ⊢; omega) hA2 (by rw[f2]; exact hrun1)
   refine⟨x1,b1,b2,hsd,s1,fun g0 w0 Q K a w hs hK=>hw1 g0 w0 Q K a w hs (fun v w' hs'=>hK v w' (cs _ _ _ _ hs')),hnx.1,fun {Q a0} hQ a v w hs hz=>hnx.2 hQ _ w hs (fun z hno=> ?_)⟩
   have hne:o.dst≠some z:=by
    have key: ∀l:List Oper,yN z l=true→ ∀o∈l,o.dst≠some z:=by
     intro l; induction l with
     | nil=>intro _ o h; cases h
     | cons p r ihl=>
      intro h o hm; simp only[yN,z7,z40,z50]at h; cases hm with
      | head=>exact h.1
      | tail _ hm=>exact ihl h.2 o hm
    exact key ops.toList hno o (z42.2 (z140 ho))
   rw[zK hne]; exact hz z hno
  have hnr:Region.ready .any ops listed≠[]:=fun hr=>by
   have hall:=NA hsz hedge' hr; have:(List.range ops.size).countP (fun i=> !listed.getD i true)=0:=List.countP_eq_zero.2 fun j hj=>by
    rw[hgd listed j hsz (z61.1 hj),hall j (z61.1 hj)]; simp
   omega
  rcases (Ay hL').2 m b hm with⟨i,o,hp,hst⟩ | ⟨_,hst⟩
  ·obtain⟨i',rfl,ho,he,hb,hr⟩:=Ly hp
   rw[z29]at*; rw[z27]at ho
   have hlt:i'<ops.size:=(z30.1 ho).1
   have hun':listed.getD i' false=false:=by rw[←hbit i' hlt]; exact hb
   have hafter: ∀e∈o.after,Region.binds .any e=true→listed.getD e.on false=true:=fun e hee hbb=>by
    simp only[jI,z18]at hr; have h1:=hr e (z42.2 hee); simp only[hbb,z38,z39]at h1; rw[←hbit e.on (by have:=hedge' i' o ho e hee hbb; omega)]; exact h1
   obtain⟨hns,hea⟩:=Si he; obtain⟨hek,hap⟩:=LV ho hea; obtain⟨x1,b1,b2,hsd,s1,hw1,hAg,hgo⟩:=take i' o ho hun' hafter hst; refine⟨hAg,fun {Q a0} hQ a w hs hz=> ?_⟩
   have hg:o.guard=none:=by
    unfold To at hek; simp only[z7,z87]at hek; exact hek.1
   have hnc: ∀c,o.op≠ .call c:=fun c e=>by
    unfold To at hek; rw[e]at hek; simp at hek
   obtain⟨b3,hb3⟩:=VU s1 hnc; obtain⟨g,hsg⟩:=hs; obtain⟨v,hv⟩:=VN (P:=P) hT hA hek hsg (XE hsd hg hnc) hb3; have hw2:=hw1 g0 w0 NoQ' (fun a' w'=>a'=a.put o.dst v→Sim g0 w0 (b2.S F.n x1) a' w') a w ⟨g,hsg⟩ (fun _ _ hs' _=>hs')
   have hwp:=Wx hw2 ho hg; unfold Oper.wp at hwp; rw[hv w]at hwp; have hS:Sim g0 w0 (b2.S F.n x1) (a.put o.dst v) w:=hwp rfl; have hwant:Region.wanted o (yielded ops a.tmps)=true:=by unfold Region.wanted; rw[hg]
   refine wpAny_first ho (Region.noSelect_spec hns) (fun c a w h=>by cases h.1) k listed a w (fun j oj hj hne hu hno=>hap listed hcl hafter j oj hj hne (by rw[←hgd listed j hsz (z30.1 hj).1]; exact hu) hno) ?_ (.inl ⟨hwant,hv⟩) (hgo hQ a v w hS hz)
   exact mem_ready.2 ⟨by rw[hgd listed i' hsz hlt]; exact hun',o,ho,hafter⟩
  ·have one: ∀i∈Region.ready .any ops listed, ∃o,ops[i]? =some o∧listed.getD i false=false∧(∀e∈o.after,Region.binds .any e=true→listed.getD e.on false=true)∧ ∃b1 b2,tU τ Sgs F (ops.toList.map (·.dst)) b o=some b1∧rC (m||| 2 ^ i) L'=some b2∧Cv F b1 b2:=fun i hi=>by
    obtain⟨hun,o,ho,hafter⟩:=mem_ready.1 hi; have hlt:i<ops.size:=(z30.1 ho).1
    have hun':listed.getD i false=false:=by rw[←hgd listed i hsz hlt]; exact hun
    refine⟨o,ho,hun',hafter,hst i o (by rw[z27]; exact ho) (by rw[hbit i hlt]; exact hun') ?_⟩
    simp only[jI,z18]; intro e he; cases hb:Region.binds .any e with
    | false=>rfl
    | true=>
     have h1:=hafter e (z42.1 he) hb; have h4:=hedge' i o ho e (z42.1 he) hb; simp only[z38,z39]; rw[hbit e.on (by omega)]; exact h1
   obtain⟨i0,hi0⟩:=List.exists_mem_of_ne_nil _ hnr; obtain⟨o0,ho0,hu0,ha0,hs0⟩:=one i0 hi0; obtain⟨_,_,_,_,_,_,hAg,_⟩:=take i0 o0 ho0 hu0 ha0 hs0; refine⟨hAg,fun {Q a0} hQ a w hs hz=>⟨fun hr=>absurd hr hnr,fun i hi=> ?_⟩⟩
   obtain⟨o,ho,hu,haf,hs'⟩:=one i hi; obtain⟨x1,b1,b2,_,_,hw1,_,hgo⟩:=take i o ho hu haf hs'; exact hw1 g0 w0 (NoP Q) _ a w hs (fun v w' hs2=>hgo hQ a v w' hs2 hz)
end

theorem LK{α:Type}(xs:Array α){i j:Nat}(h:i≠j)(f g:α→α):(xs.modify i f).modify j g=(xs.modify j g).modify i f:=by
 apply Array.ext_getElem?
 intro k; rw[We,We,We,We]
 by_cases c:j=k
 ·have d:i≠k:=fun e=>h (e.trans c.symm)
  rw[z20 c,z15 d,z15 d,z20 c]
 ·rw[z15 c,z15 c]
theorem FR(w:World){b:Nat}{a:Addr}(c:Array Value)(v:Value)(h:b≠a.block):(w.setRow b c).setCell a v=(w.setCell a v).setRow b c:=by
 simp only[World.setRow,World.setCell]; rw[LK w.heap h]
theorem vT{P:Program}{d o k:Nat}{c:Array Value}(f:k≠d): ∀(vs:List Value) (i:Nat) (w w':World),(∀v∈vs,v.oneCell'=true)→(∀q,q<vs.length→ ∃u,w.cell? ⟨d,o+i+q,none⟩=some u)→(storeCells ⟨d,o,none⟩ vs i).run P w= .ok () w'→
  (storeCells ⟨d,o,none⟩ vs i).run P (w.setRow k c)= .ok () (w'.setRow k c)∧w'.heap[k]? =w.heap[k]?
 | [],i,w,w',_,_,h=>by
  cases h; exact⟨rfl,rfl⟩
 | v::r,i,w,w',h1,E,h=>by
  obtain⟨u,z⟩:=E 0 (by simp)
  have m:(⟨d,o,none⟩:Addr).add i=⟨d,o+i,none⟩:=kN _ _ _; rw[z77]at z; have l:(w.setRow k c).cell? ⟨d,o+i,none⟩=some u:=by
   rw[cJ (setRow_other w k d c (Ne.symm f))]; exact z
  have s:(w.setRow k c).frozen? ⟨d,o+i,none⟩=w.frozen? ⟨d,o+i,none⟩:=by
   simp only[World.frozen?,setRow_other w k d c (Ne.symm f)]
  simp only[storeCells,Sem.run_bind,m,run_store P _ _ v _ (h1 v z32),z,l,s]at h ⊢; cases hf:w.frozen? ⟨d,o+i,none⟩with
  | true=>rw[hf]at h; simp [Result.andThen]at h
  | false=>
   rw[hf]at h; simp only[z54,if_false,Result.andThen_ok]at h ⊢; obtain⟨J,K⟩:=vT f r (i+1) (w.setCell ⟨d,o+i,none⟩ v) w' (fun v I=>h1 v (z28 _ I)) (fun q H=>by
    obtain⟨L,C⟩:=E (q+1) (by simpa using H)
    refine⟨L, ?_⟩
    have e:=World.cell?_setCell_other (w:=w) (v:=v) (a:=⟨d,o+i,none⟩) (b:=⟨d,o+(i+1)+q,none⟩) (by simp; omega)
    rw[show o+(i+1)+q=o+i+(q+1)by omega]at e ⊢
    exact e.trans C) h
   refine⟨?_,K.trans (heap_setCell_other w _ _ v f)⟩
   rw[FR w c v f]; exact J

structure Nr (v y:Operand) (n ob p:Nat) (x:D):Prop where
 ptr:ev x.sl v= .one (.ptr ob p)
 val: ∃xs,aZ (ev x.sl y)=some xs∧xs.length=n
 room: ∃cells,x.ob ob=some cells∧p+n≤cells.length
section
variable {P:Program} {τ:TypeId→Option TI} {Sgs:FuncId→List Sg} {F:FA} {ds:List (Option Nat)} {x x1:D} {o:Oper}
theorem Ng(h:SD P τ Sgs F ds o x x1)(k:o.guard=none)(d: ∀c,o.op≠ .call c):dOp τ F x o=some x1:=by
 rcases h with⟨h,_⟩ | ⟨_,h⟩ | ⟨_,c,v,f,caps,ob,m,r,nw,h,_⟩ | ⟨_,c,v,f,r,t,xs,l,p,x0,q,es',h,_⟩
 ·rw[k]at h; cases h
 ·exact h
 ·exact absurd h (d c)
 ·exact absurd h (d c)
theorem TN{t ob p:Nat}(c:RX F x (.tmp t))(d:F.shOf t= .one (.ptr ob p)){w:W}(h:x.sl t= .one w)(hn:w≠ .nilp):w= .ptr ob p:=by
 have c:x.sl t= .tup []∨fits (x.sl t) (F.shOf t)=true:=c; rw[h,d]at c; rcases c with c | c
 ·cases c
 ·cases w<;>simp [fits,bY]at c hn
  obtain⟨rfl,rfl⟩:=c; rfl
theorem QD{t:TypeId}{tv:Nat}{y:Operand}{ob p:Nat}(h:SD P τ Sgs F ds o x x1)(z:EO F x o)(C:o.guard=none)(u:o.dst=none)(ho:o.op= .store t (.tmp tv) y)(r:F.shOf tv= .one (.ptr ob p)): ∃i,τ t=some i∧Nr (.tmp tv) y i.size ob p x:=by
 have h:=Ng h C (fun c e=>by rw[ho]at e; cases e)
 have d:=z (.tmp tv) (by rw[ho]; simp [Op.operands])
 unfold dOp at h; rw[u,ho]at h; simp only at h; split at h<;>try cases h
 ·rename_i i E H xs q f s
  have e:=TN d r (show x.sl tv=_ from f) (by simp)
  cases e; unfold tE at h; split at h<;>try cases h
  rename_i cells m; obtain⟨k,h⟩:=aJ h; simp only[z7]at k; have hz:=z17 k.1.1; exact⟨i,q,f,⟨xs,s,hz⟩,cells,m,by rw[←hz]; exact z33 k.1.2⟩
 ·rename_i i l I n j xs q f s
  have e:=TN d r (show x.sl tv=_ from f) (by simp)
  cases e
theorem KY{d:Nat}{t:Nat}(h:RT d (.tmp t)=true):d≠t:=fun e=>by
 subst e; simp [RT]at h
theorem QY{v:V}{k j:Nat}{z:T}{xs:List T}(h:aZ (v.setLeaf k j z)=some xs): ∃ys,aZ v=some ys∧ys.length=xs.length:=by
 cases v with
 | tup d=>simp [V.setLeaf,aZ]at h
 | one w=>
  cases k with
  | succ k=>exact⟨xs,h,rfl⟩
  | zero=>
   cases w with
   | c t=>cases j<;>(simp [V.setLeaf,W.setLeaf,aZ]at h ⊢; subst h; rfl)
   | ag ys=>simp [V.setLeaf,W.setLeaf,aZ]at h ⊢; subst h; simp
   | _=>exact⟨xs,h,rfl⟩
theorem QE{v y:Operand}{n ob p:Nat}(q:Qn F v y o=true)(W:EO F x o)(h:SD P τ Sgs F ds o x x1)(H:Nr v y n ob p x1):Nr v y n ob p x:=by
 unfold Qn at q; simp only[z7,z87]at q; obtain⟨T,q⟩:=q; split at q
 ·rename_i d t z i J ho
  simp only[z7]at q; have q:=q.1; have h:=Ng h T (fun c e=>by rw[ho]at e; cases e)
  obtain⟨E,U,V,rfl,_⟩:=PX (y:=x) h (by unfold wY; rw[ho]) (fun d t v J K=>by rw[ho]at K; cases K) (fun v _=>AM.refl _ x v)
  have N: ∀w,RT d w=true→ev (E.on x).sl w=ev x.sl w:=fun w Y=>by
   cases w with
   | tmp t=>
    show(E.on x).sl t=x.sl t; simp only[Eff.on,U,J]; rw[z15 (fun e=>KY Y (z47 e))]
   | _=>rfl
  have Q:(E.on x).ob ob=x.ob ob:=by
   have:E.ob ob=none:=by
    cases he:E.ob ob with
    | none=>rfl
    | some c=>
     have:=V ob (by rw[he]; rfl)
     unfold Ql at this; rw[J,ho]at this; cases this
   simp only[Eff.on,this]
  exact⟨by rw[←N v q.1]; exact H.ptr,by rw[←N y q.2]; exact H.val,by rw[←Q]; exact H.room⟩
 ·rename_i t I z J ho
  split at q<;>try cases q
  rename_i k k0 R p0 n0 q0 M; have h:=Ng h T (fun c e=>by rw[ho]at e; cases e)
  have r:x.sl I= .tup []∨fits (x.sl I) (F.shOf I)=true:=W (.tmp I) (by rw[ho]; simp [Op.operands])
  unfold dOp at h; rw[J,ho]at h; simp only at h; split at h<;>try cases h
  ·rename_i i S p' xs X u Z
   have u:x.sl I= .one (.ptr S p'):=u; rw[u,M]at r; rcases r with e | e
   ·cases e
   ·simp [fits,bY]at e
  ·rename_i i l pp m j xs X u Z
   have u:x.sl I= .one (.pp l pp m j):=u; rw[u,M]at r; rcases r with e | e
   ·cases e
   simp only[fits,bY,z7,z26]at e; have O:l= .s k k0 R:=e.1.1; subst O; unfold rR at h; split at h<;>try cases h
   split at h<;>try cases h
   split at h<;>try cases h
   obtain⟨_,h⟩:=aJ h; cases h; have L:=H.room; refine⟨?_, ?_,L⟩
   ·have:=H.ptr
    cases v with
    | tmp tv=>
     have this:(lF x.sl (.s k k0 R) _ tv)=_:=this; simp only[lF]at this; rw[z15 (Ne.symm (KY q))]at this; exact this
    | _=>exact this
   ·obtain⟨ys,f,C⟩:=H.val
    cases y with
    | tmp ty=>
     have f:aZ (lF x.sl (.s k k0 R) _ ty)=_:=f; simp only[lF]at f; split at f
     ·obtain⟨zs,z1,z2⟩:=QY f
      rename_i e; subst e; exact⟨zs,z1,z2.trans C⟩
     ·exact⟨ys,f,C⟩
    | _=>exact⟨ys,f,C⟩
 ·cases q
end

section
variable {P:Program} {τ:TypeId→Option TI} {Sgs:FuncId→List Sg} {F:FA} {ds:List (Option Nat)} {x x1:D} {o:Oper} {b b1:B} {g0:G} {w0:World} {a:Act} {g:G} {w:World}
theorem JC(Q:bI P τ){t:TypeId}{tv:Nat}{y:Operand}{ob p:Nat}{i:TI}(ho:o.op= .store t (.tmp tv) y)(I:bZ g0 w0 (b.S F.n x) a g w)(s:dR b (.tmp tv)=true)(z:dR b y=true)(E:b.hasO ob=true)(R:τ t=some i)(O:Nr (.tmp tv) y i.size ob p x):
  ∃d l,w.heap[g.β ob]? =some (.cells d l (0,0))∧a.eval (.tmp tv)= .pointer (some ⟨g.β ob,p,none⟩)∧g.own (g.β ob)= .obj ob∧
   ∀m:World,m.heap[g.β ob]? =some (.cells d l (0,0))→(execOp a.eval o).run P m= .ok .skip (m.setRow (g.β ob) (d.toList.take p++(a.eval y).cells.toList++d.toList.drop (p+(a.eval y).cells.toList.length)).toArray):=by
 obtain⟨J,⟨xs,T,hz⟩,cells,f,H⟩:=O; have h1:=I.ev_rv (.tmp tv) (fun _ _=> .none)
 rw[oQ s,J]at h1; have L:a.eval (.tmp tv)= .pointer (some ⟨g.β ob,p,none⟩):=h1; obtain⟨d,l,r1,r2,Y,_⟩:=I.obs ob cells (by rw[Lo E]; exact f)
 obtain⟨M,U,_,_,_⟩:=iD (I.ev_rv y (fun _ j=> .oc ob (p+j))) (by rw[oQ z]; exact T)
 have r:(a.eval y).cells.toList.length=xs.length:=by simpa using M
 have h: ∀v∈(a.eval y).cells.toList,v.oneCell'=true:=fun v J=>by
  obtain⟨c,q⟩:=z66 J
  have f:c<xs.length:=by have:=cR q; simp only[z55]at this; omega
  obtain⟨u,u1,u2,_⟩:=U c xs[c] (z13 f)
  rw[z27]at q
  rw[q]at u1; cases u1; exact pE u2
 obtain⟨k,_,_,W,_,X,_⟩:=Q.get R; refine⟨d,l,r1,L,Y,fun m K=> ?_⟩
 have N:=run_storeCells_at P (g.β ob) p l (a.eval y).cells.toList 0 d m K (by rw[r,r2]; omega) h
 simp only[z77]at N; obtain⟨dst,op,Z,V,after,guard⟩:=o; simp only at ho; subst ho; have C: ¬ (a.eval y).cells.size≠k.size:=by rw[M,X,hz]; simp
 simp only[execOp,Instr.storeAt,L,Instr.sureAddr,Sem.run_bind,Sem.run_pure,Result.andThen_ok,storeVar,sizeOf,typeInfo,run_program,W,z15 C,N]
theorem QG(hT:bI P τ)(hA:Ag F b x){t:TypeId}{r:Nat}{z:Operand}{l:Loc}{p0:List (Nat×Nat)}{n0 q0 ob J:Nat}{c:Array Value}{w':World}(hd:o.dst=none)(ho:o.op= .store t (.tmp r) z)(E:F.shOf r= .one (.pp l p0 n0 q0))(hs:bZ g0 w0 (b.S F.n x) a g w)
  (h1:dOp τ F x o=some x1)(K:cOp τ F b o=some b1)(U:g.own J= .obj ob)(f:(execOp a.eval o).run P w= .ok .skip w'):(execOp a.eval o).run P (w.setRow J c)= .ok .skip (w'.setRow J c)∧w'.heap[J]? =w.heap[J]? :=by
 unfold cOp at K; rw[hd,ho]at K; simp only at K; unfold dOp at h1; rw[hd,ho]at h1; simp only at h1; split at K<;>try cases K
 ·rename_i e; rw[show oA F (.tmp r)=F.shOf r from rfl,E]at e; cases e
 rename_i i l' p' n' j' hi e; rw[show oA F (.tmp r)=F.shOf r from rfl,E]at e; cases e; unfold AQ at K; obtain⟨L,_⟩:=aJ K; simp only[z7]at L; obtain⟨⟨⟨⟨⟨⟨⟨c1,c2⟩,c3⟩,c4⟩,c5⟩,c6⟩,c7⟩,c8⟩:=L; have C:=hA.sl r c1; rw[hi]at h1; split at h1<;>try cases h1
 ·rename_i i ob' p' xs hi k hy
  have k:x.sl r= .one (.ptr ob' p'):=k; rw[k,E]at C; rcases C with e | e
  ·cases e
  ·simp [fits,bY]at e
 rename_i i' l' pp m j xs hi' k hy; cases hi'; have k:x.sl r= .one (.pp l' pp m j):=k; have hl0:l'=l:=by
  rw[k,E]at C; rcases C with e | e
  ·cases e
  ·simp only[fits,bY,z7,z26]at e; exact e.1.1
 subst hl0; unfold rR at h1; split at h1<;>try cases h1
 rename_i x0 hat; split at h1<;>try cases h1
 rename_i es Q; split at h1<;>try cases h1
 rename_i row I; obtain⟨W,_⟩:=aJ h1; simp only[z7]at W; have hsz:=z17 W.1; have hle:=z33 W.2; obtain⟨a1,a2,a3,a4⟩:=sS (d:=F.n) hA c1 c3 (.inr ⟨pp,m,j,k⟩); have H:(b.S F.n x).at l'=some x0:=by rw[KN a4]; exact hat
 obtain⟨hk2,v0,Z,N,len,O,v1,v2,V,M⟩:=hs.ppCell (by rw[qU c1]; exact k) a1 a3 H Q I
 have X:=hs.pl_rd hk2 v1 H v2; have hne:J≠Z:=by
  intro e; subst e; generalize hvv:Value.slice (some ⟨J,N,none⟩) len O=v at X; cases X with
  | nil a O=>simp at I
  | sl Z off' len' cap' s es cs hl L hs2 hP hm hr=>
   cases hvv; exact hP.2 ob U
 obtain⟨k1,k2,_,_,_⟩:=iD (hs.ev_rv z (fun _ _=> .none)) (by rw[oQ c2]; exact hy)
 have hcs:(a.eval z).cells.toList.length=xs.length:=by simpa using k1
 have T: ∀v∈(a.eval z).cells.toList,v.oneCell'=true:=fun v k=>by
  obtain⟨c,L⟩:=z66 k
  have hcl:c<xs.length:=by have:=cR L; simp only[z55]at this; omega
  obtain⟨u,u1,u2,_⟩:=k2 c xs[c] (z13 hcl)
  rw[z27]at L
  rw[L]at u1; cases u1; exact pE u2
 obtain⟨Y,_,_,q1,_,q3,_⟩:=hT.get hi; obtain⟨dst,op,ty',pos,after,guard⟩:=o; simp only at ho; subst ho; have R: ¬ (a.eval z).cells.size≠Y.size:=by rw[k1,q3,hsz]; simp
 have e1:a.eval (.tmp r)= .pointer (some ⟨Z,N+m*row.length+j,none⟩):=V; simp only[execOp,Instr.storeAt,e1,Instr.sureAddr,Sem.run_bind,Sem.run_pure,Result.andThen_ok,storeVar,sizeOf,typeInfo,run_program,q1,z15 R]at f ⊢; cases hr:(storeCells ⟨Z,N+m*row.length+j,none⟩ (a.eval z).cells.toList).run P w with
 | halt h w2=>rw[hr]at f; simp [Result.andThen]at f
 | ok u w2=>
  rw[hr]at f; simp only[Result.andThen_ok,Result.ok.injEq,Ns]at f; subst f; obtain⟨s1,s2⟩:=vT (c:=c) hne _ 0 w w2 T (fun q W=>by
   rw[hcs]at W; have hlt:q<(row.drop j).length:=by rw[z70]; omega
   obtain⟨u,hu,_⟩:=M q _ (z13 hlt)
   exact⟨u,by rw[z77]; exact hu⟩) hr
  exact⟨by rw[s1]; rfl,s2⟩
theorem QF(M:bI P τ)(X:Ag F b x){t:TypeId}{d:Nat}{v i:Operand}(Y:o.dst=some d)(ho:o.op= .indexAddr t v i)(f:(iL (F.shOf d)&&uF F v)=true)(E:bZ g0 w0 (b.S F.n x) a g w)
  (h1:dOp τ F x o=some x1)(h:cOp τ F b o=some b1): ∃u, ∀q,(execOp a.eval o).run P q= .ok (.value u) q:=by
 unfold dOp at h1; unfold cOp at h; rw[Y,ho]at h1 h; simp only at h1 h; have W:=f; rw[W,z16]at h; simp only[z7]at f; unfold DM at h; split at h<;>try cases h
 rename_i s; obtain⟨N,_⟩:=aJ h; simp only[z7]at N; obtain⟨⟨⟨⟨c1,L⟩,T⟩,c4⟩,U⟩:=N; have H:qD (ev x.sl (.tmp s))=true:=by
  cases hq:qD (ev x.sl (.tmp s))with
  | true=>rfl
  | false=>
   rw[hq,z58,z12]at h1; have:=Ke (t:=t) (i:=i) X (show dR b (.tmp s)=true from L) (.inl h1); rw[hq,f.2]at this; cases this
 rw[f.1,H,z86,z16]at h1; unfold oS at h1; split at h1<;>try cases h1
 rename_i s' e k n r I J Z hv; cases I; split at h1<;>try cases h1
 rename_i row m; obtain⟨ei,Q,q2,R,q4⟩:=CF m; have O:(b.S F.n x).sl s= .one (.c (.sl r)):=by rw[qU L]; exact hv
 have z:(b.S F.n x).at (.s s 0 0)=some (.sl r):=by rw[St.at_s,O]; rfl
 have h1:=E.slots s; rw[O]at h1; have K:vAt a.tmps g.β w (.s s 0 0)=some (a.tmps.getD s undef):=(iO h1.1).2; have C:=E.pl_rd U K z (.nil _ _); obtain⟨_,_,_,l⟩:=mS M Q; obtain⟨b',off,len,V,p1,hl,_⟩:=Gh (β:=g.β) C R q4 l; have hlt:n.toNat<r.length:=cR R; exact⟨_,fun q=>qI M J Q (ρ:=a.eval) (x:= .tmp s) p1 (E.int (show ev (b.S F.n x).sl i=_ by rw[oQ T]; exact Z)) q2 (by omega) ho q⟩
end

structure BX (F:FA) (ops ops':Array Oper) (n:Nat) (A:Oper) (t:TypeId) (tv:Nat) (y:Operand) (ob p:Nat):Prop where
 size:ops.size=n+1
 size':ops'.size=n+1
 same: ∀i,i<n→ops'[i]? =ops[i]?
 last:ops[n]? =some A
 last':ops'[n]? =some (xV n A)
 ds:ops'.toList.map (·.dst)=ops.toList.map (·.dst)
 op:A.op= .store t (.tmp tv) y
 dst:A.dst=none
 guard:A.guard=none
 sh:F.shOf tv= .one (.ptr ob p)
 edge: ∀e∈A.after,Region.binds .any e=true→e.on<n
 cls: ∀j,j<n→((Region.before ops).getD n 0).testBit j=true∨ ∀o,ops[j]? =some o→Qn F (.tmp tv) y o=true

def NoQ:Exit→Act→World→Prop:=fun _ _ _=>False
theorem SC: ¬ LetsOut NoQ:=fun⟨_,_,h⟩=>h
theorem Vy{P:Program}{ops:Array Oper}{i:Nat}{o:Oper}{K:Act→World→Prop}{a:Act}{w:World}(h:wpOp P ops NoQ i K a w)(d:ops[i]? =some o)(c:o.guard=none):o.wp P a w K NoQ:=by
 unfold wpOp at h; simp only[d,Region.wanted,c,if_true]at h; exact h.resolve_right (fun e=>SC e.2)
theorem DZ{ops:Array Oper}{c:Array Bool}(s:c.size=ops.size)(q: ∀j o,ops[j]? =some o→ ∀e∈o.after,Region.binds .any e=true→e.on<j)(r:Region.ready .any ops c=[]): ∀j,j<ops.size→c.getD j false=true:=by
 have f: ∀j,j<ops.size→c.getD j true=c.getD j false:=fun j z=>by
  have:j<c.size:=by omega
  simp [Array.getD,this]
 intro j; induction j using Nat.strongRecOn with
 | _ j u=>
  intro k; rcases z162 (c.getD j false)with h | h
  ·exact h
  ·exfalso
   have:j∈Region.ready .any ops c:=by
    rw[mem_ready]; refine⟨by rw[f j k]; exact h,ops[j],z75 k,fun e d m=> ?_⟩
    have l:=q j _ (z75 k) e d m
    exact u e.on l (by omega)
   rw[r]at this; cases this

section
variable {P:Program} {τ:TypeId→Option TI} {Sgs:FuncId→List Sg} {F:FA} {ops ops':Array Oper} {n:Nat} {A:Oper} {t:TypeId} {tv:Nat} {y:Operand} {ob p:Nat} {x xn:D}
theorem Dg(H:BX F ops ops' n A t tv y ob p){ds:List (Option Nat)}: ∀ {L:List Nat} {x x':D},EN P τ Sgs F ds ops L x x'→EN P τ Sgs F ds ops' L x x'
 | [],_,_,h=>h
 | i::r,x,x',⟨o,x1,h1,d,f,k⟩=>by
  by_cases e:i<n
  ·exact⟨o,x1,by rw[H.same i e]; exact h1,d,f,Dg H k⟩
  ·have l:i<ops.size:=(z30.1 h1).1
   have c:i=n:=by have:=H.size; omega
   have ho:o=A:=by rw[c,H.last]at h1; exact(z47 h1).symm
   exact⟨xV n A,x1,by rw[c]; exact H.last',by rw[ho]at d; exact d,by rw[ho]at f; exact f,Dg H k⟩
theorem Dh(H:BX F ops ops' n A t tv y ob p){ds:List (Option Nat)}: ∀ {L:List Nat} {x:D},EN P τ Sgs F ds ops' (L++[n]) x xn→(∀j∈L,j<n∧ ∀o,ops[j]? =some o→Qn F (.tmp tv) y o=true)→ ∃i,τ t=some i∧Nr (.tmp tv) y i.size ob p x
 | [],x,⟨o,x1,h1,c,d,_⟩,_=>by
  rw[H.last']at h1; cases h1; exact QD d c H.guard H.dst H.op H.sh
 | j::r,x,⟨o,x1,h1,c,d,l⟩,k=>by
  obtain⟨i,m,q⟩:=Dh H l (fun j h=>k j (z28 _ h))
  obtain⟨h,f⟩:=k j z32; rw[H.same j h]at h1; exact⟨i,m,QE (f o h1) c d q⟩
theorem BX.filt(H:BX F ops ops' n A t tv y ob p){c:Array Bool}(d:c.size=n+1)(hn:c.getD n false=false):(List.range ops.size).filter (fun j=> !c.getD j true)=(List.range n).filter (fun j=> !c.getD j true)++[n]:=by
 rw[H.size,List.range_succ,WW]; congr 1
 rw[z167]
 ·rfl
 ·have:c.getD n true=c.getD n false:=by simp [Array.getD,d]
  rw[this,hn]; rfl
theorem BX.edges(H:BX F ops ops' n A t tv y ob p){ds:List (Option Nat)}(d:nW F ds ops'=true): ∀j o,ops[j]? =some o→ ∀e∈o.after,Region.binds .any e=true→e.on<j:=by
 intro j o ho e h f; have l:j<ops.size:=(z30.1 ho).1
 by_cases k:j<n
 ·simp only[nW,z7,z18,z61]at d
  have h1:=d.1 j (by rw[H.size']; omega)
  rw[H.same j k,ho]at h1; simp only[z85]at h1; have c:=h1 e h; simp only[f,z38,z39]at c; exact dC c
 ·have:j=n:=by have:=H.size; omega
  subst this; rw[H.last]at ho; cases ho; exact H.edge e h f
theorem BX.left(H:BX F ops ops' n A t tv y ob p){c:Array Bool}(f:oL ops (fun j=>c.getD j false=true))(k: ∀e∈A.after,Region.binds .any e=true→c.getD e.on false=true){j:Nat}(r:j<n)(s:c.getD j false=false): ∀o,ops[j]? =some o→Qn F (.tmp tv) y o=true:=by
 refine(H.cls j r).resolve_left (fun q=> ?_)
 have m:oL ops (fun j=>j=n∨c.getD j false=true):=by
  intro i o ho h e l d; rcases h with rfl | h
  ·rw[H.last]at ho
   cases ho; exact .inr (k e l d)
  ·exact .inr (f i o ho h e l d)
 rcases nO m (.inl rfl) q with e | e
 ·omega
 ·rw[s]at e; cases e
theorem mX{ds:List (Option Nat)}{mt:B→B→B}{q:Nat→B→Bool}{os:List Oper}{k:Nat}{L R:Lvl}(h:rP τ Sgs F ds mt q os (k+1) L=some R):(∀m b,rC m L=some b→q m b=true)∧ ∃d,FJ τ Sgs F ds mt os L []=some d∧rP τ Sgs F ds mt q os k d=some R:=by
 unfold rP at h; obtain⟨h1,f⟩:=aJ h; refine⟨fun m b z=> ?_, ?_⟩
 ·have s: ∀L:Lvl,L.all (fun p=>q p.1 p.2)=true→rC m L=some b→q m b=true:=by
   intro L; induction L with
   | nil=>intro _ h; cases h
   | cons p r ih=>
    obtain⟨C,E⟩:=p; intro l c; simp only[z94,z7]at l; simp only[rC]at c; cases e:Nat.beq m C with
    | true=>
     have:=z17 e; subst this; rw[e]at c; cases c; exact l.1
    | false=>rw[e]at c; exact ih l.2 c
  exact s L h1 z
 ·split at f
  ·rename_i d u; exact⟨d,u,f⟩
  ·cases f
theorem TY{ds:List (Option Nat)}{b b1:B}{o:Oper}(h:tU τ Sgs F ds b o=some b1)(f: ∀c,o.op≠ .call c): ∃b2,cOp τ F b o=some b2:=by
 obtain⟨b2,d,_⟩:=HA h; refine⟨b2, ?_⟩
 unfold RN at d; have:dI o=none:=by
  unfold dI; split
  ·rename_i c e; exact absurd e (f c)
  ·rfl
 rw[this]at d; exact d
theorem Mv{o:Oper}{ev:Operand→Value}{t:TypeId}{v z:Operand}(ho:o.op= .store t v z){c:Next}{w w':World}(h:(execOp ev o).run P w= .ok c w'):c= .skip:=by
 obtain⟨dst,op,f,d,after,guard⟩:=o; simp only at ho; subst ho; simp only[execOp,Sem.run_bind]at h; cases hr:(Instr.storeAt t (ev v) (ev z)).run P w with
 | halt x k=>rw[hr]at h; simp [Result.andThen]at h
 | ok u k=>
  rw[hr]at h; simp only[Result.andThen_ok,Sem.run_pure,Result.ok.injEq]at h; exact h.1.symm
theorem Uf(hT:bI P τ)(H:BX F ops ops' n A t tv y ob p)(hO:nW F (ops'.toList.map (·.dst)) ops'=true){mt:B→B→B}{mf:Nat}{bf:B}{g0:G}{w0:World}{Q:Exit→Act→World→Prop}{a0:Act}
  (hQ: ∀a w,Sim g0 w0 (bf.S F.n xn) a w→(∀z,yN z ops.toList=true→a.tmps.getD z undef=a0.tmps.getD z undef)→Q .normal a w){bA:Nat}{arr:Array Value}{ty:TypeId}{vs:List Value}:
  ∀(k:Nat) (listed:Array Bool) (m:Nat) (L:Lvl) (b:B) (x:D) (a:Act) (w:World),rP τ Sgs F (ops'.toList.map (·.dst)) mt (Jc A (.tmp tv) y ob) ops'.toList (k+1) L=some [(mf,bf)]→rC m L=some b→listed.size=n+1→listed.getD n false=false→
   (∀i,i<n+1→m.testBit i=listed.getD i false)→oL ops (fun j=>listed.getD j false=true)→(∀e∈A.after,Region.binds .any e=true→listed.getD e.on false=true)→(List.range ops.size).countP (fun i=> !listed.getD i true)=k+1→Ag F b x→
   EN P τ Sgs F (ops'.toList.map (·.dst)) ops' ((List.range ops.size).filter fun j=> !listed.getD j true) x xn→Sim g0 w0 (b.S F.n x) a w→(∀z,yN z ops.toList=true→a.tmps.getD z undef=a0.tmps.getD z undef)→
   a.eval (.tmp tv)= .pointer (some ⟨bA,p,none⟩)→w.heap[bA]? =some (.cells arr ty (0,0))→(a.eval y).cells.toList=vs→
   wpAny P .any ops Q k (listed.setIfInBounds n true) a (w.setRow bA (arr.toList.take p++vs++arr.toList.drop (p+vs.length)).toArray):=by
 have hdn: ∀(listed:Array Bool),listed.size=n+1→ ∀j,j<n+1→listed.getD j true=listed.getD j false:=fun listed h1 j h2=>by
  have:j<listed.size:=by omega
  simp [Array.getD,this]
 have facts: ∀(k:Nat) (listed:Array Bool) (m:Nat) (L:Lvl) (b:B) (x:D) (a:Act) (w:World) (g:G),rP τ Sgs F (ops'.toList.map (·.dst)) mt (Jc A (.tmp tv) y ob) ops'.toList (k+1) L=some [(mf,bf)]→rC m L=some b→listed.size=n+1→listed.getD n false=false→
   (∀i,i<n+1→m.testBit i=listed.getD i false)→oL ops (fun j=>listed.getD j false=true)→(∀e∈A.after,Region.binds .any e=true→listed.getD e.on false=true)→
   EN P τ Sgs F (ops'.toList.map (·.dst)) ops' ((List.range ops.size).filter fun j=> !listed.getD j true) x xn→bZ g0 w0 (b.S F.n x) a g w→a.eval (.tmp tv)= .pointer (some ⟨bA,p,none⟩)→w.heap[bA]? =some (.cells arr ty (0,0))→(a.eval y).cells.toList=vs→
   g.own bA= .obj ob∧(execOp a.eval A).run P w= .ok .skip (w.setRow bA (arr.toList.take p++vs++arr.toList.drop (p+vs.length)).toArray):=by
  intro k listed m L b x a w g hL hm hsz hn hbit hcl hrd hrun hs hev hh hvs; have hq:=(mX hL).1 m b hm; have hrdy:jI m A=true:=by
   simp only[jI,z18]; intro e he; cases hb:Region.binds .any e with
   | false=>rfl
   | true=>
    have h1:=hrd e (z42.1 he) hb; have h2:=H.edge e (z42.1 he) hb; simp only[z38,z39]; rw[hbit e.on (by omega)]; exact h1
  simp only[Jc,hrdy,z38,z39,z7]at hq; rw[H.filt hsz hn]at hrun; obtain⟨i,hi,hl⟩:=Dh H hrun (fun j hj=>by
   rw[z81,z61]at hj; refine⟨hj.1,H.left hcl hrd hj.1 ?_⟩
   rw[←hdn listed hsz j (by omega)]
   simpa using hj.2)
  obtain⟨arr',ty',h1,h2,h3,h4⟩:=JC (P:=P) hT H.op hs hq.1.1 hq.1.2 hq.2 hi hl; rw[hev]at h2; have e:g.β ob=bA:=by simpa using h2.symm
  rw[e]at h1 h3 h4; rw[hh]at h1; cases h1; rw[hvs]at h4; exact⟨h3,h4 w hh⟩
 intro k; induction k with
 | zero=>
  intro listed m L b x a w hL hm hsz hn hbit hcl hrd hcount hA hrun hs hz hev hh hvs; obtain⟨g,hsg⟩:=hs; obtain⟨hown,hexec⟩:=facts 0 listed m L b x a w g hL hm hsz hn hbit hcl hrd hrun hsg hev hh hvs; obtain⟨_,L',hL',hL0⟩:=mX hL; cases hL0; rw[z63]at hcount; rw[H.filt hsz hn]at hrun hcount; have hnil:(List.range n).filter (fun j=> !listed.getD j true)=[]:=by
   rw[z19,z21]at hcount; exact z72.1 (by omega)
  have hall: ∀j,j<n→listed.getD j false=true:=fun j hj=>by
   rw[←hdn listed hsz j (by omega)]
   have:=Wf.1 hnil j (z61.2 hj); simpa using this
  rw[hnil]at hrun; obtain⟨o,x1,h1,hfo,hsd,hx⟩:=hrun; have hx:x1=xn:=hx; subst hx; rw[H.last']at h1; cases h1; have hrdy:jI m (xV n A)=true:=by
   simp only[jI,z18]; intro e he; have he:e∈((List.range n).map fun j=>(⟨j, .data⟩:Edge)):=by simpa [xV]using he
   obtain⟨j,hj,rfl⟩:=z49.1 he; have hj:=z61.1 hj; simp only[hbit j (by omega),hall j hj,Qf]
  obtain⟨b1,b2,s1,s2,cv⟩:=(vC hL').2 m b hm n (xV n A) (by rw[z27]; exact H.last') (by rw[hbit n (by omega)]; exact hn) hrdy
  simp only[rC]at s2; cases h3:Nat.beq (m||| 2 ^ n) mf with
  | false=>rw[h3]at s2; cases s2
  | true=>
   rw[h3]at s2; cases s2; obtain⟨hA1,hw1⟩:=hsd.step (P:=P) hT hA H.last' s1; obtain⟨hA2,cs⟩:=cv x1 hA1; have hk:=hw1 g0 w0 NoQ (fun a' w'=>Sim g0 w0 (bf.S F.n x1) a' w'∧a'=a) a w ⟨g,hsg⟩ (fun v w' hs'=>⟨cs _ _ _ _ hs',by show(match A.dst with | some d=>_ | none=>a)=a; rw[H.dst]⟩)
   have hwp:=Vy hk H.last' H.guard; unfold Oper.wp at hwp; have hexec':(execOp a.eval (xV n A)).run P w= .ok .skip (w.setRow bA (arr.toList.take p++vs++arr.toList.drop (p+vs.length)).toArray):=hexec; rw[hexec']at hwp; have hwp:Sim g0 w0 (bf.S F.n x1) (a.put (xV n A).dst undef) _∧_=a:=hwp; rw[hwp.2]at hwp; refine⟨?_,hQ a _ hwp.1 hz⟩
   apply z139.2
   intro j hj; obtain⟨h1,o,ho,_⟩:=mem_ready.1 hj; have hlt:j<ops.size:=(z30.1 ho).1
   have hsize:=H.size; by_cases e:j=n
   ·subst e
    have:(listed.setIfInBounds j true).getD j true=true:=by simp [Array.getD]
    rw[this]at h1; cases h1
   ·rw[getD_set_ne true (Ne.symm e),hdn listed hsz j (by omega),hall j (by omega)]at h1
    cases h1
 | succ k ih=>
  intro listed m L b x a w hL hm hsz hn hbit hcl hrd hcount hA hrun hs hz hev hh hvs; obtain⟨g,hsg⟩:=hs; obtain⟨hown,_⟩:=facts (k+1) listed m L b x a w g hL hm hsz hn hbit hcl hrd hrun hsg hev hh hvs; have hsize:=H.size; refine⟨fun hr=> ?_,fun i hi=> ?_⟩
  ·exfalso
   have hall:=DZ (by simpa [hsize]using hsz) (H.edges hO) hr
   have hnil:(List.range n).filter (fun j=> !listed.getD j true)=[]:=Wf.2 fun j hj=>by
    have hj:=z61.1 hj; have:=hall j (by omega)
    rw[getD_set_ne false (by omega)]at this
    rw[hdn listed hsz j (by omega),this]; simp
   rw[z63,H.filt hsz hn,hnil]at hcount; simp at hcount
  ·obtain⟨hun,o,ho,hafter⟩:=mem_ready.1 hi
   have hlt:i<ops.size:=(z30.1 ho).1
   have hin:i≠n:=fun e=>by
    subst e; have:(listed.setIfInBounds i true).getD i true=true:=by simp [Array.getD]
    rw[this]at hun; cases hun
   have hlt':i<n:=by omega
   rw[getD_set_ne true (Ne.symm hin)]at hun; have hun':listed.getD i false=false:=by rw[←hdn listed hsz i (by omega)]; exact hun
   have ho':ops'[i]? =some o:=by rw[H.same i hlt']; exact ho
   have haft: ∀e∈o.after,Region.binds .any e=true→listed.getD e.on false=true:=fun e he hb=>by
    have h1:=hafter e he hb; have h2:=H.edges hO i o ho e he hb; rwa[getD_set_ne false (by omega)]at h1
   have hcls:=H.left hcl hrd hlt' hun' o ho; have hcl':oL ops (fun j=>(listed.setIfInBounds i true).getD j false=true):=by
    intro j oj hoj hj e he hb; by_cases hij:i=j
    ·subst hij
     rw[ho]at hoj; cases hoj; exact getD_set_true (haft e he hb)
    ·rw[getD_set_ne false hij]at hj
     exact getD_set_true (hcl j oj hoj hj e he hb)
   have hclO:oL ops' (fun j=>(listed.setIfInBounds i true).getD j false=true):=by
    intro j oj hoj hj e he hb; have hjlt:j<n+1:=by have:=(z30.1 hoj).1; have:=H.size'; omega
    have hjn:j≠n:=fun e=>by
     subst e; rw[getD_set_ne false hin,hn]at hj; cases hj
    rw[H.same j (by omega)]at hoj
    exact hcl' j oj hoj hj e he hb
   have hset:(listed.setIfInBounds i true).getD i false=true:=by
    have:i<listed.size:=by omega
    simp [Array.getD,this]
   obtain⟨A',C,f1,f2,f3⟩:=Ax (ops:=ops) (by rw[hsize]; exact hsz) hlt hun
   rw[f1]at hrun; have hO2:=hO; simp only[nW,z7,z18,z61]at hO2; obtain⟨hfo,x1,hsd,hrun1⟩:=hrun.front ho' (fun j hj a' ha'=>by
    obtain⟨j1,j2⟩:=f3 j hj; have h1:=hO2.2 i (by rw[H.size']; omega) j j1
    rw[ha',ho']at h1; simp only[z45]at h1; refine h1.resolve_left (fun h2=> ?_)
    have:=nO (D:=fun j=>(listed.setIfInBounds i true).getD j false=true) hclO hset h2
    rw[getD_set_ne false (by omega)]at this
    rw[hdn listed hsz j (by omega)]at j2
    rw[j2]at this; cases this)
   have hrdy:jI m o=true:=by
    simp only[jI,z18]; intro e he; cases hb:Region.binds .any e with
    | false=>rfl
    | true=>
     have h1:=haft e (z42.1 he) hb; have h2:=H.edges hO i o ho e (z42.1 he) hb; simp only[z38,z39]; rw[hbit e.on (by omega)]; exact h1
   obtain⟨_,L',hL',hL0⟩:=mX hL; obtain⟨b1,b2,s1,s2,cv⟩:=(vC hL').2 m b hm i o (by rw[z27]; exact ho') (by rw[hbit i (by omega)]; exact hun') hrdy
   obtain⟨hA1,hw1⟩:=hsd.step (P:=P) hT hA ho' s1; obtain⟨hA2,cs⟩:=cv x1 hA1; have hk:=hw1 g0 w0 NoQ (fun a' w'=>Sim g0 w0 (b2.S F.n x1) a' w') a w ⟨g,hsg⟩ (fun v w' hs'=>cs _ _ _ _ hs')
   have hg:o.guard=none:=by
    unfold Qn at hcls; simp only[z7,z87]at hcls; exact hcls.1
   have hwp:=Vy hk ho' hg; have hwant: ∀a:Act,Region.wanted o (yielded ops a.tmps)=true:=fun a=>by unfold Region.wanted; rw[hg]
   have next: ∀(u:Value) (w2:World),Sim g0 w0 (b2.S F.n x1) (a.put o.dst u) w2→(a.put o.dst u).eval (.tmp tv)=a.eval (.tmp tv)→(a.put o.dst u).eval y=a.eval y→w2.heap[bA]? =w.heap[bA]? →
     wpAny P .any ops Q k ((listed.setIfInBounds n true).setIfInBounds i true) (a.put o.dst u) (w2.setRow bA (arr.toList.take p++vs++arr.toList.drop (p+vs.length)).toArray):=fun u w2 hs2 e1 e2 e3=>by
    rw[Array.setIfInBounds_comm _ _ (Ne.symm hin)]; refine ih (listed.setIfInBounds i true) (m||| 2 ^ i) L' b2 x1 _ w2 hL0 s2 (by simpa using hsz) (by rw[getD_set_ne false hin]; exact hn) (fun j hj=> ?_) hcl' (fun e he hb=>getD_set_true (hrd e he hb)) ?_ hA2 (by rw[f2]; exact hrun1) hs2 (fun z hno=> ?_) (by rw[e1]; exact hev) (by rw[e3]; exact hh) (by rw[e2]; exact hvs)
    ·rw[Tf,Vm,hbit j hj]
     by_cases hij:i=j
     ·subst hij; rw[hset]; simp
     ·rw[getD_set_ne false hij]; simp [hij]
    ·rw[z63]at hcount ⊢
     rw[f1]at hcount; rw[f2]; simp only[z19,z48]at hcount ⊢; omega
    ·have hne:o.dst≠some z:=by
      have key: ∀l:List Oper,yN z l=true→ ∀o∈l,o.dst≠some z:=by
       intro l; induction l with
       | nil=>intro _ o h; cases h
       | cons p r ihl=>
        intro h o hm; simp only[yN,z7,z40,z50]at h; cases hm with
        | head=>exact h.1
        | tail _ hm=>exact ihl h.2 o hm
      exact key ops.toList hno o (z42.2 (z140 ho))
     rw[zK hne]; exact hz z hno
   unfold Qn at hcls; simp only[z7]at hcls; have hcls:=hcls.2; split at hcls
   ·rename_i d t' z i' hd hop
    simp only[z7]at hcls; obtain⟨b3,hb3⟩:=TY s1 (fun c e=>by rw[hop]at e; cases e)
    obtain⟨u,hu⟩:=QF (P:=P) hT hA hd hop (by simp only[z7]; exact hcls.2) hsg (Ng hsd hg (fun c e=>by rw[hop]at e; cases e)) hb3
    unfold Oper.wp at hwp; rw[hu]at hwp; have hwp:Sim g0 w0 (b2.S F.n x1) (a.put o.dst u) w:=hwp; have hev1: ∀v,RT d v=true→(a.put o.dst u).eval v=a.eval v:=fun v hv=>Act.eval_put (fun d' e1 e2=>by
     rw[hd]at e1; cases e1; subst e2; exact KY hv rfl)
    refine Cy ho true (hwant a) ?_
    show o.wp P a _ _ _; unfold Oper.wp; rw[hu]; exact next u w hwp (hev1 _ hcls.1.1) (hev1 _ hcls.1.2) rfl
   ·rename_i t' tx z hd hop
    split at hcls<;>try cases hcls
    rename_i k0 k1 j0 p0 n0 q0 hsh; obtain⟨b3,hb3⟩:=TY s1 (fun c e=>by rw[hop]at e; cases e)
    unfold Oper.wp at hwp; cases hr:(execOp a.eval o).run P w with
    | halt x2 w2=>
     rw[hr]at hwp; exfalso
     cases x2<;>exact hwp
    | ok nx w2=>
     have:=Mv hop hr; subst this; rw[hr]at hwp; have hwp:Sim g0 w0 (b2.S F.n x1) (a.put o.dst undef) w2:=hwp; obtain⟨r1,r2⟩:=QG (P:=P) (c:=(arr.toList.take p++vs++arr.toList.drop (p+vs.length)).toArray) hT hA hd hop hsh hsg (Ng hsd hg (fun c e=>by rw[hop]at e; cases e)) hb3 hown hr
     refine Cy ho true (hwant a) ?_
     show o.wp P a _ _ _; unfold Oper.wp; rw[r1]; exact next undef w2 hwp (by rw[hd]; rfl) (by rw[hd]; rfl) r2
   ·cases hcls
theorem Sr(hT:bI P τ)(H:BX F ops ops' n A t tv y ob p)(hO:nW F (ops'.toList.map (·.dst)) ops'=true){mt:B→B→B}{mf:Nat}{bf:B}{g0:G}{w0:World}{Q:Exit→Act→World→Prop}{a0:Act}
  (hQ: ∀a w,Sim g0 w0 (bf.S F.n xn) a w→(∀z,yN z ops.toList=true→a.tmps.getD z undef=a0.tmps.getD z undef)→Q .normal a w):
  ∀(k:Nat) (listed:Array Bool) (m:Nat) (L:Lvl) (b:B) (x:D) (a:Act) (w:World),rP τ Sgs F (ops'.toList.map (·.dst)) mt (Jc A (.tmp tv) y ob) ops'.toList (k+1) L=some [(mf,bf)]→rC m L=some b→listed.size=n+1→listed.getD n false=false→
   (∀i,i<n+1→m.testBit i=listed.getD i false)→oL ops (fun j=>listed.getD j false=true)→(List.range ops.size).countP (fun i=> !listed.getD i true)=k+1→Ag F b x→
   EN P τ Sgs F (ops'.toList.map (·.dst)) ops' ((List.range ops.size).filter fun j=> !listed.getD j true) x xn→Sim g0 w0 (b.S F.n x) a w→(∀z,yN z ops.toList=true→a.tmps.getD z undef=a0.tmps.getD z undef)→
   wpAny P .any ops Q (k+1) listed a w:=by
 have hdn: ∀(listed:Array Bool),listed.size=n+1→ ∀j,j<n+1→listed.getD j true=listed.getD j false:=fun listed h1 j h2=>by
  have:j<listed.size:=by omega
  simp [Array.getD,this]
 have hsize:=H.size
 have now: ∀(k:Nat) (listed:Array Bool) (m:Nat) (L:Lvl) (b:B) (x:D) (a:Act) (w:World),rP τ Sgs F (ops'.toList.map (·.dst)) mt (Jc A (.tmp tv) y ob) ops'.toList (k+1) L=some [(mf,bf)]→rC m L=some b→listed.size=n+1→listed.getD n false=false→
   (∀i,i<n+1→m.testBit i=listed.getD i false)→oL ops (fun j=>listed.getD j false=true)→(∀e∈A.after,Region.binds .any e=true→listed.getD e.on false=true)→(List.range ops.size).countP (fun i=> !listed.getD i true)=k+1→Ag F b x→
   EN P τ Sgs F (ops'.toList.map (·.dst)) ops' ((List.range ops.size).filter fun j=> !listed.getD j true) x xn→Sim g0 w0 (b.S F.n x) a w→(∀z,yN z ops.toList=true→a.tmps.getD z undef=a0.tmps.getD z undef)→
   wpOp P ops Q n (wpAny P .any ops Q k (listed.setIfInBounds n true)) a w:=by
  intro k listed m L b x a w hL hm hsz hn hbit hcl hrd hcount hA hrun hs hz; have hq:=(mX hL).1 m b hm; have hrdy:jI m A=true:=by
   simp only[jI,z18]; intro e he; cases hb:Region.binds .any e with
   | false=>rfl
   | true=>
    have h1:=hrd e (z42.1 he) hb; have h2:=H.edge e (z42.1 he) hb; simp only[z38,z39]; rw[hbit e.on (by omega)]; exact h1
  simp only[Jc,hrdy,z38,z39,z7]at hq; have hrun2:=hrun; rw[H.filt hsz hn]at hrun2; obtain⟨i,hi,hl⟩:=Dh H hrun2 (fun j hj=>by
   rw[z81,z61]at hj; refine⟨hj.1,H.left hcl hrd hj.1 ?_⟩
   rw[←hdn listed hsz j (by omega)]
   simpa using hj.2)
  obtain⟨g,hsg⟩:=hs; obtain⟨arr,ty,h1,h2,h3,h4⟩:=JC (P:=P) hT H.op hsg hq.1.1 hq.1.2 hq.2 hi hl; have hp:=Uf hT H hO hQ k listed m L b x a w hL hm hsz hn hbit hcl hrd hcount hA hrun ⟨g,hsg⟩ hz h2 h1 rfl; refine Cy H.last true (by unfold Region.wanted; rw[H.guard]) ?_
  show A.wp P a w _ _; unfold Oper.wp; rw[h4 w h1]; show wpAny P .any ops Q k (listed.setIfInBounds n true) (a.put A.dst undef) _; rw[H.dst]; exact hp
 intro k; induction k with
 | zero=>
  intro listed m L b x a w hL hm hsz hn hbit hcl hcount hA hrun hs hz; have hnil:(List.range n).filter (fun j=> !listed.getD j true)=[]:=by
   rw[z63,H.filt hsz hn,z19,z21]at hcount; exact z72.1 (by omega)
  have hall: ∀j,j<n→listed.getD j false=true:=fun j hj=>by
   rw[←hdn listed hsz j (by omega)]
   have:=Wf.1 hnil j (z61.2 hj); simpa using this
  refine⟨fun hr=> ?_,fun i hi=> ?_⟩
  ·exfalso
   have:=DZ (by rw[hsize]; exact hsz) (H.edges hO) hr n (by omega)
   rw[hn]at this; cases this
  ·obtain⟨hun,o,ho,_⟩:=mem_ready.1 hi
   have hlt:i<ops.size:=(z30.1 ho).1
   have hin:i=n:=by
    rcases Qg i n with h | h
    ·rw[hdn listed hsz i (by omega),hall i h]at hun; cases hun
    ·omega
   rw[hin]; exact now 0 listed m L b x a w hL hm hsz hn hbit hcl (fun e he hb=>hall e.on (H.edge e he hb)) hcount hA hrun hs hz
 | succ k ih=>
  intro listed m L b x a w hL hm hsz hn hbit hcl hcount hA hrun hs hz; refine⟨fun hr=> ?_,fun i hi=> ?_⟩
  ·exfalso
   have:=DZ (by rw[hsize]; exact hsz) (H.edges hO) hr n (by omega)
   rw[hn]at this; cases this
  ·obtain⟨hun,o,ho,haft⟩:=mem_ready.1 hi
   have hlt:i<ops.size:=(z30.1 ho).1
   by_cases hin:i=n
   ·have hoA:o=A:=by rw[hin,H.last]at ho; exact(z47 ho).symm
    rw[hoA]at haft; rw[hin]; exact now (k+1) listed m L b x a w hL hm hsz hn hbit hcl haft hcount hA hrun hs hz
   have hlt':i<n:=by omega
   have hun':listed.getD i false=false:=by rw[←hdn listed hsz i (by omega)]; exact hun
   have ho':ops'[i]? =some o:=by rw[H.same i hlt']; exact ho
   have hcl':oL ops (fun j=>(listed.setIfInBounds i true).getD j false=true):=by
    intro j oj hoj hj e he hb; by_cases hij:i=j
    ·subst hij
     rw[ho]at hoj; cases hoj; exact getD_set_true (haft e he hb)
    ·rw[getD_set_ne false hij]at hj
     exact getD_set_true (hcl j oj hoj hj e he hb)
   have hclO:oL ops' (fun j=>(listed.setIfInBounds i true).getD j false=true):=by
    intro j oj hoj hj e he hb; have hjlt:j<n+1:=by have:=(z30.1 hoj).1; have:=H.size'; omega
    have hjn:j≠n:=fun e=>by
     subst e; rw[getD_set_ne false hin,hn]at hj; cases hj
    rw[H.same j (by omega)]at hoj
    exact hcl' j oj hoj hj e he hb
   have hset:(listed.setIfInBounds i true).getD i false=true:=by
    have:i<listed.size:=by omega
    simp [Array.getD,this]
   obtain⟨A',C,f1,f2,f3⟩:=Ax (ops:=ops) (by rw[hsize]; exact hsz) hlt hun
   rw[f1]at hrun; have hO2:=hO; simp only[nW,z7,z18,z61]at hO2; obtain⟨hfo,x1,hsd,hrun1⟩:=hrun.front ho' (fun j hj a' ha'=>by
    obtain⟨j1,j2⟩:=f3 j hj; have h1:=hO2.2 i (by rw[H.size']; omega) j j1
    rw[ha',ho']at h1; simp only[z45]at h1; refine h1.resolve_left (fun h2=> ?_)
    have:=nO (D:=fun j=>(listed.setIfInBounds i true).getD j false=true) hclO hset h2
    rw[getD_set_ne false (by omega)]at this
    rw[hdn listed hsz j (by omega)]at j2
    rw[j2]at this; cases this)
   have hrdy:jI m o=true:=by
    simp only[jI,z18]; intro e he; cases hb:Region.binds .any e with
    | false=>rfl
    | true=>
     have h1:=haft e (z42.1 he) hb; have h2:=H.edges hO i o ho e (z42.1 he) hb; simp only[z38,z39]; rw[hbit e.on (by omega)]; exact h1
   obtain⟨_,L',hL',hL0⟩:=mX hL; obtain⟨b1,b2,s1,s2,cv⟩:=(vC hL').2 m b hm i o (by rw[z27]; exact ho') (by rw[hbit i (by omega)]; exact hun') hrdy
   obtain⟨hA1,hw1⟩:=hsd.step (P:=P) hT hA ho' s1; obtain⟨hA2,cs⟩:=cv x1 hA1; have hk:=hw1 g0 w0 Q (wpAny P .any ops Q (k+1) (listed.setIfInBounds i true)) a w hs (fun v w' hs'=>by
    refine ih (listed.setIfInBounds i true) (m||| 2 ^ i) L' b2 x1 _ w' hL0 s2 (by simpa using hsz) (by rw[getD_set_ne false hin]; exact hn) (fun j hj=> ?_) hcl' ?_ hA2 (by rw[f2]; exact hrun1) (cs _ _ _ _ hs') (fun z hno=> ?_)
    ·rw[Tf,Vm,hbit j hj]
     by_cases hij:i=j
     ·subst hij; rw[hset]; simp
     ·rw[getD_set_ne false hij]; simp [hij]
    ·rw[z63]at hcount ⊢
     rw[f1]at hcount; rw[f2]; simp only[z19,z48]at hcount ⊢; omega
    ·have hne:o.dst≠some z:=by
      have key: ∀l:List Oper,yN z l=true→ ∀o∈l,o.dst≠some z:=by
       intro l; induction l with
       | nil=>intro _ o h; cases h
       | cons p r ihl=>
        intro h o hm; simp only[yN,z7,z40,z50]at h; cases hm with
        | head=>exact h.1
        | tail _ hm=>exact ihl h.2 o hm
      exact key ops.toList hno o (z42.2 (z140 ho))
     rw[zK hne]; exact hz z hno)
   have hy:yielded ops' a.tmps=yielded ops a.tmps:=by
    funext g
    unfold yielded; have:(ops'[g]?).bind (·.dst)=(ops[g]?).bind (·.dst):=by
     have h1:=congrArg (fun l=>(l[g]?).bind id) H.ds
     simpa [z35,Option.bind_map]using h1
    rw[this]
   unfold wpOp at hk ⊢; rw[ho']at hk; rw[ho]; rw[hy]at hk; exact hk
end

theorem Ds: ∀(l:List Oper) (n:Nat),(lP l n).length=l.length
 | [],_=>rfl
 | [_],_=>rfl
 | _::p::r,n=>by
  have:=Ds (p::r) (n+1); simp only[lP,z48]at this ⊢; omega
theorem Dt: ∀(l:List Oper) (n i:Nat),i+1<l.length→(lP l n)[i]? =l[i]?
 | [],_,_,h=>by simp at h
 | [_],_,i,h=>by simp at h
 | o::p::r,n,0,_=>rfl
 | o::p::r,n,i+1,h=>by
  simp only[lP,z24]
  exact Dt (p::r) (n+1) i (by simpa using h)
theorem BY: ∀(l:List Oper) (n i:Nat) (A:Oper),i+1=l.length→l[i]? =some A→(lP l n)[i]? =some (xV (n+i) A)
 | [],_,_,_,h,_=>by simp at h
 | [o],n,i,A,h,c=>by
  have:i=0:=by simpa using h
  subst this; cases c; rfl
 | o::p::r,n,0,A,h,_=>by simp at h
 | o::p::r,n,i+1,A,h,c=>by
  simp only[lP,z24]
  rw[BY (p::r) (n+1) i A (by simpa using h) (by simpa using c),show n+1+i=n+(i+1)by omega]
theorem GH: ∀(l:List Oper) (n:Nat),(lP l n).map (·.dst)=l.map (·.dst)
 | [],_=>rfl
 | [_],_=>rfl
 | o::p::r,n=>by
  simp only[lP,z52]; rw[GH (p::r) (n+1)]; rfl
section
variable {P:Program} {τ:TypeId→Option TI} {Sgs:FuncId→List Sg} {F:FA} {ops:Array Oper} {b b1:B} {mt:B→B→B}
theorem xQ{ds:List (Option Nat)}{q:Nat→B→Bool}{os:List Oper}: ∀ {k:Nat} {L R:Lvl},rP τ Sgs F ds mt q os k L=some R→IQ τ Sgs F ds mt os k L=some R
 | 0,L,R,h=>h
 | k+1,L,R,h=>by
  obtain⟨_,d,h1,c⟩:=mX h; simp only[IQ,h1]; exact xQ c
theorem SI(M:bI P τ)(h:Tx τ Sgs F mt b ops=some b1):(KI τ Sgs F (ops.toList.map (·.dst)) b ops.toList).isSome=true∧ ∀x x1,Ag F b x→EN P τ Sgs F (ops.toList.map (·.dst)) ops (List.range' 0 ops.toList.length) x x1→
  Ag F b1 x1∧ ∀(g0:G) (w0:World) (Q:Exit→Act→World→Prop) (a:Act) (w:World),Sim g0 w0 (b.S F.n x) a w→(∀u w',Sim g0 w0 (b1.S F.n x1) u w'→(∀z,yN z ops.toList=true→u.tmps.getD z undef=a.tmps.getD z undef)→Q .normal u w')→wpAny P .any ops Q ops.size (Array.replicate ops.size false) a w:=by
 unfold Tx at h; split at h<;>try cases h
 rename_i A l; split at h<;>try cases h
 rename_i t tv y U ho W; split at h<;>try cases h
 rename_i ob p I; obtain⟨N,h⟩:=aJ h; simp only[z7]at N; obtain⟨J,K,L,O⟩:=N; split at h<;>try cases h
 rename_i Z f; obtain⟨n,hn⟩: ∃n,ops.size=n+1:=by
  cases e:ops.size with
  | zero=>
   rw[e]at l; have:ops.toList.length=0:=by simpa using e
   rw[z72.1 this]at l; cases l
  | succ n=>exact⟨n,rfl⟩
 have E:ops.size - 1=n:=by omega
 rw[E]at J K l; have d:ops[n]? =some A:=by
  have:=congrArg (·[0]?) l
  simp only[z43,z77,z22,z27]at this
  exact this
 have H:BX F ops (lP ops.toList 0).toArray n A t tv y ob p:= {
  size:=hn
  size':=by rw[Th,Ds]; simpa using hn
  same:=fun i C=>by rw[z89,Dt _ _ _ (by simp; omega),z27]
  last:=d
  last':=by rw[z89,BY ops.toList 0 n A (by simp; omega) (by rw[z27]; exact d),z29]
  ds:=GH _ _
  op:=ho
  dst:=U
  guard:=W
  sh:=I
  edge:=fun e V T=>by
   have:=z85.1 J e V; simp only[T,z38,z39]at this; exact dC this
  cls:=fun j q=>by
   have:=z18.1 K j (z61.2 q); simp only[z45]at this; refine this.imp id (fun k o ho=> ?_)
   rw[ho]at k; exact k }
 refine⟨O,fun x x1 m s=> ?_⟩
 have c:=Dg H s; rw[←H.ds]at c; have X:ops.toList.length=ops.size:=by simp
 have r:(List.range ops.size).filter (fun j=> !(Array.replicate ops.size false).getD j true)=List.range' 0 ops.toList.length:=by
  rw[List.filter_eq_self.2 (fun j q=>by
   have:=z61.1 q; simp [Array.getD,this]),Wb]
  simp
 refine⟨?_,fun g0 w0 Q a w Y R=> ?_⟩
 ·have:=QB M L (lP ops.toList 0).toArray.size 0 0 [(0,b)] b x (by simp) (by
   have:=xQ f; rw[H.size', ←hn]; exact this) (by simp [rC]) (fun i C=>by simp) m (by rw[H.size', ←hn, ←X]; exact c)
  exact this
 ·rw[hn]at f
  have k:=Sr (a0:=a) (Q:=Q) M H L R n (Array.replicate ops.size false) 0 [(0,b)] b x a w f (by simp [rC]) (by simpa using hn) (by simp [Array.getD,hn]) (fun i C=>by simp [Array.getD,hn,C]) (fun j o ho q=>by
   have:=(z30.1 ho).1
   simp [Array.getD,this]at q) (by
   rw[z63,r]; simp [hn]) m (by rw[r]; exact c) Y (fun _ _=>rfl)
  rw[←hn]at k; exact k
end

section
variable {P:Program} {τ:TypeId→Option TI} {An:FuncId→FA} {Sgs:FuncId→List Sg}

theorem ET{ops:Array Oper}{i:Nat}{o:Oper}{r:List Oper}(h:ops.toList.drop i=o::r):ops[i]? =some o∧ops.toList.drop (i+1)=r:=by
 have h1:(ops.toList.drop i)[0]? =some o:=by rw[h]; rfl
 rw[z43,z77,z27]at h1
 refine⟨h1, ?_⟩
 have:(ops.toList.drop i).drop 1=r:=by rw[h]; rfl
 rw[RJ]at this; exact this

theorem zI(K:bI P τ){F:FA}{ops:Array Oper}{i:Nat}{o:Oper}{r:List Oper}{x x1 m:D}{b k:B}(d:ops.toList.drop i=o::r)(C:Ag F b x)(j:SD P τ Sgs F (ops.toList.map (·.dst)) o x x1)(l:RR τ Sgs F (ops.toList.map (·.dst)) b (o::r)=some k)
  (M:Mot P τ Sgs (.ops F (ops.toList.map (·.dst)) r x1 m)):
  Ag F k m∧(∀g0 w0 (Q:Exit→Act→World→Prop) a w,Sim g0 w0 (b.S F.n x) a w→(∀f w',Sim g0 w0 (k.S F.n m) f w'→(∀z,yN z (o::r)=true→f.tmps.getD z undef=a.tmps.getD z undef)→Q .normal f w')→wpOps P ops Q (List.range' i (o::r).length) a w)∧
   ∀b2,KI τ Sgs F (ops.toList.map (·.dst)) b (o::r)=some b2→EN P τ Sgs F (ops.toList.map (·.dst)) ops (List.range' i (o::r).length) x m:=by
 obtain⟨E,c⟩:=ET d; simp only[RR]at l; split at l<;>try cases l
 rename_i b1 g; obtain⟨p,u⟩:=j.step K C E g; obtain⟨q,y,s⟩:=M ops (i+1) c rfl b1 k l p; refine⟨q,fun g0 w0 Q a w L J=> ?_,fun b2 I=> ?_⟩
 ·rw[z48,z170,wpOps_cons]
  refine u g0 w0 Q _ a w L (fun v w' t=>y g0 w0 Q _ w' t (fun f A h hz=>J f A h (fun z e=> ?_)))
  simp only[yN,z7,z40,z50]at e; rw[hz z e.2]; exact zK e.1
 ·obtain⟨h0,G,h1,H⟩:=Pu I
  rw[g]at h1; cases h1; rw[z48,z170]; exact⟨o,x1,E,EO.of C h0,j,s b2 H⟩

theorem JN{K:Act→World→Prop}{Q:Exit→Act→World→Prop}{e:Ek}(b:e≠ .n){a:Act}{w:World}:Exit.then K Q e.exit a w=Q e.exit a w:=by
 cases e with
 | n=>exact absurd rfl b
 | r=>rfl
 | e i=>rfl

theorem NX{Q:Exit→Act→World→Prop}{id:Nat}{e:Ek}{a:Act}{w:World}(h:Q (pF id e).exit a w):Exit.inBlock id Q e.exit a w:=by
 unfold pF at h; cases e with
 | n=>rw[z15 (by simp)]at h; exact h
 | r=>rw[z15 (by simp)]at h; exact h
 | e i=>
  by_cases b:i=id
  ·subst b
   rw[z20 rfl]at h; simp only[Exit.inBlock,Ek.exit,if_true]; exact h
  ·rw[z15 (by simpa using b)]at h
   simp only[Exit.inBlock,Ek.exit,z15 b]; exact h

theorem Dr{F:FA}: ∀ {l:List V} {a:Nat},oD F a l=true→ ∀ {i:Nat} {v:V},l[i]? =some v→fits v (F.shOf (a+i))=true
 | [],_,_,i,v,h=>by simp at h
 | p::r,a,h,0,v,b=>by
  simp only[oD,z7]at h; simp only[z22,z10]at b
  subst b; exact h.1
 | p::r,a,h,i+1,v,b=>by
  simp only[oD,z7]at h; simp only[z24]at b
  have:=Dr h.2 b; rwa[show a+1+i=a+(i+1)by omega]at this
theorem Dq{F:FA}: ∀ {l:List (List T)} {a:Nat},pH F a l=true→ ∀ {i:Nat} {v:List T},l[i]? =some v→fT v (F.obOf (par+(a+i)))=true
 | [],_,_,i,v,h=>by simp at h
 | p::r,a,h,0,v,b=>by
  simp only[pH,z7]at h; simp only[z22,z10]at b
  subst b; exact h.1
 | p::r,a,h,i+1,v,b=>by
  simp only[pH,z7]at h; simp only[z24]at b
  have:=Dq h.2 b; rwa[show a+1+i=a+(i+1)by omega]at this
theorem Ir{x:D}: ∀ {l l':List (List T)} {a:Nat},xS x a l=some l'→l'.length=l.length∧ ∀j,j<l.length→l'[j]? =x.ob (par+(a+j))
 | [],l',a,h=>by cases h; exact⟨rfl,fun j b=>by simp at b⟩
 | p::r,l',a,h=>by
  unfold xS at h; split at h<;>try cases h
  rename_i cs c h1 d; obtain⟨e,f⟩:=Ir d; refine⟨by simp [e],fun j b=> ?_⟩
  cases j with
  | zero=>simp [h1]
  | succ j=>
   have:=f j (by simpa using b)
   simp only[z24]
   rw[this,show a+1+j=a+(j+1)by omega]

theorem Qc(hM:P.follows .mixedOrders=true)(hT:bI P τ)(hS: ∀f sg,sg∈Sgs f→ ∀fn c,P.funcs[f]? =some fn→fn.body=some c→fnC τ An Sgs f sg fn c=true){J:Jd}(h:Big P τ An J):Mot P τ Sgs J:=by
 induction h with
 | skip F x=>exact fun b u s E=>by cases s; exact⟨b,0,rfl,E,fun g0 w0 Q a w H K=>⟨wp_skip (K a w H (fun _ _=>rfl)),fun V e=>by cases e⟩⟩
 | label F l x=>exact fun b u s E=>by cases s; exact⟨b,0,rfl,E,fun g0 w0 Q a w H K=>⟨wp_label (K a w H (fun _ _=>rfl)),fun V e=>by cases e⟩⟩
 | exit F i x=>
  intro b u s E; cases s; refine⟨b,0,by simp [tI,zX],E,fun g0 w0 Q a w H K=>⟨wp_exit (K a w H (fun _ _=>rfl)),fun V e=>by cases e⟩⟩
 | ret F x=>exact fun b u s E=>by cases s; exact⟨b,0,rfl,E,fun g0 w0 Q a w H K=>⟨wp_ret (K a w H (fun _ _=>rfl)),fun V e=>by cases e⟩⟩
 | @seqN F c d x x1 x2 e h1 h2 C T=>
  intro b u s E; simp only[tW]at s; split at s<;>try cases s
  rename_i o1 ho1; obtain⟨b1,k1,X,D,w1⟩:=C b o1 ho1 E; rw[X]at s; simp only at s; split at s<;>try cases s
  rename_i o2 ho2; obtain⟨b2,k2,g2,N,w2⟩:=T b1 o2 ho2 D; obtain⟨m1,_⟩:=zQ s; obtain⟨b3,g3,cv⟩:=m1 e b2 g2; obtain⟨O,cs⟩:=cv x2 N; refine⟨b3,0,g3,O,fun g0 w0 Q a w H K=>⟨wp_seq (w1 g0 w0 _ a w H (fun I w' y hz=> ?_)).1,fun V e=>by cases e⟩⟩
  refine(w2 g0 w0 Q I w' y (fun a'' w'' hs'' hz2=>K a'' w'' (cs _ _ _ _ hs'') (fun z A=> ?_))).1
  simp only[noD,z7]at A; rw[hz2 z A.2,hz z A.1]
 | @seqX F c d x x1 e h1 he C=>
  intro b u s E; simp only[tW]at s; split at s<;>try cases s
  rename_i o1 ho1; obtain⟨b1,k1,X,D,w1⟩:=C b o1 ho1 E
  have key: ∀M,tI e u=some M→Ag F M x1→(∀g0 w0 a w,Sim g0 w0 (b1.S F.n x1) a w→Sim g0 w0 (M.S F.n x1) a w)→ ∃(M:B) (k:Nat),tI e u=some M∧Ag F M x1∧ ∀g0 w0 (Q:Exit→Act→World→Prop) a w,Sim g0 w0 (b.S F.n x) a w→
   (∀I w',Sim g0 w0 (M.S F.n x1) I w'→(∀z,noD z (.seq c d)=true→I.tmps.getD z undef=a.tmps.getD z undef)→Q e.exit I w')→(Code.seq c d).wp P Q a w∧ ∀V,Code.seq c d= .loop V→Code.rounds P V Q k a w:=fun M hg hA' hcv=>
   ⟨M,0,hg,hA',fun g0 w0 Q a w H K=>⟨wp_seq (w1 g0 w0 _ a w H (fun I w' y hz=>by
    rw[JN he]; refine K I w' (hcv _ _ _ _ y) (fun z A=> ?_)
    simp only[noD,z7]at A; exact hz z A.1)).1,fun V e=>by cases e⟩⟩
  cases hn:tI .n o1 with
  | none=>
   rw[hn]at s; cases s; exact key b1 X D (fun _ _ _ _ h=>h)
  | some bn=>
   rw[hn]at s; simp only at s; split at s<;>try cases s
   rename_i o2 ho2; obtain⟨_,m2⟩:=zQ s; obtain⟨b3,g3,cv⟩:=m2 e b1 (by rw[sQ he]; exact X)
   obtain⟨O,cs⟩:=cv x1 D; exact key b3 g3 O cs
 | @cond F cnd c d x x1 e t hc h1 C=>
  intro b u s E; simp only[tW]at s; obtain⟨hk,s⟩:=aJ s; split at s<;>try cases s
  rename_i o1 o2 ho1 ho2; obtain⟨m1,m2⟩:=zQ s; have hcv: ∀ {g0:G} {w0:World} {a:Act} {w:World},Sim g0 w0 (b.S F.n x) a w→a.eval cnd= .bool t:=fun H=>by
   obtain⟨g,Z⟩:=H; have:=Z.ev_rv cnd (fun _ _=> .none)
   rw[oQ hk,hc]at this; exact KT this
  cases t with
  | true=>
   obtain⟨b1,k1,X,D,w1⟩:=C b o1 ho1 E; obtain⟨b3,g3,cv⟩:=m2 e b1 X; obtain⟨O,cs⟩:=cv x1 D; refine⟨b3,0,g3,O,fun g0 w0 Q a w H K=>⟨wp_cond_true (hcv H) (w1 g0 w0 Q a w H (fun I w' y hz=>K I w' (cs _ _ _ _ y) (fun z A=> ?_))).1,fun V e=>by cases e⟩⟩
   simp only[noD,z7]at A; exact hz z A.1
  | false=>
   obtain⟨b1,k1,X,D,w1⟩:=C b o2 ho2 E; obtain⟨b3,g3,cv⟩:=m1 e b1 X; obtain⟨O,cs⟩:=cv x1 D; refine⟨b3,0,g3,O,fun g0 w0 Q a w H K=>⟨wp_cond_false (hcv H) (w1 g0 w0 Q a w H (fun I w' y hz=>K I w' (cs _ _ _ _ y) (fun z A=> ?_))).1,fun V e=>by cases e⟩⟩
   simp only[noD,z7]at A; exact hz z A.2
 | @block F id c x x1 e h1 C=>
  intro b u s E; simp only[tW]at s; split at s<;>try cases s
  rename_i o1 ho1; obtain⟨b1,k1,X,D,w1⟩:=C b o1 ho1 E
  have key: ∀M,tI (pF id e) u=some M→Cv F b1 M→ ∃(M:B) (k:Nat),tI (pF id e) u=some M∧Ag F M x1∧ ∀g0 w0 (Q:Exit→Act→World→Prop) a w,Sim g0 w0 (b.S F.n x) a w→
   (∀I w',Sim g0 w0 (M.S F.n x1) I w'→(∀z,noD z (.block id c)=true→I.tmps.getD z undef=a.tmps.getD z undef)→Q (pF id e).exit I w')→(Code.block id c).wp P Q a w∧ ∀V,Code.block id c= .loop V→Code.rounds P V Q k a w:=fun M hg hcv=>by
   obtain⟨hA',cs⟩:=hcv x1 D; exact⟨M,0,hg,hA',fun g0 w0 Q a w H K=>⟨wp_block (w1 g0 w0 _ a w H (fun I w' y hz=>NX (K I w' (cs _ _ _ _ y) hz))).1,fun V e=>by cases e⟩⟩
  cases Y:tI (.e id) o1 with
  | none=>
   rw[Y]at s; cases s; have hne:e≠ .e id:=fun he=>by subst he; rw[Y]at X; cases X
   have e1:pF id e=e:=by unfold pF; rw[z15 hne]
   rw[e1]at key ⊢; exact key b1 X (Cv.refl F b1)
  | some bi=>
   rw[Y]at s; simp only at s; obtain⟨a1,M,a2,a3⟩:=Pg s; by_cases he:e= .e id
   ·have e1:pF id e= .n:=by unfold pF; rw[z20 he]
    rw[e1]at key ⊢; rw[he,Y]at X; cases X; exact key M a2 a3
   ·have e1:pF id e=e:=by unfold pF; rw[z15 he]
    rw[e1]at key ⊢; obtain⟨b3,g3,cv⟩:=a1 e b1 (by rw[sQ he]; exact X)
    exact key b3 g3 cv
 | @loopX F c x x1 e h1 he C=>
  intro b u s E; simp only[tW]at s; obtain⟨hd,o,cv,hf,ho,_,_⟩:=HI s; obtain⟨hAh,csh⟩:=cv x E; obtain⟨b1,k1,X,D,w1⟩:=C hd o hf hAh; refine⟨b1,1,by rw[ho,sQ he]; exact X,D,fun g0 w0 Q a w H K=> ?_⟩
  have hr:Code.rounds P c Q 1 a w:=(w1 g0 w0 _ a w (csh _ _ _ _ H) (fun I w' y hz=>by rw[JN he]; exact K I w' y hz)).1
  exact⟨wp_loop_rounds 1 hr,fun V e=>by cases e; exact hr⟩
 | @loopN F c x x1 x2 e h1 h2 C T=>
  intro b u s E; simp only[tW]at s; obtain⟨hd,o,cv,hf,ho,hback,hfix⟩:=HI s; obtain⟨hAh,csh⟩:=cv x E; obtain⟨b1,k1,X,D,w1⟩:=C hd o hf hAh; obtain⟨hA1',csb⟩:=hback b1 X x1 D; obtain⟨b2,k2,g2,N,w2⟩:=T hd u (hfix 3) hA1'; refine⟨b2,k2+1,g2,N,fun g0 w0 Q a w H K=> ?_⟩
  have hr:Code.rounds P c Q (k2+1) a w:=by
   rw[rounds_succ]; refine(w1 g0 w0 _ a w (csh _ _ _ _ H) (fun I w' y hz=> ?_)).1
   exact(w2 g0 w0 Q I w' (csb _ _ _ _ y) (fun a'' w'' hs'' hz2=>K a'' w'' hs'' (fun z A=>(hz2 z A).trans (hz z A)))).2 c rfl
  exact⟨wp_loop_rounds _ hr,fun V e=>by cases e; exact hr⟩
 | @regionM F id x S i f c o p0 tp tk t t' r r0 r2 cells cells' k k' rs t1 t2 t3 t4 p1 p2 p3 p4 f1 f2 f3 f4 hmk Y h1 hM hle hc1 hc2 hr2 htp htk hob hch hB ihB=>
  intro b u s E; simp only[tW]at s; rw[show List.any (Array.toList _) HX=false from rfl]at s; simp only[hmk,z12]at s; split at s<;>try cases s
  rename_i b1 U; obtain⟨D,hw⟩:=Uk (Sgs:=Sgs) hT E (id:=id) Y h1 hM hle hc1 hc2 hr2 htp htk hob (fun m hm sg h2 h3 h4=>ihB m hm sg h2 h3 h4) hch U
  obtain⟨N,cs⟩:=Gr F id b1 _ D; refine⟨_,0,rfl,N,fun g0 w0 Q a w H K=>⟨hw g0 w0 Q a w H (fun I w' y hz=>K I w' (cs _ _ _ _ y) (fun z A=> ?_)),fun V e=>by cases e⟩⟩
  simp only[noD,yN,z7,z40,z50,z10]at A; exact hz z (Ne.symm A.1) (Ne.symm A.2.1) (Ne.symm A.2.2.1) (Ne.symm A.2.2.2.1)
 | @region F id ops dr x x1 hmk h1 C=>
  intro b u s E; simp only[tW,hmk,VO h1,z12]at s; cases dr with
  | true=>
   simp only[z16]at s; split at s<;>try cases s
   rename_i b1 U; unfold anyC at U; cases hcnd:(nW F (ops.toList.map (·.dst)) ops&&(KI τ Sgs F (ops.toList.map (·.dst)) b ops.toList).isSome)with
   | false=>
    rw[hcnd,z12]at U; obtain⟨hK,hlate⟩:=SI (P:=P) hT U; obtain⟨b2,hK⟩:=z130.1 hK; obtain⟨_,_,R⟩:=C ops 0 rfl rfl b b2 (zN hK) E; obtain⟨N,hgo⟩:=hlate x x1 E (R b2 hK); obtain⟨O,cs⟩:=Gr F id b1 x1 N; exact⟨_,0,rfl,O,fun g0 w0 Q a w H K=>⟨wp_region_any hM (hgo g0 w0 Q a _ (H.drawn _) (fun I w' y hz=>K I w' (cs _ _ _ _ y) hz)),fun V e=>by cases e⟩⟩
   | true=>
   rw[hcnd,z16]at U; have hc:=hcnd; simp only[z7]at hc; obtain⟨hO,hK⟩:=hc; split at U<;>try cases U
   rename_i mf hlv; obtain⟨b2,hK⟩:=z130.1 hK; obtain⟨D,_,R⟩:=C ops 0 rfl rfl b b2 (zN hK) E; have R:=R b2 hK; have hle:(List.range ops.size).filter (fun j=> !(Array.replicate ops.size false).getD j true)=List.range' 0 ops.toList.length:=by
    rw[List.filter_eq_self.2 (fun j hj=>by
     have:=z61.1 hj; simp [Array.getD,this]),Wb]
    simp
   have hany:=fun(g0:G) (w0:World)=>VX (P:=P) (xn:=x1) (g0:=g0) (w0:=w0) hT hO ops.size (Array.replicate ops.size false) 0 [(0,b)] b x hlv (by simp [rC]) (by simp) (fun i Y=>by simp [Array.getD,Y]) (fun j o ho hj=>by
    have:=(z30.1 ho).1
    simp [Array.getD,this]at hj) (by
    rw[z63,hle]; simp) E (by rw[hle]; exact R)
   have hgo: ∀(g0:G) (w0:World) (Q:Exit→Act→World→Prop) (a:Act) (w:World),Sim g0 w0 (b.S F.n x) a w→(∀I w',Sim g0 w0 (b1.S F.n x1) I w'→(∀z,yN z ops.toList=true→I.tmps.getD z undef=a.tmps.getD z undef)→Q .normal I w')→
     wpAny P .any ops Q ops.size (Array.replicate ops.size false) a { w with drawn:=w.drawn+1 }:=fun g0 w0 Q a w H K=>
    Lr ((hany g0 w0).2 (a0:=a) K a _ (H.drawn _) (fun _ _=>rfl))
   have N:=(hany ⟨fun _=>0,fun _=> .none⟩ default).1
   obtain⟨O,cs⟩:=Gr F id b1 x1 N; exact⟨_,0,rfl,O,fun g0 w0 Q a w H K=>⟨wp_region_any hM (hgo g0 w0 Q a w H (fun I w' y hz=>K I w' (cs _ _ _ _ y) hz)),fun V e=>by cases e⟩⟩
  | false=>
   simp only[z12]at s; split at s<;>try cases s
   rename_i b1 U; obtain⟨D,w1,_⟩:=C ops 0 rfl rfl b b1 U E; obtain⟨N,cs⟩:=Gr F id b1 x1 D; refine⟨_,0,rfl,N,fun g0 w0 Q a w H K=>⟨wp_region ?_,fun V e=>by cases e⟩⟩
   have:=w1 g0 w0 Q a w H (fun I w' y hz=>K I w' (cs _ _ _ _ y) hz)
   rw[Wb]; simpa using this
 | opsNil F ds x=>
  intro ops i _ _ b M s E; cases s; exact⟨E,fun g0 w0 Q a w H K=>K a w H (fun _ _=>rfl),fun b2 _=>rfl⟩
 | @opsSkip F ds o r x x2 hg h2 T=>
  intro ops i L hds b M s E; subst hds; exact zI hT L E (.inl ⟨hg,rfl⟩) s T
 | @opsRun F ds o r x x1 x2 hg h1 h2 T=>
  intro ops i L hds b M s E; subst hds; exact zI hT L E (.inr (.inl ⟨hg,h1⟩)) s T
 | @opsCall F ds o rs x x2 c v f caps ob ob' r nw hg ho hcal hni hx hth hob h1 hsh h2 C T=>
  intro ops i L hds b M s E; subst hds; exact zI hT L E (.inr (.inr (.inl ⟨hg,c,v,f,caps,ob,ob',r,nw,ho,hcal,hni,hx,hth,hob,fun sg Z e1 e2=>C sg Z e1 e2,hsh,rfl⟩))) s T
 | @opsIo F ds o rs x x2 c v f r t xs l p x0 es es' hg ho hcal hio hx hth hargs hal hat hnav h1 hsh h2 C T=>
  intro ops i L hds b M s E; subst hds; exact zI hT L E (.inr (.inr (.inr ⟨hg,c,v,f,r,t,xs,l,p,x0,es,es',ho,hcal,hio,hx,hth,hargs,hal,hat,hnav,fun sg Z e1 e2=>C sg Z e1 e2,hsh,rfl⟩))) s T
 | @fn f fn c vs ob ob' e x' ws iov hf s hsh hso h1 he hws hio hob C=>
  intro sg Z hnp A g w us hsim; have hq:=hS f sg Z fn c hf s; unfold fnC at hq; cases hlb:(An f).lb with
  | some q=>
   exfalso
   rw[hlb]at hq; obtain⟨_,l2,l3⟩:=PD hq; obtain⟨v,vs',rfl⟩: ∃v vs',vs=v::vs':=by
    cases vs with
    | nil=>simp only[z53]at hnp; omega
    | cons v r=>exact⟨v,r,rfl⟩
   simp only[oD,z7,FA.shOf,l2,List.getElem?_nil]at hsh
   have h0:=hsh.1; cases v with
   | one w=>cases w<;>exact absurd h0 (by simp [fits,bY])
   | tup ws=>exact absurd h0 (by simp [fits])
  | none=>
  rw[hlb]at hq; simp only at hq; simp only[z7]at hq; obtain⟨⟨⟨⟨⟨⟨⟨⟨⟨q1,q2⟩,q3⟩,q4⟩,q5⟩,q6⟩,q7⟩,q8⟩,q9⟩,q10⟩:=hq; have hn:=z17 q1; have hp:=z33 q2; have hio0:sg.io=(An f).io:=of_decide_eq_true q7; cases hout:tW τ Sgs (An f) c sg.bi with
  | none=>rw[hout]at q10; cases q10
  | some u=>
   rw[hout]at q10; simp only[z7]at q10; have hAg:Ag (An f) sg.bi (DA vs ob):=by
    refine⟨fun i Y=> ?_,fun o ho=> ?_⟩
    ·right
     simp only[B.has]at Y; cases hl:dM i sg.bi.sl with
     | none=>rw[hl]at Y; cases Y
     | some κ=>
      have hlt:i<vs.length:=by rw[←hnp]; exact dC (z18.1 q5 _ (iE hl))
      have:=Dr hsh (z13 hlt)
      rw[z29]at this; have e:(DA vs ob).sl i=vs[i]:=by simp [DA,List.getD,z13 hlt]
      rw[e]; exact this
    ·simp only[B.hasO]at ho
     cases hl:dM o sg.bi.ob with
     | none=>rw[hl]at ho; cases ho
     | some κ=>
      have h3:=z18.1 q6 _ (iE hl); simp only[z7]at h3; have h4:=z33 h3.1; have h5:=dC h3.2; have hlt:o - par<ob.length:=by rw[←A]; omega
      have:=Dq hso (z13 hlt)
      rw[z29,WU h4]at this; exact⟨ob[o - par],by simp [DA,h4,z13 hlt],this⟩
   obtain⟨M,k,hg,hA',hw⟩:=C sg.bi u hout hAg; have hcall:(callFunc f us).run P w= .ok (.enter f us) w:=by
    have hne:fn.name≠ "runtime.NumGoroutine" :=by simpa using q4
    simp [callFunc,run_program,hf,hne,s]
   rw[hcall]; show Calls P f us w _; refine calls_of_wp hf s ?_
   have hsim2:=hsim.body (n:=fn.ntmps) (z33 q3) hp; rw[hn]at hw; refine(hw g w _ _ w ⟨g,hsim2⟩ (fun I w' y hz=> ?_)).1
   obtain⟨g',y⟩:=y; have hchk:Ai (An f) M sg.bo (BF (An f) fn.results.toList (An f).n0 (An f).io) 0 fn.results.toList=true∧Ni (An f) M sg.bo (An f).n0=true∧Qx (An f) M sg.bo fn.results.toList c=true:=by
    rcases he with rfl | rfl
    ·have:=q10.1; rw[hg]at this; simpa [and_assoc]using this
    ·have:=q10.2; rw[hg]at this; simpa [and_assoc]using this
   have hbo: ∀i,sg.bo.has i=true→i=0∨(i=1∧(An f).io.isSome=true):=fun i Y=>by
    simp only[B.has]at Y; cases hl:dM i sg.bo.sl with
    | none=>rw[hl]at Y; cases Y
    | some κ=>
     have:=z18.1 q8 _ (iE hl); simp only[z45,z7]at this; rcases this with h | h
     ·exact .inl (z17 h)
     ·exact .inr ⟨z17 h.1,h.2⟩
   have hobd: ∀oc o1,sg.bo.hasO oc=true→uY (An f).n0 o1=some oc→(DR ((IV ws).to (uY (An f).n0)) iov ob' ((An f).n0.bind x'.ob)).ob oc=x'.ob o1:=fun oc o1 hoc W=>by
    obtain⟨hol,hog⟩:=Ir hob; simp only[uY]at W; split at W
    ·rename_i hpo
     cases W; have h1:sg.bi.hasO oc=true:=by
      simp only[B.hasO]at hoc; cases hl:dM oc sg.bo.ob with
      | none=>rw[hl]at hoc; cases hoc
      | some κ=>
       have:=z18.1 q9 _ (iE hl); simp only[z45]at this; rcases this with h | h
       ·have:=z17 h
        subst this; exact absurd hpo Gk
       ·exact h
     simp only[B.hasO]at h1; cases hl:dM oc sg.bi.ob with
     | none=>rw[hl]at h1; cases h1
     | some κ=>
      have h3:=z18.1 q6 _ (iE hl); simp only[z7]at h3; have h5:=dC h3.2; have hlt:oc - par<ob.length:=by rw[←A]; omega
      have:=hog (oc - par) hlt; rw[z29,WU hpo]at this; simp only[DR,z20 hpo,this]
    ·split at W
     ·rename_i hpo hn0
      cases W; simp only[DR,z15 Gk,if_true,hn0,z8]
     ·cases W
   obtain⟨us',hl',R,g'',hfin⟩:=bZ.ret hT y hA' (io:=(An f).io) (iov:=iov) (u1:=us.getD (sg.io.getD 0) undef) (ob:=ob') (nw:=(An f).n0.bind x'.ob) hws hchk.1 hchk.2.1 hobd (fun z e=>by
    have h3:=hchk.2.2; unfold Qx at h3; rw[e]at h3 hio; simp only[z7,z45,z40,z26]at h3; obtain⟨⟨⟨z1,z2⟩,z3⟩,z4⟩:=h3; simp only[UA]at hio; split at hio<;>try cases hio
    rename_i tt ht; refine⟨?_,z1,⟨tt,ht,rfl⟩,z2,fun hh=> ?_⟩
    ·rw[hz z z4,hio0,e]
     show(us++Array.replicate (fn.ntmps - us.size) undef).getD z undef=us.getD z undef; simp only[z59,z173]
     split
     ·rfl
     ·rename_i Y
      rw[z171 (xs:=us) (by omega)]
      simp only[z160]
      split<;>rfl
    ·rcases z3 with z3 | z3
     ·rw[z3]at hh; cases hh
     ·rw[e]; exact z3) (fun hn=>by
    cases h1:sg.bo.has 1 with
    | false=>rfl
    | true=>
     rcases hbo 1 h1 with h | h
     ·cases h
     ·rw[hn]at h; cases h.2) (fun i Y=>by rcases hbo i Y with h | h<;>omega)
   have hres:=LD (P:=P) (w:=w') (fn:=fn) (tmps:=I.tmps) hl' R; have hpost:bodyPost P fn (fun e w'=> ∃v,e= .returned v∧ ∃g',bZ g w (sg.bo.S 2 (DR ((IV ws).to (uY (An f).n0)) iov ob' ((An f).n0.bind x'.ob))) ⟨#[v,us.getD (sg.io.getD 0) undef],[]⟩ g' w') .normal I w':=⟨y.defers,_,hres,_,rfl,g'',hfin⟩
   rcases he with rfl | rfl
   ·exact hpost
   ·exact hpost
 | @lib f fn c vs r q hf s hq h1=>
  intro sg Z hnp A; have hh:=hS f sg Z fn c hf s; unfold fnC at hh; rw[hq]at hh; obtain⟨e,_,_⟩:=PD hh; rw[e]; exact h1
end

section
variable (P:Program) (τ:TypeId→Option TI) (An:FuncId→FA)

def Wd(F:FA)(c:Code)(x:D)(Q:Ek→D→Prop):Prop:= ∃e x',Big P τ An (.code F c x e x')∧Q e x'
def Wo(F:FA)(a:List (Option Nat))(os:List Oper)(x:D)(Q:D→Prop):Prop:= ∃x',Big P τ An (.ops F a os x x')∧Q x'

def WA(K:D→Prop)(Q:Ek→D→Prop):Ek→D→Prop
 | .n,x=>K x
 | e,x=>Q e x
def blkD(id:Nat)(Q:Ek→D→Prop)(e:Ek)(x:D):Prop:=Q (pF id e) x

def Wy(F:FA)(o:Oper)(c:Call)(v:Operand)(x:D)(K:D→Prop):Prop:=
 wR F c=false∧ ∃f caps ob a r nw,ev x.sl v= .one (.fn f caps)∧c.args.toList.all (fun v=>gC (ev x.sl v))=true∧ob.map some=(kH F c v).map x.ob∧Big P τ An (.fn f (inV x c caps (kH F c v)) ob r none a nw)∧
  bL F (x.call o.dst (rZ F o.dst) (kH F c v) (DR r none a nw)) o.dst (rZ F o.dst) (kH F c v)=true∧K (x.call o.dst (rZ F o.dst) (kH F c v) (DR r none a nw))
def vcIo(F:FA)(o:Oper)(c:Call)(v:Operand)(x:D)(K:D→Prop):Prop:=
 wR F c=true∧ ∃f r t xs l p x0 a es',ev x.sl v= .one (.fn f [])∧c.args.toList.all (fun v=>gC (ev x.sl v))=true∧c.args.toList= .tmp t::xs∧x.sl t= .one (.al l p)∧x.at l=some x0∧nav x0 p=some (.sl a)∧Big P τ An (.fn f (inV x c [] []) [] r (some (.sl es')) [] none)∧
  bL F (x.call o.dst none [] (DR r (some (.sl es')) [] none)) o.dst none []=true∧K ((x.call o.dst none [] (DR r (some (.sl es')) [] none)).upd l (cZ x0 p (.sl es')))
def Kz(F:FA)(o:Oper)(x:D)(K:D→Prop):Prop:=match dI o with
 | some (c,v)=>Wy P τ An F o c v x K∨vcIo P τ An F o c v x K
 | none=> ∃x1,dOp τ F x o=some x1∧K x1
def Ev(F:FA)(a:List (Option Nat))(o:Oper)(x:D)(K:D→Prop):Prop:=match bN a x o.guard with
 | some true=>Kz P τ An F o x K
 | some false=>K (sK x o.dst)
 | none=>False
def bG(F:FA)(a:List (Option Nat)):List Oper→D→(D→Prop)→Prop
 | [],x,K=>K x
 | o::r,x,K=>Ev P τ An F a o x (fun x1=>bG F a r x1 K)

def vcC(F:FA):Code→D→(Ek→D→Prop)→Prop
 | .skip,x,Q=>Q .n x
 | .label _,x,Q=>Q .n x
 | .exit i,x,Q=>Q (.e i) x
 | .ret,x,Q=>Q .r x
 | .seq a b,x,Q=>vcC F a x (WA (fun x1=>vcC F b x1 Q) Q)
 | .cond c a b,x,Q=> ∃t,ev x.sl c= .one (.c (.bool t))∧(t=true→vcC F a x Q)∧(t=false→vcC F b x Q)
 | .block id c,x,Q=>vcC F c x (blkD id Q)
 | .loop c,x,Q=>Wd P τ An F (.loop c) x Q
 | .region id ops d,x,Q=>(dM id F.mks=none∧bG P τ An F (ops.toList.map (·.dst)) ops.toList x (fun x1=>Q .n x1))∨ ∃x1,Big P τ An (.code F (.region id ops d) x .n x1)∧Q .n x1
 | _,_,_=>False
end

section
variable {P:Program} {τ:TypeId→Option TI} {An:FuncId→FA}

theorem yY{F:FA}{j:List (Option Nat)}: ∀ {os:List Oper} {x:D} {K:D→Prop},bG P τ An F j os x K→Wo P τ An F j os x K
 | [],x,K,h=>⟨x, .opsNil F j x,h⟩
 | o::r,x,K,h=>by
  simp only[bG,Ev]at h; split at h
  ·rename_i i
   unfold Kz at h; split at h
   ·rename_i c v g
    have a:o.op= .call c∧c.callee= .value v:=by
     unfold dI at g; split at g<;>try cases g
     rename_i E ho; split at g<;>try cases g
     rename_i v' z; exact⟨ho,z⟩
    rcases h with⟨h0,f,caps,ob,B,C,nw,h1,e,k,m,q,s⟩ | ⟨h0,f,C,t,xs,l,p,x0,G,es',h1,e,k,m,q,s,u,w,y⟩
    ·obtain⟨x',b,d⟩:=yY s
     exact⟨x', .opsCall i a.1 a.2 h0 h1 e k m q b,d⟩
    ·obtain⟨x',b,d⟩:=yY y
     exact⟨x', .opsIo i a.1 a.2 h0 h1 e k m q s u w b,d⟩
   ·obtain⟨x1,h1,e⟩:=h
    obtain⟨x',b,d⟩:=yY e; exact⟨x', .opsRun i h1 b,d⟩
  ·rename_i i
   obtain⟨x',b,d⟩:=yY h; exact⟨x', .opsSkip i b,d⟩
  ·exact h.elim

theorem Af{F:FA}: ∀ {c:Code} {x:D} {Q:Ek→D→Prop},vcC P τ An F c x Q→Wd P τ An F c x Q
 | .skip,x,Q,h=>⟨.n,x, .skip F x,h⟩
 | .label l,x,Q,h=>⟨.n,x, .label F l x,h⟩
 | .exit i,x,Q,h=>⟨.e i,x, .exit F i x,h⟩
 | .ret,x,Q,h=>⟨.r,x, .ret F x,h⟩
 | .seq a b,x,Q,h=>by
  obtain⟨e,x1,h1,d⟩:=Af (c:=a) h; by_cases j:e= .n
  ·subst j
   obtain⟨m,o,f,g⟩:=Af (c:=b) d; exact⟨m,o, .seqN h1 f,g⟩
  ·refine⟨e,x1, .seqX h1 j, ?_⟩
   cases e with
   | n=>exact absurd rfl j
   | r=>exact d
   | e i=>exact d
 | .cond c a b,x,Q,h=>by
  obtain⟨t,k,h1,d⟩:=h; cases t with
  | true=>
   obtain⟨e,x1,f,g⟩:=Af (c:=a) (h1 rfl); exact⟨e,x1, .cond k f,g⟩
  | false=>
   obtain⟨e,x1,f,g⟩:=Af (c:=b) (d rfl); exact⟨e,x1, .cond k f,g⟩
 | .block id c,x,Q,h=>by
  obtain⟨e,x1,h1,d⟩:=Af (c:=c) h; exact⟨_,x1, .block h1,d⟩
 | .loop c,x,Q,h=>h
 | .region id ops p,x,Q,h=>by
  rcases h with⟨h0,h⟩ | ⟨x1,h1,d⟩
  ·obtain⟨x1,h1,d⟩:=yY h
   exact⟨.n,x1, .region h0 h1,d⟩
  ·exact⟨.n,x1,h1,d⟩
 | .scope c,x,Q,h=>h.elim
 | .rangeFunc _ _ _ _,x,Q,h=>h.elim
 | .goto _,x,Q,h=>h.elim
 | .refuse _,x,Q,h=>h.elim

end

section
variable {P:Program} {τ:TypeId→Option TI} {An:FuncId→FA}

theorem Big.of{f:FuncId}{fn:Func}{c:Code}{vs:List V}{ob a:List (List T)}{r:V}{nw:Option (List T)}(q:P.funcs[f]? =some fn)(o:fn.body=some c)(g:oD (An f) 0 vs=true)(j:pH (An f) 0 ob=true)(b:(An f).io=none)
  (h:vcC P τ An (An f) c (DA vs ob) (fun e x=>(e= .n∨e= .r)∧ ∃k,DS τ x fn.results.toList=some k∧(IV k).to (uY (An f).n0)=r∧xS x 0 ob=some a∧(An f).n0.bind x.ob=nw)):Big P τ An (.fn f vs ob r none a nw):=by
 obtain⟨e,x',h1,p,k,l,rfl,m,rfl⟩:=Af h; exact .fn q o g j h1 p l (by rw[b]; rfl) m

theorem Big.ofIo{f:FuncId}{fn:Func}{c:Code}{vs:List V}{ob a:List (List T)}{r:V}{nw:Option (List T)}{z:Nat}{y:T}(s:P.funcs[f]? =some fn)(p:fn.body=some c)(g:oD (An f) 0 vs=true)(j:pH (An f) 0 ob=true)(b:(An f).io=some z)
  (h:vcC P τ An (An f) c (DA vs ob) (fun e x=>(e= .n∨e= .r)∧ ∃k,DS τ x fn.results.toList=some k∧(IV k).to (uY (An f).n0)=r∧xS x 0 ob=some a∧(An f).n0.bind x.ob=nw∧x.sl z= .one (.c y))):Big P τ An (.fn f vs ob r (some y) a nw):=by
 obtain⟨e,x',h1,q,k,l,rfl,m,rfl,o⟩:=Af h; exact .fn s p g j h1 q l (by rw[b]; simp only[UA,o]) m

section
variable (x:D) (d i:Nat) (v:V)
@[simp] theorem put_ob:(x.put d v).ob=x.ob:=rfl.trans rfl
end
theorem gO{F:FA}{x:D}{d:Nat}{v:V}(h:fits v (F.shOf d)=true):sH F x d v=some (x.put d v):=by
 unfold sH; rw[h]; rfl
end

def G.old:G:= { β:=fun _=>0,own:=fun _=> .none }

theorem TC.row{P:Program}{f:FuncId}{fn:Func}{c:Code}{sg:Sg}{a:List V}(h:TC P f sg a [] (.one (.c (.bool true))) none [] none)(q:sg.bo.has 0=true)(r:sg.bi.ob=[])(x:sg.np=a.length)(t:sg.np≤par)
  (D:P.funcs[f]? =some fn)(C:fn.body=some c)(g:(fn.name == "runtime.NumGoroutine")=false)(w:World)(us:Array Value)(y:us.size=a.length)
  (l: ∀i,aI (a.getD i (.one .junk))= .none)(z: ∀i,sg.bi.has i=true→RV G.old w (fun k j=>sg.bi.kd (.s i k j)) (fun k j=> .s i k j) (us.getD i undef) (a.getD i (.one .junk))):
  Calls P f us w fun e w'=>e= .returned (.bool true)∧Below w.heap.size w w':=by
 have H:bZ G.old w (sg.bi.S sg.np (DA a [])) ⟨us,[]⟩ G.old w:=by
  refine⟨tA.refl _ _,⟨fun b h=>absurd rfl h⟩,by rw[y, ←x]; rfl,rfl,fun i=> ?_,fun o cells ho=> ?_,fun i E=> ?_,fun _ _=>rfl,t⟩
  ·show RV _ w (fun k j=>sg.bi.kd (.s i k j)) _ (us.getD i undef) (if sg.bi.has i=true then a.getD i (.one .junk)else .one .junk)
   by_cases e:sg.bi.has i=true
   ·rw[z20 e]; exact z i e
   ·rw[z15 e]; trivial
  ·have p:(if sg.bi.hasO o=true then(DA a []).ob o else none)=some cells:=ho
   split at p<;>try cases p
   rename_i e; simp only[B.hasO,r,dM]at e; cases e
  ·exfalso
   apply E
   show aI (if sg.bi.has i=true then a.getD i (.one .junk)else .one .junk)= .none
   split
   ·exact l i
   ·rfl
 have h1:=h _ w us H; have u:fn.name≠ "runtime.NumGoroutine" :=by simpa using g
 have d:(callFunc f us).run P w= .ok (.enter f us) w:=by simp [callFunc,run_program,D,u,C]
 rw[d]at h1; refine Calls.mono h1 ?_
 rintro e w' ⟨v,rfl,g',m⟩
 have A:=m.slots 0; rw[qU q]at A; have I:v= .bool true:=KT A; subst I; exact⟨rfl,m.framed.os,m.framed.tape,m.framed.output,m.framed.evo.size,fun k F=>(m.framed.evo.keep k F (fun h=>h (.inl rfl))).2⟩

theorem TC.of{P:Program}{τ:TypeId→Option TI}{An:FuncId→FA}{Sgs:FuncId→List Sg}(g:P.follows .mixedOrders=true)(j:bI P τ)(i: ∀f sg,sg∈Sgs f→ ∀fn c,P.funcs[f]? =some fn→fn.body=some c→fnC τ An Sgs f sg fn c=true)
  {f:FuncId}{vs:List V}{ob a:List (List T)}{r:V}{nw:Option (List T)}(h:Big P τ An (.fn f vs ob r none a nw)){sg:Sg}(e:sg∈Sgs f)(d:sg.np=vs.length)(b:sg.no=ob.length):TC P f sg vs ob r none a nw:=
 Qc g j i h sg e d b

section
variable {P:Program} {τ:TypeId→Option TI} {An:FuncId→FA} {F:FA} {ds:List (Option Nat)} {o:Oper} {r:List Oper} {x x1:D} {K:D→Prop} {Q:Ek→D→Prop}

theorem dF(b:bN ds x o.guard=some true)(a:dI o=none)(h1:dOp τ F x o=some x1)(h:bG P τ An F ds r x1 K):bG P τ An F ds (o::r) x K:=by
 simp only[bG,Ev,b,Kz,a]; exact⟨x1,h1,h⟩
theorem Pr(a:bN ds x o.guard=some false)(h1:sK x o.dst=x1)(h:bG P τ An F ds r x1 K):bG P τ An F ds (o::r) x K:=by
 subst h1; simp only[bG,Ev,a]; exact h
theorem Rm(h:K x):bG P τ An F ds [] x K:=h
theorem CE{c:Call}{v:Operand}{os:List Nat}(h:kH F c v=os)(hn:os≠[0,0]):wR F c=false:=by
 unfold kH at h; cases e:wR F c with
 | false=>rfl
 | true=>rw[e]at h; exact absurd h.symm hn
theorem zJ{c:Call}{v:Operand}{f:FuncId}{caps:List (Nat×Nat)}{vs:List V}{ob a:List (List T)}{k:V}{nw:Option (List T)}{x1:D}(p:bN ds x o.guard=some true)(m:dI o=some (c,v))(b:wR F c=false)(q:ev x.sl v= .one (.fn f caps))(g:c.args.toList.all (fun v=>gC (ev x.sl v))=true)
  (d:ob.map some=(kH F c v).map x.ob)(i:inV x c caps (kH F c v)=vs)(l:Big P τ An (.fn f vs ob k none a nw))(j:x.call o.dst (rZ F o.dst) (kH F c v) (DR k none a nw)=x1)(e:bL F x1 o.dst (rZ F o.dst) (kH F c v)=true)
  (h:bG P τ An F ds r x1 K):bG P τ An F ds (o::r) x K:=by
 subst j; subst i; simp only[bG,Ev,p,Kz,m]; exact .inl ⟨b,f,caps,ob,a,k,nw,q,g,d,l,e,h⟩
theorem UQ{c:Call}{v:Operand}{f:FuncId}{vs:List V}{d:V}{t:Nat}{xs:List Operand}{l:Loc}{p:List (Nat×Nat)}{x0:T}{q es':List (List T)}(w:bN ds x o.guard=some true)(u:dI o=some (c,v))(i:wR F c=true)(y:ev x.sl v= .one (.fn f []))(k:c.args.toList.all (fun v=>gC (ev x.sl v))=true)
  (a:c.args.toList= .tmp t::xs)(e:x.sl t= .one (.al l p))(g:x.at l=some x0)(b:nav x0 p=some (.sl q))(m:inV x c [] []=vs)(s:Big P τ An (.fn f vs [] d (some (.sl es')) [] none))(j:bL F (x.call o.dst none [] (DR d (some (.sl es')) [] none)) o.dst none []=true)
  (h:bG P τ An F ds r ((x.call o.dst none [] (DR d (some (.sl es')) [] none)).upd l (cZ x0 p (.sl es'))) K):bG P τ An F ds (o::r) x K:=by
 subst m; simp only[bG,Ev,w,Kz,u]; exact .inr ⟨i,f,d,t,xs,l,p,x0,q,es',y,k,a,e,g,b,s,j,h⟩
end


section
variable {P:Program} {τ:TypeId→Option TI} {An:FuncId→FA} {F:FA} {ds:List (Option Nat)} {r:List Oper} {x:D} {K:D→Prop} {ty:TypeId} {pos:String} {after:Array Edge} {gd:Option (Nat×Bool)} {d:Nat}

theorem Ro{y:Operand}{v:V}(b:bN ds x gd=some true)(e:ev x.sl y=v)(c:gC v=true)(a:fits v (F.shOf d)=true)(h:bG P τ An F ds r (x.put d v) K):bG P τ An F ds (⟨some d, .assign y,ty,pos,after,gd⟩::r) x K:=by
 subst e; refine dF b rfl ?_ h
 show yK F x d y=_; unfold yK; rw[c]; exact gO a
theorem XG{y:Operand}{v:V}(b:bN ds x gd=some true)(c:mem d F.al=false)(f:ev x.sl y=v)(e:gC v=true)(a:fits v (F.shOf d)=true)(h:bG P τ An F ds r (x.put d v) K):bG P τ An F ds (⟨some d, .move y,ty,pos,after,gd⟩::r) x K:=by
 subst f; refine dF b rfl ?_ h
 show(bif mem d F.al then uG F x d y else yK F x d y)=_
 rw[c]; unfold yK; rw[z12,e]; exact gO a
theorem XF{c y z:Operand}{b:Bool}{t:T}(i:bN ds x gd=some true)(g:ev x.sl c= .one (.c (.bool b)))(a:ev x.sl (if b then y else z)= .one (.c t))(f:scal t=true)(e:fits (.one (.c t)) (F.shOf d)=true)(h:bG P τ An F ds r (x.put d (.one (.c t))) K):bG P τ An F ds (⟨some d, .pick c y z,ty,pos,after,gd⟩::r) x K:=by
 refine dF i rfl ?_ h
 show Ey F x d c y z=_; unfold Ey; rw[g]; cases b with
 | true=>
  have a:ev x.sl y= .one (.c t):=a; simp only[a,f,z16]; exact gO e
 | false=>
  have a:ev x.sl z= .one (.c t):=a; simp only[a,f,z16]; exact gO e
theorem s_bin{op:BinOp}{t a:TypeId}{y z:Operand}{b e:V}{w:T}(j:bN ds x gd=some true)(h1:evD x y=b)(f:evD x z=e)(g:OB τ op t b e=some w)(i:fits (.one (.c w)) (F.shOf d)=true)(h:bG P τ An F ds r (x.put d (.one (.c w))) K):bG P τ An F ds (⟨some d, .binOp op t y z a,ty,pos,after,gd⟩::r) x K:=by
 subst h1; subst f; refine dF j rfl ?_ h
 show oO τ F x d (.binOp op t y z a)=_; unfold oO; simp only[iA,g]; exact gO i
end

end Go.Own
