/- A calculus for runs on plain data (part 4): whoever runs code on data, with its owners checked, runs the program. No conditions. -/
import Derived.Test.YtgeomhdbckjkcaaOwn2
set_option linter.unusedVariables false
set_option linter.unusedSimpArgs false
set_option linter.unnecessarySimpa false
/- A region whose order is drawn and whose last step is a store that may be put off. -/
namespace Go.Own
open Go.RowKit

/-! ### the world -/
theorem Iq{α:Type}(xs:Array α){i j:Nat}(h:i≠j)(f g:α→α):(xs.modify i f).modify j g=(xs.modify j g).modify i f:=by
 apply Array.ext_getElem?
 intro k
 rw[Array.getElem?_modify,Array.getElem?_modify,Array.getElem?_modify,Array.getElem?_modify]
 by_cases e1:j=k
 ·have e2:i≠k:=fun e=>h (e.trans e1.symm)
  rw[if_pos e1,if_neg e2,if_neg e2,if_pos e1]
 ·rw[if_neg e1,if_neg e1]
theorem Dg(w:World){b:Nat}{a:Addr}(c:Array Value)(v:Value)(h:b≠a.block):(w.setRow b c).setCell a v=(w.setCell a v).setRow b c:=by
 simp only[World.setRow,World.setCell]
 rw[Iq w.heap h]
theorem tS{P:Program}{b' o bA:Nat}{c:Array Value}(hne:bA≠b'): ∀(vs:List Value) (i:Nat) (w w':World),(∀v∈vs,v.oneCell'=true)→(∀q,q<vs.length→ ∃u,w.cell? ⟨b',o+i+q,none⟩=some u)→(storeCells ⟨b',o,none⟩ vs i).run P w= .ok () w'→
  (storeCells ⟨b',o,none⟩ vs i).run P (w.setRow bA c)= .ok () (w'.setRow bA c)∧w'.heap[bA]? =w.heap[bA]?
 | [],i,w,w',_,_,h=>by
  cases h
  exact⟨rfl,rfl⟩
 | v::r,i,w,w',h1,h2,h=>by
  obtain⟨u,hu⟩:=h2 0 (by simp)
  have hadd:(⟨b',o,none⟩:Addr).add i=⟨b',o+i,none⟩:=jD _ _ _
  rw[Nat.add_zero]at hu
  have hcell:(w.setRow bA c).cell? ⟨b',o+i,none⟩=some u:=by
   rw[bY (setRow_other w bA b' c (Ne.symm hne))]; exact hu
  have hfr:(w.setRow bA c).frozen? ⟨b',o+i,none⟩=w.frozen? ⟨b',o+i,none⟩:=by
   simp only[World.frozen?,setRow_other w bA b' c (Ne.symm hne)]
  simp only[storeCells,Sem.run_bind,hadd,run_store P _ _ v _ (h1 v List.mem_cons_self),hu,hcell,hfr]at h ⊢
  cases hf:w.frozen? ⟨b',o+i,none⟩with
  | true=>rw[hf]at h; simp [Result.andThen]at h
  | false=>
   rw[hf]at h
   simp only[Bool.false_eq_true,if_false,Result.andThen_ok]at h ⊢
   obtain⟨k1,k2⟩:=tS hne r (i+1) (w.setCell ⟨b',o+i,none⟩ v) w' (fun v hv=>h1 v (List.mem_cons_of_mem _ hv)) (fun q hq=>by
    obtain⟨u',hu'⟩:=h2 (q+1) (by simpa using hq)
    refine⟨u', ?_⟩
    have e:=World.cell?_setCell_other (w:=w) (v:=v) (a:=⟨b',o+i,none⟩) (b:=⟨b',o+(i+1)+q,none⟩) (by simp; omega)
    rw[show o+(i+1)+q=o+i+(q+1)by omega]at e ⊢
    exact e.trans hu') h
   refine⟨?_,k2.trans (heap_setCell_other w _ _ v hne)⟩
   rw[Dg w c v hne]
   exact k1

/-! ### the data -/
structure LI (v y:Operand) (n ob p:Nat) (x:D):Prop where
 ptr:ev x.sl v= .one (.ptr ob p)
 val: ∃xs,aO (ev x.sl y)=some xs∧xs.length=n
 room: ∃cells,x.ob ob=some cells∧p+n≤cells.length
section
variable {P:Program} {τ:TypeId→Option TI} {Sgs:FuncId→List Sg} {F:FA} {ds:List (Option Nat)} {x x1:D} {o:Oper}
theorem Kx(h:SD P τ Sgs F ds o x x1)(hg:o.guard=none)(hc: ∀c,o.op≠ .call c):dOp τ F x o=some x1:=by
 rcases h with⟨h,_⟩ | ⟨_,h⟩ | ⟨_,c,v,f,caps,ob,ob',r,nw,h,_⟩ | ⟨_,c,v,f,r,t,xs,l,p,x0,es,es',h,_⟩
 ·rw[hg]at h; cases h
 ·exact h
 ·exact absurd h (hc c)
 ·exact absurd h (hc c)
theorem QK{t ob p:Nat}(hf:Oa F x (.tmp t))(hs:F.shOf t= .one (.ptr ob p)){w:W}(h:x.sl t= .one w)(hn:w≠ .nilp):w= .ptr ob p:=by
 have hf:x.sl t= .tup []∨fits (x.sl t) (F.shOf t)=true:=hf
 rw[h,hs]at hf
 rcases hf with hf | hf
 ·cases hf
 ·cases w<;>simp [fits,bP]at hf hn
  obtain⟨rfl,rfl⟩:=hf; rfl
theorem NG{t:TypeId}{tv:Nat}{y:Operand}{ob p:Nat}(h:SD P τ Sgs F ds o x x1)(hf:Cg F x o)(hg:o.guard=none)(hd:o.dst=none)(ho:o.op= .store t (.tmp tv) y)(hs:F.shOf tv= .one (.ptr ob p)): ∃i,τ t=some i∧LI (.tmp tv) y i.size ob p x:=by
 have h:=Kx h hg (fun c e=>by rw[ho]at e; cases e)
 have hft:=hf (.tmp tv) (by rw[ho]; simp [Op.operands])
 unfold dOp at h
 rw[hd,ho]at h
 simp only at h
 split at h<;>try cases h
 ·rename_i i ob' p' xs hi hv hy
  have e:=QK hft hs (show x.sl tv=_ from hv) (by simp)
  cases e
  unfold oD at h
  split at h<;>try cases h
  rename_i cells hcl
  obtain⟨hc,h⟩:=aJ h
  simp only[Bool.and_eq_true]at hc
  have hz:=Nat.eq_of_beq_eq_true hc.1.1
  exact⟨i,hi,hv,⟨xs,hy,hz⟩,cells,hcl,by rw[←hz]; exact Nat.le_of_ble_eq_true hc.1.2⟩
 ·rename_i i l pp n j xs hi hv hy
  have e:=QK hft hs (show x.sl tv=_ from hv) (by simp)
  cases e
theorem IE{d:Nat}{t:Nat}(h:OY d (.tmp t)=true):d≠t:=fun e=>by
 subst e
 simp [OY]at h
theorem Nc{v:V}{k j:Nat}{z:T}{xs:List T}(h:aO (v.setLeaf k j z)=some xs): ∃ys,aO v=some ys∧ys.length=xs.length:=by
 cases v with
 | tup ws=>simp [V.setLeaf,aO]at h
 | one w=>
  cases k with
  | succ k=>exact⟨xs,h,rfl⟩
  | zero=>
   cases w with
   | c t=>cases j<;>(simp [V.setLeaf,W.setLeaf,aO]at h ⊢; subst h; rfl)
   | ag ys=>simp [V.setLeaf,W.setLeaf,aO]at h ⊢; subst h; simp
   | _=>exact⟨xs,h,rfl⟩
theorem NH{v y:Operand}{n ob p:Nat}(hc:Nq F v y o=true)(hf:Cg F x o)(h:SD P τ Sgs F ds o x x1)(hl:LI v y n ob p x1):LI v y n ob p x:=by
 unfold Nq at hc
 simp only[Bool.and_eq_true,Option.isNone_iff_eq_none]at hc
 obtain⟨hg,hc⟩:=hc
 split at hc
 ·rename_i d t z i hd ho
  simp only[Bool.and_eq_true]at hc
  have hc:=hc.1
  have h:=Kx h hg (fun c e=>by rw[ho]at e; cases e)
  obtain⟨E,e1,e2,rfl,_⟩:=Md (y:=x) h (by unfold uX; rw[ho]) (fun d t v hd ho'=>by rw[ho]at ho'; cases ho') (fun v _=>yA.refl _ x v)
  have hsl: ∀w,OY d w=true→ev (E.on x).sl w=ev x.sl w:=fun w hw=>by
   cases w with
   | tmp t=>
    show(E.on x).sl t=x.sl t
    simp only[Eff.on,e1,hd]
    rw[if_neg (fun e=>IE hw (Option.some.inj e))]
   | _=>rfl
  have hob:(E.on x).ob ob=x.ob ob:=by
   have:E.ob ob=none:=by
    cases he:E.ob ob with
    | none=>rfl
    | some c=>
     have:=e2 ob (by rw[he]; rfl)
     unfold No at this
     rw[hd,ho]at this
     cases this
   simp only[Eff.on,this]
  exact⟨by rw[←hsl v hc.1]; exact hl.ptr,by rw[←hsl y hc.2]; exact hl.val,by rw[←hob]; exact hl.room⟩
 ·rename_i t tx z hd ho
  split at hc<;>try cases hc
  rename_i k k0 j0 p0 n0 q0 hsh
  have h:=Kx h hg (fun c e=>by rw[ho]at e; cases e)
  have hft:x.sl tx= .tup []∨fits (x.sl tx) (F.shOf tx)=true:=hf (.tmp tx) (by rw[ho]; simp [Op.operands])
  unfold dOp at h
  rw[hd,ho]at h
  simp only at h
  split at h<;>try cases h
  ·rename_i i ob' p' xs hi hv hy
   have hv:x.sl tx= .one (.ptr ob' p'):=hv
   rw[hv,hsh]at hft
   rcases hft with e | e
   ·cases e
   ·simp [fits,bP]at e
  ·rename_i i l pp m j xs hi hv hy
   have hv:x.sl tx= .one (.pp l pp m j):=hv
   rw[hv,hsh]at hft
   rcases hft with e | e
   ·cases e
   simp only[fits,bP,Bool.and_eq_true,decide_eq_true_eq]at e
   have hl0:l= .s k k0 j0:=e.1.1
   subst hl0
   unfold lH at h
   split at h<;>try cases h
   split at h<;>try cases h
   split at h<;>try cases h
   obtain⟨_,h⟩:=aJ h
   cases h
   have hobs:=hl.room
   refine⟨?_, ?_,hobs⟩
   ·have:=hl.ptr
    cases v with
    | tmp tv=>
     have this:(jR x.sl (.s k k0 j0) _ tv)=_:=this
     simp only[jR]at this
     rw[if_neg (Ne.symm (IE hc))]at this
     exact this
    | _=>exact this
   ·obtain⟨ys,hy1,hy2⟩:=hl.val
    cases y with
    | tmp ty=>
     have hy1:aO (jR x.sl (.s k k0 j0) _ ty)=_:=hy1
     simp only[jR]at hy1
     split at hy1
     ·obtain⟨zs,z1,z2⟩:=Nc hy1
      rename_i e; subst e
      exact⟨zs,z1,z2.trans hy2⟩
     ·exact⟨ys,hy1,hy2⟩
    | _=>exact⟨ys,hy1,hy2⟩
 ·cases hc
end

/-! ### the runs -/
section
variable {P:Program} {τ:TypeId→Option TI} {Sgs:FuncId→List Sg} {F:FA} {ds:List (Option Nat)} {x x1:D} {o:Oper} {b b1:B} {g0:G} {w0:World} {a:Act} {g:G} {w:World}
theorem Gv(hT:bC P τ){t:TypeId}{tv:Nat}{y:Operand}{ob p:Nat}{i:TI}(ho:o.op= .store t (.tmp tv) y)(hs:bQ g0 w0 (b.S F.n x) a g w)(hkv:cV b (.tmp tv)=true)(hky:cV b y=true)(hob:b.hasO ob=true)(hi:τ t=some i)(hL:LI (.tmp tv) y i.size ob p x):
  ∃arr ty,w.heap[g.β ob]? =some (.cells arr ty (0,0))∧a.eval (.tmp tv)= .pointer (some ⟨g.β ob,p,none⟩)∧g.own (g.β ob)= .obj ob∧
   ∀w2:World,w2.heap[g.β ob]? =some (.cells arr ty (0,0))→(execOp a.eval o).run P w2= .ok .skip (w2.setRow (g.β ob) (arr.toList.take p++(a.eval y).cells.toList++arr.toList.drop (p+(a.eval y).cells.toList.length)).toArray):=by
 obtain⟨hv,⟨xs,hy,hz⟩,cells,hcl,hroom⟩:=hL
 have h1:=hs.ev_rv (.tmp tv) (fun _ _=> .none)
 rw[nH hkv,hv]at h1
 have e1:a.eval (.tmp tv)= .pointer (some ⟨g.β ob,p,none⟩):=h1
 obtain⟨arr,ty,r1,r2,r3,_⟩:=hs.obs ob cells (by rw[JU hob]; exact hcl)
 obtain⟨k1,k2,_,_,_⟩:=gA (hs.ev_rv y (fun _ j=> .oc ob (p+j))) (by rw[nH hky]; exact hy)
 have hcs:(a.eval y).cells.toList.length=xs.length:=by simpa using k1
 have hone: ∀v∈(a.eval y).cells.toList,v.oneCell'=true:=fun v hv=>by
  obtain⟨c,hc⟩:=List.getElem?_of_mem hv
  have hcl:c<xs.length:=by have:=cC hc; simp only[Array.length_toList]at this; omega
  obtain⟨u,u1,u2,_⟩:=k2 c xs[c] (List.getElem?_eq_getElem hcl)
  rw[Array.getElem?_toList]at hc
  rw[hc]at u1
  cases u1
  exact nQ u2
 obtain⟨info,_,_,q1,_,q3,_⟩:=hT.get hi
 refine⟨arr,ty,r1,e1,r3,fun w2 hw2=> ?_⟩
 have s1:=run_storeCells_at P (g.β ob) p ty (a.eval y).cells.toList 0 arr w2 hw2 (by rw[hcs,r2]; omega) hone
 simp only[Nat.add_zero]at s1
 obtain⟨dst,op,ty',pos,after,guard⟩:=o
 simp only at ho
 subst ho
 have hne: ¬ (a.eval y).cells.size≠info.size:=by rw[k1,q3,hz]; simp
 simp only[execOp,Instr.storeAt,e1,Instr.sureAddr,Sem.run_bind,Sem.run_pure,Result.andThen_ok,storeVar,sizeOf,typeInfo,run_program,q1,if_neg hne,s1]
theorem NJ(hT:bC P τ)(hA:Ag F b x){t:TypeId}{tx:Nat}{z:Operand}{l:Loc}{p0:List (Nat×Nat)}{n0 q0 ob bA:Nat}{c:Array Value}{w':World}(hd:o.dst=none)(ho:o.op= .store t (.tmp tx) z)(hsh:F.shOf tx= .one (.pp l p0 n0 q0))(hs:bQ g0 w0 (b.S F.n x) a g w)
  (h1:dOp τ F x o=some x1)(h2:cOp τ F b o=some b1)(hown:g.own bA= .obj ob)(hrun:(execOp a.eval o).run P w= .ok .skip w'):(execOp a.eval o).run P (w.setRow bA c)= .ok .skip (w'.setRow bA c)∧w'.heap[bA]? =w.heap[bA]? :=by
 unfold cOp at h2
 rw[hd,ho]at h2
 simp only at h2
 unfold dOp at h1
 rw[hd,ho]at h1
 simp only at h1
 split at h2<;>try cases h2
 ·rename_i e; rw[show mR F (.tmp tx)=F.shOf tx from rfl,hsh]at e; cases e
 rename_i i l' p' n' j' hi e
 rw[show mR F (.tmp tx)=F.shOf tx from rfl,hsh]at e
 cases e
 unfold yF at h2
 obtain⟨hc,_⟩:=aJ h2
 simp only[Bool.and_eq_true]at hc
 obtain⟨⟨⟨⟨⟨⟨⟨c1,c2⟩,c3⟩,c4⟩,c5⟩,c6⟩,c7⟩,c8⟩:=hc
 have hft:=hA.sl tx c1
 rw[hi]at h1
 split at h1<;>try cases h1
 ·rename_i i ob' p' xs hi hv hy
  have hv:x.sl tx= .one (.ptr ob' p'):=hv
  rw[hv,hsh]at hft
  rcases hft with e | e
  ·cases e
  ·simp [fits,bP]at e
 rename_i i' l' pp m j xs hi' hv hy
 cases hi'
 have hv:x.sl tx= .one (.pp l' pp m j):=hv
 have hl0:l'=l:=by
  rw[hv,hsh]at hft
  rcases hft with e | e
  ·cases e
  ·simp only[fits,bP,Bool.and_eq_true,decide_eq_true_eq]at e; exact e.1.1
 subst hl0
 unfold lH at h1
 split at h1<;>try cases h1
 rename_i x0 hat
 split at h1<;>try cases h1
 rename_i es hnav
 split at h1<;>try cases h1
 rename_i row hrow
 obtain⟨hq,_⟩:=aJ h1
 simp only[Bool.and_eq_true]at hq
 have hsz:=Nat.eq_of_beq_eq_true hq.1
 have hle:=Nat.le_of_ble_eq_true hq.2
 obtain⟨a1,a2,a3,a4⟩:=qN (d:=F.n) hA c1 c3 (.inr ⟨pp,m,j,hv⟩)
 have hat':(b.S F.n x).at l'=some x0:=by rw[Hv a4]; exact hat
 obtain⟨hk2,v0,b',off,len,cap,v1,v2,hptr,hcell⟩:=hs.ppCell (by rw[oS c1]; exact hv) a1 a3 hat' hnav hrow
 have hrd:=hs.pl_rd hk2 v1 hat' v2
 have hne:bA≠b':=by
  intro e
  subst e
  generalize hvv:Value.slice (some ⟨bA,off,none⟩) len cap=v at hrd
  cases hrd with
  | nil a cap=>simp at hrow
  | sl b' off' len' cap' s es cs hl hc hs2 hP hm hr=>
   cases hvv
   exact hP.2 ob hown
 obtain⟨k1,k2,_,_,_⟩:=gA (hs.ev_rv z (fun _ _=> .none)) (by rw[nH c2]; exact hy)
 have hcs:(a.eval z).cells.toList.length=xs.length:=by simpa using k1
 have hone: ∀v∈(a.eval z).cells.toList,v.oneCell'=true:=fun v hv=>by
  obtain⟨c,hc⟩:=List.getElem?_of_mem hv
  have hcl:c<xs.length:=by have:=cC hc; simp only[Array.length_toList]at this; omega
  obtain⟨u,u1,u2,_⟩:=k2 c xs[c] (List.getElem?_eq_getElem hcl)
  rw[Array.getElem?_toList]at hc
  rw[hc]at u1
  cases u1
  exact nQ u2
 obtain⟨info,_,_,q1,_,q3,_⟩:=hT.get hi
 obtain⟨dst,op,ty',pos,after,guard⟩:=o
 simp only at ho
 subst ho
 have hne2: ¬ (a.eval z).cells.size≠info.size:=by rw[k1,q3,hsz]; simp
 have e1:a.eval (.tmp tx)= .pointer (some ⟨b',off+m*row.length+j,none⟩):=hptr
 simp only[execOp,Instr.storeAt,e1,Instr.sureAddr,Sem.run_bind,Sem.run_pure,Result.andThen_ok,storeVar,sizeOf,typeInfo,run_program,q1,if_neg hne2]at hrun ⊢
 cases hr:(storeCells ⟨b',off+m*row.length+j,none⟩ (a.eval z).cells.toList).run P w with
 | halt h w2=>rw[hr]at hrun; simp [Result.andThen]at hrun
 | ok u w2=>
  rw[hr]at hrun
  simp only[Result.andThen_ok,Result.ok.injEq,true_and]at hrun
  subst hrun
  obtain⟨s1,s2⟩:=tS (c:=c) hne _ 0 w w2 hone (fun q hq=>by
   rw[hcs]at hq
   have hlt:q<(row.drop j).length:=by rw[List.length_drop]; omega
   obtain⟨u,hu,_⟩:=hcell q _ (List.getElem?_eq_getElem hlt)
   exact⟨u,by rw[Nat.add_zero]; exact hu⟩) hr
  exact⟨by rw[s1]; rfl,s2⟩
theorem NI(hT:bC P τ)(hA:Ag F b x){t:TypeId}{d:Nat}{v i:Operand}(hd:o.dst=some d)(ho:o.op= .indexAddr t v i)(hsh:(eE (F.shOf d)&&rW F v)=true)(hs:bQ g0 w0 (b.S F.n x) a g w)
  (h1:dOp τ F x o=some x1)(h2:cOp τ F b o=some b1): ∃u, ∀w2,(execOp a.eval o).run P w2= .ok (.value u) w2:=by
 unfold dOp at h1
 unfold cOp at h2
 rw[hd,ho]at h1 h2
 simp only at h1 h2
 have e1:=hsh
 rw[e1,cond_true]at h2
 simp only[Bool.and_eq_true]at hsh
 unfold BS at h2
 split at h2<;>try cases h2
 rename_i s
 obtain⟨hc,_⟩:=aJ h2
 simp only[Bool.and_eq_true]at hc
 obtain⟨⟨⟨⟨c1,c2⟩,c3⟩,c4⟩,c5⟩:=hc
 have hsl:mT (ev x.sl (.tmp s))=true:=by
  cases hq:mT (ev x.sl (.tmp s))with
  | true=>rfl
  | false=>
   rw[hq,Bool.and_false,cond_false]at h1
   have:=IL (t:=t) (i:=i) hA (show cV b (.tmp s)=true from c2) (.inl h1)
   rw[hq,hsh.2]at this
   cases this
 rw[hsh.1,hsl,Bool.and_self,cond_true]at h1
 unfold mM at h1
 split at h1<;>try cases h1
 rename_i s' e k n es hss hte hi hv
 cases hss
 split at h1<;>try cases h1
 rename_i row hrow
 obtain⟨ei,q1,q2,q3,q4⟩:=Af hrow
 have hx:(b.S F.n x).sl s= .one (.c (.sl es)):=by rw[oS c2]; exact hv
 have hat:(b.S F.n x).at (.s s 0 0)=some (.sl es):=by rw[St.at_s,hx]; rfl
 have h1:=hs.slots s
 rw[hx]at h1
 have hv2:vAt a.tmps g.β w (.s s 0 0)=some (a.tmps.getD s undef):=(gH h1.1).2
 have hrd:=hs.pl_rd c5 hv2 hat (.nil _ _)
 obtain⟨_,_,_,hpos⟩:=lE hT q1
 obtain⟨b',off,len,cap,p1,hl,_⟩:=Eh (β:=g.β) hrd q3 q4 hpos
 have hlt:n.toNat<es.length:=cC q3
 exact⟨_,fun w2=>oH hT hte q1 (ρ:=a.eval) (x:= .tmp s) p1 (hs.int (show ev (b.S F.n x).sl i=_ by rw[nH c3]; exact hi)) q2 (by omega) ho w2⟩
end

/-! ### the order -/
structure AF (F:FA) (ops ops':Array Oper) (n:Nat) (A:Oper) (t:TypeId) (tv:Nat) (y:Operand) (ob p:Nat):Prop where
 size:ops.size=n+1
 size':ops'.size=n+1
 same: ∀i,i<n→ops'[i]? =ops[i]?
 last:ops[n]? =some A
 last':ops'[n]? =some (vO n A)
 ds:ops'.toList.map (·.dst)=ops.toList.map (·.dst)
 op:A.op= .store t (.tmp tv) y
 dst:A.dst=none
 guard:A.guard=none
 sh:F.shOf tv= .one (.ptr ob p)
 edge: ∀e∈A.after,Region.binds .any e=true→e.on<n
 cls: ∀j,j<n→((Region.before ops).getD n 0).testBit j=true∨ ∀o,ops[j]? =some o→Nq F (.tmp tv) y o=true

def NoQ:Exit→Act→World→Prop:=fun _ _ _=>False
theorem PG: ¬ LetsOut NoQ:=fun⟨_,_,h⟩=>h
theorem Sh{P:Program}{ops:Array Oper}{i:Nat}{o:Oper}{K:Act→World→Prop}{a:Act}{w:World}(h:wpOp P ops NoQ i K a w)(hi:ops[i]? =some o)(hg:o.guard=none):o.wp P a w K NoQ:=by
 unfold wpOp at h
 simp only[hi,Region.wanted,hg,if_true]at h
 exact h.resolve_right (fun e=>PG e.2)
theorem Bg{ops:Array Oper}{listed:Array Bool}(hsz:listed.size=ops.size)(he: ∀j o,ops[j]? =some o→ ∀e∈o.after,Region.binds .any e=true→e.on<j)(hr:Region.ready .any ops listed=[]): ∀j,j<ops.size→listed.getD j false=true:=by
 have hgd: ∀j,j<ops.size→listed.getD j true=listed.getD j false:=fun j h2=>by
  have:j<listed.size:=by omega
  simp [Array.getD,this]
 intro j
 induction j using Nat.strongRecOn with
 | _ j ih=>
  intro hj
  rcases Bool.eq_false_or_eq_true (listed.getD j false)with h | h
  ·exact h
  ·exfalso
   have:j∈Region.ready .any ops listed:=by
    rw[mem_ready]
    refine⟨by rw[hgd j hj]; exact h,ops[j],Array.getElem?_eq_getElem hj,fun e he' hb=> ?_⟩
    have h3:=he j _ (Array.getElem?_eq_getElem hj) e he' hb
    exact ih e.on h3 (by omega)
   rw[hr]at this; cases this

section
variable {P:Program} {τ:TypeId→Option TI} {Sgs:FuncId→List Sg} {F:FA} {ops ops':Array Oper} {n:Nat} {A:Oper} {t:TypeId} {tv:Nat} {y:Operand} {ob p:Nat} {x xn:D}
theorem Bq(H:AF F ops ops' n A t tv y ob p){ds:List (Option Nat)}: ∀ {L:List Nat} {x x':D},Ce P τ Sgs F ds ops L x x'→Ce P τ Sgs F ds ops' L x x'
 | [],_,_,h=>h
 | i::r,x,x',⟨o,x1,h1,h2,h3,h4⟩=>by
  by_cases e:i<n
  ·exact⟨o,x1,by rw[H.same i e]; exact h1,h2,h3,Bq H h4⟩
  ·have hlt:i<ops.size:=(Array.getElem?_eq_some_iff.1 h1).1
   have hin:i=n:=by have:=H.size; omega
   have ho:o=A:=by rw[hin,H.last]at h1; exact(Option.some.inj h1).symm
   exact⟨vO n A,x1,by rw[hin]; exact H.last',by rw[ho]at h2; exact h2,by rw[ho]at h3; exact h3,Bq H h4⟩
theorem Br(H:AF F ops ops' n A t tv y ob p){ds:List (Option Nat)}: ∀ {L:List Nat} {x:D},Ce P τ Sgs F ds ops' (L++[n]) x xn→(∀j∈L,j<n∧ ∀o,ops[j]? =some o→Nq F (.tmp tv) y o=true)→ ∃i,τ t=some i∧LI (.tmp tv) y i.size ob p x
 | [],x,⟨o,x1,h1,h2,h3,_⟩,_=>by
  rw[H.last']at h1
  cases h1
  exact NG h3 h2 H.guard H.dst H.op H.sh
 | j::r,x,⟨o,x1,h1,h2,h3,h4⟩,hc=>by
  obtain⟨i,hi,hl⟩:=Br H h4 (fun j hj=>hc j (List.mem_cons_of_mem _ hj))
  obtain⟨hj,hcl⟩:=hc j List.mem_cons_self
  rw[H.same j hj]at h1
  exact⟨i,hi,NH (hcl o h1) h2 h3 hl⟩
theorem AF.filt(H:AF F ops ops' n A t tv y ob p){listed:Array Bool}(hsz:listed.size=n+1)(hn:listed.getD n false=false):(List.range ops.size).filter (fun j=> !listed.getD j true)=(List.range n).filter (fun j=> !listed.getD j true)++[n]:=by
 rw[H.size,List.range_succ,List.filter_append]
 congr 1
 rw[List.filter_cons_of_pos]
 ·rfl
 ·have:listed.getD n true=listed.getD n false:=by simp [Array.getD,hsz]
  rw[this,hn]; rfl
theorem AF.edges(H:AF F ops ops' n A t tv y ob p){ds:List (Option Nat)}(hO:mL F ds ops'=true): ∀j o,ops[j]? =some o→ ∀e∈o.after,Region.binds .any e=true→e.on<j:=by
 intro j o ho e he hb
 have hlt:j<ops.size:=(Array.getElem?_eq_some_iff.1 ho).1
 by_cases e1:j<n
 ·simp only[mL,Bool.and_eq_true,List.all_eq_true,List.mem_range]at hO
  have h1:=hO.1 j (by rw[H.size']; omega)
  rw[H.same j e1,ho]at h1
  simp only[Array.all_eq_true_iff_forall_mem]at h1
  have h2:=h1 e he
  simp only[hb,Bool.not_true,Bool.false_or]at h2
  exact cM h2
 ·have:j=n:=by have:=H.size; omega
  subst this
  rw[H.last]at ho
  cases ho
  exact H.edge e he hb
/-- What is left to do when the store may be done. -/
theorem AF.left(H:AF F ops ops' n A t tv y ob p){listed:Array Bool}(hcl:nA ops (fun j=>listed.getD j false=true))(hrd: ∀e∈A.after,Region.binds .any e=true→listed.getD e.on false=true){j:Nat}(hj:j<n)(hu:listed.getD j false=false): ∀o,ops[j]? =some o→Nq F (.tmp tv) y o=true:=by
 refine(H.cls j hj).resolve_left (fun hb=> ?_)
 have hD:nA ops (fun j=>j=n∨listed.getD j false=true):=by
  intro i o ho hi e he hbd
  rcases hi with rfl | hi
  ·rw[H.last]at ho
   cases ho
   exact .inr (hrd e he hbd)
  ·exact .inr (hcl i o ho hi e he hbd)
 rcases mC hD (.inl rfl) hb with e | e
 ·omega
 ·rw[hu]at e; cases e
theorem lJ{ds:List (Option Nat)}{mt:B→B→B}{q:Nat→B→Bool}{os:List Oper}{k:Nat}{L R:Lvl}(h:pO τ Sgs F ds mt q os (k+1) L=some R):(∀m b,pC m L=some b→q m b=true)∧ ∃L',Db τ Sgs F ds mt os L []=some L'∧pO τ Sgs F ds mt q os k L'=some R:=by
 unfold pO at h
 obtain⟨h1,h2⟩:=aJ h
 refine⟨fun m b hb=> ?_, ?_⟩
 ·have key: ∀L:Lvl,L.all (fun p=>q p.1 p.2)=true→pC m L=some b→q m b=true:=by
   intro L
   induction L with
   | nil=>intro _ h; cases h
   | cons p r ih=>
    obtain⟨m',b'⟩:=p
    intro h3 h4
    simp only[List.all_cons,Bool.and_eq_true]at h3
    simp only[pC]at h4
    cases e:Nat.beq m m' with
    | true=>
     have:=Nat.eq_of_beq_eq_true e
     subst this
     rw[e]at h4
     cases h4
     exact h3.1
    | false=>rw[e]at h4; exact ih h3.2 h4
  exact key L h1 hb
 ·split at h2
  ·rename_i L' hL; exact⟨L',hL,h2⟩
  ·cases h2
theorem QT{ds:List (Option Nat)}{b b1:B}{o:Oper}(h:rN τ Sgs F ds b o=some b1)(hc: ∀c,o.op≠ .call c): ∃b2,cOp τ F b o=some b2:=by
 obtain⟨b2,hr,_⟩:=Ey h
 refine⟨b2, ?_⟩
 unfold OT at hr
 have:dA o=none:=by
  unfold dA
  split
  ·rename_i c e; exact absurd e (hc c)
  ·rfl
 rw[this]at hr
 exact hr
theorem KM{o:Oper}{ev:Operand→Value}{t:TypeId}{v z:Operand}(ho:o.op= .store t v z){nx:Next}{w w':World}(h:(execOp ev o).run P w= .ok nx w'):nx= .skip:=by
 obtain⟨dst,op,ty',pos,after,guard⟩:=o
 simp only at ho
 subst ho
 simp only[execOp,Sem.run_bind]at h
 cases hr:(Instr.storeAt t (ev v) (ev z)).run P w with
 | halt x w2=>rw[hr]at h; simp [Result.andThen]at h
 | ok u w2=>
  rw[hr]at h
  simp only[Result.andThen_ok,Sem.run_pure,Result.ok.injEq]at h
  exact h.1.symm
theorem RT(hT:bC P τ)(H:AF F ops ops' n A t tv y ob p)(hO:mL F (ops'.toList.map (·.dst)) ops'=true){mt:B→B→B}{mf:Nat}{bf:B}{g0:G}{w0:World}{Q:Exit→Act→World→Prop}{a0:Act}
  (hQ: ∀a w,Sim g0 w0 (bf.S F.n xn) a w→(∀z,wH z ops.toList=true→a.tmps.getD z undef=a0.tmps.getD z undef)→Q .normal a w){bA:Nat}{arr:Array Value}{ty:TypeId}{vs:List Value}:
  ∀(k:Nat) (listed:Array Bool) (m:Nat) (L:Lvl) (b:B) (x:D) (a:Act) (w:World),pO τ Sgs F (ops'.toList.map (·.dst)) mt (HO A (.tmp tv) y ob) ops'.toList (k+1) L=some [(mf,bf)]→pC m L=some b→listed.size=n+1→listed.getD n false=false→
   (∀i,i<n+1→m.testBit i=listed.getD i false)→nA ops (fun j=>listed.getD j false=true)→(∀e∈A.after,Region.binds .any e=true→listed.getD e.on false=true)→(List.range ops.size).countP (fun i=> !listed.getD i true)=k+1→Ag F b x→
   Ce P τ Sgs F (ops'.toList.map (·.dst)) ops' ((List.range ops.size).filter fun j=> !listed.getD j true) x xn→Sim g0 w0 (b.S F.n x) a w→(∀z,wH z ops.toList=true→a.tmps.getD z undef=a0.tmps.getD z undef)→
   a.eval (.tmp tv)= .pointer (some ⟨bA,p,none⟩)→w.heap[bA]? =some (.cells arr ty (0,0))→(a.eval y).cells.toList=vs→
   wpAny P .any ops Q k (listed.setIfInBounds n true) a (w.setRow bA (arr.toList.take p++vs++arr.toList.drop (p+vs.length)).toArray):=by
 have hdn: ∀(listed:Array Bool),listed.size=n+1→ ∀j,j<n+1→listed.getD j true=listed.getD j false:=fun listed h1 j h2=>by
  have:j<listed.size:=by omega
  simp [Array.getD,this]
 -- what is known of the store
 have facts: ∀(k:Nat) (listed:Array Bool) (m:Nat) (L:Lvl) (b:B) (x:D) (a:Act) (w:World) (g:G),pO τ Sgs F (ops'.toList.map (·.dst)) mt (HO A (.tmp tv) y ob) ops'.toList (k+1) L=some [(mf,bf)]→pC m L=some b→listed.size=n+1→listed.getD n false=false→
   (∀i,i<n+1→m.testBit i=listed.getD i false)→nA ops (fun j=>listed.getD j false=true)→(∀e∈A.after,Region.binds .any e=true→listed.getD e.on false=true)→
   Ce P τ Sgs F (ops'.toList.map (·.dst)) ops' ((List.range ops.size).filter fun j=> !listed.getD j true) x xn→bQ g0 w0 (b.S F.n x) a g w→a.eval (.tmp tv)= .pointer (some ⟨bA,p,none⟩)→w.heap[bA]? =some (.cells arr ty (0,0))→(a.eval y).cells.toList=vs→
   g.own bA= .obj ob∧(execOp a.eval A).run P w= .ok .skip (w.setRow bA (arr.toList.take p++vs++arr.toList.drop (p+vs.length)).toArray):=by
  intro k listed m L b x a w g hL hm hsz hn hbit hcl hrd hrun hs hev hh hvs
  have hq:=(lJ hL).1 m b hm
  have hrdy:hJ m A=true:=by
   simp only[hJ,List.all_eq_true]
   intro e he
   cases hb:Region.binds .any e with
   | false=>rfl
   | true=>
    have h1:=hrd e (Array.mem_toList_iff.1 he) hb
    have h2:=H.edge e (Array.mem_toList_iff.1 he) hb
    simp only[Bool.not_true,Bool.false_or]
    rw[hbit e.on (by omega)]; exact h1
  simp only[HO,hrdy,Bool.not_true,Bool.false_or,Bool.and_eq_true]at hq
  rw[H.filt hsz hn]at hrun
  obtain⟨i,hi,hl⟩:=Br H hrun (fun j hj=>by
   rw[List.mem_filter,List.mem_range]at hj
   refine⟨hj.1,H.left hcl hrd hj.1 ?_⟩
   rw[←hdn listed hsz j (by omega)]
   simpa using hj.2)
  obtain⟨arr',ty',h1,h2,h3,h4⟩:=Gv (P:=P) hT H.op hs hq.1.1 hq.1.2 hq.2 hi hl
  rw[hev]at h2
  have e:g.β ob=bA:=by simpa using h2.symm
  rw[e]at h1 h3 h4
  rw[hh]at h1
  cases h1
  rw[hvs]at h4
  exact⟨h3,h4 w hh⟩
 intro k
 induction k with
 | zero=>
  intro listed m L b x a w hL hm hsz hn hbit hcl hrd hcount hA hrun hs hz hev hh hvs
  obtain⟨g,hsg⟩:=hs
  obtain⟨hown,hexec⟩:=facts 0 listed m L b x a w g hL hm hsz hn hbit hcl hrd hrun hsg hev hh hvs
  obtain⟨_,L',hL',hL0⟩:=lJ hL
  cases hL0
  rw[List.countP_eq_length_filter]at hcount
  rw[H.filt hsz hn]at hrun hcount
  have hnil:(List.range n).filter (fun j=> !listed.getD j true)=[]:=by
   rw[List.length_append,List.length_singleton]at hcount
   exact List.length_eq_zero_iff.1 (by omega)
  have hall: ∀j,j<n→listed.getD j false=true:=fun j hj=>by
   rw[←hdn listed hsz j (by omega)]
   have:=List.filter_eq_nil_iff.1 hnil j (List.mem_range.2 hj)
   simpa using this
  rw[hnil]at hrun
  obtain⟨o,x1,h1,hfo,hsd,hx⟩:=hrun
  have hx:x1=xn:=hx
  subst hx
  rw[H.last']at h1
  cases h1
  have hrdy:hJ m (vO n A)=true:=by
   simp only[hJ,List.all_eq_true]
   intro e he
   have he:e∈((List.range n).map fun j=>(⟨j, .data⟩:Edge)):=by simpa [vO]using he
   obtain⟨j,hj,rfl⟩:=List.mem_map.1 he
   have hj:=List.mem_range.1 hj
   simp only[hbit j (by omega),hall j hj,Bool.or_true]
  obtain⟨b1,b2,s1,s2,cv⟩:=(tA hL').2 m b hm n (vO n A) (by rw[Array.getElem?_toList]; exact H.last') (by rw[hbit n (by omega)]; exact hn) hrdy
  simp only[pC]at s2
  cases h3:Nat.beq (m||| 2 ^ n) mf with
  | false=>rw[h3]at s2; cases s2
  | true=>
   rw[h3]at s2
   cases s2
   obtain⟨hA1,hw1⟩:=hsd.step (P:=P) hT hA H.last' s1
   obtain⟨hA2,cs⟩:=cv x1 hA1
   have hk:=hw1 g0 w0 NoQ (fun a' w'=>Sim g0 w0 (bf.S F.n x1) a' w'∧a'=a) a w ⟨g,hsg⟩ (fun v w' hs'=>⟨cs _ _ _ _ hs',by show(match A.dst with | some d=>_ | none=>a)=a; rw[H.dst]⟩)
   have hwp:=Sh hk H.last' H.guard
   unfold Oper.wp at hwp
   have hexec':(execOp a.eval (vO n A)).run P w= .ok .skip (w.setRow bA (arr.toList.take p++vs++arr.toList.drop (p+vs.length)).toArray):=hexec
   rw[hexec']at hwp
   have hwp:Sim g0 w0 (bf.S F.n x1) (a.put (vO n A).dst undef) _∧_=a:=hwp
   rw[hwp.2]at hwp
   refine⟨?_,hQ a _ hwp.1 hz⟩
   apply List.eq_nil_iff_forall_not_mem.2
   intro j hj
   obtain⟨h1,o,ho,_⟩:=mem_ready.1 hj
   have hlt:j<ops.size:=(Array.getElem?_eq_some_iff.1 ho).1
   have hsize:=H.size
   by_cases e:j=n
   ·subst e
    have:(listed.setIfInBounds j true).getD j true=true:=by simp [Array.getD]
    rw[this]at h1; cases h1
   ·rw[getD_set_ne true (Ne.symm e),hdn listed hsz j (by omega),hall j (by omega)]at h1
    cases h1
 | succ k ih=>
  intro listed m L b x a w hL hm hsz hn hbit hcl hrd hcount hA hrun hs hz hev hh hvs
  obtain⟨g,hsg⟩:=hs
  obtain⟨hown,_⟩:=facts (k+1) listed m L b x a w g hL hm hsz hn hbit hcl hrd hrun hsg hev hh hvs
  have hsize:=H.size
  refine⟨fun hr=> ?_,fun i hi=> ?_⟩
  ·exfalso
   have hall:=Bg (by simpa [hsize]using hsz) (H.edges hO) hr
   have hnil:(List.range n).filter (fun j=> !listed.getD j true)=[]:=List.filter_eq_nil_iff.2 fun j hj=>by
    have hj:=List.mem_range.1 hj
    have:=hall j (by omega)
    rw[getD_set_ne false (by omega)]at this
    rw[hdn listed hsz j (by omega),this]; simp
   rw[List.countP_eq_length_filter,H.filt hsz hn,hnil]at hcount
   simp at hcount
  ·obtain⟨hun,o,ho,hafter⟩:=mem_ready.1 hi
   have hlt:i<ops.size:=(Array.getElem?_eq_some_iff.1 ho).1
   have hin:i≠n:=fun e=>by
    subst e
    have:(listed.setIfInBounds i true).getD i true=true:=by simp [Array.getD]
    rw[this]at hun; cases hun
   have hlt':i<n:=by omega
   rw[getD_set_ne true (Ne.symm hin)]at hun
   have hun':listed.getD i false=false:=by rw[←hdn listed hsz i (by omega)]; exact hun
   have ho':ops'[i]? =some o:=by rw[H.same i hlt']; exact ho
   have haft: ∀e∈o.after,Region.binds .any e=true→listed.getD e.on false=true:=fun e he hb=>by
    have h1:=hafter e he hb
    have h2:=H.edges hO i o ho e he hb
    rwa[getD_set_ne false (by omega)]at h1
   have hcls:=H.left hcl hrd hlt' hun' o ho
   have hcl':nA ops (fun j=>(listed.setIfInBounds i true).getD j false=true):=by
    intro j oj hoj hj e he hb
    by_cases hij:i=j
    ·subst hij
     rw[ho]at hoj; cases hoj
     exact getD_set_true (haft e he hb)
    ·rw[getD_set_ne false hij]at hj
     exact getD_set_true (hcl j oj hoj hj e he hb)
   have hclO:nA ops' (fun j=>(listed.setIfInBounds i true).getD j false=true):=by
    intro j oj hoj hj e he hb
    have hjlt:j<n+1:=by have:=(Array.getElem?_eq_some_iff.1 hoj).1; have:=H.size'; omega
    have hjn:j≠n:=fun e=>by
     subst e
     rw[getD_set_ne false hin,hn]at hj; cases hj
    rw[H.same j (by omega)]at hoj
    exact hcl' j oj hoj hj e he hb
   have hset:(listed.setIfInBounds i true).getD i false=true:=by
    have:i<listed.size:=by omega
    simp [Array.getD,this]
   obtain⟨A',C,f1,f2,f3⟩:=zG (ops:=ops) (by rw[hsize]; exact hsz) hlt hun
   rw[f1]at hrun
   have hO2:=hO
   simp only[mL,Bool.and_eq_true,List.all_eq_true,List.mem_range]at hO2
   obtain⟨hfo,x1,hsd,hrun1⟩:=hrun.front ho' (fun j hj a' ha'=>by
    obtain⟨j1,j2⟩:=f3 j hj
    have h1:=hO2.2 i (by rw[H.size']; omega) j j1
    rw[ha',ho']at h1
    simp only[Bool.or_eq_true]at h1
    refine h1.resolve_left (fun h2=> ?_)
    have:=mC (D:=fun j=>(listed.setIfInBounds i true).getD j false=true) hclO hset h2
    rw[getD_set_ne false (by omega)]at this
    rw[hdn listed hsz j (by omega)]at j2
    rw[j2]at this; cases this)
   have hrdy:hJ m o=true:=by
    simp only[hJ,List.all_eq_true]
    intro e he
    cases hb:Region.binds .any e with
    | false=>rfl
    | true=>
     have h1:=haft e (Array.mem_toList_iff.1 he) hb
     have h2:=H.edges hO i o ho e (Array.mem_toList_iff.1 he) hb
     simp only[Bool.not_true,Bool.false_or]
     rw[hbit e.on (by omega)]; exact h1
   obtain⟨_,L',hL',hL0⟩:=lJ hL
   obtain⟨b1,b2,s1,s2,cv⟩:=(tA hL').2 m b hm i o (by rw[Array.getElem?_toList]; exact ho') (by rw[hbit i (by omega)]; exact hun') hrdy
   obtain⟨hA1,hw1⟩:=hsd.step (P:=P) hT hA ho' s1
   obtain⟨hA2,cs⟩:=cv x1 hA1
   have hk:=hw1 g0 w0 NoQ (fun a' w'=>Sim g0 w0 (b2.S F.n x1) a' w') a w ⟨g,hsg⟩ (fun v w' hs'=>cs _ _ _ _ hs')
   have hg:o.guard=none:=by
    unfold Nq at hcls
    simp only[Bool.and_eq_true,Option.isNone_iff_eq_none]at hcls
    exact hcls.1
   have hwp:=Sh hk ho' hg
   have hwant: ∀a:Act,Region.wanted o (yielded ops a.tmps)=true:=fun a=>by unfold Region.wanted; rw[hg]
   have next: ∀(u:Value) (w2:World),Sim g0 w0 (b2.S F.n x1) (a.put o.dst u) w2→(a.put o.dst u).eval (.tmp tv)=a.eval (.tmp tv)→(a.put o.dst u).eval y=a.eval y→w2.heap[bA]? =w.heap[bA]? →
     wpAny P .any ops Q k ((listed.setIfInBounds n true).setIfInBounds i true) (a.put o.dst u) (w2.setRow bA (arr.toList.take p++vs++arr.toList.drop (p+vs.length)).toArray):=fun u w2 hs2 e1 e2 e3=>by
    rw[Array.setIfInBounds_comm _ _ (Ne.symm hin)]
    refine ih (listed.setIfInBounds i true) (m||| 2 ^ i) L' b2 x1 _ w2 hL0 s2 (by simpa using hsz) (by rw[getD_set_ne false hin]; exact hn) (fun j hj=> ?_) hcl' (fun e he hb=>getD_set_true (hrd e he hb)) ?_ hA2 (by rw[f2]; exact hrun1) hs2 (fun z hno=> ?_) (by rw[e1]; exact hev) (by rw[e3]; exact hh) (by rw[e2]; exact hvs)
    ·rw[Nat.testBit_or,Nat.testBit_two_pow,hbit j hj]
     by_cases hij:i=j
     ·subst hij; rw[hset]; simp
     ·rw[getD_set_ne false hij]; simp [hij]
    ·rw[List.countP_eq_length_filter]at hcount ⊢
     rw[f1]at hcount
     rw[f2]
     simp only[List.length_append,List.length_cons]at hcount ⊢
     omega
    ·have hne:o.dst≠some z:=by
      have key: ∀l:List Oper,wH z l=true→ ∀o∈l,o.dst≠some z:=by
       intro l
       induction l with
       | nil=>intro _ o h; cases h
       | cons p r ihl=>
        intro h o hm
        simp only[wH,Bool.and_eq_true,Bool.not_eq_true',decide_eq_false_iff_not]at h
        cases hm with
        | head=>exact h.1
        | tail _ hm=>exact ihl h.2 o hm
      exact key ops.toList hno o (Array.mem_toList_iff.2 (Array.mem_of_getElem? ho))
     rw[xI hne]; exact hz z hno
   unfold Nq at hcls
   simp only[Bool.and_eq_true]at hcls
   have hcls:=hcls.2
   split at hcls
   ·rename_i d t' z i' hd hop
    simp only[Bool.and_eq_true]at hcls
    obtain⟨b3,hb3⟩:=QT s1 (fun c e=>by rw[hop]at e; cases e)
    obtain⟨u,hu⟩:=NI (P:=P) hT hA hd hop (by simp only[Bool.and_eq_true]; exact hcls.2) hsg (Kx hsd hg (fun c e=>by rw[hop]at e; cases e)) hb3
    unfold Oper.wp at hwp
    rw[hu]at hwp
    have hwp:Sim g0 w0 (b2.S F.n x1) (a.put o.dst u) w:=hwp
    have hev1: ∀v,OY d v=true→(a.put o.dst u).eval v=a.eval v:=fun v hv=>Act.eval_put (fun d' e1 e2=>by
     rw[hd]at e1
     cases e1
     subst e2
     exact IE hv rfl)
    refine BH ho true (hwant a) ?_
    show o.wp P a _ _ _
    unfold Oper.wp
    rw[hu]
    exact next u w hwp (hev1 _ hcls.1.1) (hev1 _ hcls.1.2) rfl
   ·rename_i t' tx z hd hop
    split at hcls<;>try cases hcls
    rename_i k0 k1 j0 p0 n0 q0 hsh
    obtain⟨b3,hb3⟩:=QT s1 (fun c e=>by rw[hop]at e; cases e)
    unfold Oper.wp at hwp
    cases hr:(execOp a.eval o).run P w with
    | halt x2 w2=>
     rw[hr]at hwp
     exfalso
     cases x2<;>exact hwp
    | ok nx w2=>
     have:=KM hop hr
     subst this
     rw[hr]at hwp
     have hwp:Sim g0 w0 (b2.S F.n x1) (a.put o.dst undef) w2:=hwp
     obtain⟨r1,r2⟩:=NJ (P:=P) (c:=(arr.toList.take p++vs++arr.toList.drop (p+vs.length)).toArray) hT hA hd hop hsh hsg (Kx hsd hg (fun c e=>by rw[hop]at e; cases e)) hb3 hown hr
     refine BH ho true (hwant a) ?_
     show o.wp P a _ _ _
     unfold Oper.wp
     rw[r1]
     exact next undef w2 hwp (by rw[hd]; rfl) (by rw[hd]; rfl) r2
   ·cases hcls
/-- A region's run in any order, its last store put off. -/
theorem Pw(hT:bC P τ)(H:AF F ops ops' n A t tv y ob p)(hO:mL F (ops'.toList.map (·.dst)) ops'=true){mt:B→B→B}{mf:Nat}{bf:B}{g0:G}{w0:World}{Q:Exit→Act→World→Prop}{a0:Act}
  (hQ: ∀a w,Sim g0 w0 (bf.S F.n xn) a w→(∀z,wH z ops.toList=true→a.tmps.getD z undef=a0.tmps.getD z undef)→Q .normal a w):
  ∀(k:Nat) (listed:Array Bool) (m:Nat) (L:Lvl) (b:B) (x:D) (a:Act) (w:World),pO τ Sgs F (ops'.toList.map (·.dst)) mt (HO A (.tmp tv) y ob) ops'.toList (k+1) L=some [(mf,bf)]→pC m L=some b→listed.size=n+1→listed.getD n false=false→
   (∀i,i<n+1→m.testBit i=listed.getD i false)→nA ops (fun j=>listed.getD j false=true)→(List.range ops.size).countP (fun i=> !listed.getD i true)=k+1→Ag F b x→
   Ce P τ Sgs F (ops'.toList.map (·.dst)) ops' ((List.range ops.size).filter fun j=> !listed.getD j true) x xn→Sim g0 w0 (b.S F.n x) a w→(∀z,wH z ops.toList=true→a.tmps.getD z undef=a0.tmps.getD z undef)→
   wpAny P .any ops Q (k+1) listed a w:=by
 have hdn: ∀(listed:Array Bool),listed.size=n+1→ ∀j,j<n+1→listed.getD j true=listed.getD j false:=fun listed h1 j h2=>by
  have:j<listed.size:=by omega
  simp [Array.getD,this]
 have hsize:=H.size
 -- the store comes now
 have now: ∀(k:Nat) (listed:Array Bool) (m:Nat) (L:Lvl) (b:B) (x:D) (a:Act) (w:World),pO τ Sgs F (ops'.toList.map (·.dst)) mt (HO A (.tmp tv) y ob) ops'.toList (k+1) L=some [(mf,bf)]→pC m L=some b→listed.size=n+1→listed.getD n false=false→
   (∀i,i<n+1→m.testBit i=listed.getD i false)→nA ops (fun j=>listed.getD j false=true)→(∀e∈A.after,Region.binds .any e=true→listed.getD e.on false=true)→(List.range ops.size).countP (fun i=> !listed.getD i true)=k+1→Ag F b x→
   Ce P τ Sgs F (ops'.toList.map (·.dst)) ops' ((List.range ops.size).filter fun j=> !listed.getD j true) x xn→Sim g0 w0 (b.S F.n x) a w→(∀z,wH z ops.toList=true→a.tmps.getD z undef=a0.tmps.getD z undef)→
   wpOp P ops Q n (wpAny P .any ops Q k (listed.setIfInBounds n true)) a w:=by
  intro k listed m L b x a w hL hm hsz hn hbit hcl hrd hcount hA hrun hs hz
  have hq:=(lJ hL).1 m b hm
  have hrdy:hJ m A=true:=by
   simp only[hJ,List.all_eq_true]
   intro e he
   cases hb:Region.binds .any e with
   | false=>rfl
   | true=>
    have h1:=hrd e (Array.mem_toList_iff.1 he) hb
    have h2:=H.edge e (Array.mem_toList_iff.1 he) hb
    simp only[Bool.not_true,Bool.false_or]
    rw[hbit e.on (by omega)]; exact h1
  simp only[HO,hrdy,Bool.not_true,Bool.false_or,Bool.and_eq_true]at hq
  have hrun2:=hrun
  rw[H.filt hsz hn]at hrun2
  obtain⟨i,hi,hl⟩:=Br H hrun2 (fun j hj=>by
   rw[List.mem_filter,List.mem_range]at hj
   refine⟨hj.1,H.left hcl hrd hj.1 ?_⟩
   rw[←hdn listed hsz j (by omega)]
   simpa using hj.2)
  obtain⟨g,hsg⟩:=hs
  obtain⟨arr,ty,h1,h2,h3,h4⟩:=Gv (P:=P) hT H.op hsg hq.1.1 hq.1.2 hq.2 hi hl
  have hp:=RT hT H hO hQ k listed m L b x a w hL hm hsz hn hbit hcl hrd hcount hA hrun ⟨g,hsg⟩ hz h2 h1 rfl
  refine BH H.last true (by unfold Region.wanted; rw[H.guard]) ?_
  show A.wp P a w _ _
  unfold Oper.wp
  rw[h4 w h1]
  show wpAny P .any ops Q k (listed.setIfInBounds n true) (a.put A.dst undef) _
  rw[H.dst]
  exact hp
 intro k
 induction k with
 | zero=>
  intro listed m L b x a w hL hm hsz hn hbit hcl hcount hA hrun hs hz
  have hnil:(List.range n).filter (fun j=> !listed.getD j true)=[]:=by
   rw[List.countP_eq_length_filter,H.filt hsz hn,List.length_append,List.length_singleton]at hcount
   exact List.length_eq_zero_iff.1 (by omega)
  have hall: ∀j,j<n→listed.getD j false=true:=fun j hj=>by
   rw[←hdn listed hsz j (by omega)]
   have:=List.filter_eq_nil_iff.1 hnil j (List.mem_range.2 hj)
   simpa using this
  refine⟨fun hr=> ?_,fun i hi=> ?_⟩
  ·exfalso
   have:=Bg (by rw[hsize]; exact hsz) (H.edges hO) hr n (by omega)
   rw[hn]at this; cases this
  ·obtain⟨hun,o,ho,_⟩:=mem_ready.1 hi
   have hlt:i<ops.size:=(Array.getElem?_eq_some_iff.1 ho).1
   have hin:i=n:=by
    rcases Nat.lt_or_ge i n with h | h
    ·rw[hdn listed hsz i (by omega),hall i h]at hun; cases hun
    ·omega
   rw[hin]
   exact now 0 listed m L b x a w hL hm hsz hn hbit hcl (fun e he hb=>hall e.on (H.edge e he hb)) hcount hA hrun hs hz
 | succ k ih=>
  intro listed m L b x a w hL hm hsz hn hbit hcl hcount hA hrun hs hz
  refine⟨fun hr=> ?_,fun i hi=> ?_⟩
  ·exfalso
   have:=Bg (by rw[hsize]; exact hsz) (H.edges hO) hr n (by omega)
   rw[hn]at this; cases this
  ·obtain⟨hun,o,ho,haft⟩:=mem_ready.1 hi
   have hlt:i<ops.size:=(Array.getElem?_eq_some_iff.1 ho).1
   by_cases hin:i=n
   ·have hoA:o=A:=by rw[hin,H.last]at ho; exact(Option.some.inj ho).symm
    rw[hoA]at haft
    rw[hin]
    exact now (k+1) listed m L b x a w hL hm hsz hn hbit hcl haft hcount hA hrun hs hz
   have hlt':i<n:=by omega
   have hun':listed.getD i false=false:=by rw[←hdn listed hsz i (by omega)]; exact hun
   have ho':ops'[i]? =some o:=by rw[H.same i hlt']; exact ho
   have hcl':nA ops (fun j=>(listed.setIfInBounds i true).getD j false=true):=by
    intro j oj hoj hj e he hb
    by_cases hij:i=j
    ·subst hij
     rw[ho]at hoj; cases hoj
     exact getD_set_true (haft e he hb)
    ·rw[getD_set_ne false hij]at hj
     exact getD_set_true (hcl j oj hoj hj e he hb)
   have hclO:nA ops' (fun j=>(listed.setIfInBounds i true).getD j false=true):=by
    intro j oj hoj hj e he hb
    have hjlt:j<n+1:=by have:=(Array.getElem?_eq_some_iff.1 hoj).1; have:=H.size'; omega
    have hjn:j≠n:=fun e=>by
     subst e
     rw[getD_set_ne false hin,hn]at hj; cases hj
    rw[H.same j (by omega)]at hoj
    exact hcl' j oj hoj hj e he hb
   have hset:(listed.setIfInBounds i true).getD i false=true:=by
    have:i<listed.size:=by omega
    simp [Array.getD,this]
   obtain⟨A',C,f1,f2,f3⟩:=zG (ops:=ops) (by rw[hsize]; exact hsz) hlt hun
   rw[f1]at hrun
   have hO2:=hO
   simp only[mL,Bool.and_eq_true,List.all_eq_true,List.mem_range]at hO2
   obtain⟨hfo,x1,hsd,hrun1⟩:=hrun.front ho' (fun j hj a' ha'=>by
    obtain⟨j1,j2⟩:=f3 j hj
    have h1:=hO2.2 i (by rw[H.size']; omega) j j1
    rw[ha',ho']at h1
    simp only[Bool.or_eq_true]at h1
    refine h1.resolve_left (fun h2=> ?_)
    have:=mC (D:=fun j=>(listed.setIfInBounds i true).getD j false=true) hclO hset h2
    rw[getD_set_ne false (by omega)]at this
    rw[hdn listed hsz j (by omega)]at j2
    rw[j2]at this; cases this)
   have hrdy:hJ m o=true:=by
    simp only[hJ,List.all_eq_true]
    intro e he
    cases hb:Region.binds .any e with
    | false=>rfl
    | true=>
     have h1:=haft e (Array.mem_toList_iff.1 he) hb
     have h2:=H.edges hO i o ho e (Array.mem_toList_iff.1 he) hb
     simp only[Bool.not_true,Bool.false_or]
     rw[hbit e.on (by omega)]; exact h1
   obtain⟨_,L',hL',hL0⟩:=lJ hL
   obtain⟨b1,b2,s1,s2,cv⟩:=(tA hL').2 m b hm i o (by rw[Array.getElem?_toList]; exact ho') (by rw[hbit i (by omega)]; exact hun') hrdy
   obtain⟨hA1,hw1⟩:=hsd.step (P:=P) hT hA ho' s1
   obtain⟨hA2,cs⟩:=cv x1 hA1
   have hk:=hw1 g0 w0 Q (wpAny P .any ops Q (k+1) (listed.setIfInBounds i true)) a w hs (fun v w' hs'=>by
    refine ih (listed.setIfInBounds i true) (m||| 2 ^ i) L' b2 x1 _ w' hL0 s2 (by simpa using hsz) (by rw[getD_set_ne false hin]; exact hn) (fun j hj=> ?_) hcl' ?_ hA2 (by rw[f2]; exact hrun1) (cs _ _ _ _ hs') (fun z hno=> ?_)
    ·rw[Nat.testBit_or,Nat.testBit_two_pow,hbit j hj]
     by_cases hij:i=j
     ·subst hij; rw[hset]; simp
     ·rw[getD_set_ne false hij]; simp [hij]
    ·rw[List.countP_eq_length_filter]at hcount ⊢
     rw[f1]at hcount
     rw[f2]
     simp only[List.length_append,List.length_cons]at hcount ⊢
     omega
    ·have hne:o.dst≠some z:=by
      have key: ∀l:List Oper,wH z l=true→ ∀o∈l,o.dst≠some z:=by
       intro l
       induction l with
       | nil=>intro _ o h; cases h
       | cons p r ihl=>
        intro h o hm
        simp only[wH,Bool.and_eq_true,Bool.not_eq_true',decide_eq_false_iff_not]at h
        cases hm with
        | head=>exact h.1
        | tail _ hm=>exact ihl h.2 o hm
      exact key ops.toList hno o (Array.mem_toList_iff.2 (Array.mem_of_getElem? ho))
     rw[xI hne]; exact hz z hno)
   have hy:yielded ops' a.tmps=yielded ops a.tmps:=by
    funext g
    unfold yielded
    have:(ops'[g]?).bind (·.dst)=(ops[g]?).bind (·.dst):=by
     have h1:=congrArg (fun l=>(l[g]?).bind id) H.ds
     simpa [List.getElem?_map,Option.bind_map]using h1
    rw[this]
   unfold wpOp at hk ⊢
   rw[ho']at hk
   rw[ho]
   rw[hy]at hk
   exact hk
end

/-! ### all together -/
theorem CG: ∀(l:List Oper) (n:Nat),(kB l n).length=l.length
 | [],_=>rfl
 | [_],_=>rfl
 | _::p::r,n=>by
  have:=CG (p::r) (n+1)
  simp only[kB,List.length_cons]at this ⊢
  omega
theorem CH: ∀(l:List Oper) (n i:Nat),i+1<l.length→(kB l n)[i]? =l[i]?
 | [],_,_,h=>by simp at h
 | [_],_,i,h=>by simp at h
 | o::p::r,n,0,_=>rfl
 | o::p::r,n,i+1,h=>by
  simp only[kB,List.getElem?_cons_succ]
  exact CH (p::r) (n+1) i (by simpa using h)
theorem AG: ∀(l:List Oper) (n i:Nat) (A:Oper),i+1=l.length→l[i]? =some A→(kB l n)[i]? =some (vO (n+i) A)
 | [],_,_,_,h,_=>by simp at h
 | [o],n,i,A,h,h2=>by
  have:i=0:=by simpa using h
  subst this
  cases h2
  rfl
 | o::p::r,n,0,A,h,_=>by simp at h
 | o::p::r,n,i+1,A,h,h2=>by
  simp only[kB,List.getElem?_cons_succ]
  rw[AG (p::r) (n+1) i A (by simpa using h) (by simpa using h2),show n+1+i=n+(i+1)by omega]
theorem EL: ∀(l:List Oper) (n:Nat),(kB l n).map (·.dst)=l.map (·.dst)
 | [],_=>rfl
 | [_],_=>rfl
 | o::p::r,n=>by
  simp only[kB,List.map_cons]
  rw[EL (p::r) (n+1)]
  rfl
section
variable {P:Program} {τ:TypeId→Option TI} {Sgs:FuncId→List Sg} {F:FA} {ops:Array Oper} {b b1:B} {mt:B→B→B}
theorem vK{ds:List (Option Nat)}{q:Nat→B→Bool}{os:List Oper}: ∀ {k:Nat} {L R:Lvl},pO τ Sgs F ds mt q os k L=some R→GH τ Sgs F ds mt os k L=some R
 | 0,L,R,h=>h
 | k+1,L,R,h=>by
  obtain⟨_,L',h1,h2⟩:=lJ h
  simp only[GH,h1]
  exact vK h2
theorem PM(hT:bC P τ)(h:Qk τ Sgs F mt b ops=some b1):(Hq τ Sgs F (ops.toList.map (·.dst)) b ops.toList).isSome=true∧ ∀x x1,Ag F b x→Ce P τ Sgs F (ops.toList.map (·.dst)) ops (List.range' 0 ops.toList.length) x x1→
  Ag F b1 x1∧ ∀(g0:G) (w0:World) (Q:Exit→Act→World→Prop) (a:Act) (w:World),Sim g0 w0 (b.S F.n x) a w→(∀a' w',Sim g0 w0 (b1.S F.n x1) a' w'→(∀z,wH z ops.toList=true→a'.tmps.getD z undef=a.tmps.getD z undef)→Q .normal a' w')→wpAny P .any ops Q ops.size (Array.replicate ops.size false) a w:=by
 unfold Qk at h
 split at h<;>try cases h
 rename_i A hA
 split at h<;>try cases h
 rename_i t tv y hd ho hg
 split at h<;>try cases h
 rename_i ob p hsh
 obtain⟨hc,h⟩:=aJ h
 simp only[Bool.and_eq_true]at hc
 obtain⟨c1,c2,c3,c4⟩:=hc
 split at h<;>try cases h
 rename_i mf hlv
 obtain⟨n,hn⟩: ∃n,ops.size=n+1:=by
  cases e:ops.size with
  | zero=>
   rw[e]at hA
   have:ops.toList.length=0:=by simpa using e
   rw[List.length_eq_zero_iff.1 this]at hA; cases hA
  | succ n=>exact⟨n,rfl⟩
 have hn1:ops.size - 1=n:=by omega
 rw[hn1]at c1 c2 hA
 have hlast:ops[n]? =some A:=by
  have:=congrArg (·[0]?) hA
  simp only[List.getElem?_drop,Nat.add_zero,List.getElem?_cons_zero,Array.getElem?_toList]at this
  exact this
 have H:AF F ops (kB ops.toList 0).toArray n A t tv y ob p:= {
  size:=hn
  size':=by rw[List.size_toArray,CG]; simpa using hn
  same:=fun i hi=>by rw[List.getElem?_toArray,CH _ _ _ (by simp; omega),Array.getElem?_toList]
  last:=hlast
  last':=by rw[List.getElem?_toArray,AG ops.toList 0 n A (by simp; omega) (by rw[Array.getElem?_toList]; exact hlast),Nat.zero_add]
  ds:=EL _ _
  op:=ho
  dst:=hd
  guard:=hg
  sh:=hsh
  edge:=fun e he hb=>by
   have:=Array.all_eq_true_iff_forall_mem.1 c1 e he
   simp only[hb,Bool.not_true,Bool.false_or]at this
   exact cM this
  cls:=fun j hj=>by
   have:=List.all_eq_true.1 c2 j (List.mem_range.2 hj)
   simp only[Bool.or_eq_true]at this
   refine this.imp id (fun h2 o ho=> ?_)
   rw[ho]at h2
   exact h2 }
 refine⟨c4,fun x x1 hAg hrun=> ?_⟩
 have hrun':=Bq H hrun
 rw[←H.ds]at hrun'
 have hl:ops.toList.length=ops.size:=by simp
 have hle:(List.range ops.size).filter (fun j=> !(Array.replicate ops.size false).getD j true)=List.range' 0 ops.toList.length:=by
  rw[List.filter_eq_self.2 (fun j hj=>by
   have:=List.mem_range.1 hj
   simp [Array.getD,this]),List.range_eq_range']
  simp
 refine⟨?_,fun g0 w0 Q a w hs hQ=> ?_⟩
 ·have:=NE hT c3 (kB ops.toList 0).toArray.size 0 0 [(0,b)] b x (by simp) (by
   have:=vK hlv
   rw[H.size', ←hn]
   exact this) (by simp [pC]) (fun i hi=>by simp) hAg (by rw[H.size', ←hn, ←hl]; exact hrun')
  exact this
 ·rw[hn]at hlv
  have h2:=Pw (a0:=a) (Q:=Q) hT H c3 hQ n (Array.replicate ops.size false) 0 [(0,b)] b x a w hlv (by simp [pC]) (by simpa using hn) (by simp [Array.getD,hn]) (fun i hi=>by simp [Array.getD,hn,hi]) (fun j o ho hj=>by
   have:=(Array.getElem?_eq_some_iff.1 ho).1
   simp [Array.getD,this]at hj) (by
   rw[List.countP_eq_length_filter,hle]; simp [hn]) hAg (by rw[hle]; exact hrun') hs (fun _ _=>rfl)
  rw[←hn]at h2
  exact h2
end
end Go.Own

/- Code's runs are what their data tell: the theorem. -/
namespace Go.Own
open Go.RowKit

section
variable {P:Program} {τ:TypeId→Option TI} {An:FuncId→FA} {Sgs:FuncId→List Sg}

theorem Cj{ops:Array Oper}{i:Nat}{o:Oper}{r:List Oper}(h:ops.toList.drop i=o::r):ops[i]? =some o∧ops.toList.drop (i+1)=r:=by
 have h1:(ops.toList.drop i)[0]? =some o:=by rw[h]; rfl
 rw[List.getElem?_drop,Nat.add_zero,Array.getElem?_toList]at h1
 refine⟨h1, ?_⟩
 have:(ops.toList.drop i).drop 1=r:=by rw[h]; rfl
 rw[List.drop_drop]at this
 exact this

/-- Behind one operation, the rest. -/
theorem xF(hT:bC P τ){F:FA}{ops:Array Oper}{i:Nat}{o:Oper}{r:List Oper}{x x1 x2:D}{b b':B}(hdrop:ops.toList.drop i=o::r)(hA:Ag F b x)(hsd:SD P τ Sgs F (ops.toList.map (·.dst)) o x x1)(hb:OW τ Sgs F (ops.toList.map (·.dst)) b (o::r)=some b')
  (ih:Mot P τ Sgs (.ops F (ops.toList.map (·.dst)) r x1 x2)):
  Ag F b' x2∧(∀g0 w0 (Q:Exit→Act→World→Prop) a w,Sim g0 w0 (b.S F.n x) a w→(∀a' w',Sim g0 w0 (b'.S F.n x2) a' w'→(∀z,wH z (o::r)=true→a'.tmps.getD z undef=a.tmps.getD z undef)→Q .normal a' w')→wpOps P ops Q (List.range' i (o::r).length) a w)∧
   ∀b2,Hq τ Sgs F (ops.toList.map (·.dst)) b (o::r)=some b2→Ce P τ Sgs F (ops.toList.map (·.dst)) ops (List.range' i (o::r).length) x x2:=by
 obtain⟨hi,hdrop'⟩:=Cj hdrop
 simp only[OW]at hb
 split at hb<;>try cases hb
 rename_i b1 hb1
 obtain⟨hA1,hw1⟩:=hsd.step hT hA hi hb1
 obtain⟨hA2,hw2,hr2⟩:=ih ops (i+1) hdrop' rfl b1 b' hb hA1
 refine⟨hA2,fun g0 w0 Q a w hs hQ=> ?_,fun b2 hK=> ?_⟩
 ·rw[List.length_cons,List.range'_succ,wpOps_cons]
  refine hw1 g0 w0 Q _ a w hs (fun v w' hs'=>hw2 g0 w0 Q _ w' hs' (fun a' w'' hs'' hz=>hQ a' w'' hs'' (fun z hno=> ?_)))
  simp only[wH,Bool.and_eq_true,Bool.not_eq_true',decide_eq_false_iff_not]at hno
  rw[hz z hno.2]
  exact xI hno.1
 ·obtain⟨h0,b1',h1,h2⟩:=Mx hK
  rw[hb1]at h1; cases h1
  rw[List.length_cons,List.range'_succ]
  exact⟨o,x1,hi,Cg.of hA h0,hsd,hr2 b2 h2⟩

theorem HC{K:Act→World→Prop}{Q:Exit→Act→World→Prop}{e:Ek}(he:e≠ .n){a:Act}{w:World}:Exit.then K Q e.exit a w=Q e.exit a w:=by
 cases e with
 | n=>exact absurd rfl he
 | r=>rfl
 | e i=>rfl

theorem Kk{Q:Exit→Act→World→Prop}{id:Nat}{e:Ek}{a:Act}{w:World}(h:Q (nR id e).exit a w):Exit.inBlock id Q e.exit a w:=by
 unfold nR at h
 cases e with
 | n=>rw[if_neg (by simp)]at h; exact h
 | r=>rw[if_neg (by simp)]at h; exact h
 | e i=>
  by_cases hi:i=id
  ·subst hi
   rw[if_pos rfl]at h
   simp only[Exit.inBlock,Ek.exit,if_true]
   exact h
  ·rw[if_neg (by simpa using hi)]at h
   simp only[Exit.inBlock,Ek.exit,if_neg hi]
   exact h

theorem CF{F:FA}: ∀ {l:List V} {i0:Nat},pH F i0 l=true→ ∀ {i:Nat} {v:V},l[i]? =some v→fits v (F.shOf (i0+i))=true
 | [],_,_,i,v,h=>by simp at h
 | p::r,i0,h,0,v,h2=>by
  simp only[pH,Bool.and_eq_true]at h
  simp only[List.getElem?_cons_zero,Option.some.injEq]at h2
  subst h2; exact h.1
 | p::r,i0,h,i+1,v,h2=>by
  simp only[pH,Bool.and_eq_true]at h
  simp only[List.getElem?_cons_succ]at h2
  have:=CF h.2 h2
  rwa[show i0+1+i=i0+(i+1)by omega]at this
theorem CE{F:FA}: ∀ {l:List (List T)} {i0:Nat},rG F i0 l=true→ ∀ {i:Nat} {v:List T},l[i]? =some v→eP v (F.obOf (par+(i0+i)))=true
 | [],_,_,i,v,h=>by simp at h
 | p::r,i0,h,0,v,h2=>by
  simp only[rG,Bool.and_eq_true]at h
  simp only[List.getElem?_cons_zero,Option.some.injEq]at h2
  subst h2; exact h.1
 | p::r,i0,h,i+1,v,h2=>by
  simp only[rG,Bool.and_eq_true]at h
  simp only[List.getElem?_cons_succ]at h2
  have:=CE h.2 h2
  rwa[show i0+1+i=i0+(i+1)by omega]at this
theorem Gk{x:D}: ∀ {l l':List (List T)} {i0:Nat},yU x i0 l=some l'→l'.length=l.length∧ ∀j,j<l.length→l'[j]? =x.ob (par+(i0+j))
 | [],l',i0,h=>by cases h; exact⟨rfl,fun j hj=>by simp at hj⟩
 | p::r,l',i0,h=>by
  unfold yU at h
  split at h<;>try cases h
  rename_i cs css h1 h2
  obtain⟨q1,q2⟩:=Gk h2
  refine⟨by simp [q1],fun j hj=> ?_⟩
  cases j with
  | zero=>simp [h1]
  | succ j=>
   have:=q2 j (by simpa using hj)
   simp only[List.getElem?_cons_succ]
   rw[this,show i0+1+j=i0+(j+1)by omega]

theorem Nh(hM:P.follows .mixedOrders=true)(hT:bC P τ)(hS: ∀f sg,sg∈Sgs f→ ∀fn c,P.funcs[f]? =some fn→fn.body=some c→fnC τ An Sgs f sg fn c=true){J:Jd}(h:Big P τ An J):Mot P τ Sgs J:=by
 induction h with
 | skip F x=>exact fun b outs hb hA=>by cases hb; exact⟨b,0,rfl,hA,fun g0 w0 Q a w hs hQ=>⟨wp_skip (hQ a w hs (fun _ _=>rfl)),fun c' e=>by cases e⟩⟩
 | label F l x=>exact fun b outs hb hA=>by cases hb; exact⟨b,0,rfl,hA,fun g0 w0 Q a w hs hQ=>⟨wp_label (hQ a w hs (fun _ _=>rfl)),fun c' e=>by cases e⟩⟩
 | exit F i x=>
  intro b outs hb hA
  cases hb
  refine⟨b,0,by simp [rC,xO],hA,fun g0 w0 Q a w hs hQ=>⟨wp_exit (hQ a w hs (fun _ _=>rfl)),fun c' e=>by cases e⟩⟩
 | ret F x=>exact fun b outs hb hA=>by cases hb; exact⟨b,0,rfl,hA,fun g0 w0 Q a w hs hQ=>⟨wp_ret (hQ a w hs (fun _ _=>rfl)),fun c' e=>by cases e⟩⟩
 | @seqN F c d x x1 x2 e h1 h2 ih1 ih2=>
  intro b outs hb hA
  simp only[rQ]at hb
  split at hb<;>try cases hb
  rename_i o1 ho1
  obtain⟨b1,k1,g1,hA1,w1⟩:=ih1 b o1 ho1 hA
  rw[g1]at hb
  simp only at hb
  split at hb<;>try cases hb
  rename_i o2 ho2
  obtain⟨b2,k2,g2,hA2,w2⟩:=ih2 b1 o2 ho2 hA1
  obtain⟨m1,_⟩:=xM hb
  obtain⟨b3,g3,cv⟩:=m1 e b2 g2
  obtain⟨hA3,cs⟩:=cv x2 hA2
  refine⟨b3,0,g3,hA3,fun g0 w0 Q a w hs hQ=>⟨wp_seq (w1 g0 w0 _ a w hs (fun a' w' hs' hz=> ?_)).1,fun c' e=>by cases e⟩⟩
  refine(w2 g0 w0 Q a' w' hs' (fun a'' w'' hs'' hz2=>hQ a'' w'' (cs _ _ _ _ hs'') (fun z hno=> ?_))).1
  simp only[noD,Bool.and_eq_true]at hno
  rw[hz2 z hno.2,hz z hno.1]
 | @seqX F c d x x1 e h1 he ih1=>
  intro b outs hb hA
  simp only[rQ]at hb
  split at hb<;>try cases hb
  rename_i o1 ho1
  obtain⟨b1,k1,g1,hA1,w1⟩:=ih1 b o1 ho1 hA
  have key: ∀b',rC e outs=some b'→Ag F b' x1→(∀g0 w0 a w,Sim g0 w0 (b1.S F.n x1) a w→Sim g0 w0 (b'.S F.n x1) a w)→ ∃(b':B) (k:Nat),rC e outs=some b'∧Ag F b' x1∧ ∀g0 w0 (Q:Exit→Act→World→Prop) a w,Sim g0 w0 (b.S F.n x) a w→
   (∀a' w',Sim g0 w0 (b'.S F.n x1) a' w'→(∀z,noD z (.seq c d)=true→a'.tmps.getD z undef=a.tmps.getD z undef)→Q e.exit a' w')→(Code.seq c d).wp P Q a w∧ ∀c',Code.seq c d= .loop c'→Code.rounds P c' Q k a w:=fun b' hg hA' hcv=>
   ⟨b',0,hg,hA',fun g0 w0 Q a w hs hQ=>⟨wp_seq (w1 g0 w0 _ a w hs (fun a' w' hs' hz=>by
    rw[HC he]
    refine hQ a' w' (hcv _ _ _ _ hs') (fun z hno=> ?_)
    simp only[noD,Bool.and_eq_true]at hno
    exact hz z hno.1)).1,fun c' e=>by cases e⟩⟩
  cases hn:rC .n o1 with
  | none=>
   rw[hn]at hb
   cases hb
   exact key b1 g1 hA1 (fun _ _ _ _ h=>h)
  | some bn=>
   rw[hn]at hb
   simp only at hb
   split at hb<;>try cases hb
   rename_i o2 ho2
   obtain⟨_,m2⟩:=xM hb
   obtain⟨b3,g3,cv⟩:=m2 e b1 (by rw[qL he]; exact g1)
   obtain⟨hA3,cs⟩:=cv x1 hA1
   exact key b3 g3 hA3 cs
 | @cond F cnd c d x x1 e t hc h1 ih1=>
  intro b outs hb hA
  simp only[rQ]at hb
  obtain⟨hk,hb⟩:=aJ hb
  split at hb<;>try cases hb
  rename_i o1 o2 ho1 ho2
  obtain⟨m1,m2⟩:=xM hb
  have hcv: ∀ {g0:G} {w0:World} {a:Act} {w:World},Sim g0 w0 (b.S F.n x) a w→a.eval cnd= .bool t:=fun hs=>by
   obtain⟨g,hsg⟩:=hs
   have:=hsg.ev_rv cnd (fun _ _=> .none)
   rw[nH hk,hc]at this
   exact Hy this
  cases t with
  | true=>
   obtain⟨b1,k1,g1,hA1,w1⟩:=ih1 b o1 ho1 hA
   obtain⟨b3,g3,cv⟩:=m2 e b1 g1
   obtain⟨hA3,cs⟩:=cv x1 hA1
   refine⟨b3,0,g3,hA3,fun g0 w0 Q a w hs hQ=>⟨wp_cond_true (hcv hs) (w1 g0 w0 Q a w hs (fun a' w' hs' hz=>hQ a' w' (cs _ _ _ _ hs') (fun z hno=> ?_))).1,fun c' e=>by cases e⟩⟩
   simp only[noD,Bool.and_eq_true]at hno
   exact hz z hno.1
  | false=>
   obtain⟨b1,k1,g1,hA1,w1⟩:=ih1 b o2 ho2 hA
   obtain⟨b3,g3,cv⟩:=m1 e b1 g1
   obtain⟨hA3,cs⟩:=cv x1 hA1
   refine⟨b3,0,g3,hA3,fun g0 w0 Q a w hs hQ=>⟨wp_cond_false (hcv hs) (w1 g0 w0 Q a w hs (fun a' w' hs' hz=>hQ a' w' (cs _ _ _ _ hs') (fun z hno=> ?_))).1,fun c' e=>by cases e⟩⟩
   simp only[noD,Bool.and_eq_true]at hno
   exact hz z hno.2
 | @block F id c x x1 e h1 ih1=>
  intro b outs hb hA
  simp only[rQ]at hb
  split at hb<;>try cases hb
  rename_i o1 ho1
  obtain⟨b1,k1,g1,hA1,w1⟩:=ih1 b o1 ho1 hA
  have key: ∀b',rC (nR id e) outs=some b'→Cv F b1 b'→ ∃(b':B) (k:Nat),rC (nR id e) outs=some b'∧Ag F b' x1∧ ∀g0 w0 (Q:Exit→Act→World→Prop) a w,Sim g0 w0 (b.S F.n x) a w→
   (∀a' w',Sim g0 w0 (b'.S F.n x1) a' w'→(∀z,noD z (.block id c)=true→a'.tmps.getD z undef=a.tmps.getD z undef)→Q (nR id e).exit a' w')→(Code.block id c).wp P Q a w∧ ∀c',Code.block id c= .loop c'→Code.rounds P c' Q k a w:=fun b' hg hcv=>by
   obtain⟨hA',cs⟩:=hcv x1 hA1
   exact⟨b',0,hg,hA',fun g0 w0 Q a w hs hQ=>⟨wp_block (w1 g0 w0 _ a w hs (fun a' w' hs' hz=>Kk (hQ a' w' (cs _ _ _ _ hs') hz))).1,fun c' e=>by cases e⟩⟩
  cases hi:rC (.e id) o1 with
  | none=>
   rw[hi]at hb
   cases hb
   have hne:e≠ .e id:=fun he=>by subst he; rw[hi]at g1; cases g1
   have e1:nR id e=e:=by unfold nR; rw[if_neg hne]
   rw[e1]at key ⊢
   exact key b1 g1 (Cv.refl F b1)
  | some bi=>
   rw[hi]at hb
   simp only at hb
   obtain⟨a1,b',a2,a3⟩:=Mm hb
   by_cases he:e= .e id
   ·have e1:nR id e= .n:=by unfold nR; rw[if_pos he]
    rw[e1]at key ⊢
    rw[he,hi]at g1
    cases g1
    exact key b' a2 a3
   ·have e1:nR id e=e:=by unfold nR; rw[if_neg he]
    rw[e1]at key ⊢
    obtain⟨b3,g3,cv⟩:=a1 e b1 (by rw[qL he]; exact g1)
    exact key b3 g3 cv
 | @loopX F c x x1 e h1 he ih1=>
  intro b outs hb hA
  simp only[rQ]at hb
  obtain⟨hd,o,cv,hf,ho,_,_⟩:=FI hb
  obtain⟨hAh,csh⟩:=cv x hA
  obtain⟨b1,k1,g1,hA1,w1⟩:=ih1 hd o hf hAh
  refine⟨b1,1,by rw[ho,qL he]; exact g1,hA1,fun g0 w0 Q a w hs hQ=> ?_⟩
  have hr:Code.rounds P c Q 1 a w:=(w1 g0 w0 _ a w (csh _ _ _ _ hs) (fun a' w' hs' hz=>by rw[HC he]; exact hQ a' w' hs' hz)).1
  exact⟨wp_loop_rounds 1 hr,fun c' e=>by cases e; exact hr⟩
 | @loopN F c x x1 x2 e h1 h2 ih1 ih2=>
  intro b outs hb hA
  simp only[rQ]at hb
  obtain⟨hd,o,cv,hf,ho,hback,hfix⟩:=FI hb
  obtain⟨hAh,csh⟩:=cv x hA
  obtain⟨b1,k1,g1,hA1,w1⟩:=ih1 hd o hf hAh
  obtain⟨hA1',csb⟩:=hback b1 g1 x1 hA1
  obtain⟨b2,k2,g2,hA2,w2⟩:=ih2 hd outs (hfix 3) hA1'
  refine⟨b2,k2+1,g2,hA2,fun g0 w0 Q a w hs hQ=> ?_⟩
  have hr:Code.rounds P c Q (k2+1) a w:=by
   rw[rounds_succ]
   refine(w1 g0 w0 _ a w (csh _ _ _ _ hs) (fun a' w' hs' hz=> ?_)).1
   exact(w2 g0 w0 Q a' w' (csb _ _ _ _ hs') (fun a'' w'' hs'' hz2=>hQ a'' w'' hs'' (fun z hno=>(hz2 z hno).trans (hz z hno)))).2 c rfl
  exact⟨wp_loop_rounds _ hr,fun c' e=>by cases e; exact hr⟩
 | @regionM F id x S i f c o p0 tp tk t t' r r0 r2 cells cells' k k' rs t1 t2 t3 t4 p1 p2 p3 p4 f1 f2 f3 f4 hmk hi h1 hM hle hc1 hc2 hr2 htp htk hob hch hB ihB=>
  intro b outs hb hA
  simp only[rQ]at hb
  rw[show List.any (Array.toList _) FX=false from rfl]at hb
  simp only[hmk,cond_false]at hb
  split at hb<;>try cases hb
  rename_i b1 hb1
  obtain⟨hA1,hw⟩:=Rb (Sgs:=Sgs) hT hA (id:=id) hi h1 hM hle hc1 hc2 hr2 htp htk hob (fun m hm sg h2 h3 h4=>ihB m hm sg h2 h3 h4) hch hb1
  obtain⟨hA2,cs⟩:=Ep F id b1 _ hA1
  refine⟨_,0,rfl,hA2,fun g0 w0 Q a w hs hQ=>⟨hw g0 w0 Q a w hs (fun a' w' hs' hz=>hQ a' w' (cs _ _ _ _ hs') (fun z hno=> ?_)),fun c' e=>by cases e⟩⟩
  simp only[noD,wH,Bool.and_eq_true,Bool.not_eq_true',decide_eq_false_iff_not,Option.some.injEq]at hno
  exact hz z (Ne.symm hno.1) (Ne.symm hno.2.1) (Ne.symm hno.2.2.1) (Ne.symm hno.2.2.2.1)
 | @region F id ops dr x x1 hmk h1 ih1=>
  intro b outs hb hA
  simp only[rQ,hmk,SE h1,cond_false]at hb
  cases dr with
  | true=>
   simp only[cond_true]at hb
   split at hb<;>try cases hb
   rename_i b1 hb1
   unfold anyC at hb1
   cases hcnd:(mL F (ops.toList.map (·.dst)) ops&&(Hq τ Sgs F (ops.toList.map (·.dst)) b ops.toList).isSome)with
   | false=>
    rw[hcnd,cond_false]at hb1
    obtain⟨hK,hlate⟩:=PM (P:=P) hT hb1
    obtain⟨b2,hK⟩:=Option.isSome_iff_exists.1 hK
    obtain⟨_,_,hrun⟩:=ih1 ops 0 rfl rfl b b2 (xJ hK) hA
    obtain⟨hA2,hgo⟩:=hlate x x1 hA (hrun b2 hK)
    obtain⟨hA3,cs⟩:=Ep F id b1 x1 hA2
    exact⟨_,0,rfl,hA3,fun g0 w0 Q a w hs hQ=>⟨wp_region_any hM (hgo g0 w0 Q a _ (hs.drawn _) (fun a' w' hs' hz=>hQ a' w' (cs _ _ _ _ hs') hz)),fun c' e=>by cases e⟩⟩
   | true=>
   rw[hcnd,cond_true]at hb1
   have hc:=hcnd
   simp only[Bool.and_eq_true]at hc
   obtain⟨hO,hK⟩:=hc
   split at hb1<;>try cases hb1
   rename_i mf hlv
   obtain⟨b2,hK⟩:=Option.isSome_iff_exists.1 hK
   obtain⟨hA1,_,hrun⟩:=ih1 ops 0 rfl rfl b b2 (xJ hK) hA
   have hrun:=hrun b2 hK
   have hle:(List.range ops.size).filter (fun j=> !(Array.replicate ops.size false).getD j true)=List.range' 0 ops.toList.length:=by
    rw[List.filter_eq_self.2 (fun j hj=>by
     have:=List.mem_range.1 hj
     simp [Array.getD,this]),List.range_eq_range']
    simp
   have hany:=fun(g0:G) (w0:World)=>SO (P:=P) (xn:=x1) (g0:=g0) (w0:=w0) hT hO ops.size (Array.replicate ops.size false) 0 [(0,b)] b x hlv (by simp [pC]) (by simp) (fun i hi=>by simp [Array.getD,hi]) (fun j o ho hj=>by
    have:=(Array.getElem?_eq_some_iff.1 ho).1
    simp [Array.getD,this]at hj) (by
    rw[List.countP_eq_length_filter,hle]; simp) hA (by rw[hle]; exact hrun)
   have hgo: ∀(g0:G) (w0:World) (Q:Exit→Act→World→Prop) (a:Act) (w:World),Sim g0 w0 (b.S F.n x) a w→(∀a' w',Sim g0 w0 (b1.S F.n x1) a' w'→(∀z,wH z ops.toList=true→a'.tmps.getD z undef=a.tmps.getD z undef)→Q .normal a' w')→
     wpAny P .any ops Q ops.size (Array.replicate ops.size false) a { w with drawn:=w.drawn+1 }:=fun g0 w0 Q a w hs hQ=>
    JW ((hany g0 w0).2 (a0:=a) hQ a _ (hs.drawn _) (fun _ _=>rfl))
   have hA2:=(hany ⟨fun _=>0,fun _=> .none⟩ default).1
   obtain⟨hA3,cs⟩:=Ep F id b1 x1 hA2
   exact⟨_,0,rfl,hA3,fun g0 w0 Q a w hs hQ=>⟨wp_region_any hM (hgo g0 w0 Q a w hs (fun a' w' hs' hz=>hQ a' w' (cs _ _ _ _ hs') hz)),fun c' e=>by cases e⟩⟩
  | false=>
   simp only[cond_false]at hb
   split at hb<;>try cases hb
   rename_i b1 hb1
   obtain⟨hA1,w1,_⟩:=ih1 ops 0 rfl rfl b b1 hb1 hA
   obtain⟨hA2,cs⟩:=Ep F id b1 x1 hA1
   refine⟨_,0,rfl,hA2,fun g0 w0 Q a w hs hQ=>⟨wp_region ?_,fun c' e=>by cases e⟩⟩
   have:=w1 g0 w0 Q a w hs (fun a' w' hs' hz=>hQ a' w' (cs _ _ _ _ hs') hz)
   rw[List.range_eq_range']
   simpa using this
 | opsNil F ds x=>
  intro ops i _ _ b b' hb hA
  cases hb
  exact⟨hA,fun g0 w0 Q a w hs hQ=>hQ a w hs (fun _ _=>rfl),fun b2 _=>rfl⟩
 | @opsSkip F ds o r x x2 hg h2 ih2=>
  intro ops i hdrop hds b b' hb hA
  subst hds
  exact xF hT hdrop hA (.inl ⟨hg,rfl⟩) hb ih2
 | @opsRun F ds o r x x1 x2 hg h1 h2 ih2=>
  intro ops i hdrop hds b b' hb hA
  subst hds
  exact xF hT hdrop hA (.inr (.inl ⟨hg,h1⟩)) hb ih2
 | @opsCall F ds o rs x x2 c v f caps ob ob' r nw hg ho hcal hni hx hth hob h1 hsh h2 ih1 ih2=>
  intro ops i hdrop hds b b' hb hA
  subst hds
  exact xF hT hdrop hA (.inr (.inr (.inl ⟨hg,c,v,f,caps,ob,ob',r,nw,ho,hcal,hni,hx,hth,hob,fun sg hsg e1 e2=>ih1 sg hsg e1 e2,hsh,rfl⟩))) hb ih2
 | @opsIo F ds o rs x x2 c v f r t xs l p x0 es es' hg ho hcal hio hx hth hargs hal hat hnav h1 hsh h2 ih1 ih2=>
  intro ops i hdrop hds b b' hb hA
  subst hds
  exact xF hT hdrop hA (.inr (.inr (.inr ⟨hg,c,v,f,r,t,xs,l,p,x0,es,es',ho,hcal,hio,hx,hth,hargs,hal,hat,hnav,fun sg hsg e1 e2=>ih1 sg hsg e1 e2,hsh,rfl⟩))) hb ih2
 | @fn f fn c vs ob ob' e x' ws iov hf hb hsh hso h1 he hws hio hob ih1=>
  intro sg hsg hnp hno g w us hsim
  have hq:=hS f sg hsg fn c hf hb
  unfold fnC at hq
  cases hlb:(An f).lb with
  | some q=>
   exfalso
   rw[hlb]at hq
   obtain⟨_,l2,l3⟩:=MN hq
   obtain⟨v,vs',rfl⟩: ∃v vs',vs=v::vs':=by
    cases vs with
    | nil=>simp only[List.length_nil]at hnp; omega
    | cons v r=>exact⟨v,r,rfl⟩
   simp only[pH,Bool.and_eq_true,FA.shOf,l2,List.getElem?_nil]at hsh
   have h0:=hsh.1
   cases v with
   | one w=>cases w<;>exact absurd h0 (by simp [fits,bP])
   | tup ws=>exact absurd h0 (by simp [fits])
  | none=>
  rw[hlb]at hq
  simp only at hq
  simp only[Bool.and_eq_true]at hq
  obtain⟨⟨⟨⟨⟨⟨⟨⟨⟨q1,q2⟩,q3⟩,q4⟩,q5⟩,q6⟩,q7⟩,q8⟩,q9⟩,q10⟩:=hq
  have hn:=Nat.eq_of_beq_eq_true q1
  have hp:=Nat.le_of_ble_eq_true q2
  have hio0:sg.io=(An f).io:=of_decide_eq_true q7
  cases hout:rQ τ Sgs (An f) c sg.bi with
  | none=>rw[hout]at q10; cases q10
  | some outs=>
   rw[hout]at q10
   simp only[Bool.and_eq_true]at q10
   -- what it is entered with
   have hAg:Ag (An f) sg.bi (DA vs ob):=by
    refine⟨fun i hi=> ?_,fun o ho=> ?_⟩
    ·right
     simp only[B.has]at hi
     cases hl:cU i sg.bi.sl with
     | none=>rw[hl]at hi; cases hi
     | some κ=>
      have hlt:i<vs.length:=by rw[←hnp]; exact cM (List.all_eq_true.1 q5 _ (gB hl))
      have:=CF hsh (List.getElem?_eq_getElem hlt)
      rw[Nat.zero_add]at this
      have e:(DA vs ob).sl i=vs[i]:=by simp [DA,List.getD,List.getElem?_eq_getElem hlt]
      rw[e]; exact this
    ·simp only[B.hasO]at ho
     cases hl:cU o sg.bi.ob with
     | none=>rw[hl]at ho; cases ho
     | some κ=>
      have h3:=List.all_eq_true.1 q6 _ (gB hl)
      simp only[Bool.and_eq_true]at h3
      have h4:=Nat.le_of_ble_eq_true h3.1
      have h5:=cM h3.2
      have hlt:o - par<ob.length:=by rw[←hno]; omega
      have:=CE hso (List.getElem?_eq_getElem hlt)
      rw[Nat.zero_add,Nat.add_sub_of_le h4]at this
      exact⟨ob[o - par],by simp [DA,h4,List.getElem?_eq_getElem hlt],this⟩
   obtain⟨b',k,hg,hA',hw⟩:=ih1 sg.bi outs hout hAg
   have hcall:(callFunc f us).run P w= .ok (.enter f us) w:=by
    have hne:fn.name≠ "runtime.NumGoroutine" :=by simpa using q4
    simp [callFunc,run_program,hf,hne,hb]
   rw[hcall]
   show Calls P f us w _
   refine calls_of_wp hf hb ?_
   have hsim2:=hsim.body (n:=fn.ntmps) (Nat.le_of_ble_eq_true q3) hp
   rw[hn]at hw
   refine(hw g w _ _ w ⟨g,hsim2⟩ (fun a' w' hs' hz=> ?_)).1
   obtain⟨g',hs'⟩:=hs'
   have hchk:yT (An f) b' sg.bo (zN (An f) fn.results.toList (An f).n0 (An f).io) 0 fn.results.toList=true∧Kz (An f) b' sg.bo (An f).n0=true∧OC (An f) b' sg.bo fn.results.toList c=true:=by
    rcases he with rfl | rfl
    ·have:=q10.1; rw[hg]at this; simpa [and_assoc]using this
    ·have:=q10.2; rw[hg]at this; simpa [and_assoc]using this
   have hbo: ∀i,sg.bo.has i=true→i=0∨(i=1∧(An f).io.isSome=true):=fun i hi=>by
    simp only[B.has]at hi
    cases hl:cU i sg.bo.sl with
    | none=>rw[hl]at hi; cases hi
    | some κ=>
     have:=List.all_eq_true.1 q8 _ (gB hl)
     simp only[Bool.or_eq_true,Bool.and_eq_true]at this
     rcases this with h | h
     ·exact .inl (Nat.eq_of_beq_eq_true h)
     ·exact .inr ⟨Nat.eq_of_beq_eq_true h.1,h.2⟩
   have hobd: ∀oc o1,sg.bo.hasO oc=true→tI (An f).n0 o1=some oc→(DR ((Ho ws).to (tI (An f).n0)) iov ob' ((An f).n0.bind x'.ob)).ob oc=x'.ob o1:=fun oc o1 hoc hret=>by
    -- the objects that were handed in
    obtain⟨hol,hog⟩:=Gk hob
    simp only[tI]at hret
    split at hret
    ·rename_i hpo
     cases hret
     have h1:sg.bi.hasO oc=true:=by
      simp only[B.hasO]at hoc
      cases hl:cU oc sg.bo.ob with
      | none=>rw[hl]at hoc; cases hoc
      | some κ=>
       have:=List.all_eq_true.1 q9 _ (gB hl)
       simp only[Bool.or_eq_true]at this
       rcases this with h | h
       ·have:=Nat.eq_of_beq_eq_true h
        subst this
        exact absurd hpo El
       ·exact h
     simp only[B.hasO]at h1
     cases hl:cU oc sg.bi.ob with
     | none=>rw[hl]at h1; cases h1
     | some κ=>
      have h3:=List.all_eq_true.1 q6 _ (gB hl)
      simp only[Bool.and_eq_true]at h3
      have h5:=cM h3.2
      have hlt:oc - par<ob.length:=by rw[←hno]; omega
      have:=hog (oc - par) hlt
      rw[Nat.zero_add,Nat.add_sub_of_le hpo]at this
      simp only[DR,if_pos hpo,this]
    ·split at hret
     ·rename_i hpo hn0
      cases hret
      simp only[DR,if_neg El,if_true,hn0,Option.bind_some]
     ·cases hret
   obtain⟨us',hl',hrun,g'',hfin⟩:=bQ.ret hT hs' hA' (io:=(An f).io) (iov:=iov) (u1:=us.getD (sg.io.getD 0) undef) (ob:=ob') (nw:=(An f).n0.bind x'.ob) hws hchk.1 hchk.2.1 hobd (fun z e=>by
    have h3:=hchk.2.2
    unfold OC at h3
    rw[e]at h3 hio
    simp only[Bool.and_eq_true,Bool.or_eq_true,Bool.not_eq_true',decide_eq_true_eq]at h3
    obtain⟨⟨⟨z1,z2⟩,z3⟩,z4⟩:=h3
    simp only[UL]at hio
    split at hio<;>try cases hio
    rename_i tt ht
    refine⟨?_,z1,⟨tt,ht,rfl⟩,z2,fun hh=> ?_⟩
    ·rw[hz z z4,hio0,e]
     show(us++Array.replicate (fn.ntmps - us.size) undef).getD z undef=us.getD z undef
     simp only[Array.getD_eq_getD_getElem?,Array.getElem?_append]
     split
     ·rfl
     ·rename_i hi
      rw[Array.getElem?_eq_none (xs:=us) (by omega)]
      simp only[Array.getElem?_replicate]
      split<;>rfl
    ·rcases z3 with z3 | z3
     ·rw[z3]at hh; cases hh
     ·rw[e]; exact z3) (fun hn=>by
    cases h1:sg.bo.has 1 with
    | false=>rfl
    | true=>
     rcases hbo 1 h1 with h | h
     ·cases h
     ·rw[hn]at h; cases h.2) (fun i hi=>by rcases hbo i hi with h | h<;>omega)
   have hres:=Ik (P:=P) (w:=w') (fn:=fn) (tmps:=a'.tmps) hl' hrun
   have hpost:bodyPost P fn (fun e w'=> ∃v,e= .returned v∧ ∃g',bQ g w (sg.bo.S 2 (DR ((Ho ws).to (tI (An f).n0)) iov ob' ((An f).n0.bind x'.ob))) ⟨#[v,us.getD (sg.io.getD 0) undef],[]⟩ g' w') .normal a' w':=⟨hs'.defers,_,hres,_,rfl,g'',hfin⟩
   rcases he with rfl | rfl
   ·exact hpost
   ·exact hpost
 | @lib f fn c vs r q hf hb hq h1=>
  intro sg hsg hnp hno
  have hh:=hS f sg hsg fn c hf hb
  unfold fnC at hh
  rw[hq]at hh
  obtain⟨e,_,_⟩:=MN hh
  rw[e]
  exact h1
end
end Go.Own

/- Conditions under which code runs on data to what is wanted. -/
namespace Go.Own
open Go.RowKit

section
variable (P:Program) (τ:TypeId→Option TI) (An:FuncId→FA)

/-- A run to what Q tells. -/
def Wd(F:FA)(c:Code)(x:D)(Q:Ek→D→Prop):Prop:= ∃e x',Big P τ An (.code F c x e x')∧Q e x'
def Wo(F:FA)(ds:List (Option Nat))(os:List Oper)(x:D)(Q:D→Prop):Prop:= ∃x',Big P τ An (.ops F ds os x x')∧Q x'

def Sj(K:D→Prop)(Q:Ek→D→Prop):Ek→D→Prop
 | .n,x=>K x
 | e,x=>Q e x
def blkD(id:Nat)(Q:Ek→D→Prop)(e:Ek)(x:D):Prop:=Q (nR id e) x

/-- A call's condition. -/
def Ug(F:FA)(o:Oper)(c:Call)(v:Operand)(x:D)(K:D→Prop):Prop:=
 xY F c=false∧ ∃f caps ob ob' r nw,ev x.sl v= .one (.fn f caps)∧c.args.toList.all (fun v=>gC (ev x.sl v))=true∧ob.map some=(iV F c v).map x.ob∧Big P τ An (.fn f (inV x c caps (iV F c v)) ob r none ob' nw)∧
  bO F (x.call o.dst (pX F o.dst) (iV F c v) (DR r none ob' nw)) o.dst (pX F o.dst) (iV F c v)=true∧K (x.call o.dst (pX F o.dst) (iV F c v) (DR r none ob' nw))
/-- The condition of a call that turns its first argument in place. -/
def vcIo(F:FA)(o:Oper)(c:Call)(v:Operand)(x:D)(K:D→Prop):Prop:=
 xY F c=true∧ ∃f r t xs l p x0 es es',ev x.sl v= .one (.fn f [])∧c.args.toList.all (fun v=>gC (ev x.sl v))=true∧c.args.toList= .tmp t::xs∧x.sl t= .one (.al l p)∧x.at l=some x0∧nav x0 p=some (.sl es)∧Big P τ An (.fn f (inV x c [] []) [] r (some (.sl es')) [] none)∧
  bO F (x.call o.dst none [] (DR r (some (.sl es')) [] none)) o.dst none []=true∧K ((x.call o.dst none [] (DR r (some (.sl es')) [] none)).upd l (cG x0 p (.sl es')))
def Ks(F:FA)(o:Oper)(x:D)(K:D→Prop):Prop:=match dA o with
 | some (c,v)=>Ug P τ An F o c v x K∨vcIo P τ An F o c v x K
 | none=> ∃x1,dOp τ F x o=some x1∧K x1
def FV(F:FA)(ds:List (Option Nat))(o:Oper)(x:D)(K:D→Prop):Prop:=match bG ds x o.guard with
 | some true=>Ks P τ An F o x K
 | some false=>K (qF x o.dst)
 | none=>False
def bB(F:FA)(ds:List (Option Nat)):List Oper→D→(D→Prop)→Prop
 | [],x,K=>K x
 | o::r,x,K=>FV P τ An F ds o x (fun x1=>bB F ds r x1 K)

def vcC(F:FA):Code→D→(Ek→D→Prop)→Prop
 | .skip,x,Q=>Q .n x
 | .label _,x,Q=>Q .n x
 | .exit i,x,Q=>Q (.e i) x
 | .ret,x,Q=>Q .r x
 | .seq a b,x,Q=>vcC F a x (Sj (fun x1=>vcC F b x1 Q) Q)
 | .cond c a b,x,Q=> ∃t,ev x.sl c= .one (.c (.bool t))∧(t=true→vcC F a x Q)∧(t=false→vcC F b x Q)
 | .block id c,x,Q=>vcC F c x (blkD id Q)
 | .loop c,x,Q=>Wd P τ An F (.loop c) x Q
 | .region id ops dr,x,Q=>(cU id F.mks=none∧bB P τ An F (ops.toList.map (·.dst)) ops.toList x (fun x1=>Q .n x1))∨ ∃x1,Big P τ An (.code F (.region id ops dr) x .n x1)∧Q .n x1
 | _,_,_=>False
end

section
variable {P:Program} {τ:TypeId→Option TI} {An:FuncId→FA}

theorem wU{F:FA}{ds:List (Option Nat)}: ∀ {os:List Oper} {x:D} {K:D→Prop},bB P τ An F ds os x K→Wo P τ An F ds os x K
 | [],x,K,h=>⟨x, .opsNil F ds x,h⟩
 | o::r,x,K,h=>by
  simp only[bB,FV]at h
  split at h
  ·rename_i hg
   unfold Ks at h
   split at h
   ·rename_i c v hc
    have hoc:o.op= .call c∧c.callee= .value v:=by
     unfold dA at hc
     split at hc<;>try cases hc
     rename_i c' ho
     split at hc<;>try cases hc
     rename_i v' hv
     exact⟨ho,hv⟩
    rcases h with⟨h0,f,caps,ob,ob',rr,nw,h1,h2,h3,h4,h5,h6⟩ | ⟨h0,f,rr,t,xs,l,p,x0,es,es',h1,h2,h3,h4,h5,h6,h7,h8,h9⟩
    ·obtain⟨x',q1,q2⟩:=wU h6
     exact⟨x', .opsCall hg hoc.1 hoc.2 h0 h1 h2 h3 h4 h5 q1,q2⟩
    ·obtain⟨x',q1,q2⟩:=wU h9
     exact⟨x', .opsIo hg hoc.1 hoc.2 h0 h1 h2 h3 h4 h5 h6 h7 h8 q1,q2⟩
   ·obtain⟨x1,h1,h2⟩:=h
    obtain⟨x',q1,q2⟩:=wU h2
    exact⟨x', .opsRun hg h1 q1,q2⟩
  ·rename_i hg
   obtain⟨x',q1,q2⟩:=wU h
   exact⟨x', .opsSkip hg q1,q2⟩
  ·exact h.elim

theorem AR{F:FA}: ∀ {c:Code} {x:D} {Q:Ek→D→Prop},vcC P τ An F c x Q→Wd P τ An F c x Q
 | .skip,x,Q,h=>⟨.n,x, .skip F x,h⟩
 | .label l,x,Q,h=>⟨.n,x, .label F l x,h⟩
 | .exit i,x,Q,h=>⟨.e i,x, .exit F i x,h⟩
 | .ret,x,Q,h=>⟨.r,x, .ret F x,h⟩
 | .seq a b,x,Q,h=>by
  obtain⟨e,x1,h1,h2⟩:=AR (c:=a) h
  by_cases he:e= .n
  ·subst he
   obtain⟨e2,x2,q1,q2⟩:=AR (c:=b) h2
   exact⟨e2,x2, .seqN h1 q1,q2⟩
  ·refine⟨e,x1, .seqX h1 he, ?_⟩
   cases e with
   | n=>exact absurd rfl he
   | r=>exact h2
   | e i=>exact h2
 | .cond c a b,x,Q,h=>by
  obtain⟨t,hc,h1,h2⟩:=h
  cases t with
  | true=>
   obtain⟨e,x1,q1,q2⟩:=AR (c:=a) (h1 rfl)
   exact⟨e,x1, .cond hc q1,q2⟩
  | false=>
   obtain⟨e,x1,q1,q2⟩:=AR (c:=b) (h2 rfl)
   exact⟨e,x1, .cond hc q1,q2⟩
 | .block id c,x,Q,h=>by
  obtain⟨e,x1,h1,h2⟩:=AR (c:=c) h
  exact⟨_,x1, .block h1,h2⟩
 | .loop c,x,Q,h=>h
 | .region id ops dr,x,Q,h=>by
  rcases h with⟨h0,h⟩ | ⟨x1,h1,h2⟩
  ·obtain⟨x1,h1,h2⟩:=wU h
   exact⟨.n,x1, .region h0 h1,h2⟩
  ·exact⟨.n,x1,h1,h2⟩
 | .scope c,x,Q,h=>h.elim
 | .rangeFunc _ _ _ _,x,Q,h=>h.elim
 | .goto _,x,Q,h=>h.elim
 | .refuse _,x,Q,h=>h.elim

end
end Go.Own

/- A function's run; how data are looked up. -/
namespace Go.Own
open Go.RowKit

section
variable {P:Program} {τ:TypeId→Option TI} {An:FuncId→FA}

theorem Big.of{f:FuncId}{fn:Func}{c:Code}{vs:List V}{ob ob':List (List T)}{r:V}{nw:Option (List T)}(hf:P.funcs[f]? =some fn)(hb:fn.body=some c)(hsh:pH (An f) 0 vs=true)(hso:rG (An f) 0 ob=true)(hio:(An f).io=none)
  (h:vcC P τ An (An f) c (DA vs ob) (fun e x=>(e= .n∨e= .r)∧ ∃ws,DL τ x fn.results.toList=some ws∧(Ho ws).to (tI (An f).n0)=r∧yU x 0 ob=some ob'∧(An f).n0.bind x.ob=nw)):Big P τ An (.fn f vs ob r none ob' nw):=by
 obtain⟨e,x',h1,he,ws,h2,rfl,h3,rfl⟩:=AR h
 exact .fn hf hb hsh hso h1 he h2 (by rw[hio]; rfl) h3

section
variable (x:D) (d i:Nat) (v:V)
@[simp] theorem put_ob:(x.put d v).ob=x.ob:=rfl.trans rfl
end
/-- A put whose shape is seen. -/
theorem eO{F:FA}{x:D}{d:Nat}{v:V}(h:fits v (F.shOf d)=true):qD F x d v=some (x.put d v):=by
 unfold qD; rw[h]; rfl
end
end Go.Own

/- From a row's world to the call. -/
namespace Go.Own
open Go.RowKit

def G.old:G:= { β:=fun _=>0,own:=fun _=> .none }

theorem TC.row{P:Program}{f:FuncId}{fn:Func}{c:Code}{sg:Sg}{args:List V}(h:TC P f sg args [] (.one (.c (.bool true))) none [] none)(hb0:sg.bo.has 0=true)(hbo:sg.bi.ob=[])(hnp:sg.np=args.length)(hle:sg.np≤par)
  (hf:P.funcs[f]? =some fn)(hb:fn.body=some c)(hname:(fn.name == "runtime.NumGoroutine")=false)(w:World)(us:Array Value)(hsz:us.size=args.length)
  (hroot: ∀i,aI (args.getD i (.one .junk))= .none)(hvs: ∀i,sg.bi.has i=true→RV G.old w (fun k j=>sg.bi.kd (.s i k j)) (fun k j=> .s i k j) (us.getD i undef) (args.getD i (.one .junk))):
  Calls P f us w fun e w'=>e= .returned (.bool true)∧Below w.heap.size w w':=by
 have hs:bQ G.old w (sg.bi.S sg.np (DA args [])) ⟨us,[]⟩ G.old w:=by
  refine⟨qX.refl _ _,⟨fun b h=>absurd rfl h⟩,by rw[hsz, ←hnp]; rfl,rfl,fun i=> ?_,fun o cells ho=> ?_,fun i hi=> ?_,fun _ _=>rfl,hle⟩
  ·show RV _ w (fun k j=>sg.bi.kd (.s i k j)) _ (us.getD i undef) (if sg.bi.has i=true then args.getD i (.one .junk)else .one .junk)
   by_cases e:sg.bi.has i=true
   ·rw[if_pos e]; exact hvs i e
   ·rw[if_neg e]; trivial
  ·have ho':(if sg.bi.hasO o=true then(DA args []).ob o else none)=some cells:=ho
   split at ho'<;>try cases ho'
   rename_i e
   simp only[B.hasO,hbo,cU]at e
   cases e
  ·exfalso
   apply hi
   show aI (if sg.bi.has i=true then args.getD i (.one .junk)else .one .junk)= .none
   split
   ·exact hroot i
   ·rfl
 have h1:=h _ w us hs
 have hne:fn.name≠ "runtime.NumGoroutine" :=by simpa using hname
 have hcall:(callFunc f us).run P w= .ok (.enter f us) w:=by simp [callFunc,run_program,hf,hne,hb]
 rw[hcall]at h1
 refine Calls.mono h1 ?_
 rintro e w' ⟨v,rfl,g',h2⟩
 have hr:=h2.slots 0
 rw[oS hb0]at hr
 have hv:v= .bool true:=Hy hr
 subst hv
 exact⟨rfl,h2.framed.os,h2.framed.tape,h2.framed.output,h2.framed.evo.size,fun k hk=>(h2.framed.evo.keep k hk (fun h=>h (.inl rfl))).2⟩

/-- A function's contract, out of its run and the checks. -/
theorem TC.of{P:Program}{τ:TypeId→Option TI}{An:FuncId→FA}{Sgs:FuncId→List Sg}(hM:P.follows .mixedOrders=true)(hT:bC P τ)(hS: ∀f sg,sg∈Sgs f→ ∀fn c,P.funcs[f]? =some fn→fn.body=some c→fnC τ An Sgs f sg fn c=true)
  {f:FuncId}{vs:List V}{ob ob':List (List T)}{r:V}{nw:Option (List T)}(h:Big P τ An (.fn f vs ob r none ob' nw)){sg:Sg}(hsg:sg∈Sgs f)(hnp:sg.np=vs.length)(hno:sg.no=ob.length):TC P f sg vs ob r none ob' nw:=
 Nh hM hT hS h sg hsg hnp hno
end Go.Own

/- Steps through code, one at a time. -/
namespace Go.Own
open Go.RowKit

section
variable {P:Program} {τ:TypeId→Option TI} {An:FuncId→FA} {F:FA} {ds:List (Option Nat)} {o:Oper} {r:List Oper} {x x1:D} {K:D→Prop} {Q:Ek→D→Prop}

theorem bR(hg:bG ds x o.guard=some true)(hc:dA o=none)(h1:dOp τ F x o=some x1)(h:bB P τ An F ds r x1 K):bB P τ An F ds (o::r) x K:=by
 simp only[bB,FV,hg,Ks,hc]
 exact⟨x1,h1,h⟩
theorem Ms(hg:bG ds x o.guard=some false)(h1:qF x o.dst=x1)(h:bB P τ An F ds r x1 K):bB P τ An F ds (o::r) x K:=by
 subst h1
 simp only[bB,FV,hg]
 exact h
theorem Ot(h:K x):bB P τ An F ds [] x K:=h
theorem Ae{c:Call}{v:Operand}{os:List Nat}(h:iV F c v=os)(hn:os≠[0,0]):xY F c=false:=by
 unfold iV at h
 cases e:xY F c with
 | false=>rfl
 | true=>rw[e]at h; exact absurd h.symm hn
theorem xH{c:Call}{v:Operand}{f:FuncId}{caps:List (Nat×Nat)}{vs:List V}{ob ob':List (List T)}{rr:V}{nw:Option (List T)}{x1:D}(hg:bG ds x o.guard=some true)(hc:dA o=some (c,v))(hni:xY F c=false)(hx:ev x.sl v= .one (.fn f caps))(hth:c.args.toList.all (fun v=>gC (ev x.sl v))=true)
  (hob:ob.map some=(iV F c v).map x.ob)(hvs:inV x c caps (iV F c v)=vs)(hB:Big P τ An (.fn f vs ob rr none ob' nw))(hx1:x.call o.dst (pX F o.dst) (iV F c v) (DR rr none ob' nw)=x1)(hsh:bO F x1 o.dst (pX F o.dst) (iV F c v)=true)
  (h:bB P τ An F ds r x1 K):bB P τ An F ds (o::r) x K:=by
 subst hx1; subst hvs
 simp only[bB,FV,hg,Ks,hc]
 exact .inl ⟨hni,f,caps,ob,ob',rr,nw,hx,hth,hob,hB,hsh,h⟩
end

end Go.Own

/- Steps by the form of the operation. -/
namespace Go.Own
open Go.RowKit

section
variable {P:Program} {τ:TypeId→Option TI} {An:FuncId→FA} {F:FA} {ds:List (Option Nat)} {r:List Oper} {x:D} {K:D→Prop} {ty:TypeId} {pos:String} {after:Array Edge} {gd:Option (Nat×Bool)} {d:Nat}

theorem Ou{y:Operand}{v:V}(hg:bG ds x gd=some true)(hv:ev x.sl y=v)(ht:gC v=true)(hf:fits v (F.shOf d)=true)(h:bB P τ An F ds r (x.put d v) K):bB P τ An F ds (⟨some d, .assign y,ty,pos,after,gd⟩::r) x K:=by
 subst hv
 refine bR hg rfl ?_ h
 show xZ F x d y=_
 unfold xZ
 rw[ht]; exact eO hf
theorem Uq{y:Operand}{v:V}(hg:bG ds x gd=some true)(hm:mem d F.al=false)(hv:ev x.sl y=v)(ht:gC v=true)(hf:fits v (F.shOf d)=true)(h:bB P τ An F ds r (x.put d v) K):bB P τ An F ds (⟨some d, .move y,ty,pos,after,gd⟩::r) x K:=by
 subst hv
 refine bR hg rfl ?_ h
 show(bif mem d F.al then yY F x d y else xZ F x d y)=_
 rw[hm]
 unfold xZ
 rw[cond_false,ht]; exact eO hf
theorem Un{c y z:Operand}{b:Bool}{t:T}(hg:bG ds x gd=some true)(hc:ev x.sl c= .one (.c (.bool b)))(hv:ev x.sl (if b then y else z)= .one (.c t))(hs:scal t=true)(hf:fits (.one (.c t)) (F.shOf d)=true)(h:bB P τ An F ds r (x.put d (.one (.c t))) K):bB P τ An F ds (⟨some d, .pick c y z,ty,pos,after,gd⟩::r) x K:=by
 refine bR hg rfl ?_ h
 show DS F x d c y z=_
 unfold DS
 rw[hc]
 cases b with
 | true=>
  have hv:ev x.sl y= .one (.c t):=hv
  simp only[hv,hs,cond_true]; exact eO hf
 | false=>
  have hv:ev x.sl z= .one (.c t):=hv
  simp only[hv,hs,cond_true]; exact eO hf
theorem s_bin{op:BinOp}{t t2:TypeId}{y z:Operand}{v1 v2:V}{w:T}(hg:bG ds x gd=some true)(h1:evD x y=v1)(h2:evD x z=v2)(hb:Nr τ op t v1 v2=some w)(hf:fits (.one (.c w)) (F.shOf d)=true)(h:bB P τ An F ds r (x.put d (.one (.c w))) K):bB P τ An F ds (⟨some d, .binOp op t y z t2,ty,pos,after,gd⟩::r) x K:=by
 subst h1; subst h2
 refine bR hg rfl ?_ h
 show nE τ F x d (.binOp op t y z t2)=_
 unfold nE
 simp only[gI,hb]
 exact eO hf
end
end Go.Own

/- One tactic for a step. -/
namespace Go.Own
open Go.RowKit

end Go.Own

/- More steps by the form of the operation. -/
namespace Go.Own
open Go.RowKit

section
variable {P:Program} {τ:TypeId→Option TI} {An:FuncId→FA} {F:FA} {ds:List (Option Nat)} {r:List Oper} {x:D} {K:D→Prop} {ty:TypeId} {pos:String} {after:Array Edge} {gd:Option (Nat×Bool)} {d:Nat}

/-- A read of any form. -/
theorem QG{op:Op}{w:T}(hg:bG ds x gd=some true)(hc:dA ⟨some d,op,ty,pos,after,gd⟩=none)(hd:dOp τ F x ⟨some d,op,ty,pos,after,gd⟩=nE τ F x d op)(hr:gI τ (evD x) op=some w)(hf:fits (.one (.c w)) (F.shOf d)=true)(h:bB P τ An F ds r (x.put d (.one (.c w))) K):
    bB P τ An F ds (⟨some d,op,ty,pos,after,gd⟩::r) x K:=by
  refine bR hg hc ?_ h
  rw[hd]
  unfold nE
  rw[hr]; exact eO hf
theorem s_len{y:Operand}{t e:TypeId}{es:List (List T)}(hg:bG ds x gd=some true)(ht:tk τ t=some (.sl e))(hv:evD x y= .one (.c (.sl es)))(hf:fits (.one (.c (.int .i64 0))) (F.shOf d)=true)(h:bB P τ An F ds r (x.put d (.one (.c (.int .i64 es.length)))) K):
    bB P τ An F ds (⟨some d, .call { callee:= .builtin .len,args:= #[y],argTypes:= #[t] },ty,pos,after,gd⟩::r) x K:=by
  refine QG hg rfl rfl ?_ (by
    revert hf
    cases F.shOf d with
    | tup ws=>simp [fits]
    | one w=>
               cases w<;>simp [fits,bP]
               rename_i z; cases z<;>simp [rD]) h
  show(match tk τ t,evD x y with
      | some .str, .one (.c (.str s))=>some (T.int .i64 s.length)
      | some (.sl _), .one (.c (.sl es))=>some (.int .i64 es.length)
      | _,_=>none)=_
  rw[ht,hv]
theorem RJ{t e:TypeId}{ei:TI}{v i:Operand}{es:List (List T)}{row:List T}{k:IntKind}{n:Int}(hg:bG ds x gd=some true)(ht:tk τ t=some (.sl e))(he:τ e=some ei)(hv:ev x.sl v= .one (.c (.sl es)))(hi:ev x.sl i= .one (.c (.int k n)))(h0:0≤n)(hrow:es[n.toNat]? =some row)(hsz:row.length=ei.size)
    (hf:fits (.one (.cp row)) (F.shOf d)=true)(h:bB P τ An F ds r (x.put d (.one (.cp row))) K):bB P τ An F ds (⟨some d, .indexAddr t v i,ty,pos,after,gd⟩::r) x K:=by
  refine bR hg rfl ?_ h
  show(bif eE (F.shOf d)&&mT (ev x.sl v)then mM τ F x d t v i else lO τ F x d t v i)=_
  rw[show(eE (F.shOf d)&&mT (ev x.sl v))=false by
    cases hq:eE (F.shOf d)with
    | false=>rfl
    | true=>
      obtain⟨l,p,n,j,e⟩:=FJ hq
      rw[e]at hf; simp [fits,bP]at hf,cond_false]
  unfold lO
  simp only[ht,hi,hv,idx,he,h0,if_true,hrow,hsz,Nat.beq_refl,cond_true]
  exact eO hf
theorem RI{t:TypeId}{v:Operand}{ti:TI}{xs:List T}{w:V}(hg:bG ds x gd=some true)(ht:τ t=some ti)(hv:ev x.sl v= .one (.cp xs))(hl:nD ti xs=some w)(hf:fits w (F.shOf d)=true)(h:bB P τ An F ds r (x.put d w) K):
    bB P τ An F ds (⟨some d, .load t v,ty,pos,after,gd⟩::r) x K:=by
  refine bR hg rfl ?_ h
  show(bif mem d F.tk&&(!(mem d F.al)&&eE (ev x.sl v))then tP τ F x d t v else mU τ F x d t v (mem d F.al))=_
  rw[show(mem d F.tk&&(!(mem d F.al)&&eE (ev x.sl v)))=false by rw[hv]; simp [eE],cond_false]
  unfold mU
  simp only[ht,hv,hl]
  exact eO hf
theorem RH{t:TypeId}{v:Operand}{ti:TI}{ob p:Nat}{cells:List T}{w:V}(hg:bG ds x gd=some true)(ht:τ t=some ti)(hm:mem d F.al=false)(hv:ev x.sl v= .one (.ptr ob p))(hc:x.ob ob=some cells)(hl:nD ti (cells.drop p)=some w)(hf:fits w (F.shOf d)=true)(h:bB P τ An F ds r (x.put d w) K):
    bB P τ An F ds (⟨some d, .load t v,ty,pos,after,gd⟩::r) x K:=by
  refine bR hg rfl ?_ h
  show(bif mem d F.tk&&(!(mem d F.al)&&eE (ev x.sl v))then tP τ F x d t v else mU τ F x d t v (mem d F.al))=_
  rw[show(mem d F.tk&&(!(mem d F.al)&&eE (ev x.sl v)))=false by rw[hv]; simp [eE],cond_false]
  unfold mU
  simp only[ht,hv,hc,hm,cond_false,hl]
  exact eO hf
theorem Ov{t u e:TypeId}{ei:TI}{v y:Operand}{es1 es2:List (List T)}(hg:bG ds x gd=some true)(ht:tk τ t=some (.sl e))(he:τ e=some ei)(hv:ev x.sl v= .one (.c (.sl es1)))(hy:Fa (ev x.sl y)=some es2)(hu:uT τ u e=true)(hok:OL ei es1 es2=true)
    (hf:fits (.one (.c (.sl []))) (F.shOf d)=true)(h:bB P τ An F ds r (x.put d (.one (.c (.sl (es1++es2))))) K):bB P τ An F ds (⟨some d, .call { callee:= .builtin .append,args:= #[v,y],argTypes:= #[t,u] },ty,pos,after,gd⟩::r) x K:=by
  refine bR hg rfl ?_ h
  show rA τ F x d t u v y=_
  unfold rA
  simp only[ht,he,hv,hy,hu,hok,Bool.and_self,cond_true]
  exact eO (by
    revert hf
    cases F.shOf d with
    | tup ws=>simp [fits]
    | one w=>
               cases w<;>simp [fits,bP]
               rename_i z; cases z<;>simp [rD])
end
end Go.Own
