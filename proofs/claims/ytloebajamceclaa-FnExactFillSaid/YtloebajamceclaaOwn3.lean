/- A calculus for runs on plain data (part 4): whoever runs code on data, with its owners checked, runs the program. No conditions. -/
import Derived.Test.YtloebajamceclaaOwn2
set_option linter.unusedVariables false
set_option linter.unusedSimpArgs false
set_option linter.unnecessarySimpa false
namespace Go.Own
open Go.RowKit

theorem Kx{α:Type}(xs:Array α){i j:Nat}(h:i≠j)(f g:α→α):(xs.modify i f).modify j g=(xs.modify j g).modify i f:=by
 apply Array.ext_getElem?
 intro k; rw[WD,WD,WD,WD]
 by_cases c:j=k
 ·have d:i≠k:=fun e=>h (e.trans c.symm)
  rw[z17 c,z11 d,z11 d,z17 c]
 ·rw[z11 c,z11 c]
theorem FZ(w:World){b:Nat}{a:Addr}(c:Array Value)(v:Value)(h:b≠a.block):(w.setRow b c).setCell a v=(w.setCell a v).setRow b c:=by
 simp only[World.setRow,World.setCell]; rw[Kx w.heap h]
theorem vT{P:Program}{d o k:Nat}{c:Array Value}(f:k≠d): ∀(vs:List Value) (i:Nat) (w w':World),(∀v∈vs,v.oneCell'=true)→(∀q,q<vs.length→ ∃u,w.cell? ⟨d,o+i+q,none⟩=some u)→(storeCells ⟨d,o,none⟩ vs i).run P w= .ok () w'→
  (storeCells ⟨d,o,none⟩ vs i).run P (w.setRow k c)= .ok () (w'.setRow k c)∧w'.heap[k]? =w.heap[k]?
 | [],i,w,w',_,_,h=>by
  cases h; exact⟨rfl,rfl⟩
 | v::r,i,w,w',h1,E,h=>by
  obtain⟨u,z⟩:=E 0 (by simp)
  have m:(⟨d,o,none⟩:Addr).add i=⟨d,o+i,none⟩:=kW _ _ _; rw[z69]at z; have l:(w.setRow k c).cell? ⟨d,o+i,none⟩=some u:=by
   rw[cI (setRow_other w k d c (Ne.symm f))]; exact z
  have s:(w.setRow k c).frozen? ⟨d,o+i,none⟩=w.frozen? ⟨d,o+i,none⟩:=by
   simp only[World.frozen?,setRow_other w k d c (Ne.symm f)]
  simp only[storeCells,Sem.run_bind,m,run_store P _ _ v _ (h1 v z27),z,l,s]at h ⊢; cases hf:w.frozen? ⟨d,o+i,none⟩with
  | true=>rw[hf]at h; simp [Result.andThen]at h
  | false=>
   rw[hf]at h; simp only[z51,if_false,Result.andThen_ok]at h ⊢; obtain⟨J,K⟩:=vT f r (i+1) (w.setCell ⟨d,o+i,none⟩ v) w' (fun v I=>h1 v (z23 _ I)) (fun q H=>by
    obtain⟨L,C⟩:=E (q+1) (by simpa using H)
    refine⟨L, ?_⟩
    have e:=World.cell?_setCell_other (w:=w) (v:=v) (a:=⟨d,o+i,none⟩) (b:=⟨d,o+(i+1)+q,none⟩) (by simp; omega)
    rw[show o+(i+1)+q=o+i+(q+1)by omega]at e ⊢
    exact e.trans C) h
   refine⟨?_,K.trans (heap_setCell_other w _ _ v f)⟩
   rw[FZ w c v f]; exact J

structure Nb (v y:Operand) (n ob p:Nat) (x:D):Prop where
 ptr:ev x.sl v= .one (.ptr ob p)
 val: ∃xs,aT (ev x.sl y)=some xs∧xs.length=n
 room: ∃cells,x.ob ob=some cells∧p+n≤cells.length
section
variable {P:Program} {τ:TypeId→Option TI} {Sgs:FuncId→List Sg} {F:FA} {ds:List (Option Nat)} {x x1:D} {o:Oper}
theorem NR(h:SD P τ Sgs F ds o x x1)(k:o.guard=none)(d: ∀c,o.op≠ .call c):dOp τ F x o=some x1:=by
 rcases h with⟨h,_⟩ | ⟨_,h⟩ | ⟨_,c,v,f,caps,ob,m,r,nw,h,_⟩ | ⟨_,c,v,f,r,t,xs,l,p,x0,q,es',h,_⟩
 ·rw[k]at h; cases h
 ·exact h
 ·exact absurd h (d c)
 ·exact absurd h (d c)
theorem SR{t ob p:Nat}(c:Nm F x (.tmp t))(d:F.shOf t= .one (.ptr ob p)){w:W}(h:x.sl t= .one w)(hn:w≠ .nilp):w= .ptr ob p:=by
 have c:x.sl t= .tup []∨fits (x.sl t) (F.shOf t)=true:=c; rw[h,d]at c; rcases c with c | c
 ·cases c
 ·cases w<;>simp [fits,bO]at c hn
  obtain⟨rfl,rfl⟩:=c; rfl
theorem Pg{t:TypeId}{tv:Nat}{y:Operand}{ob p:Nat}(h:SD P τ Sgs F ds o x x1)(z:CK F x o)(C:o.guard=none)(u:o.dst=none)(ho:o.op= .store t (.tmp tv) y)(r:F.shOf tv= .one (.ptr ob p)): ∃i,τ t=some i∧Nb (.tmp tv) y i.size ob p x:=by
 have h:=NR h C (fun c e=>by rw[ho]at e; cases e)
 have d:=z (.tmp tv) (by rw[ho]; simp [Op.operands])
 unfold dOp at h; rw[u,ho]at h; simp only at h; split at h<;>try cases h
 ·rename_i i E H xs q f s
  have e:=SR d r (show x.sl tv=_ from f) (by simp)
  cases e; unfold tD at h; split at h<;>try cases h
  rename_i cells m; obtain⟨k,h⟩:=aK h; simp only[z7]at k; have hz:=z14 k.1.1; exact⟨i,q,f,⟨xs,s,hz⟩,cells,m,by rw[←hz]; exact z29 k.1.2⟩
 ·rename_i i l I n j xs q f s
  have e:=SR d r (show x.sl tv=_ from f) (by simp)
  cases e
theorem KM{d:Nat}{t:Nat}(h:Qz d (.tmp t)=true):d≠t:=fun e=>by
 subst e; simp [Qz]at h
theorem QA{v:V}{k j:Nat}{z:T}{xs:List T}(h:aT (v.setLeaf k j z)=some xs): ∃ys,aT v=some ys∧ys.length=xs.length:=by
 cases v with
 | tup d=>simp [V.setLeaf,aT]at h
 | one w=>
  cases k with
  | succ k=>exact⟨xs,h,rfl⟩
  | zero=>
   cases w with
   | c t=>cases j<;>(simp [V.setLeaf,W.setLeaf,aT]at h ⊢; subst h; rfl)
   | ag ys=>simp [V.setLeaf,W.setLeaf,aT]at h ⊢; subst h; simp
   | _=>exact⟨xs,h,rfl⟩
theorem Ph{v y:Operand}{n ob p:Nat}(q:QW F v y o=true)(V:CK F x o)(h:SD P τ Sgs F ds o x x1)(H:Nb v y n ob p x1):Nb v y n ob p x:=by
 unfold QW at q; simp only[z7,z84]at q; obtain⟨S,q⟩:=q; split at q
 ·rename_i d t z i I ho
  simp only[z7]at q; have q:=q.1; have h:=NR h S (fun c e=>by rw[ho]at e; cases e)
  obtain⟨E,T,U,rfl,_⟩:=Ox (y:=x) h (by unfold xC; rw[ho]) (fun d t v I J=>by rw[ho]at J; cases J) (fun v _=>yQ.refl _ x v)
  have M: ∀w,Qz d w=true→ev (E.on x).sl w=ev x.sl w:=fun w X=>by
   cases w with
   | tmp t=>
    show(E.on x).sl t=x.sl t; simp only[Eff.on,T,I]; rw[z11 (fun e=>KM X (z50 e))]
   | _=>rfl
  have O:(E.on x).ob ob=x.ob ob:=by
   have:E.ob ob=none:=by
    cases he:E.ob ob with
    | none=>rfl
    | some c=>
     have:=U ob (by rw[he]; rfl)
     unfold Nk at this; rw[I,ho]at this; cases this
   simp only[Eff.on,this]
  exact⟨by rw[←M v q.1]; exact H.ptr,by rw[←M y q.2]; exact H.val,by rw[←O]; exact H.room⟩
 ·rename_i t tx z I ho
  split at q<;>try cases q
  rename_i k k0 Q p0 n0 q0 L; have h:=NR h S (fun c e=>by rw[ho]at e; cases e)
  have r:x.sl tx= .tup []∨fits (x.sl tx) (F.shOf tx)=true:=V (.tmp tx) (by rw[ho]; simp [Op.operands])
  unfold dOp at h; rw[I,ho]at h; simp only at h; split at h<;>try cases h
  ·rename_i i R Z xs W u Y
   have u:x.sl tx= .one (.ptr R Z):=u; rw[u,L]at r; rcases r with e | e
   ·cases e
   ·simp [fits,bO]at e
  ·rename_i i l pp m j xs W u Y
   have u:x.sl tx= .one (.pp l pp m j):=u; rw[u,L]at r; rcases r with e | e
   ·cases e
   simp only[fits,bO,z7,z36]at e; have N:l= .s k k0 Q:=e.1.1; subst N; unfold sE at h; split at h<;>try cases h
   split at h<;>try cases h
   split at h<;>try cases h
   obtain⟨_,h⟩:=aK h; cases h; have K:=H.room; refine⟨?_, ?_,K⟩
   ·have:=H.ptr
    cases v with
    | tmp tv=>
     have this:(lR x.sl (.s k k0 Q) _ tv)=_:=this; simp only[lR]at this; rw[z11 (Ne.symm (KM q))]at this; exact this
    | _=>exact this
   ·obtain⟨ys,f,C⟩:=H.val
    cases y with
    | tmp ty=>
     have f:aT (lR x.sl (.s k k0 Q) _ ty)=_:=f; simp only[lR]at f; split at f
     ·obtain⟨zs,z1,z2⟩:=QA f
      rename_i e; subst e; exact⟨zs,z1,z2.trans C⟩
     ·exact⟨ys,f,C⟩
    | _=>exact⟨ys,f,C⟩
 ·cases q
end

section
variable {P:Program} {τ:TypeId→Option TI} {Sgs:FuncId→List Sg} {F:FA} {ds:List (Option Nat)} {x x1:D} {o:Oper} {b b1:B} {g0:G} {w0:World} {a:Act} {g:G} {w:World}
theorem JH(O:aX P τ){t:TypeId}{tv:Nat}{y:Operand}{ob p:Nat}{i:TI}(ho:o.op= .store t (.tmp tv) y)(H:bP g0 w0 (b.S F.n x) a g w)(r:dN b (.tmp tv)=true)(s:dN b y=true)(C:b.hasO ob=true)(Q:τ t=some i)(N:Nb (.tmp tv) y i.size ob p x):
  ∃d ty,w.heap[g.β ob]? =some (.cells d ty (0,0))∧a.eval (.tmp tv)= .pointer (some ⟨g.β ob,p,none⟩)∧g.own (g.β ob)= .obj ob∧
   ∀l:World,l.heap[g.β ob]? =some (.cells d ty (0,0))→(execOp a.eval o).run P l= .ok .skip (l.setRow (g.β ob) (d.toList.take p++(a.eval y).cells.toList++d.toList.drop (p+(a.eval y).cells.toList.length)).toArray):=by
 obtain⟨I,⟨xs,R,hz⟩,cells,f,E⟩:=N; have h1:=H.ev_rv (.tmp tv) (fun _ _=> .none)
 rw[pU r,I]at h1; have K:a.eval (.tmp tv)= .pointer (some ⟨g.β ob,p,none⟩):=h1; obtain⟨d,ty,r1,r2,X,_⟩:=H.obs ob cells (by rw[Lc C]; exact f)
 obtain⟨L,T,_,_,_⟩:=iK (H.ev_rv y (fun _ j=> .oc ob (p+j))) (by rw[pU s]; exact R)
 have q:(a.eval y).cells.toList.length=xs.length:=by simpa using L
 have h: ∀v∈(a.eval y).cells.toList,v.oneCell'=true:=fun v I=>by
  obtain⟨c,m⟩:=z71 I
  have f:c<xs.length:=by have:=cK m; simp only[z45]at this; omega
  obtain⟨u,u1,Z,_⟩:=T c xs[c] (z16 f)
  rw[z26]at m
  rw[m]at u1; cases u1; exact qB Z
 obtain⟨k,_,_,V,_,W,_⟩:=O.get Q; refine⟨d,ty,r1,K,X,fun l J=> ?_⟩
 have M:=run_storeCells_at P (g.β ob) p ty (a.eval y).cells.toList 0 d l J (by rw[q,r2]; omega) h
 simp only[z69]at M; obtain⟨dst,op,Y,U,after,guard⟩:=o; simp only at ho; subst ho; have z: ¬ (a.eval y).cells.size≠k.size:=by rw[L,W,hz]; simp
 simp only[execOp,Instr.storeAt,K,Instr.sureAddr,Sem.run_bind,Sem.run_pure,Result.andThen_ok,storeVar,sizeOf,typeInfo,run_program,V,z11 z,M]
theorem Pj(hT:aX P τ)(hA:Ag F b x){t:TypeId}{tx:Nat}{z:Operand}{l:Loc}{p0:List (Nat×Nat)}{n0 q0 ob I:Nat}{c:Array Value}{w':World}(hd:o.dst=none)(ho:o.op= .store t (.tmp tx) z)(C:F.shOf tx= .one (.pp l p0 n0 q0))(hs:bP g0 w0 (b.S F.n x) a g w)
  (h1:dOp τ F x o=some x1)(J:cOp τ F b o=some b1)(R:g.own I= .obj ob)(f:(execOp a.eval o).run P w= .ok .skip w'):(execOp a.eval o).run P (w.setRow I c)= .ok .skip (w'.setRow I c)∧w'.heap[I]? =w.heap[I]? :=by
 unfold cOp at J; rw[hd,ho]at J; simp only at J; unfold dOp at h1; rw[hd,ho]at h1; simp only at h1; split at J<;>try cases J
 ·rename_i e; rw[show nU F (.tmp tx)=F.shOf tx from rfl,C]at e; cases e
 rename_i i l' p' n' j' hi e; rw[show nU F (.tmp tx)=F.shOf tx from rfl,C]at e; cases e; unfold Ae at J; obtain⟨K,_⟩:=aK J; simp only[z7]at K; obtain⟨⟨⟨⟨⟨⟨⟨Z,c2⟩,c3⟩,c4⟩,c5⟩,c6⟩,c7⟩,c8⟩:=K; have r:=hA.sl tx Z; rw[hi]at h1; split at h1<;>try cases h1
 ·rename_i i ob' p' xs hi k hy
  have k:x.sl tx= .one (.ptr ob' p'):=k; rw[k,C]at r; rcases r with e | e
  ·cases e
  ·simp [fits,bO]at e
 rename_i i' l' pp m j xs hi' k hy; cases hi'; have k:x.sl tx= .one (.pp l' pp m j):=k; have hl0:l'=l:=by
  rw[k,C]at r; rcases r with e | e
  ·cases e
  ·simp only[fits,bO,z7,z36]at e; exact e.1.1
 subst hl0; unfold sE at h1; split at h1<;>try cases h1
 rename_i x0 hat; split at h1<;>try cases h1
 rename_i es N; split at h1<;>try cases h1
 rename_i row H; obtain⟨U,_⟩:=aK h1; simp only[z7]at U; have hsz:=z14 U.1; have hle:=z29 U.2; obtain⟨a1,a2,a3,a4⟩:=sV (d:=F.n) hA Z c3 (.inr ⟨pp,m,j,k⟩); have E:(b.S F.n x).at l'=some x0:=by rw[Ig a4]; exact hat
 obtain⟨hk2,v0,X,off,len,M,v1,v2,T,L⟩:=hs.ppCell (by rw[qO Z]; exact k) a1 a3 E N H
 have V:=hs.pl_rd hk2 v1 E v2; have hne:I≠X:=by
  intro e; subst e; generalize hvv:Value.slice (some ⟨I,off,none⟩) len M=v at V; cases V with
  | nil a M=>simp at H
  | sl X off' len' cap' s es cs hl K hs2 hP hm Y=>
   cases hvv; exact hP.2 ob R
 obtain⟨k1,k2,_,_,_⟩:=iK (hs.ev_rv z (fun _ _=> .none)) (by rw[pU c2]; exact hy)
 have hcs:(a.eval z).cells.toList.length=xs.length:=by simpa using k1
 have Q: ∀v∈(a.eval z).cells.toList,v.oneCell'=true:=fun v k=>by
  obtain⟨c,K⟩:=z71 k
  have hcl:c<xs.length:=by have:=cK K; simp only[z45]at this; omega
  obtain⟨u,u1,u2,_⟩:=k2 c xs[c] (z16 hcl)
  rw[z26]at K
  rw[K]at u1; cases u1; exact qB u2
 obtain⟨W,_,_,q1,_,q3,_⟩:=hT.get hi; obtain⟨dst,op,ty',pos,after,guard⟩:=o; simp only at ho; subst ho; have O: ¬ (a.eval z).cells.size≠W.size:=by rw[k1,q3,hsz]; simp
 have e1:a.eval (.tmp tx)= .pointer (some ⟨X,off+m*row.length+j,none⟩):=T; simp only[execOp,Instr.storeAt,e1,Instr.sureAddr,Sem.run_bind,Sem.run_pure,Result.andThen_ok,storeVar,sizeOf,typeInfo,run_program,q1,z11 O]at f ⊢; cases Y:(storeCells ⟨X,off+m*row.length+j,none⟩ (a.eval z).cells.toList).run P w with
 | halt h w2=>rw[Y]at f; simp [Result.andThen]at f
 | ok u w2=>
  rw[Y]at f; simp only[Result.andThen_ok,Result.ok.injEq,Nc]at f; subst f; obtain⟨s1,s2⟩:=vT (c:=c) hne _ 0 w w2 Q (fun q U=>by
   rw[hcs]at U; have hlt:q<(row.drop j).length:=by rw[z65]; omega
   obtain⟨u,hu,_⟩:=L q _ (z16 hlt)
   exact⟨u,by rw[z69]; exact hu⟩) Y
  exact⟨by rw[s1]; rfl,s2⟩
theorem Pi(M:aX P τ)(X:Ag F b x){t:TypeId}{d:Nat}{v i:Operand}(Y:o.dst=some d)(ho:o.op= .indexAddr t v i)(f:(fW (F.shOf d)&&uA F v)=true)(E:bP g0 w0 (b.S F.n x) a g w)
  (h1:dOp τ F x o=some x1)(h:cOp τ F b o=some b1): ∃u, ∀q,(execOp a.eval o).run P q= .ok (.value u) q:=by
 unfold dOp at h1; unfold cOp at h; rw[Y,ho]at h1 h; simp only at h1 h; have W:=f; rw[W,z15]at h; simp only[z7]at f; unfold DT at h; split at h<;>try cases h
 rename_i s; obtain⟨N,_⟩:=aK h; simp only[z7]at N; obtain⟨⟨⟨⟨c1,L⟩,T⟩,c4⟩,U⟩:=N; have H:qE (ev x.sl (.tmp s))=true:=by
  cases hq:qE (ev x.sl (.tmp s))with
  | true=>rfl
  | false=>
   rw[hq,z83,z12]at h1; have:=KS (t:=t) (i:=i) X (show dN b (.tmp s)=true from L) (.inl h1); rw[hq,f.2]at this; cases this
 rw[f.1,H,z95,z15]at h1; unfold qR at h1; split at h1<;>try cases h1
 rename_i s' e k n r I J Z hv; cases I; split at h1<;>try cases h1
 rename_i row m; obtain⟨ei,Q,q2,R,q4⟩:=Cb m; have O:(b.S F.n x).sl s= .one (.c (.sl r)):=by rw[qO L]; exact hv
 have z:(b.S F.n x).at (.s s 0 0)=some (.sl r):=by rw[St.at_s,O]; rfl
 have h1:=E.slots s; rw[O]at h1; have K:vAt a.tmps g.β w (.s s 0 0)=some (a.tmps.getD s undef):=(iX h1.1).2; have C:=E.pl_rd U K z (.nil _ _); obtain⟨_,_,_,l⟩:=nM M Q; obtain⟨b',off,len,V,p1,hl,_⟩:=Gu (β:=g.β) C R q4 l; have hlt:n.toNat<r.length:=cK R; exact⟨_,fun q=>qT M J Q (ρ:=a.eval) (x:= .tmp s) p1 (E.int (show ev (b.S F.n x).sl i=_ by rw[pU T]; exact Z)) q2 (by omega) ho q⟩
end

structure By (F:FA) (ops ops':Array Oper) (n:Nat) (A:Oper) (t:TypeId) (tv:Nat) (y:Operand) (ob p:Nat):Prop where
 size:ops.size=n+1
 size':ops'.size=n+1
 same: ∀i,i<n→ops'[i]? =ops[i]?
 last:ops[n]? =some A
 last':ops'[n]? =some (xX n A)
 ds:ops'.toList.map (·.dst)=ops.toList.map (·.dst)
 op:A.op= .store t (.tmp tv) y
 dst:A.dst=none
 guard:A.guard=none
 sh:F.shOf tv= .one (.ptr ob p)
 edge: ∀e∈A.after,Region.binds .any e=true→e.on<n
 cls: ∀j,j<n→((Region.before ops).getD n 0).testBit j=true∨ ∀o,ops[j]? =some o→QW F (.tmp tv) y o=true

def NoQ:Exit→Act→World→Prop:=fun _ _ _=>False
theorem RX: ¬ LetsOut NoQ:=fun⟨_,_,h⟩=>h
theorem Uq{P:Program}{ops:Array Oper}{i:Nat}{o:Oper}{K:Act→World→Prop}{a:Act}{w:World}(h:wpOp P ops NoQ i K a w)(d:ops[i]? =some o)(c:o.guard=none):o.wp P a w K NoQ:=by
 unfold wpOp at h; simp only[d,Region.wanted,c,if_true]at h; exact h.resolve_right (fun e=>RX e.2)
theorem Dd{ops:Array Oper}{c:Array Bool}(s:c.size=ops.size)(q: ∀j o,ops[j]? =some o→ ∀e∈o.after,Region.binds .any e=true→e.on<j)(r:Region.ready .any ops c=[]): ∀j,j<ops.size→c.getD j false=true:=by
 have f: ∀j,j<ops.size→c.getD j true=c.getD j false:=fun j z=>by
  have:j<c.size:=by omega
  simp [Array.getD,this]
 intro j; induction j using Nat.strongRecOn with
 | _ j u=>
  intro k; rcases z146 (c.getD j false)with h | h
  ·exact h
  ·exfalso
   have:j∈Region.ready .any ops c:=by
    rw[mem_ready]; refine⟨by rw[f j k]; exact h,ops[j],z68 k,fun e d m=> ?_⟩
    have l:=q j _ (z68 k) e d m
    exact u e.on l (by omega)
   rw[r]at this; cases this

section
variable {P:Program} {τ:TypeId→Option TI} {Sgs:FuncId→List Sg} {F:FA} {ops ops':Array Oper} {n:Nat} {A:Oper} {t:TypeId} {tv:Nat} {y:Operand} {ob p:Nat} {x xn:D}
theorem Do(H:By F ops ops' n A t tv y ob p){ds:List (Option Nat)}: ∀ {L:List Nat} {x x':D},EX P τ Sgs F ds ops L x x'→EX P τ Sgs F ds ops' L x x'
 | [],_,_,h=>h
 | i::r,x,x',⟨o,x1,h1,d,f,k⟩=>by
  by_cases e:i<n
  ·exact⟨o,x1,by rw[H.same i e]; exact h1,d,f,Do H k⟩
  ·have l:i<ops.size:=(z25.1 h1).1
   have c:i=n:=by have:=H.size; omega
   have ho:o=A:=by rw[c,H.last]at h1; exact(z50 h1).symm
   exact⟨xX n A,x1,by rw[c]; exact H.last',by rw[ho]at d; exact d,by rw[ho]at f; exact f,Do H k⟩
theorem Dp(H:By F ops ops' n A t tv y ob p){ds:List (Option Nat)}: ∀ {L:List Nat} {x:D},EX P τ Sgs F ds ops' (L++[n]) x xn→(∀j∈L,j<n∧ ∀o,ops[j]? =some o→QW F (.tmp tv) y o=true)→ ∃i,τ t=some i∧Nb (.tmp tv) y i.size ob p x
 | [],x,⟨o,x1,h1,c,d,_⟩,_=>by
  rw[H.last']at h1; cases h1; exact Pg d c H.guard H.dst H.op H.sh
 | j::r,x,⟨o,x1,h1,c,d,l⟩,k=>by
  obtain⟨i,m,q⟩:=Dp H l (fun j h=>k j (z23 _ h))
  obtain⟨h,f⟩:=k j z27; rw[H.same j h]at h1; exact⟨i,m,Ph (f o h1) c d q⟩
theorem By.filt(H:By F ops ops' n A t tv y ob p){c:Array Bool}(d:c.size=n+1)(hn:c.getD n false=false):(List.range ops.size).filter (fun j=> !c.getD j true)=(List.range n).filter (fun j=> !c.getD j true)++[n]:=by
 rw[H.size,List.range_succ,z136]; congr 1
 rw[z149]
 ·rfl
 ·have:c.getD n true=c.getD n false:=by simp [Array.getD,d]
  rw[this,hn]; rfl
theorem By.edges(H:By F ops ops' n A t tv y ob p){ds:List (Option Nat)}(d:pB F ds ops'=true): ∀j o,ops[j]? =some o→ ∀e∈o.after,Region.binds .any e=true→e.on<j:=by
 intro j o ho e h f; have l:j<ops.size:=(z25.1 ho).1
 by_cases k:j<n
 ·simp only[pB,z7,z18,z57]at d
  have h1:=d.1 j (by rw[H.size']; omega)
  rw[H.same j k,ho]at h1; simp only[z80]at h1; have c:=h1 e h; simp only[f,z31,z56]at c; exact bK c
 ·have:j=n:=by have:=H.size; omega
  subst this; rw[H.last]at ho; cases ho; exact H.edge e h f
theorem By.left(H:By F ops ops' n A t tv y ob p){c:Array Bool}(f:pP ops (fun j=>c.getD j false=true))(k: ∀e∈A.after,Region.binds .any e=true→c.getD e.on false=true){j:Nat}(r:j<n)(s:c.getD j false=false): ∀o,ops[j]? =some o→QW F (.tmp tv) y o=true:=by
 refine(H.cls j r).resolve_left (fun q=> ?_)
 have m:pP ops (fun j=>j=n∨c.getD j false=true):=by
  intro i o ho h e l d; rcases h with rfl | h
  ·rw[H.last]at ho
   cases ho; exact .inr (k e l d)
  ·exact .inr (f i o ho h e l d)
 rcases oU m (.inl rfl) q with e | e
 ·omega
 ·rw[s]at e; cases e
theorem nQ{ds:List (Option Nat)}{mt:B→B→B}{q:Nat→B→Bool}{os:List Oper}{k:Nat}{L R:Lvl}(h:sC τ Sgs F ds mt q os (k+1) L=some R):(∀m b,rL m L=some b→q m b=true)∧ ∃d,FT τ Sgs F ds mt os L []=some d∧sC τ Sgs F ds mt q os k d=some R:=by
 unfold sC at h; obtain⟨h1,f⟩:=aK h; refine⟨fun m b z=> ?_, ?_⟩
 ·have s: ∀L:Lvl,L.all (fun p=>q p.1 p.2)=true→rL m L=some b→q m b=true:=by
   intro L; induction L with
   | nil=>intro _ h; cases h
   | cons p r ih=>
    obtain⟨C,E⟩:=p; intro l c; simp only[z91,z7]at l; simp only[rL]at c; cases e:Nat.beq m C with
    | true=>
     have:=z14 e; subst this; rw[e]at c; cases c; exact l.1
    | false=>rw[e]at c; exact ih l.2 c
  exact s L h1 z
 ·split at f
  ·rename_i d u; exact⟨d,u,f⟩
  ·cases f
theorem Sd{ds:List (Option Nat)}{b b1:B}{o:Oper}(h:tQ τ Sgs F ds b o=some b1)(f: ∀c,o.op≠ .call c): ∃b2,cOp τ F b o=some b2:=by
 obtain⟨b2,d,_⟩:=HR h; refine⟨b2, ?_⟩
 unfold Qt at d; have:dQ o=none:=by
  unfold dQ; split
  ·rename_i c e; exact absurd e (f c)
  ·rfl
 rw[this]at d; exact d
theorem Mk{o:Oper}{ev:Operand→Value}{t:TypeId}{v z:Operand}(ho:o.op= .store t v z){c:Next}{w w':World}(h:(execOp ev o).run P w= .ok c w'):c= .skip:=by
 obtain⟨dst,op,f,d,after,guard⟩:=o; simp only at ho; subst ho; simp only[execOp,Sem.run_bind]at h; cases hr:(Instr.storeAt t (ev v) (ev z)).run P w with
 | halt x k=>rw[hr]at h; simp [Result.andThen]at h
 | ok u k=>
  rw[hr]at h; simp only[Result.andThen_ok,Sem.run_pure,Result.ok.injEq]at h; exact h.1.symm
theorem Tn(hT:aX P τ)(H:By F ops ops' n A t tv y ob p)(hO:pB F (ops'.toList.map (·.dst)) ops'=true){mt:B→B→B}{mf:Nat}{bf:B}{g0:G}{w0:World}{Q:Exit→Act→World→Prop}{a0:Act}
  (hQ: ∀a w,Sim g0 w0 (bf.S F.n xn) a w→(∀z,yR z ops.toList=true→a.tmps.getD z undef=a0.tmps.getD z undef)→Q .normal a w){bA:Nat}{arr:Array Value}{ty:TypeId}{vs:List Value}:
  ∀(k:Nat) (listed:Array Bool) (m:Nat) (L:Lvl) (b:B) (x:D) (a:Act) (w:World),sC τ Sgs F (ops'.toList.map (·.dst)) mt (Ja A (.tmp tv) y ob) ops'.toList (k+1) L=some [(mf,bf)]→rL m L=some b→listed.size=n+1→listed.getD n false=false→
   (∀i,i<n+1→m.testBit i=listed.getD i false)→pP ops (fun j=>listed.getD j false=true)→(∀e∈A.after,Region.binds .any e=true→listed.getD e.on false=true)→(List.range ops.size).countP (fun i=> !listed.getD i true)=k+1→Ag F b x→
   EX P τ Sgs F (ops'.toList.map (·.dst)) ops' ((List.range ops.size).filter fun j=> !listed.getD j true) x xn→Sim g0 w0 (b.S F.n x) a w→(∀z,yR z ops.toList=true→a.tmps.getD z undef=a0.tmps.getD z undef)→
   a.eval (.tmp tv)= .pointer (some ⟨bA,p,none⟩)→w.heap[bA]? =some (.cells arr ty (0,0))→(a.eval y).cells.toList=vs→
   wpAny P .any ops Q k (listed.setIfInBounds n true) a (w.setRow bA (arr.toList.take p++vs++arr.toList.drop (p+vs.length)).toArray):=by
 have hdn: ∀(listed:Array Bool),listed.size=n+1→ ∀j,j<n+1→listed.getD j true=listed.getD j false:=fun listed h1 j h2=>by
  have:j<listed.size:=by omega
  simp [Array.getD,this]
 have facts: ∀(k:Nat) (listed:Array Bool) (m:Nat) (L:Lvl) (b:B) (x:D) (a:Act) (w:World) (g:G),sC τ Sgs F (ops'.toList.map (·.dst)) mt (Ja A (.tmp tv) y ob) ops'.toList (k+1) L=some [(mf,bf)]→rL m L=some b→listed.size=n+1→listed.getD n false=false→
   (∀i,i<n+1→m.testBit i=listed.getD i false)→pP ops (fun j=>listed.getD j false=true)→(∀e∈A.after,Region.binds .any e=true→listed.getD e.on false=true)→
   EX P τ Sgs F (ops'.toList.map (·.dst)) ops' ((List.range ops.size).filter fun j=> !listed.getD j true) x xn→bP g0 w0 (b.S F.n x) a g w→a.eval (.tmp tv)= .pointer (some ⟨bA,p,none⟩)→w.heap[bA]? =some (.cells arr ty (0,0))→(a.eval y).cells.toList=vs→
   g.own bA= .obj ob∧(execOp a.eval A).run P w= .ok .skip (w.setRow bA (arr.toList.take p++vs++arr.toList.drop (p+vs.length)).toArray):=by
  intro k listed m L b x a w g hL hm hsz hn hbit hcl hrd hrun hs hev hh hvs; have hq:=(nQ hL).1 m b hm; have hrdy:jQ m A=true:=by
   simp only[jQ,z18]; intro e he; cases hb:Region.binds .any e with
   | false=>rfl
   | true=>
    have h1:=hrd e (z40.1 he) hb; have h2:=H.edge e (z40.1 he) hb; simp only[z31,z56]; rw[hbit e.on (by omega)]; exact h1
  simp only[Ja,hrdy,z31,z56,z7]at hq; rw[H.filt hsz hn]at hrun; obtain⟨i,hi,hl⟩:=Dp H hrun (fun j hj=>by
   rw[z73,z57]at hj; refine⟨hj.1,H.left hcl hrd hj.1 ?_⟩
   rw[←hdn listed hsz j (by omega)]
   simpa using hj.2)
  obtain⟨arr',ty',h1,h2,h3,h4⟩:=JH (P:=P) hT H.op hs hq.1.1 hq.1.2 hq.2 hi hl; rw[hev]at h2; have e:g.β ob=bA:=by simpa using h2.symm
  rw[e]at h1 h3 h4; rw[hh]at h1; cases h1; rw[hvs]at h4; exact⟨h3,h4 w hh⟩
 intro k; induction k with
 | zero=>
  intro listed m L b x a w hL hm hsz hn hbit hcl hrd hcount hA hrun hs hz hev hh hvs; obtain⟨g,hsg⟩:=hs; obtain⟨hown,hexec⟩:=facts 0 listed m L b x a w g hL hm hsz hn hbit hcl hrd hrun hsg hev hh hvs; obtain⟨_,L',hL',hL0⟩:=nQ hL; cases hL0; rw[z58]at hcount; rw[H.filt hsz hn]at hrun hcount; have hnil:(List.range n).filter (fun j=> !listed.getD j true)=[]:=by
   rw[z32,z37]at hcount; exact z76.1 (by omega)
  have hall: ∀j,j<n→listed.getD j false=true:=fun j hj=>by
   rw[←hdn listed hsz j (by omega)]
   have:=z98.1 hnil j (z57.2 hj); simpa using this
  rw[hnil]at hrun; obtain⟨o,x1,h1,hfo,hsd,hx⟩:=hrun; have hx:x1=xn:=hx; subst hx; rw[H.last']at h1; cases h1; have hrdy:jQ m (xX n A)=true:=by
   simp only[jQ,z18]; intro e he; have he:e∈((List.range n).map fun j=>(⟨j, .data⟩:Edge)):=by simpa [xX]using he
   obtain⟨j,hj,rfl⟩:=z49.1 he; have hj:=z57.1 hj; simp only[hbit j (by omega),hall j hj,z167]
  obtain⟨b1,b2,s1,s2,cv⟩:=(uU hL').2 m b hm n (xX n A) (by rw[z26]; exact H.last') (by rw[hbit n (by omega)]; exact hn) hrdy
  simp only[rL]at s2; cases h3:Nat.beq (m||| 2 ^ n) mf with
  | false=>rw[h3]at s2; cases s2
  | true=>
   rw[h3]at s2; cases s2; obtain⟨hA1,hw1⟩:=hsd.step (P:=P) hT hA H.last' s1; obtain⟨hA2,cs⟩:=cv x1 hA1; have hk:=hw1 g0 w0 NoQ (fun a' w'=>Sim g0 w0 (bf.S F.n x1) a' w'∧a'=a) a w ⟨g,hsg⟩ (fun v w' hs'=>⟨cs _ _ _ _ hs',by show(match A.dst with | some d=>_ | none=>a)=a; rw[H.dst]⟩)
   have hwp:=Uq hk H.last' H.guard; unfold Oper.wp at hwp; have hexec':(execOp a.eval (xX n A)).run P w= .ok .skip (w.setRow bA (arr.toList.take p++vs++arr.toList.drop (p+vs.length)).toArray):=hexec; rw[hexec']at hwp; have hwp:Sim g0 w0 (bf.S F.n x1) (a.put (xX n A).dst undef) _∧_=a:=hwp; rw[hwp.2]at hwp; refine⟨?_,hQ a _ hwp.1 hz⟩
   apply z124.2
   intro j hj; obtain⟨h1,o,ho,_⟩:=mem_ready.1 hj; have hlt:j<ops.size:=(z25.1 ho).1
   have hsize:=H.size; by_cases e:j=n
   ·subst e
    have:(listed.setIfInBounds j true).getD j true=true:=by simp [Array.getD]
    rw[this]at h1; cases h1
   ·rw[getD_set_ne true (Ne.symm e),hdn listed hsz j (by omega),hall j (by omega)]at h1
    cases h1
 | succ k ih=>
  intro listed m L b x a w hL hm hsz hn hbit hcl hrd hcount hA hrun hs hz hev hh hvs; obtain⟨g,hsg⟩:=hs; obtain⟨hown,_⟩:=facts (k+1) listed m L b x a w g hL hm hsz hn hbit hcl hrd hrun hsg hev hh hvs; have hsize:=H.size; refine⟨fun hr=> ?_,fun i hi=> ?_⟩
  ·exfalso
   have hall:=Dd (by simpa [hsize]using hsz) (H.edges hO) hr
   have hnil:(List.range n).filter (fun j=> !listed.getD j true)=[]:=z98.2 fun j hj=>by
    have hj:=z57.1 hj; have:=hall j (by omega)
    rw[getD_set_ne false (by omega)]at this
    rw[hdn listed hsz j (by omega),this]; simp
   rw[z58,H.filt hsz hn,hnil]at hcount; simp at hcount
  ·obtain⟨hun,o,ho,hafter⟩:=mem_ready.1 hi
   have hlt:i<ops.size:=(z25.1 ho).1
   have hin:i≠n:=fun e=>by
    subst e; have:(listed.setIfInBounds i true).getD i true=true:=by simp [Array.getD]
    rw[this]at hun; cases hun
   have hlt':i<n:=by omega
   rw[getD_set_ne true (Ne.symm hin)]at hun; have hun':listed.getD i false=false:=by rw[←hdn listed hsz i (by omega)]; exact hun
   have ho':ops'[i]? =some o:=by rw[H.same i hlt']; exact ho
   have haft: ∀e∈o.after,Region.binds .any e=true→listed.getD e.on false=true:=fun e he hb=>by
    have h1:=hafter e he hb; have h2:=H.edges hO i o ho e he hb; rwa[getD_set_ne false (by omega)]at h1
   have hcls:=H.left hcl hrd hlt' hun' o ho; have hcl':pP ops (fun j=>(listed.setIfInBounds i true).getD j false=true):=by
    intro j oj hoj hj e he hb; by_cases hij:i=j
    ·subst hij
     rw[ho]at hoj; cases hoj; exact getD_set_true (haft e he hb)
    ·rw[getD_set_ne false hij]at hj
     exact getD_set_true (hcl j oj hoj hj e he hb)
   have hclO:pP ops' (fun j=>(listed.setIfInBounds i true).getD j false=true):=by
    intro j oj hoj hj e he hb; have hjlt:j<n+1:=by have:=(z25.1 hoj).1; have:=H.size'; omega
    have hjn:j≠n:=fun e=>by
     subst e; rw[getD_set_ne false hin,hn]at hj; cases hj
    rw[H.same j (by omega)]at hoj
    exact hcl' j oj hoj hj e he hb
   have hset:(listed.setIfInBounds i true).getD i false=true:=by
    have:i<listed.size:=by omega
    simp [Array.getD,this]
   obtain⟨A',C,f1,f2,f3⟩:=BU (ops:=ops) (by rw[hsize]; exact hsz) hlt hun
   rw[f1]at hrun; have hO2:=hO; simp only[pB,z7,z18,z57]at hO2; obtain⟨hfo,x1,hsd,hrun1⟩:=hrun.front ho' (fun j hj a' ha'=>by
    obtain⟨j1,j2⟩:=f3 j hj; have h1:=hO2.2 i (by rw[H.size']; omega) j j1
    rw[ha',ho']at h1; simp only[z48]at h1; refine h1.resolve_left (fun h2=> ?_)
    have:=oU (D:=fun j=>(listed.setIfInBounds i true).getD j false=true) hclO hset h2
    rw[getD_set_ne false (by omega)]at this
    rw[hdn listed hsz j (by omega)]at j2
    rw[j2]at this; cases this)
   have hrdy:jQ m o=true:=by
    simp only[jQ,z18]; intro e he; cases hb:Region.binds .any e with
    | false=>rfl
    | true=>
     have h1:=haft e (z40.1 he) hb; have h2:=H.edges hO i o ho e (z40.1 he) hb; simp only[z31,z56]; rw[hbit e.on (by omega)]; exact h1
   obtain⟨_,L',hL',hL0⟩:=nQ hL; obtain⟨b1,b2,s1,s2,cv⟩:=(uU hL').2 m b hm i o (by rw[z26]; exact ho') (by rw[hbit i (by omega)]; exact hun') hrdy
   obtain⟨hA1,hw1⟩:=hsd.step (P:=P) hT hA ho' s1; obtain⟨hA2,cs⟩:=cv x1 hA1; have hk:=hw1 g0 w0 NoQ (fun a' w'=>Sim g0 w0 (b2.S F.n x1) a' w') a w ⟨g,hsg⟩ (fun v w' hs'=>cs _ _ _ _ hs')
   have hg:o.guard=none:=by
    unfold QW at hcls; simp only[z7,z84]at hcls; exact hcls.1
   have hwp:=Uq hk ho' hg; have hwant: ∀a:Act,Region.wanted o (yielded ops a.tmps)=true:=fun a=>by unfold Region.wanted; rw[hg]
   have next: ∀(u:Value) (w2:World),Sim g0 w0 (b2.S F.n x1) (a.put o.dst u) w2→(a.put o.dst u).eval (.tmp tv)=a.eval (.tmp tv)→(a.put o.dst u).eval y=a.eval y→w2.heap[bA]? =w.heap[bA]? →
     wpAny P .any ops Q k ((listed.setIfInBounds n true).setIfInBounds i true) (a.put o.dst u) (w2.setRow bA (arr.toList.take p++vs++arr.toList.drop (p+vs.length)).toArray):=fun u w2 hs2 e1 e2 e3=>by
    rw[Array.setIfInBounds_comm _ _ (Ne.symm hin)]; refine ih (listed.setIfInBounds i true) (m||| 2 ^ i) L' b2 x1 _ w2 hL0 s2 (by simpa using hsz) (by rw[getD_set_ne false hin]; exact hn) (fun j hj=> ?_) hcl' (fun e he hb=>getD_set_true (hrd e he hb)) ?_ hA2 (by rw[f2]; exact hrun1) hs2 (fun z hno=> ?_) (by rw[e1]; exact hev) (by rw[e3]; exact hh) (by rw[e2]; exact hvs)
    ·rw[Sk,z96,hbit j hj]
     by_cases hij:i=j
     ·subst hij; rw[hset]; simp
     ·rw[getD_set_ne false hij]; simp [hij]
    ·rw[z58]at hcount ⊢
     rw[f1]at hcount; rw[f2]; simp only[z32,z34]at hcount ⊢; omega
    ·have hne:o.dst≠some z:=by
      have key: ∀l:List Oper,yR z l=true→ ∀o∈l,o.dst≠some z:=by
       intro l; induction l with
       | nil=>intro _ o h; cases h
       | cons p r ihl=>
        intro h o hm; simp only[yR,z7,z35,z39]at h; cases hm with
        | head=>exact h.1
        | tail _ hm=>exact ihl h.2 o hm
      exact key ops.toList hno o (z40.2 (z125 ho))
     rw[zZ hne]; exact hz z hno
   unfold QW at hcls; simp only[z7]at hcls; have hcls:=hcls.2; split at hcls
   ·rename_i d t' z i' hd hop
    simp only[z7]at hcls; obtain⟨b3,hb3⟩:=Sd s1 (fun c e=>by rw[hop]at e; cases e)
    obtain⟨u,hu⟩:=Pi (P:=P) hT hA hd hop (by simp only[z7]; exact hcls.2) hsg (NR hsd hg (fun c e=>by rw[hop]at e; cases e)) hb3
    unfold Oper.wp at hwp; rw[hu]at hwp; have hwp:Sim g0 w0 (b2.S F.n x1) (a.put o.dst u) w:=hwp; have hev1: ∀v,Qz d v=true→(a.put o.dst u).eval v=a.eval v:=fun v hv=>Act.eval_put (fun d' e1 e2=>by
     rw[hd]at e1; cases e1; subst e2; exact KM hv rfl)
    refine DH ho true (hwant a) ?_
    show o.wp P a _ _ _; unfold Oper.wp; rw[hu]; exact next u w hwp (hev1 _ hcls.1.1) (hev1 _ hcls.1.2) rfl
   ·rename_i t' tx z hd hop
    split at hcls<;>try cases hcls
    rename_i k0 k1 j0 p0 n0 q0 hsh; obtain⟨b3,hb3⟩:=Sd s1 (fun c e=>by rw[hop]at e; cases e)
    unfold Oper.wp at hwp; cases hr:(execOp a.eval o).run P w with
    | halt x2 w2=>
     rw[hr]at hwp; exfalso
     cases x2<;>exact hwp
    | ok nx w2=>
     have:=Mk hop hr; subst this; rw[hr]at hwp; have hwp:Sim g0 w0 (b2.S F.n x1) (a.put o.dst undef) w2:=hwp; obtain⟨r1,r2⟩:=Pj (P:=P) (c:=(arr.toList.take p++vs++arr.toList.drop (p+vs.length)).toArray) hT hA hd hop hsh hsg (NR hsd hg (fun c e=>by rw[hop]at e; cases e)) hb3 hown hr
     refine DH ho true (hwant a) ?_
     show o.wp P a _ _ _; unfold Oper.wp; rw[r1]; exact next undef w2 hwp (by rw[hd]; rfl) (by rw[hd]; rfl) r2
   ·cases hcls
theorem SF(hT:aX P τ)(H:By F ops ops' n A t tv y ob p)(hO:pB F (ops'.toList.map (·.dst)) ops'=true){mt:B→B→B}{mf:Nat}{bf:B}{g0:G}{w0:World}{Q:Exit→Act→World→Prop}{a0:Act}
  (hQ: ∀a w,Sim g0 w0 (bf.S F.n xn) a w→(∀z,yR z ops.toList=true→a.tmps.getD z undef=a0.tmps.getD z undef)→Q .normal a w):
  ∀(k:Nat) (listed:Array Bool) (m:Nat) (L:Lvl) (b:B) (x:D) (a:Act) (w:World),sC τ Sgs F (ops'.toList.map (·.dst)) mt (Ja A (.tmp tv) y ob) ops'.toList (k+1) L=some [(mf,bf)]→rL m L=some b→listed.size=n+1→listed.getD n false=false→
   (∀i,i<n+1→m.testBit i=listed.getD i false)→pP ops (fun j=>listed.getD j false=true)→(List.range ops.size).countP (fun i=> !listed.getD i true)=k+1→Ag F b x→
   EX P τ Sgs F (ops'.toList.map (·.dst)) ops' ((List.range ops.size).filter fun j=> !listed.getD j true) x xn→Sim g0 w0 (b.S F.n x) a w→(∀z,yR z ops.toList=true→a.tmps.getD z undef=a0.tmps.getD z undef)→
   wpAny P .any ops Q (k+1) listed a w:=by
 have hdn: ∀(listed:Array Bool),listed.size=n+1→ ∀j,j<n+1→listed.getD j true=listed.getD j false:=fun listed h1 j h2=>by
  have:j<listed.size:=by omega
  simp [Array.getD,this]
 have hsize:=H.size
 have now: ∀(k:Nat) (listed:Array Bool) (m:Nat) (L:Lvl) (b:B) (x:D) (a:Act) (w:World),sC τ Sgs F (ops'.toList.map (·.dst)) mt (Ja A (.tmp tv) y ob) ops'.toList (k+1) L=some [(mf,bf)]→rL m L=some b→listed.size=n+1→listed.getD n false=false→
   (∀i,i<n+1→m.testBit i=listed.getD i false)→pP ops (fun j=>listed.getD j false=true)→(∀e∈A.after,Region.binds .any e=true→listed.getD e.on false=true)→(List.range ops.size).countP (fun i=> !listed.getD i true)=k+1→Ag F b x→
   EX P τ Sgs F (ops'.toList.map (·.dst)) ops' ((List.range ops.size).filter fun j=> !listed.getD j true) x xn→Sim g0 w0 (b.S F.n x) a w→(∀z,yR z ops.toList=true→a.tmps.getD z undef=a0.tmps.getD z undef)→
   wpOp P ops Q n (wpAny P .any ops Q k (listed.setIfInBounds n true)) a w:=by
  intro k listed m L b x a w hL hm hsz hn hbit hcl hrd hcount hA hrun hs hz; have hq:=(nQ hL).1 m b hm; have hrdy:jQ m A=true:=by
   simp only[jQ,z18]; intro e he; cases hb:Region.binds .any e with
   | false=>rfl
   | true=>
    have h1:=hrd e (z40.1 he) hb; have h2:=H.edge e (z40.1 he) hb; simp only[z31,z56]; rw[hbit e.on (by omega)]; exact h1
  simp only[Ja,hrdy,z31,z56,z7]at hq; have hrun2:=hrun; rw[H.filt hsz hn]at hrun2; obtain⟨i,hi,hl⟩:=Dp H hrun2 (fun j hj=>by
   rw[z73,z57]at hj; refine⟨hj.1,H.left hcl hrd hj.1 ?_⟩
   rw[←hdn listed hsz j (by omega)]
   simpa using hj.2)
  obtain⟨g,hsg⟩:=hs; obtain⟨arr,ty,h1,h2,h3,h4⟩:=JH (P:=P) hT H.op hsg hq.1.1 hq.1.2 hq.2 hi hl; have hp:=Tn hT H hO hQ k listed m L b x a w hL hm hsz hn hbit hcl hrd hcount hA hrun ⟨g,hsg⟩ hz h2 h1 rfl; refine DH H.last true (by unfold Region.wanted; rw[H.guard]) ?_
  show A.wp P a w _ _; unfold Oper.wp; rw[h4 w h1]; show wpAny P .any ops Q k (listed.setIfInBounds n true) (a.put A.dst undef) _; rw[H.dst]; exact hp
 intro k; induction k with
 | zero=>
  intro listed m L b x a w hL hm hsz hn hbit hcl hcount hA hrun hs hz; have hnil:(List.range n).filter (fun j=> !listed.getD j true)=[]:=by
   rw[z58,H.filt hsz hn,z32,z37]at hcount; exact z76.1 (by omega)
  have hall: ∀j,j<n→listed.getD j false=true:=fun j hj=>by
   rw[←hdn listed hsz j (by omega)]
   have:=z98.1 hnil j (z57.2 hj); simpa using this
  refine⟨fun hr=> ?_,fun i hi=> ?_⟩
  ·exfalso
   have:=Dd (by rw[hsize]; exact hsz) (H.edges hO) hr n (by omega)
   rw[hn]at this; cases this
  ·obtain⟨hun,o,ho,_⟩:=mem_ready.1 hi
   have hlt:i<ops.size:=(z25.1 ho).1
   have hin:i=n:=by
    rcases z94 i n with h | h
    ·rw[hdn listed hsz i (by omega),hall i h]at hun; cases hun
    ·omega
   rw[hin]; exact now 0 listed m L b x a w hL hm hsz hn hbit hcl (fun e he hb=>hall e.on (H.edge e he hb)) hcount hA hrun hs hz
 | succ k ih=>
  intro listed m L b x a w hL hm hsz hn hbit hcl hcount hA hrun hs hz; refine⟨fun hr=> ?_,fun i hi=> ?_⟩
  ·exfalso
   have:=Dd (by rw[hsize]; exact hsz) (H.edges hO) hr n (by omega)
   rw[hn]at this; cases this
  ·obtain⟨hun,o,ho,haft⟩:=mem_ready.1 hi
   have hlt:i<ops.size:=(z25.1 ho).1
   by_cases hin:i=n
   ·have hoA:o=A:=by rw[hin,H.last]at ho; exact(z50 ho).symm
    rw[hoA]at haft; rw[hin]; exact now (k+1) listed m L b x a w hL hm hsz hn hbit hcl haft hcount hA hrun hs hz
   have hlt':i<n:=by omega
   have hun':listed.getD i false=false:=by rw[←hdn listed hsz i (by omega)]; exact hun
   have ho':ops'[i]? =some o:=by rw[H.same i hlt']; exact ho
   have hcl':pP ops (fun j=>(listed.setIfInBounds i true).getD j false=true):=by
    intro j oj hoj hj e he hb; by_cases hij:i=j
    ·subst hij
     rw[ho]at hoj; cases hoj; exact getD_set_true (haft e he hb)
    ·rw[getD_set_ne false hij]at hj
     exact getD_set_true (hcl j oj hoj hj e he hb)
   have hclO:pP ops' (fun j=>(listed.setIfInBounds i true).getD j false=true):=by
    intro j oj hoj hj e he hb; have hjlt:j<n+1:=by have:=(z25.1 hoj).1; have:=H.size'; omega
    have hjn:j≠n:=fun e=>by
     subst e; rw[getD_set_ne false hin,hn]at hj; cases hj
    rw[H.same j (by omega)]at hoj
    exact hcl' j oj hoj hj e he hb
   have hset:(listed.setIfInBounds i true).getD i false=true:=by
    have:i<listed.size:=by omega
    simp [Array.getD,this]
   obtain⟨A',C,f1,f2,f3⟩:=BU (ops:=ops) (by rw[hsize]; exact hsz) hlt hun
   rw[f1]at hrun; have hO2:=hO; simp only[pB,z7,z18,z57]at hO2; obtain⟨hfo,x1,hsd,hrun1⟩:=hrun.front ho' (fun j hj a' ha'=>by
    obtain⟨j1,j2⟩:=f3 j hj; have h1:=hO2.2 i (by rw[H.size']; omega) j j1
    rw[ha',ho']at h1; simp only[z48]at h1; refine h1.resolve_left (fun h2=> ?_)
    have:=oU (D:=fun j=>(listed.setIfInBounds i true).getD j false=true) hclO hset h2
    rw[getD_set_ne false (by omega)]at this
    rw[hdn listed hsz j (by omega)]at j2
    rw[j2]at this; cases this)
   have hrdy:jQ m o=true:=by
    simp only[jQ,z18]; intro e he; cases hb:Region.binds .any e with
    | false=>rfl
    | true=>
     have h1:=haft e (z40.1 he) hb; have h2:=H.edges hO i o ho e (z40.1 he) hb; simp only[z31,z56]; rw[hbit e.on (by omega)]; exact h1
   obtain⟨_,L',hL',hL0⟩:=nQ hL; obtain⟨b1,b2,s1,s2,cv⟩:=(uU hL').2 m b hm i o (by rw[z26]; exact ho') (by rw[hbit i (by omega)]; exact hun') hrdy
   obtain⟨hA1,hw1⟩:=hsd.step (P:=P) hT hA ho' s1; obtain⟨hA2,cs⟩:=cv x1 hA1; have hk:=hw1 g0 w0 Q (wpAny P .any ops Q (k+1) (listed.setIfInBounds i true)) a w hs (fun v w' hs'=>by
    refine ih (listed.setIfInBounds i true) (m||| 2 ^ i) L' b2 x1 _ w' hL0 s2 (by simpa using hsz) (by rw[getD_set_ne false hin]; exact hn) (fun j hj=> ?_) hcl' ?_ hA2 (by rw[f2]; exact hrun1) (cs _ _ _ _ hs') (fun z hno=> ?_)
    ·rw[Sk,z96,hbit j hj]
     by_cases hij:i=j
     ·subst hij; rw[hset]; simp
     ·rw[getD_set_ne false hij]; simp [hij]
    ·rw[z58]at hcount ⊢
     rw[f1]at hcount; rw[f2]; simp only[z32,z34]at hcount ⊢; omega
    ·have hne:o.dst≠some z:=by
      have key: ∀l:List Oper,yR z l=true→ ∀o∈l,o.dst≠some z:=by
       intro l; induction l with
       | nil=>intro _ o h; cases h
       | cons p r ihl=>
        intro h o hm; simp only[yR,z7,z35,z39]at h; cases hm with
        | head=>exact h.1
        | tail _ hm=>exact ihl h.2 o hm
      exact key ops.toList hno o (z40.2 (z125 ho))
     rw[zZ hne]; exact hz z hno)
   have hy:yielded ops' a.tmps=yielded ops a.tmps:=by
    funext g
    unfold yielded; have:(ops'[g]?).bind (·.dst)=(ops[g]?).bind (·.dst):=by
     have h1:=congrArg (fun l=>(l[g]?).bind id) H.ds
     simpa [z28,Option.bind_map]using h1
    rw[this]
   unfold wpOp at hk ⊢; rw[ho']at hk; rw[ho]; rw[hy]at hk; exact hk
end

theorem EC: ∀(l:List Oper) (n:Nat),(mF l n).length=l.length
 | [],_=>rfl
 | [_],_=>rfl
 | _::p::r,n=>by
  have:=EC (p::r) (n+1); simp only[mF,z34]at this ⊢; omega
theorem ED: ∀(l:List Oper) (n i:Nat),i+1<l.length→(mF l n)[i]? =l[i]?
 | [],_,_,h=>by simp at h
 | [_],_,i,h=>by simp at h
 | o::p::r,n,0,_=>rfl
 | o::p::r,n,i+1,h=>by
  simp only[mF,z21]
  exact ED (p::r) (n+1) i (by simpa using h)
theorem Bz: ∀(l:List Oper) (n i:Nat) (A:Oper),i+1=l.length→l[i]? =some A→(mF l n)[i]? =some (xX (n+i) A)
 | [],_,_,_,h,_=>by simp at h
 | [o],n,i,A,h,c=>by
  have:i=0:=by simpa using h
  subst this; cases c; rfl
 | o::p::r,n,0,A,h,_=>by simp at h
 | o::p::r,n,i+1,A,h,c=>by
  simp only[mF,z21]
  rw[Bz (p::r) (n+1) i A (by simpa using h) (by simpa using c),show n+1+i=n+(i+1)by omega]
theorem GK: ∀(l:List Oper) (n:Nat),(mF l n).map (·.dst)=l.map (·.dst)
 | [],_=>rfl
 | [_],_=>rfl
 | o::p::r,n=>by
  simp only[mF,z54]; rw[GK (p::r) (n+1)]; rfl
section
variable {P:Program} {τ:TypeId→Option TI} {Sgs:FuncId→List Sg} {F:FA} {ops:Array Oper} {b b1:B} {mt:B→B→B}
theorem xS{ds:List (Option Nat)}{q:Nat→B→Bool}{os:List Oper}: ∀ {k:Nat} {L R:Lvl},sC τ Sgs F ds mt q os k L=some R→IW τ Sgs F ds mt os k L=some R
 | 0,L,R,h=>h
 | k+1,L,R,h=>by
  obtain⟨_,d,h1,c⟩:=nQ h; simp only[IW,h1]; exact xS c
theorem Re(M:aX P τ)(h:TG τ Sgs F mt b ops=some b1):(KB τ Sgs F (ops.toList.map (·.dst)) b ops.toList).isSome=true∧ ∀x x1,Ag F b x→EX P τ Sgs F (ops.toList.map (·.dst)) ops (List.range' 0 ops.toList.length) x x1→
  Ag F b1 x1∧ ∀(g0:G) (w0:World) (Q:Exit→Act→World→Prop) (a:Act) (w:World),Sim g0 w0 (b.S F.n x) a w→(∀u w',Sim g0 w0 (b1.S F.n x1) u w'→(∀z,yR z ops.toList=true→u.tmps.getD z undef=a.tmps.getD z undef)→Q .normal u w')→wpAny P .any ops Q ops.size (Array.replicate ops.size false) a w:=by
 unfold TG at h; split at h<;>try cases h
 rename_i A l; split at h<;>try cases h
 rename_i t tv y U ho W; split at h<;>try cases h
 rename_i ob p I; obtain⟨N,h⟩:=aK h; simp only[z7]at N; obtain⟨J,K,L,O⟩:=N; split at h<;>try cases h
 rename_i Z f; obtain⟨n,hn⟩: ∃n,ops.size=n+1:=by
  cases e:ops.size with
  | zero=>
   rw[e]at l; have:ops.toList.length=0:=by simpa using e
   rw[z76.1 this]at l; cases l
  | succ n=>exact⟨n,rfl⟩
 have E:ops.size - 1=n:=by omega
 rw[E]at J K l; have d:ops[n]? =some A:=by
  have:=congrArg (·[0]?) l
  simp only[z47,z69,z20,z26]at this
  exact this
 have H:By F ops (mF ops.toList 0).toArray n A t tv y ob p:= {
  size:=hn
  size':=by rw[z87,EC]; simpa using hn
  same:=fun i C=>by rw[z85,ED _ _ _ (by simp; omega),z26]
  last:=d
  last':=by rw[z85,Bz ops.toList 0 n A (by simp; omega) (by rw[z26]; exact d),z30]
  ds:=GK _ _
  op:=ho
  dst:=U
  guard:=W
  sh:=I
  edge:=fun e V T=>by
   have:=z80.1 J e V; simp only[T,z31,z56]at this; exact bK this
  cls:=fun j q=>by
   have:=z18.1 K j (z57.2 q); simp only[z48]at this; refine this.imp id (fun k o ho=> ?_)
   rw[ho]at k; exact k }
 refine⟨O,fun x x1 m s=> ?_⟩
 have c:=Do H s; rw[←H.ds]at c; have X:ops.toList.length=ops.size:=by simp
 have r:(List.range ops.size).filter (fun j=> !(Array.replicate ops.size false).getD j true)=List.range' 0 ops.toList.length:=by
  rw[List.filter_eq_self.2 (fun j q=>by
   have:=z57.1 q; simp [Array.getD,this]),WA]
  simp
 refine⟨?_,fun g0 w0 Q a w Y R=> ?_⟩
 ·have:=Pf M L (mF ops.toList 0).toArray.size 0 0 [(0,b)] b x (by simp) (by
   have:=xS f; rw[H.size', ←hn]; exact this) (by simp [rL]) (fun i C=>by simp) m (by rw[H.size', ←hn, ←X]; exact c)
  exact this
 ·rw[hn]at f
  have k:=SF (a0:=a) (Q:=Q) M H L R n (Array.replicate ops.size false) 0 [(0,b)] b x a w f (by simp [rL]) (by simpa using hn) (by simp [Array.getD,hn]) (fun i C=>by simp [Array.getD,hn,C]) (fun j o ho q=>by
   have:=(z25.1 ho).1
   simp [Array.getD,this]at q) (by
   rw[z58,r]; simp [hn]) m (by rw[r]; exact c) Y (fun _ _=>rfl)
  rw[←hn]at k; exact k
end

section
variable {P:Program} {τ:TypeId→Option TI} {An:FuncId→FA} {Sgs:FuncId→List Sg}

theorem EZ{ops:Array Oper}{i:Nat}{o:Oper}{r:List Oper}(h:ops.toList.drop i=o::r):ops[i]? =some o∧ops.toList.drop (i+1)=r:=by
 have h1:(ops.toList.drop i)[0]? =some o:=by rw[h]; rfl
 rw[z47,z69,z26]at h1
 refine⟨h1, ?_⟩
 have:(ops.toList.drop i).drop 1=r:=by rw[h]; rfl
 rw[List.drop_drop]at this; exact this

theorem zY(K:aX P τ){F:FA}{ops:Array Oper}{i:Nat}{o:Oper}{r:List Oper}{x x1 m:D}{b k:B}(d:ops.toList.drop i=o::r)(C:Ag F b x)(j:SD P τ Sgs F (ops.toList.map (·.dst)) o x x1)(l:Qw τ Sgs F (ops.toList.map (·.dst)) b (o::r)=some k)
  (M:Mot P τ Sgs (.ops F (ops.toList.map (·.dst)) r x1 m)):
  Ag F k m∧(∀g0 w0 (Q:Exit→Act→World→Prop) a w,Sim g0 w0 (b.S F.n x) a w→(∀f w',Sim g0 w0 (k.S F.n m) f w'→(∀z,yR z (o::r)=true→f.tmps.getD z undef=a.tmps.getD z undef)→Q .normal f w')→wpOps P ops Q (List.range' i (o::r).length) a w)∧
   ∀b2,KB τ Sgs F (ops.toList.map (·.dst)) b (o::r)=some b2→EX P τ Sgs F (ops.toList.map (·.dst)) ops (List.range' i (o::r).length) x m:=by
 obtain⟨E,c⟩:=EZ d; simp only[Qw]at l; split at l<;>try cases l
 rename_i b1 g; obtain⟨p,u⟩:=j.step K C E g; obtain⟨q,y,s⟩:=M ops (i+1) c rfl b1 k l p; refine⟨q,fun g0 w0 Q a w L J=> ?_,fun b2 I=> ?_⟩
 ·rw[z34,z154,wpOps_cons]
  refine u g0 w0 Q _ a w L (fun v w' t=>y g0 w0 Q _ w' t (fun f A h hz=>J f A h (fun z e=> ?_)))
  simp only[yR,z7,z35,z39]at e; rw[hz z e.2]; exact zZ e.1
 ·obtain⟨h0,G,h1,H⟩:=PY I
  rw[g]at h1; cases h1; rw[z34,z154]; exact⟨o,x1,E,CK.of C h0,j,s b2 H⟩

theorem JO{K:Act→World→Prop}{Q:Exit→Act→World→Prop}{e:Ek}(b:e≠ .n){a:Act}{w:World}:Exit.then K Q e.exit a w=Q e.exit a w:=by
 cases e with
 | n=>exact absurd rfl b
 | r=>rfl
 | e i=>rfl

theorem NG{Q:Exit→Act→World→Prop}{id:Nat}{e:Ek}{a:Act}{w:World}(h:Q (qF id e).exit a w):Exit.inBlock id Q e.exit a w:=by
 unfold qF at h; cases e with
 | n=>rw[z11 (by simp)]at h; exact h
 | r=>rw[z11 (by simp)]at h; exact h
 | e i=>
  by_cases b:i=id
  ·subst b
   rw[z17 rfl]at h; simp only[Exit.inBlock,Ek.exit,if_true]; exact h
  ·rw[z11 (by simpa using b)]at h
   simp only[Exit.inBlock,Ek.exit,z11 b]; exact h

theorem EB{F:FA}: ∀ {l:List V} {a:Nat},pG F a l=true→ ∀ {i:Nat} {v:V},l[i]? =some v→fits v (F.shOf (a+i))=true
 | [],_,_,i,v,h=>by simp at h
 | p::r,a,h,0,v,b=>by
  simp only[pG,z7]at h; simp only[z20,z9]at b
  subst b; exact h.1
 | p::r,a,h,i+1,v,b=>by
  simp only[pG,z7]at h; simp only[z21]at b
  have:=EB h.2 b; rwa[show a+1+i=a+(i+1)by omega]at this
theorem EA{F:FA}: ∀ {l:List (List T)} {a:Nat},qK F a l=true→ ∀ {i:Nat} {v:List T},l[i]? =some v→iG v (F.obOf (par+(a+i)))=true
 | [],_,_,i,v,h=>by simp at h
 | p::r,a,h,0,v,b=>by
  simp only[qK,z7]at h; simp only[z20,z9]at b
  subst b; exact h.1
 | p::r,a,h,i+1,v,b=>by
  simp only[qK,z7]at h; simp only[z21]at b
  have:=EA h.2 b; rwa[show a+1+i=a+(i+1)by omega]at this
theorem Iw{x:D}: ∀ {l l':List (List T)} {a:Nat},xU x a l=some l'→l'.length=l.length∧ ∀j,j<l.length→l'[j]? =x.ob (par+(a+j))
 | [],l',a,h=>by cases h; exact⟨rfl,fun j b=>by simp at b⟩
 | p::r,l',a,h=>by
  unfold xU at h; split at h<;>try cases h
  rename_i cs c h1 d; obtain⟨e,f⟩:=Iw d; refine⟨by simp [e],fun j b=> ?_⟩
  cases j with
  | zero=>simp [h1]
  | succ j=>
   have:=f j (by simpa using b)
   simp only[z21]
   rw[this,show a+1+j=a+(j+1)by omega]

theorem QC(hM:P.follows .mixedOrders=true)(hT:aX P τ)(hS: ∀f sg,sg∈Sgs f→ ∀fn c,P.funcs[f]? =some fn→fn.body=some c→fnC τ An Sgs f sg fn c=true){J:Jd}(h:Big P τ An J):Mot P τ Sgs J:=by
 induction h with
 | skip F x=>exact fun b u s E=>by cases s; exact⟨b,0,rfl,E,fun g0 w0 Q a w H K=>⟨wp_skip (K a w H (fun _ _=>rfl)),fun c' e=>by cases e⟩⟩
 | label F l x=>exact fun b u s E=>by cases s; exact⟨b,0,rfl,E,fun g0 w0 Q a w H K=>⟨wp_label (K a w H (fun _ _=>rfl)),fun c' e=>by cases e⟩⟩
 | exit F i x=>
  intro b u s E; cases s; refine⟨b,0,by simp [tH,AJ],E,fun g0 w0 Q a w H K=>⟨wp_exit (K a w H (fun _ _=>rfl)),fun c' e=>by cases e⟩⟩
 | ret F x=>exact fun b u s E=>by cases s; exact⟨b,0,rfl,E,fun g0 w0 Q a w H K=>⟨wp_ret (K a w H (fun _ _=>rfl)),fun c' e=>by cases e⟩⟩
 | @seqN F c d x x1 x2 e h1 h2 C T=>
  intro b u s E; simp only[tS]at s; split at s<;>try cases s
  rename_i o1 ho1; obtain⟨b1,k1,W,D,w1⟩:=C b o1 ho1 E; rw[W]at s; simp only at s; split at s<;>try cases s
  rename_i o2 ho2; obtain⟨b2,k2,g2,N,w2⟩:=T b1 o2 ho2 D; obtain⟨m1,_⟩:=AF s; obtain⟨b3,g3,cv⟩:=m1 e b2 g2; obtain⟨O,cs⟩:=cv x2 N; refine⟨b3,0,g3,O,fun g0 w0 Q a w H K=>⟨wp_seq (w1 g0 w0 _ a w H (fun I w' y hz=> ?_)).1,fun c' e=>by cases e⟩⟩
  refine(w2 g0 w0 Q I w' y (fun a'' w'' hs'' hz2=>K a'' w'' (cs _ _ _ _ hs'') (fun z A=> ?_))).1
  simp only[noD,z7]at A; rw[hz2 z A.2,hz z A.1]
 | @seqX F c d x x1 e h1 he C=>
  intro b u s E; simp only[tS]at s; split at s<;>try cases s
  rename_i o1 ho1; obtain⟨b1,k1,W,D,w1⟩:=C b o1 ho1 E
  have Z: ∀M,tH e u=some M→Ag F M x1→(∀g0 w0 a w,Sim g0 w0 (b1.S F.n x1) a w→Sim g0 w0 (M.S F.n x1) a w)→ ∃(M:B) (k:Nat),tH e u=some M∧Ag F M x1∧ ∀g0 w0 (Q:Exit→Act→World→Prop) a w,Sim g0 w0 (b.S F.n x) a w→
   (∀I w',Sim g0 w0 (M.S F.n x1) I w'→(∀z,noD z (.seq c d)=true→I.tmps.getD z undef=a.tmps.getD z undef)→Q e.exit I w')→(Code.seq c d).wp P Q a w∧ ∀c',Code.seq c d= .loop c'→Code.rounds P c' Q k a w:=fun M hg hA' hcv=>
   ⟨M,0,hg,hA',fun g0 w0 Q a w H K=>⟨wp_seq (w1 g0 w0 _ a w H (fun I w' y hz=>by
    rw[JO he]; refine K I w' (hcv _ _ _ _ y) (fun z A=> ?_)
    simp only[noD,z7]at A; exact hz z A.1)).1,fun c' e=>by cases e⟩⟩
  cases hn:tH .n o1 with
  | none=>
   rw[hn]at s; cases s; exact Z b1 W D (fun _ _ _ _ h=>h)
  | some bn=>
   rw[hn]at s; simp only at s; split at s<;>try cases s
   rename_i o2 ho2; obtain⟨_,m2⟩:=AF s; obtain⟨b3,g3,cv⟩:=m2 e b1 (by rw[sT he]; exact W)
   obtain⟨O,cs⟩:=cv x1 D; exact Z b3 g3 O cs
 | @cond F cnd c d x x1 e t hc h1 C=>
  intro b u s E; simp only[tS]at s; obtain⟨hk,s⟩:=aK s; split at s<;>try cases s
  rename_i o1 o2 ho1 ho2; obtain⟨m1,m2⟩:=AF s; have hcv: ∀ {g0:G} {w0:World} {a:Act} {w:World},Sim g0 w0 (b.S F.n x) a w→a.eval cnd= .bool t:=fun H=>by
   obtain⟨g,Y⟩:=H; have:=Y.ev_rv cnd (fun _ _=> .none)
   rw[pU hk,hc]at this; exact KF this
  cases t with
  | true=>
   obtain⟨b1,k1,W,D,w1⟩:=C b o1 ho1 E; obtain⟨b3,g3,cv⟩:=m2 e b1 W; obtain⟨O,cs⟩:=cv x1 D; refine⟨b3,0,g3,O,fun g0 w0 Q a w H K=>⟨wp_cond_true (hcv H) (w1 g0 w0 Q a w H (fun I w' y hz=>K I w' (cs _ _ _ _ y) (fun z A=> ?_))).1,fun c' e=>by cases e⟩⟩
   simp only[noD,z7]at A; exact hz z A.1
  | false=>
   obtain⟨b1,k1,W,D,w1⟩:=C b o2 ho2 E; obtain⟨b3,g3,cv⟩:=m1 e b1 W; obtain⟨O,cs⟩:=cv x1 D; refine⟨b3,0,g3,O,fun g0 w0 Q a w H K=>⟨wp_cond_false (hcv H) (w1 g0 w0 Q a w H (fun I w' y hz=>K I w' (cs _ _ _ _ y) (fun z A=> ?_))).1,fun c' e=>by cases e⟩⟩
   simp only[noD,z7]at A; exact hz z A.2
 | @block F id c x x1 e h1 C=>
  intro b u s E; simp only[tS]at s; split at s<;>try cases s
  rename_i o1 ho1; obtain⟨b1,k1,W,D,w1⟩:=C b o1 ho1 E
  have Z: ∀M,tH (qF id e) u=some M→Cv F b1 M→ ∃(M:B) (k:Nat),tH (qF id e) u=some M∧Ag F M x1∧ ∀g0 w0 (Q:Exit→Act→World→Prop) a w,Sim g0 w0 (b.S F.n x) a w→
   (∀I w',Sim g0 w0 (M.S F.n x1) I w'→(∀z,noD z (.block id c)=true→I.tmps.getD z undef=a.tmps.getD z undef)→Q (qF id e).exit I w')→(Code.block id c).wp P Q a w∧ ∀c',Code.block id c= .loop c'→Code.rounds P c' Q k a w:=fun M hg hcv=>by
   obtain⟨hA',cs⟩:=hcv x1 D; exact⟨M,0,hg,hA',fun g0 w0 Q a w H K=>⟨wp_block (w1 g0 w0 _ a w H (fun I w' y hz=>NG (K I w' (cs _ _ _ _ y) hz))).1,fun c' e=>by cases e⟩⟩
  cases X:tH (.e id) o1 with
  | none=>
   rw[X]at s; cases s; have hne:e≠ .e id:=fun he=>by subst he; rw[X]at W; cases W
   have e1:qF id e=e:=by unfold qF; rw[z11 hne]
   rw[e1]at Z ⊢; exact Z b1 W (Cv.refl F b1)
  | some bi=>
   rw[X]at s; simp only at s; obtain⟨a1,M,a2,a3⟩:=PG s; by_cases he:e= .e id
   ·have e1:qF id e= .n:=by unfold qF; rw[z17 he]
    rw[e1]at Z ⊢; rw[he,X]at W; cases W; exact Z M a2 a3
   ·have e1:qF id e=e:=by unfold qF; rw[z11 he]
    rw[e1]at Z ⊢; obtain⟨b3,g3,cv⟩:=a1 e b1 (by rw[sT he]; exact W)
    exact Z b3 g3 cv
 | @loopX F c x x1 e h1 he C=>
  intro b u s E; simp only[tS]at s; obtain⟨hd,o,cv,hf,ho,_,_⟩:=HY s; obtain⟨hAh,csh⟩:=cv x E; obtain⟨b1,k1,W,D,w1⟩:=C hd o hf hAh; refine⟨b1,1,by rw[ho,sT he]; exact W,D,fun g0 w0 Q a w H K=> ?_⟩
  have hr:Code.rounds P c Q 1 a w:=(w1 g0 w0 _ a w (csh _ _ _ _ H) (fun I w' y hz=>by rw[JO he]; exact K I w' y hz)).1
  exact⟨wp_loop_rounds 1 hr,fun c' e=>by cases e; exact hr⟩
 | @loopN F c x x1 x2 e h1 h2 C T=>
  intro b u s E; simp only[tS]at s; obtain⟨hd,o,cv,hf,ho,hback,hfix⟩:=HY s; obtain⟨hAh,csh⟩:=cv x E; obtain⟨b1,k1,W,D,w1⟩:=C hd o hf hAh; obtain⟨hA1',csb⟩:=hback b1 W x1 D; obtain⟨b2,k2,g2,N,w2⟩:=T hd u (hfix 3) hA1'; refine⟨b2,k2+1,g2,N,fun g0 w0 Q a w H K=> ?_⟩
  have hr:Code.rounds P c Q (k2+1) a w:=by
   rw[rounds_succ]; refine(w1 g0 w0 _ a w (csh _ _ _ _ H) (fun I w' y hz=> ?_)).1
   exact(w2 g0 w0 Q I w' (csb _ _ _ _ y) (fun a'' w'' hs'' hz2=>K a'' w'' hs'' (fun z A=>(hz2 z A).trans (hz z A)))).2 c rfl
  exact⟨wp_loop_rounds _ hr,fun c' e=>by cases e; exact hr⟩
 | @regionM F id x S i f c o p0 tp tk t t' r r0 r2 cells cells' k k' rs t1 t2 t3 t4 p1 p2 p3 p4 f1 f2 f3 f4 hmk X h1 hM hle hc1 hc2 hr2 htp htk hob hch hB ihB=>
  intro b u s E; simp only[tS]at s; rw[show List.any (Array.toList _) Hj=false from rfl]at s; simp only[hmk,z12]at s; split at s<;>try cases s
  rename_i b1 U; obtain⟨D,hw⟩:=Ts (Sgs:=Sgs) hT E (id:=id) X h1 hM hle hc1 hc2 hr2 htp htk hob (fun m hm sg h2 h3 h4=>ihB m hm sg h2 h3 h4) hch U
  obtain⟨N,cs⟩:=HG F id b1 _ D; refine⟨_,0,rfl,N,fun g0 w0 Q a w H K=>⟨hw g0 w0 Q a w H (fun I w' y hz=>K I w' (cs _ _ _ _ y) (fun z A=> ?_)),fun c' e=>by cases e⟩⟩
  simp only[noD,yR,z7,z35,z39,z9]at A; exact hz z (Ne.symm A.1) (Ne.symm A.2.1) (Ne.symm A.2.2.1) (Ne.symm A.2.2.2.1)
 | @region F id ops dr x x1 hmk h1 C=>
  intro b u s E; simp only[tS,hmk,UN h1,z12]at s; cases dr with
  | true=>
   simp only[z15]at s; split at s<;>try cases s
   rename_i b1 U; unfold anyC at U; cases hcnd:(pB F (ops.toList.map (·.dst)) ops&&(KB τ Sgs F (ops.toList.map (·.dst)) b ops.toList).isSome)with
   | false=>
    rw[hcnd,z12]at U; obtain⟨hK,hlate⟩:=Re (P:=P) hT U; obtain⟨b2,hK⟩:=z114.1 hK; obtain⟨_,_,R⟩:=C ops 0 rfl rfl b b2 (AA hK) E; obtain⟨N,hgo⟩:=hlate x x1 E (R b2 hK); obtain⟨O,cs⟩:=HG F id b1 x1 N; exact⟨_,0,rfl,O,fun g0 w0 Q a w H K=>⟨wp_region_any hM (hgo g0 w0 Q a _ (H.drawn _) (fun I w' y hz=>K I w' (cs _ _ _ _ y) hz)),fun c' e=>by cases e⟩⟩
   | true=>
   rw[hcnd,z15]at U; have hc:=hcnd; simp only[z7]at hc; obtain⟨hO,hK⟩:=hc; split at U<;>try cases U
   rename_i mf hlv; obtain⟨b2,hK⟩:=z114.1 hK; obtain⟨D,_,R⟩:=C ops 0 rfl rfl b b2 (AA hK) E; have R:=R b2 hK; have hle:(List.range ops.size).filter (fun j=> !(Array.replicate ops.size false).getD j true)=List.range' 0 ops.toList.length:=by
    rw[List.filter_eq_self.2 (fun j hj=>by
     have:=z57.1 hj; simp [Array.getD,this]),WA]
    simp
   have hany:=fun(g0:G) (w0:World)=>UX (P:=P) (xn:=x1) (g0:=g0) (w0:=w0) hT hO ops.size (Array.replicate ops.size false) 0 [(0,b)] b x hlv (by simp [rL]) (by simp) (fun i X=>by simp [Array.getD,X]) (fun j o ho hj=>by
    have:=(z25.1 ho).1
    simp [Array.getD,this]at hj) (by
    rw[z58,hle]; simp) E (by rw[hle]; exact R)
   have hgo: ∀(g0:G) (w0:World) (Q:Exit→Act→World→Prop) (a:Act) (w:World),Sim g0 w0 (b.S F.n x) a w→(∀I w',Sim g0 w0 (b1.S F.n x1) I w'→(∀z,yR z ops.toList=true→I.tmps.getD z undef=a.tmps.getD z undef)→Q .normal I w')→
     wpAny P .any ops Q ops.size (Array.replicate ops.size false) a { w with drawn:=w.drawn+1 }:=fun g0 w0 Q a w H K=>
    Lf ((hany g0 w0).2 (a0:=a) K a _ (H.drawn _) (fun _ _=>rfl))
   have N:=(hany ⟨fun _=>0,fun _=> .none⟩ default).1
   obtain⟨O,cs⟩:=HG F id b1 x1 N; exact⟨_,0,rfl,O,fun g0 w0 Q a w H K=>⟨wp_region_any hM (hgo g0 w0 Q a w H (fun I w' y hz=>K I w' (cs _ _ _ _ y) hz)),fun c' e=>by cases e⟩⟩
  | false=>
   simp only[z12]at s; split at s<;>try cases s
   rename_i b1 U; obtain⟨D,w1,_⟩:=C ops 0 rfl rfl b b1 U E; obtain⟨N,cs⟩:=HG F id b1 x1 D; refine⟨_,0,rfl,N,fun g0 w0 Q a w H K=>⟨wp_region ?_,fun c' e=>by cases e⟩⟩
   have:=w1 g0 w0 Q a w H (fun I w' y hz=>K I w' (cs _ _ _ _ y) hz)
   rw[WA]; simpa using this
 | opsNil F ds x=>
  intro ops i _ _ b M s E; cases s; exact⟨E,fun g0 w0 Q a w H K=>K a w H (fun _ _=>rfl),fun b2 _=>rfl⟩
 | @opsSkip F ds o r x x2 hg h2 T=>
  intro ops i L hds b M s E; subst hds; exact zY hT L E (.inl ⟨hg,rfl⟩) s T
 | @opsRun F ds o r x x1 x2 hg h1 h2 T=>
  intro ops i L hds b M s E; subst hds; exact zY hT L E (.inr (.inl ⟨hg,h1⟩)) s T
 | @opsCall F ds o rs x x2 c v f caps ob ob' r nw hg ho hcal hni hx hth hob h1 hsh h2 C T=>
  intro ops i L hds b M s E; subst hds; exact zY hT L E (.inr (.inr (.inl ⟨hg,c,v,f,caps,ob,ob',r,nw,ho,hcal,hni,hx,hth,hob,fun sg Y e1 e2=>C sg Y e1 e2,hsh,rfl⟩))) s T
 | @opsIo F ds o rs x x2 c v f r t xs l p x0 es es' hg ho hcal hio hx hth hargs hal hat hnav h1 hsh h2 C T=>
  intro ops i L hds b M s E; subst hds; exact zY hT L E (.inr (.inr (.inr ⟨hg,c,v,f,r,t,xs,l,p,x0,es,es',ho,hcal,hio,hx,hth,hargs,hal,hat,hnav,fun sg Y e1 e2=>C sg Y e1 e2,hsh,rfl⟩))) s T
 | @fn f fn c vs ob ob' e x' ws iov hf s hsh hso h1 he hws hio hob C=>
  intro sg Y hnp A g w us hsim; have hq:=hS f sg Y fn c hf s; unfold fnC at hq; cases hlb:(An f).lb with
  | some q=>
   exfalso
   rw[hlb]at hq; obtain⟨_,l2,l3⟩:=Oi hq; obtain⟨v,vs',rfl⟩: ∃v vs',vs=v::vs':=by
    cases vs with
    | nil=>simp only[z77]at hnp; omega
    | cons v r=>exact⟨v,r,rfl⟩
   simp only[pG,z7,FA.shOf,l2,List.getElem?_nil]at hsh
   have h0:=hsh.1; cases v with
   | one w=>cases w<;>exact absurd h0 (by simp [fits,bO])
   | tup ws=>exact absurd h0 (by simp [fits])
  | none=>
  rw[hlb]at hq; simp only at hq; simp only[z7]at hq; obtain⟨⟨⟨⟨⟨⟨⟨⟨⟨q1,q2⟩,q3⟩,q4⟩,q5⟩,q6⟩,q7⟩,q8⟩,q9⟩,q10⟩:=hq; have hn:=z14 q1; have hp:=z29 q2; have hio0:sg.io=(An f).io:=of_decide_eq_true q7; cases hout:tS τ Sgs (An f) c sg.bi with
  | none=>rw[hout]at q10; cases q10
  | some u=>
   rw[hout]at q10; simp only[z7]at q10; have hAg:Ag (An f) sg.bi (DA vs ob):=by
    refine⟨fun i X=> ?_,fun o ho=> ?_⟩
    ·right
     simp only[B.has]at X; cases hl:dL i sg.bi.sl with
     | none=>rw[hl]at X; cases X
     | some κ=>
      have hlt:i<vs.length:=by rw[←hnp]; exact bK (z18.1 q5 _ (iM hl))
      have:=EB hsh (z16 hlt)
      rw[z30]at this; have e:(DA vs ob).sl i=vs[i]:=by simp [DA,List.getD,z16 hlt]
      rw[e]; exact this
    ·simp only[B.hasO]at ho
     cases hl:dL o sg.bi.ob with
     | none=>rw[hl]at ho; cases ho
     | some κ=>
      have h3:=z18.1 q6 _ (iM hl); simp only[z7]at h3; have h4:=z29 h3.1; have h5:=bK h3.2; have hlt:o - par<ob.length:=by rw[←A]; omega
      have:=EA hso (z16 hlt)
      rw[z30,Vv h4]at this; exact⟨ob[o - par],by simp [DA,h4,z16 hlt],this⟩
   obtain⟨M,k,hg,hA',hw⟩:=C sg.bi u hout hAg; have hcall:(callFunc f us).run P w= .ok (.enter f us) w:=by
    have hne:fn.name≠ "runtime.NumGoroutine" :=by simpa using q4
    simp [callFunc,run_program,hf,hne,s]
   rw[hcall]; show Calls P f us w _; refine calls_of_wp hf s ?_
   have hsim2:=hsim.body (n:=fn.ntmps) (z29 q3) hp; rw[hn]at hw; refine(hw g w _ _ w ⟨g,hsim2⟩ (fun I w' y hz=> ?_)).1
   obtain⟨g',y⟩:=y; have hchk:BG (An f) M sg.bo (Be (An f) fn.results.toList (An f).n0 (An f).io) 0 fn.results.toList=true∧NT (An f) M sg.bo (An f).n0=true∧Qi (An f) M sg.bo fn.results.toList c=true:=by
    rcases he with rfl | rfl
    ·have:=q10.1; rw[hg]at this; simpa [and_assoc]using this
    ·have:=q10.2; rw[hg]at this; simpa [and_assoc]using this
   have hbo: ∀i,sg.bo.has i=true→i=0∨(i=1∧(An f).io.isSome=true):=fun i X=>by
    simp only[B.has]at X; cases hl:dL i sg.bo.sl with
    | none=>rw[hl]at X; cases X
    | some κ=>
     have:=z18.1 q8 _ (iM hl); simp only[z48,z7]at this; rcases this with h | h
     ·exact .inl (z14 h)
     ·exact .inr ⟨z14 h.1,h.2⟩
   have hobd: ∀oc o1,sg.bo.hasO oc=true→uO (An f).n0 o1=some oc→(DR ((Ib ws).to (uO (An f).n0)) iov ob' ((An f).n0.bind x'.ob)).ob oc=x'.ob o1:=fun oc o1 hoc V=>by
    obtain⟨hol,hog⟩:=Iw hob; simp only[uO]at V; split at V
    ·rename_i hpo
     cases V; have h1:sg.bi.hasO oc=true:=by
      simp only[B.hasO]at hoc; cases hl:dL oc sg.bo.ob with
      | none=>rw[hl]at hoc; cases hoc
      | some κ=>
       have:=z18.1 q9 _ (iM hl); simp only[z48]at this; rcases this with h | h
       ·have:=z14 h
        subst this; exact absurd hpo Gx
       ·exact h
     simp only[B.hasO]at h1; cases hl:dL oc sg.bi.ob with
     | none=>rw[hl]at h1; cases h1
     | some κ=>
      have h3:=z18.1 q6 _ (iM hl); simp only[z7]at h3; have h5:=bK h3.2; have hlt:oc - par<ob.length:=by rw[←A]; omega
      have:=hog (oc - par) hlt; rw[z30,Vv hpo]at this; simp only[DR,z17 hpo,this]
    ·split at V
     ·rename_i hpo hn0
      cases V; simp only[DR,z11 Gx,if_true,hn0,z8]
     ·cases V
   obtain⟨us',hl',R,g'',hfin⟩:=bP.ret hT y hA' (io:=(An f).io) (iov:=iov) (u1:=us.getD (sg.io.getD 0) undef) (ob:=ob') (nw:=(An f).n0.bind x'.ob) hws hchk.1 hchk.2.1 hobd (fun z e=>by
    have h3:=hchk.2.2; unfold Qi at h3; rw[e]at h3 hio; simp only[z7,z48,z35,z36]at h3; obtain⟨⟨⟨z1,z2⟩,z3⟩,z4⟩:=h3; simp only[TJ]at hio; split at hio<;>try cases hio
    rename_i tt ht; refine⟨?_,z1,⟨tt,ht,rfl⟩,z2,fun hh=> ?_⟩
    ·rw[hz z z4,hio0,e]
     show(us++Array.replicate (fn.ntmps - us.size) undef).getD z undef=us.getD z undef; simp only[z43,WE]
     split
     ·rfl
     ·rename_i X
      rw[z121 (xs:=us) (by omega)]
      simp only[z144]
      split<;>rfl
    ·rcases z3 with z3 | z3
     ·rw[z3]at hh; cases hh
     ·rw[e]; exact z3) (fun hn=>by
    cases h1:sg.bo.has 1 with
    | false=>rfl
    | true=>
     rcases hbo 1 h1 with h | h
     ·cases h
     ·rw[hn]at h; cases h.2) (fun i X=>by rcases hbo i X with h | h<;>omega)
   have hres:=EE (P:=P) (w:=w') (fn:=fn) (tmps:=I.tmps) hl' R; have hpost:bodyPost P fn (fun e w'=> ∃v,e= .returned v∧ ∃g',bP g w (sg.bo.S 2 (DR ((Ib ws).to (uO (An f).n0)) iov ob' ((An f).n0.bind x'.ob))) ⟨#[v,us.getD (sg.io.getD 0) undef],[]⟩ g' w') .normal I w':=⟨y.defers,_,hres,_,rfl,g'',hfin⟩
   rcases he with rfl | rfl
   ·exact hpost
   ·exact hpost
 | @lib f fn c vs r q hf s hq h1=>
  intro sg Y hnp A; have hh:=hS f sg Y fn c hf s; unfold fnC at hh; rw[hq]at hh; obtain⟨e,_,_⟩:=Oi hh; rw[e]; exact h1
end

section
variable (P:Program) (τ:TypeId→Option TI) (An:FuncId→FA)

def Wd(F:FA)(c:Code)(x:D)(Q:Ek→D→Prop):Prop:= ∃e x',Big P τ An (.code F c x e x')∧Q e x'
def Wo(F:FA)(a:List (Option Nat))(os:List Oper)(x:D)(Q:D→Prop):Prop:= ∃x',Big P τ An (.ops F a os x x')∧Q x'

def Ur(K:D→Prop)(Q:Ek→D→Prop):Ek→D→Prop
 | .n,x=>K x
 | e,x=>Q e x
def blkD(id:Nat)(Q:Ek→D→Prop)(e:Ek)(x:D):Prop:=Q (qF id e) x

def WO(F:FA)(o:Oper)(c:Call)(v:Operand)(x:D)(K:D→Prop):Prop:=
 uX F c=false∧ ∃f caps ob a r nw,ev x.sl v= .one (.fn f caps)∧c.args.toList.all (fun v=>gC (ev x.sl v))=true∧ob.map some=(nP F c v).map x.ob∧Big P τ An (.fn f (inV x c caps (nP F c v)) ob r none a nw)∧
  bQ F (x.call o.dst (vE F o.dst) (nP F c v) (DR r none a nw)) o.dst (vE F o.dst) (nP F c v)=true∧K (x.call o.dst (vE F o.dst) (nP F c v) (DR r none a nw))
def vcIo(F:FA)(o:Oper)(c:Call)(v:Operand)(x:D)(K:D→Prop):Prop:=
 uX F c=true∧ ∃f r t xs l p x0 a es',ev x.sl v= .one (.fn f [])∧c.args.toList.all (fun v=>gC (ev x.sl v))=true∧c.args.toList= .tmp t::xs∧x.sl t= .one (.al l p)∧x.at l=some x0∧nav x0 p=some (.sl a)∧Big P τ An (.fn f (inV x c [] []) [] r (some (.sl es')) [] none)∧
  bQ F (x.call o.dst none [] (DR r (some (.sl es')) [] none)) o.dst none []=true∧K ((x.call o.dst none [] (DR r (some (.sl es')) [] none)).upd l (bV x0 p (.sl es')))
def Km(F:FA)(o:Oper)(x:D)(K:D→Prop):Prop:=match dQ o with
 | some (c,v)=>WO P τ An F o c v x K∨vcIo P τ An F o c v x K
 | none=> ∃x1,dOp τ F x o=some x1∧K x1
def FB(F:FA)(a:List (Option Nat))(o:Oper)(x:D)(K:D→Prop):Prop:=match bJ a x o.guard with
 | some true=>Km P τ An F o x K
 | some false=>K (sO x o.dst)
 | none=>False
def bD(F:FA)(a:List (Option Nat)):List Oper→D→(D→Prop)→Prop
 | [],x,K=>K x
 | o::r,x,K=>FB P τ An F a o x (fun x1=>bD F a r x1 K)

def vcC(F:FA):Code→D→(Ek→D→Prop)→Prop
 | .skip,x,Q=>Q .n x
 | .label _,x,Q=>Q .n x
 | .exit i,x,Q=>Q (.e i) x
 | .ret,x,Q=>Q .r x
 | .seq a b,x,Q=>vcC F a x (Ur (fun x1=>vcC F b x1 Q) Q)
 | .cond c a b,x,Q=> ∃t,ev x.sl c= .one (.c (.bool t))∧(t=true→vcC F a x Q)∧(t=false→vcC F b x Q)
 | .block id c,x,Q=>vcC F c x (blkD id Q)
 | .loop c,x,Q=>Wd P τ An F (.loop c) x Q
 | .region id ops d,x,Q=>(dL id F.mks=none∧bD P τ An F (ops.toList.map (·.dst)) ops.toList x (fun x1=>Q .n x1))∨ ∃x1,Big P τ An (.code F (.region id ops d) x .n x1)∧Q .n x1
 | _,_,_=>False
end

section
variable {P:Program} {τ:TypeId→Option TI} {An:FuncId→FA}

theorem zN{F:FA}{j:List (Option Nat)}: ∀ {os:List Oper} {x:D} {K:D→Prop},bD P τ An F j os x K→Wo P τ An F j os x K
 | [],x,K,h=>⟨x, .opsNil F j x,h⟩
 | o::r,x,K,h=>by
  simp only[bD,FB]at h; split at h
  ·rename_i i
   unfold Km at h; split at h
   ·rename_i c v g
    have a:o.op= .call c∧c.callee= .value v:=by
     unfold dQ at g; split at g<;>try cases g
     rename_i c' ho; split at g<;>try cases g
     rename_i v' z; exact⟨ho,z⟩
    rcases h with⟨h0,f,caps,ob,B,C,nw,h1,e,k,m,q,s⟩ | ⟨h0,f,C,t,xs,l,p,x0,E,es',h1,e,k,m,q,s,u,w,y⟩
    ·obtain⟨x',b,d⟩:=zN s
     exact⟨x', .opsCall i a.1 a.2 h0 h1 e k m q b,d⟩
    ·obtain⟨x',b,d⟩:=zN y
     exact⟨x', .opsIo i a.1 a.2 h0 h1 e k m q s u w b,d⟩
   ·obtain⟨x1,h1,e⟩:=h
    obtain⟨x',b,d⟩:=zN e; exact⟨x', .opsRun i h1 b,d⟩
  ·rename_i i
   obtain⟨x',b,d⟩:=zN h; exact⟨x', .opsSkip i b,d⟩
  ·exact h.elim

theorem BD{F:FA}: ∀ {c:Code} {x:D} {Q:Ek→D→Prop},vcC P τ An F c x Q→Wd P τ An F c x Q
 | .skip,x,Q,h=>⟨.n,x, .skip F x,h⟩
 | .label l,x,Q,h=>⟨.n,x, .label F l x,h⟩
 | .exit i,x,Q,h=>⟨.e i,x, .exit F i x,h⟩
 | .ret,x,Q,h=>⟨.r,x, .ret F x,h⟩
 | .seq a b,x,Q,h=>by
  obtain⟨e,x1,h1,d⟩:=BD (c:=a) h; by_cases j:e= .n
  ·subst j
   obtain⟨m,o,f,g⟩:=BD (c:=b) d; exact⟨m,o, .seqN h1 f,g⟩
  ·refine⟨e,x1, .seqX h1 j, ?_⟩
   cases e with
   | n=>exact absurd rfl j
   | r=>exact d
   | e i=>exact d
 | .cond c a b,x,Q,h=>by
  obtain⟨t,k,h1,d⟩:=h; cases t with
  | true=>
   obtain⟨e,x1,f,g⟩:=BD (c:=a) (h1 rfl); exact⟨e,x1, .cond k f,g⟩
  | false=>
   obtain⟨e,x1,f,g⟩:=BD (c:=b) (d rfl); exact⟨e,x1, .cond k f,g⟩
 | .block id c,x,Q,h=>by
  obtain⟨e,x1,h1,d⟩:=BD (c:=c) h; exact⟨_,x1, .block h1,d⟩
 | .loop c,x,Q,h=>h
 | .region id ops p,x,Q,h=>by
  rcases h with⟨h0,h⟩ | ⟨x1,h1,d⟩
  ·obtain⟨x1,h1,d⟩:=zN h
   exact⟨.n,x1, .region h0 h1,d⟩
  ·exact⟨.n,x1,h1,d⟩
 | .scope c,x,Q,h=>h.elim
 | .rangeFunc _ _ _ _,x,Q,h=>h.elim
 | .goto _,x,Q,h=>h.elim
 | .refuse _,x,Q,h=>h.elim

end

section
variable {P:Program} {τ:TypeId→Option TI} {An:FuncId→FA}

theorem Big.of{f:FuncId}{fn:Func}{c:Code}{vs:List V}{ob a:List (List T)}{r:V}{nw:Option (List T)}(q:P.funcs[f]? =some fn)(o:fn.body=some c)(g:pG (An f) 0 vs=true)(j:qK (An f) 0 ob=true)(b:(An f).io=none)
  (h:vcC P τ An (An f) c (DA vs ob) (fun e x=>(e= .n∨e= .r)∧ ∃k,DV τ x fn.results.toList=some k∧(Ib k).to (uO (An f).n0)=r∧xU x 0 ob=some a∧(An f).n0.bind x.ob=nw)):Big P τ An (.fn f vs ob r none a nw):=by
 obtain⟨e,x',h1,p,k,l,rfl,m,rfl⟩:=BD h; exact .fn q o g j h1 p l (by rw[b]; rfl) m

theorem Big.ofIo{f:FuncId}{fn:Func}{c:Code}{vs:List V}{ob a:List (List T)}{r:V}{nw:Option (List T)}{z:Nat}{y:T}(s:P.funcs[f]? =some fn)(p:fn.body=some c)(g:pG (An f) 0 vs=true)(j:qK (An f) 0 ob=true)(b:(An f).io=some z)
  (h:vcC P τ An (An f) c (DA vs ob) (fun e x=>(e= .n∨e= .r)∧ ∃k,DV τ x fn.results.toList=some k∧(Ib k).to (uO (An f).n0)=r∧xU x 0 ob=some a∧(An f).n0.bind x.ob=nw∧x.sl z= .one (.c y))):Big P τ An (.fn f vs ob r (some y) a nw):=by
 obtain⟨e,x',h1,q,k,l,rfl,m,rfl,o⟩:=BD h; exact .fn s p g j h1 q l (by rw[b]; simp only[TJ,o]) m

section
variable (x:D) (d i:Nat) (v:V)
@[simp] theorem put_ob:(x.put d v).ob=x.ob:=rfl.trans rfl
end
theorem iI{F:FA}{x:D}{d:Nat}{v:V}(h:fits v (F.shOf d)=true):sM F x d v=some (x.put d v):=by
 unfold sM; rw[h]; rfl
end

def G.old:G:= { β:=fun _=>0,own:=fun _=> .none }

theorem TC.row{P:Program}{f:FuncId}{fn:Func}{c:Code}{sg:Sg}{a:List V}(h:TC P f sg a [] (.one (.c (.bool true))) none [] none)(q:sg.bo.has 0=true)(r:sg.bi.ob=[])(x:sg.np=a.length)(t:sg.np≤par)
  (D:P.funcs[f]? =some fn)(C:fn.body=some c)(g:(fn.name == "runtime.NumGoroutine")=false)(w:World)(I:Tab G.old w)(us:Array Value)(y:us.size=a.length)
  (l: ∀i,aI (a.getD i (.one .junk))= .none)(z: ∀i,sg.bi.has i=true→RV G.old w (fun k j=>sg.bi.kd (.s i k j)) (fun k j=> .s i k j) (us.getD i undef) (a.getD i (.one .junk))):
  Calls P f us w fun e w'=>e= .returned (.bool true)∧Below w.heap.size w w':=by
 have H:bP G.old w (sg.bi.S sg.np (DA a [])) ⟨us,[]⟩ G.old w:=by
  refine⟨pO.refl _ _ I,⟨fun b h=>absurd rfl h⟩,by rw[y, ←x]; rfl,rfl,fun i=> ?_,fun o cells ho=> ?_,fun i E=> ?_,fun _ _=>rfl,t⟩
  ·show RV _ w (fun k j=>sg.bi.kd (.s i k j)) _ (us.getD i undef) (if sg.bi.has i=true then a.getD i (.one .junk)else .one .junk)
   by_cases e:sg.bi.has i=true
   ·rw[z17 e]; exact z i e
   ·rw[z11 e]; trivial
  ·have p:(if sg.bi.hasO o=true then(DA a []).ob o else none)=some cells:=ho
   split at p<;>try cases p
   rename_i e; simp only[B.hasO,r,dL]at e; cases e
  ·exfalso
   apply E
   show aI (if sg.bi.has i=true then a.getD i (.one .junk)else .one .junk)= .none
   split
   ·exact l i
   ·rfl
 have h1:=h _ w us H; have u:fn.name≠ "runtime.NumGoroutine" :=by simpa using g
 have d:(callFunc f us).run P w= .ok (.enter f us) w:=by simp [callFunc,run_program,D,u,C]
 rw[d]at h1; refine Calls.mono h1 ?_
 rintro e w' ⟨v,rfl,g',m⟩
 have A:=m.slots 0; rw[qO q]at A; have J:v= .bool true:=KF A; subst J; exact⟨rfl,m.framed.os,m.framed.tape,m.framed.output,m.framed.evo.size,fun k F=>(m.framed.evo.keep k F (fun h=>h (.inl rfl))).2⟩

theorem TC.of{P:Program}{τ:TypeId→Option TI}{An:FuncId→FA}{Sgs:FuncId→List Sg}(g:P.follows .mixedOrders=true)(j:aX P τ)(i: ∀f sg,sg∈Sgs f→ ∀fn c,P.funcs[f]? =some fn→fn.body=some c→fnC τ An Sgs f sg fn c=true)
  {f:FuncId}{vs:List V}{ob a:List (List T)}{r:V}{nw:Option (List T)}(h:Big P τ An (.fn f vs ob r none a nw)){sg:Sg}(e:sg∈Sgs f)(d:sg.np=vs.length)(b:sg.no=ob.length):TC P f sg vs ob r none a nw:=
 QC g j i h sg e d b

section
variable {P:Program} {τ:TypeId→Option TI} {An:FuncId→FA} {F:FA} {ds:List (Option Nat)} {o:Oper} {r:List Oper} {x x1:D} {K:D→Prop} {Q:Ek→D→Prop}

theorem cR(b:bJ ds x o.guard=some true)(a:dQ o=none)(h1:dOp τ F x o=some x1)(h:bD P τ An F ds r x1 K):bD P τ An F ds (o::r) x K:=by
 simp only[bD,FB,b,Km,a]; exact⟨x1,h1,h⟩
theorem PT(a:bJ ds x o.guard=some false)(h1:sO x o.dst=x1)(h:bD P τ An F ds r x1 K):bD P τ An F ds (o::r) x K:=by
 subst h1; simp only[bD,FB,a]; exact h
theorem RJ(h:K x):bD P τ An F ds [] x K:=h
theorem MG{c:Call}{v:Operand}{os:List Nat}(h:nP F c v=os)(hn:os≠[0,0]):uX F c=false:=by
 unfold nP at h; cases e:uX F c with
 | false=>rfl
 | true=>rw[e]at h; exact absurd h.symm hn
theorem Ip{c:Call}{v:Operand}{f:FuncId}{caps:List (Nat×Nat)}{vs:List V}{ob a:List (List T)}{k:V}{nw:Option (List T)}{x1:D}(p:bJ ds x o.guard=some true)(m:dQ o=some (c,v))(b:uX F c=false)(q:ev x.sl v= .one (.fn f caps))(g:c.args.toList.all (fun v=>gC (ev x.sl v))=true)
  (d:ob.map some=(nP F c v).map x.ob)(i:inV x c caps (nP F c v)=vs)(l:Big P τ An (.fn f vs ob k none a nw))(j:x.call o.dst (vE F o.dst) (nP F c v) (DR k none a nw)=x1)(e:bQ F x1 o.dst (vE F o.dst) (nP F c v)=true)
  (h:bD P τ An F ds r x1 K):bD P τ An F ds (o::r) x K:=by
 subst j; subst i; simp only[bD,FB,p,Km,m]; exact .inl ⟨b,f,caps,ob,a,k,nw,q,g,d,l,e,h⟩
theorem TZ{c:Call}{v:Operand}{f:FuncId}{vs:List V}{d:V}{t:Nat}{xs:List Operand}{l:Loc}{p:List (Nat×Nat)}{x0:T}{q es':List (List T)}(w:bJ ds x o.guard=some true)(u:dQ o=some (c,v))(i:uX F c=true)(y:ev x.sl v= .one (.fn f []))(k:c.args.toList.all (fun v=>gC (ev x.sl v))=true)
  (a:c.args.toList= .tmp t::xs)(e:x.sl t= .one (.al l p))(g:x.at l=some x0)(b:nav x0 p=some (.sl q))(m:inV x c [] []=vs)(s:Big P τ An (.fn f vs [] d (some (.sl es')) [] none))(j:bQ F (x.call o.dst none [] (DR d (some (.sl es')) [] none)) o.dst none []=true)
  (h:bD P τ An F ds r ((x.call o.dst none [] (DR d (some (.sl es')) [] none)).upd l (bV x0 p (.sl es'))) K):bD P τ An F ds (o::r) x K:=by
 subst m; simp only[bD,FB,w,Km,u]; exact .inr ⟨i,f,d,t,xs,l,p,x0,q,es',y,k,a,e,g,b,s,j,h⟩
end


section
variable {P:Program} {τ:TypeId→Option TI} {An:FuncId→FA} {F:FA} {ds:List (Option Nat)} {r:List Oper} {x:D} {K:D→Prop} {ty:TypeId} {pos:String} {after:Array Edge} {gd:Option (Nat×Bool)} {d:Nat}

theorem RK{y:Operand}{v:V}(b:bJ ds x gd=some true)(e:ev x.sl y=v)(c:gC v=true)(a:fits v (F.shOf d)=true)(h:bD P τ An F ds r (x.put d v) K):bD P τ An F ds (⟨some d, .assign y,ty,pos,after,gd⟩::r) x K:=by
 subst e; refine cR b rfl ?_ h
 show yN F x d y=_; unfold yN; rw[c]; exact iI a
theorem WW{y:Operand}{v:V}(b:bJ ds x gd=some true)(c:mem d F.al=false)(f:ev x.sl y=v)(e:gC v=true)(a:fits v (F.shOf d)=true)(h:bD P τ An F ds r (x.put d v) K):bD P τ An F ds (⟨some d, .move y,ty,pos,after,gd⟩::r) x K:=by
 subst f; refine cR b rfl ?_ h
 show(bif mem d F.al then uC F x d y else yN F x d y)=_
 rw[c]; unfold yN; rw[z12,e]; exact iI a
theorem WV{c y z:Operand}{b:Bool}{t:T}(i:bJ ds x gd=some true)(g:ev x.sl c= .one (.c (.bool b)))(a:ev x.sl (if b then y else z)= .one (.c t))(f:scal t=true)(e:fits (.one (.c t)) (F.shOf d)=true)(h:bD P τ An F ds r (x.put d (.one (.c t))) K):bD P τ An F ds (⟨some d, .pick c y z,ty,pos,after,gd⟩::r) x K:=by
 refine cR i rfl ?_ h
 show FH F x d c y z=_; unfold FH; rw[g]; cases b with
 | true=>
  have a:ev x.sl y= .one (.c t):=a; simp only[a,f,z15]; exact iI e
 | false=>
  have a:ev x.sl z= .one (.c t):=a; simp only[a,f,z15]; exact iI e
theorem s_bin{op:BinOp}{t a:TypeId}{y z:Operand}{b e:V}{w:T}(j:bJ ds x gd=some true)(h1:evD x y=b)(f:evD x z=e)(g:QX τ op t b e=some w)(i:fits (.one (.c w)) (F.shOf d)=true)(h:bD P τ An F ds r (x.put d (.one (.c w))) K):bD P τ An F ds (⟨some d, .binOp op t y z a,ty,pos,after,gd⟩::r) x K:=by
 subst h1; subst f; refine cR j rfl ?_ h
 show pT τ F x d (.binOp op t y z a)=_; unfold pT; simp only[iN,g]; exact iI i
end


section
variable {P:Program} {τ:TypeId→Option TI} {An:FuncId→FA} {F:FA} {ds:List (Option Nat)} {r:List Oper} {x:D} {K:D→Prop} {ty:TypeId} {pos:String} {after:Array Edge} {gd:Option (Nat×Bool)} {d:Nat}

theorem SO{op:Op}{w:T}(f:bJ ds x gd=some true)(a:dQ ⟨some d,op,ty,pos,after,gd⟩=none)(b:dOp τ F x ⟨some d,op,ty,pos,after,gd⟩=pT τ F x d op)(g:iN τ (evD x) op=some w)(e:fits (.one (.c w)) (F.shOf d)=true)(h:bD P τ An F ds r (x.put d (.one (.c w))) K):
  bD P τ An F ds (⟨some d,op,ty,pos,after,gd⟩::r) x K:=by
 refine cR f a ?_ h
 rw[b]; unfold pT; rw[g]; exact iI e
theorem s_len{y:Operand}{t e:TypeId}{a:List (List T)}(f:bJ ds x gd=some true)(g:tk τ t=some (.sl e))(i:evD x y= .one (.c (.sl a)))(b:fits (.one (.c (.int .i64 0))) (F.shOf d)=true)(h:bD P τ An F ds r (x.put d (.one (.c (.int .i64 a.length)))) K):
  bD P τ An F ds (⟨some d, .call { callee:= .builtin .len,args:= #[y],argTypes:= #[t] },ty,pos,after,gd⟩::r) x K:=by
 refine SO f rfl rfl ?_ (by
  revert b
  cases F.shOf d with
  | tup j=>simp [fits]
  | one w =>
        cases w<;>simp [fits,bO]
        rename_i z; cases z<;>simp [tI]) h
 show(match tk τ t,evD x y with
   | some .str, .one (.c (.str s))=>some (T.int .i64 s.length)
   | some (.sl _), .one (.c (.sl a))=>some (.int .i64 a.length)
   | _,_=>none)=_
 rw[g,i]
theorem Te{t e:TypeId}{g:TI}{v i:Operand}{m:List (List T)}{row:List T}{k:IntKind}{n:Int}(q:bJ ds x gd=some true)(u:tk τ t=some (.sl e))(o:τ e=some g)(w:ev x.sl v= .one (.c (.sl m)))(s:ev x.sl i= .one (.c (.int k n)))(h0:0≤n)(a:m[n.toNat]? =some row)(f:row.length=g.size)
  (b:fits (.one (.cp row)) (F.shOf d)=true)(h:bD P τ An F ds r (x.put d (.one (.cp row))) K):bD P τ An F ds (⟨some d, .indexAddr t v i,ty,pos,after,gd⟩::r) x K:=by
 refine cR q rfl ?_ h
 show(bif fW (F.shOf d)&&qE (ev x.sl v)then qR τ F x d t v i else pD τ F x d t v i)=_
 rw[show(fW (F.shOf d)&&qE (ev x.sl v))=false by
  cases hq:fW (F.shOf d)with
  | false=>rfl
  | true=>
   obtain⟨l,p,n,j,e⟩:=Ca hq; rw[e]at b; simp [fits,bO]at b,z12]
 unfold pD; simp only[u,s,w,idx,o,h0,if_true,a,f,z42,z15]; exact iI b
theorem Td{t:TypeId}{v:Operand}{b:TI}{xs:List T}{w:V}(e:bJ ds x gd=some true)(g:τ t=some b)(a:ev x.sl v= .one (.cp xs))(f:pF b xs=some w)(c:fits w (F.shOf d)=true)(h:bD P τ An F ds r (x.put d w) K):
  bD P τ An F ds (⟨some d, .load t v,ty,pos,after,gd⟩::r) x K:=by
 refine cR e rfl ?_ h
 show(bif mem d F.tk&&(!(mem d F.al)&&fW (ev x.sl v))then uB τ F x d t v else nS τ F x d t v (mem d F.al))=_
 rw[show(mem d F.tk&&(!(mem d F.al)&&fW (ev x.sl v)))=false by rw[a]; simp [fW],z12]
 unfold nS; simp only[g,a,f]; exact iI c
theorem Tc{t:TypeId}{v:Operand}{b:TI}{ob p:Nat}{cells:List T}{w:V}(f:bJ ds x gd=some true)(j:τ t=some b)(i:mem d F.al=false)(a:ev x.sl v= .one (.ptr ob p))(c:x.ob ob=some cells)(g:pF b (cells.drop p)=some w)(e:fits w (F.shOf d)=true)(h:bD P τ An F ds r (x.put d w) K):
  bD P τ An F ds (⟨some d, .load t v,ty,pos,after,gd⟩::r) x K:=by
 refine cR f rfl ?_ h
 show(bif mem d F.tk&&(!(mem d F.al)&&fW (ev x.sl v))then uB τ F x d t v else nS τ F x d t v (mem d F.al))=_
 rw[show(mem d F.tk&&(!(mem d F.al)&&fW (ev x.sl v)))=false by rw[a]; simp [fW],z12]
 unfold nS; simp only[j,a,c,i,z12,g]; exact iI e
theorem RL{t u e:TypeId}{g:TI}{v y:Operand}{a b:List (List T)}(k:bJ ds x gd=some true)(l:tk τ t=some (.sl e))(i:τ e=some g)(o:ev x.sl v= .one (.c (.sl a)))(p:Hk (ev x.sl y)=some b)(m:AZ τ u e=true)(f:Qp g a b=true)
  (j:fits (.one (.c (.sl []))) (F.shOf d)=true)(h:bD P τ An F ds r (x.put d (.one (.c (.sl (a++b))))) K):bD P τ An F ds (⟨some d, .call { callee:= .builtin .append,args:= #[v,y],argTypes:= #[t,u] },ty,pos,after,gd⟩::r) x K:=by
 refine cR k rfl ?_ h
 show tE τ F x d t u v y=_; unfold tE; simp only[l,i,o,p,m,f,z95,z15]
 exact iI (by
  revert j
  cases F.shOf d with
  | tup q=>simp [fits]
  | one w =>
        cases w<;>simp [fits,bO]
        rename_i z; cases z<;>simp [tI])
end
end Go.Own
