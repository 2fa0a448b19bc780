/- A calculus for runs on plain data (part 4): whoever runs code on data, with its owners checked, runs the program. No conditions. -/
import Derived.Test.YtjfgchodolnmcaaOwn2
set_option linter.unusedVariables false
set_option linter.unusedSimpArgs false
set_option linter.unnecessarySimpa false
namespace Go.Own
open Go.RowKit

section
variable {P:Program} {τ:TypeId→Option TI} {An:FuncId→FA} {Sgs:FuncId→List Sg}

theorem Cd{ops:Array Oper}{i:Nat}{o:Oper}{r:List Oper}(h:ops.toList.drop i=o::r):ops[i]? =some o∧ops.toList.drop (i+1)=r:=by
 have h1:(ops.toList.drop i)[0]? =some o:=by rw[h]; rfl
 rw[z56,z69,z26]at h1
 refine⟨h1, ?_⟩
 have:(ops.toList.drop i).drop 1=r:=by rw[h]; rfl
 rw[List.drop_drop]at this; exact this

theorem wW(hT:aY P τ){F:FA}{ops:Array Oper}{i:Nat}{o:Oper}{r:List Oper}{x x1 x2:D}{b b':B}(hdrop:ops.toList.drop i=o::r)(hA:Ag F b x)(hsd:SD P τ Sgs F (ops.toList.map (·.dst)) o x x1)(hb:No τ Sgs F (ops.toList.map (·.dst)) b (o::r)=some b')
  (ih:Mot P τ Sgs (.ops F (ops.toList.map (·.dst)) r x1 x2)):
  Ag F b' x2∧(∀g0 w0 (Q:Exit→Act→World→Prop) a w,Sim g0 w0 (b.S F.n x) a w→(∀a' w',Sim g0 w0 (b'.S F.n x2) a' w'→(∀z,wB z (o::r)=true→a'.tmps.getD z undef=a.tmps.getD z undef)→Q .normal a' w')→wpOps P ops Q (List.range' i (o::r).length) a w)∧
   ∀b2,Hn τ Sgs F (ops.toList.map (·.dst)) b (o::r)=some b2→CY P τ Sgs F (ops.toList.map (·.dst)) ops (List.range' i (o::r).length) x x2:=by
 obtain⟨hi,hdrop'⟩:=Cd hdrop; simp only[No]at hb; split at hb<;>try cases hb
 rename_i b1 hb1; obtain⟨hA1,hw1⟩:=hsd.step hT hA hi hb1; obtain⟨hA2,hw2,hr2⟩:=ih ops (i+1) hdrop' rfl b1 b' hb hA1; refine⟨hA2,fun g0 w0 Q a w hs hQ=> ?_,fun b2 hK=> ?_⟩
 ·rw[z43,z159,wpOps_cons]
  refine hw1 g0 w0 Q _ a w hs (fun v w' hs'=>hw2 g0 w0 Q _ w' hs' (fun a' w'' hs'' hz=>hQ a' w'' hs'' (fun z hno=> ?_)))
  simp only[wB,z7,z37,z39]at hno; rw[hz z hno.2]; exact wY hno.1
 ·obtain⟨h0,b1',h1,h2⟩:=Ma hK
  rw[hb1]at h1; cases h1; rw[z43,z159]; exact⟨o,x1,hi,CZ.of hA h0,hsd,hr2 b2 h2⟩

theorem Gx{K:Act→World→Prop}{Q:Exit→Act→World→Prop}{e:Ek}(he:e≠ .n){a:Act}{w:World}:Exit.then K Q e.exit a w=Q e.exit a w:=by
 cases e with
 | n=>exact absurd rfl he
 | r=>rfl
 | e i=>rfl

theorem Ke{Q:Exit→Act→World→Prop}{id:Nat}{e:Ek}{a:Act}{w:World}(h:Q (nI id e).exit a w):Exit.inBlock id Q e.exit a w:=by
 unfold nI at h; cases e with
 | n=>rw[z13 (by simp)]at h; exact h
 | r=>rw[z13 (by simp)]at h; exact h
 | e i=>
  by_cases hi:i=id
  ·subst hi
   rw[z19 rfl]at h; simp only[Exit.inBlock,Ek.exit,if_true]; exact h
  ·rw[z13 (by simpa using hi)]at h
   simp only[Exit.inBlock,Ek.exit,z13 hi]; exact h

theorem CD{F:FA}: ∀ {l:List V} {i0:Nat},pE F i0 l=true→ ∀ {i:Nat} {v:V},l[i]? =some v→fits v (F.shOf (i0+i))=true
 | [],_,_,i,v,h=>by simp at h
 | p::r,i0,h,0,v,h2=>by
  simp only[pE,z7]at h; simp only[z20,z10]at h2
  subst h2; exact h.1
 | p::r,i0,h,i+1,v,h2=>by
  simp only[pE,z7]at h; simp only[z23]at h2
  have:=CD h.2 h2; rwa[show i0+1+i=i0+(i+1)by omega]at this
theorem CC{F:FA}: ∀ {l:List (List T)} {i0:Nat},rA F i0 l=true→ ∀ {i:Nat} {v:List T},l[i]? =some v→eH v (F.obOf (par+(i0+i)))=true
 | [],_,_,i,v,h=>by simp at h
 | p::r,i0,h,0,v,h2=>by
  simp only[rA,z7]at h; simp only[z20,z10]at h2
  subst h2; exact h.1
 | p::r,i0,h,i+1,v,h2=>by
  simp only[rA,z7]at h; simp only[z23]at h2
  have:=CC h.2 h2; rwa[show i0+1+i=i0+(i+1)by omega]at this
theorem Gg{x:D}: ∀ {l l':List (List T)} {i0:Nat},yY x i0 l=some l'→l'.length=l.length∧ ∀j,j<l.length→l'[j]? =x.ob (par+(i0+j))
 | [],l',i0,h=>by cases h; exact⟨rfl,fun j hj=>by simp at hj⟩
 | p::r,l',i0,h=>by
  unfold yY at h; split at h<;>try cases h
  rename_i cs css h1 h2; obtain⟨q1,q2⟩:=Gg h2; refine⟨by simp [q1],fun j hj=> ?_⟩
  cases j with
  | zero=>simp [h1]
  | succ j=>
   have:=q2 j (by simpa using hj)
   simp only[z23]
   rw[this,show i0+1+j=i0+(j+1)by omega]

theorem NE(hM:P.follows .mixedOrders=true)(hT:aY P τ)(hS: ∀f sg,sg∈Sgs f→ ∀fn c,P.funcs[f]? =some fn→fn.body=some c→fnC τ An Sgs f sg fn c=true){J:Jd}(h:Big P τ An J):Mot P τ Sgs J:=by
 induction h with
 | skip F x=>exact fun b outs hb hA=>by cases hb; exact⟨b,0,rfl,hA,fun g0 w0 Q a w hs hQ=>⟨wp_skip (hQ a w hs (fun _ _=>rfl)),fun c' e=>by cases e⟩⟩
 | label F l x=>exact fun b outs hb hA=>by cases hb; exact⟨b,0,rfl,hA,fun g0 w0 Q a w hs hQ=>⟨wp_label (hQ a w hs (fun _ _=>rfl)),fun c' e=>by cases e⟩⟩
 | exit F i x=>
  intro b outs hb hA; cases hb; refine⟨b,0,by simp [qW,xH],hA,fun g0 w0 Q a w hs hQ=>⟨wp_exit (hQ a w hs (fun _ _=>rfl)),fun c' e=>by cases e⟩⟩
 | ret F x=>exact fun b outs hb hA=>by cases hb; exact⟨b,0,rfl,hA,fun g0 w0 Q a w hs hQ=>⟨wp_ret (hQ a w hs (fun _ _=>rfl)),fun c' e=>by cases e⟩⟩
 | @seqN F c d x x1 x2 e h1 h2 ih1 ih2=>
  intro b outs hb hA; simp only[rK]at hb; split at hb<;>try cases hb
  rename_i o1 ho1; obtain⟨b1,k1,g1,hA1,w1⟩:=ih1 b o1 ho1 hA; rw[g1]at hb; simp only at hb; split at hb<;>try cases hb
  rename_i o2 ho2; obtain⟨b2,k2,g2,hA2,w2⟩:=ih2 b1 o2 ho2 hA1; obtain⟨m1,_⟩:=xD hb; obtain⟨b3,g3,cv⟩:=m1 e b2 g2; obtain⟨hA3,cs⟩:=cv x2 hA2; refine⟨b3,0,g3,hA3,fun g0 w0 Q a w hs hQ=>⟨wp_seq (w1 g0 w0 _ a w hs (fun a' w' hs' hz=> ?_)).1,fun c' e=>by cases e⟩⟩
  refine(w2 g0 w0 Q a' w' hs' (fun a'' w'' hs'' hz2=>hQ a'' w'' (cs _ _ _ _ hs'') (fun z hno=> ?_))).1
  simp only[noD,z7]at hno; rw[hz2 z hno.2,hz z hno.1]
 | @seqX F c d x x1 e h1 he ih1=>
  intro b outs hb hA; simp only[rK]at hb; split at hb<;>try cases hb
  rename_i o1 ho1; obtain⟨b1,k1,g1,hA1,w1⟩:=ih1 b o1 ho1 hA
  have key: ∀b',qW e outs=some b'→Ag F b' x1→(∀g0 w0 a w,Sim g0 w0 (b1.S F.n x1) a w→Sim g0 w0 (b'.S F.n x1) a w)→ ∃(b':B) (k:Nat),qW e outs=some b'∧Ag F b' x1∧ ∀g0 w0 (Q:Exit→Act→World→Prop) a w,Sim g0 w0 (b.S F.n x) a w→
   (∀a' w',Sim g0 w0 (b'.S F.n x1) a' w'→(∀z,noD z (.seq c d)=true→a'.tmps.getD z undef=a.tmps.getD z undef)→Q e.exit a' w')→(Code.seq c d).wp P Q a w∧ ∀c',Code.seq c d= .loop c'→Code.rounds P c' Q k a w:=fun b' hg hA' hcv=>
   ⟨b',0,hg,hA',fun g0 w0 Q a w hs hQ=>⟨wp_seq (w1 g0 w0 _ a w hs (fun a' w' hs' hz=>by
    rw[Gx he]; refine hQ a' w' (hcv _ _ _ _ hs') (fun z hno=> ?_)
    simp only[noD,z7]at hno; exact hz z hno.1)).1,fun c' e=>by cases e⟩⟩
  cases hn:qW .n o1 with
  | none=>
   rw[hn]at hb; cases hb; exact key b1 g1 hA1 (fun _ _ _ _ h=>h)
  | some bn=>
   rw[hn]at hb; simp only at hb; split at hb<;>try cases hb
   rename_i o2 ho2; obtain⟨_,m2⟩:=xD hb; obtain⟨b3,g3,cv⟩:=m2 e b1 (by rw[qM he]; exact g1)
   obtain⟨hA3,cs⟩:=cv x1 hA1; exact key b3 g3 hA3 cs
 | @cond F cnd c d x x1 e t hc h1 ih1=>
  intro b outs hb hA; simp only[rK]at hb; obtain⟨hk,hb⟩:=aI hb; split at hb<;>try cases hb
  rename_i o1 o2 ho1 ho2; obtain⟨m1,m2⟩:=xD hb; have hcv: ∀ {g0:G} {w0:World} {a:Act} {w:World},Sim g0 w0 (b.S F.n x) a w→a.eval cnd= .bool t:=fun hs=>by
   obtain⟨g,hsg⟩:=hs; have:=hsg.ev_rv cnd (fun _ _=> .none)
   rw[mW hk,hc]at this; exact Hu this
  cases t with
  | true=>
   obtain⟨b1,k1,g1,hA1,w1⟩:=ih1 b o1 ho1 hA; obtain⟨b3,g3,cv⟩:=m2 e b1 g1; obtain⟨hA3,cs⟩:=cv x1 hA1; refine⟨b3,0,g3,hA3,fun g0 w0 Q a w hs hQ=>⟨wp_cond_true (hcv hs) (w1 g0 w0 Q a w hs (fun a' w' hs' hz=>hQ a' w' (cs _ _ _ _ hs') (fun z hno=> ?_))).1,fun c' e=>by cases e⟩⟩
   simp only[noD,z7]at hno; exact hz z hno.1
  | false=>
   obtain⟨b1,k1,g1,hA1,w1⟩:=ih1 b o2 ho2 hA; obtain⟨b3,g3,cv⟩:=m1 e b1 g1; obtain⟨hA3,cs⟩:=cv x1 hA1; refine⟨b3,0,g3,hA3,fun g0 w0 Q a w hs hQ=>⟨wp_cond_false (hcv hs) (w1 g0 w0 Q a w hs (fun a' w' hs' hz=>hQ a' w' (cs _ _ _ _ hs') (fun z hno=> ?_))).1,fun c' e=>by cases e⟩⟩
   simp only[noD,z7]at hno; exact hz z hno.2
 | @block F id c x x1 e h1 ih1=>
  intro b outs hb hA; simp only[rK]at hb; split at hb<;>try cases hb
  rename_i o1 ho1; obtain⟨b1,k1,g1,hA1,w1⟩:=ih1 b o1 ho1 hA
  have key: ∀b',qW (nI id e) outs=some b'→Cv F b1 b'→ ∃(b':B) (k:Nat),qW (nI id e) outs=some b'∧Ag F b' x1∧ ∀g0 w0 (Q:Exit→Act→World→Prop) a w,Sim g0 w0 (b.S F.n x) a w→
   (∀a' w',Sim g0 w0 (b'.S F.n x1) a' w'→(∀z,noD z (.block id c)=true→a'.tmps.getD z undef=a.tmps.getD z undef)→Q (nI id e).exit a' w')→(Code.block id c).wp P Q a w∧ ∀c',Code.block id c= .loop c'→Code.rounds P c' Q k a w:=fun b' hg hcv=>by
   obtain⟨hA',cs⟩:=hcv x1 hA1; exact⟨b',0,hg,hA',fun g0 w0 Q a w hs hQ=>⟨wp_block (w1 g0 w0 _ a w hs (fun a' w' hs' hz=>Ke (hQ a' w' (cs _ _ _ _ hs') hz))).1,fun c' e=>by cases e⟩⟩
  cases hi:qW (.e id) o1 with
  | none=>
   rw[hi]at hb; cases hb; have hne:e≠ .e id:=fun he=>by subst he; rw[hi]at g1; cases g1
   have e1:nI id e=e:=by unfold nI; rw[z13 hne]
   rw[e1]at key ⊢; exact key b1 g1 (Cv.refl F b1)
  | some bi=>
   rw[hi]at hb; simp only at hb; obtain⟨a1,b',a2,a3⟩:=MP hb; by_cases he:e= .e id
   ·have e1:nI id e= .n:=by unfold nI; rw[z19 he]
    rw[e1]at key ⊢; rw[he,hi]at g1; cases g1; exact key b' a2 a3
   ·have e1:nI id e=e:=by unfold nI; rw[z13 he]
    rw[e1]at key ⊢; obtain⟨b3,g3,cv⟩:=a1 e b1 (by rw[qM he]; exact g1)
    exact key b3 g3 cv
 | @loopX F c x x1 e h1 he ih1=>
  intro b outs hb hA; simp only[rK]at hb; obtain⟨hd,o,cv,hf,ho,_,_⟩:=FF hb; obtain⟨hAh,csh⟩:=cv x hA; obtain⟨b1,k1,g1,hA1,w1⟩:=ih1 hd o hf hAh; refine⟨b1,1,by rw[ho,qM he]; exact g1,hA1,fun g0 w0 Q a w hs hQ=> ?_⟩
  have hr:Code.rounds P c Q 1 a w:=(w1 g0 w0 _ a w (csh _ _ _ _ hs) (fun a' w' hs' hz=>by rw[Gx he]; exact hQ a' w' hs' hz)).1
  exact⟨wp_loop_rounds 1 hr,fun c' e=>by cases e; exact hr⟩
 | @loopN F c x x1 x2 e h1 h2 ih1 ih2=>
  intro b outs hb hA; simp only[rK]at hb; obtain⟨hd,o,cv,hf,ho,hback,hfix⟩:=FF hb; obtain⟨hAh,csh⟩:=cv x hA; obtain⟨b1,k1,g1,hA1,w1⟩:=ih1 hd o hf hAh; obtain⟨hA1',csb⟩:=hback b1 g1 x1 hA1; obtain⟨b2,k2,g2,hA2,w2⟩:=ih2 hd outs (hfix 3) hA1'; refine⟨b2,k2+1,g2,hA2,fun g0 w0 Q a w hs hQ=> ?_⟩
  have hr:Code.rounds P c Q (k2+1) a w:=by
   rw[rounds_succ]; refine(w1 g0 w0 _ a w (csh _ _ _ _ hs) (fun a' w' hs' hz=> ?_)).1
   exact(w2 g0 w0 Q a' w' (csb _ _ _ _ hs') (fun a'' w'' hs'' hz2=>hQ a'' w'' hs'' (fun z hno=>(hz2 z hno).trans (hz z hno)))).2 c rfl
  exact⟨wp_loop_rounds _ hr,fun c' e=>by cases e; exact hr⟩
 | @regionM F id x S i f c o p0 tp tk t t' r r0 r2 cells cells' k k' rs t1 t2 t3 t4 p1 p2 p3 p4 f1 f2 f3 f4 hmk hi h1 hM hle hc1 hc2 hr2 htp htk hob hch hB ihB=>
  intro b outs hb hA; simp only[rK]at hb; rw[show List.any (Array.toList _) FV=false from rfl]at hb; simp only[hmk,z12]at hb; split at hb<;>try cases hb
  rename_i b1 hb1; obtain⟨hA1,hw⟩:=Qf (Sgs:=Sgs) hT hA (id:=id) hi h1 hM hle hc1 hc2 hr2 htp htk hob (fun m hm sg h2 h3 h4=>ihB m hm sg h2 h3 h4) hch hb1
  obtain⟨hA2,cs⟩:=Eg F id b1 _ hA1; refine⟨_,0,rfl,hA2,fun g0 w0 Q a w hs hQ=>⟨hw g0 w0 Q a w hs (fun a' w' hs' hz=>hQ a' w' (cs _ _ _ _ hs') (fun z hno=> ?_)),fun c' e=>by cases e⟩⟩
  simp only[noD,wB,z7,z37,z39,z10]at hno; exact hz z (Ne.symm hno.1) (Ne.symm hno.2.1) (Ne.symm hno.2.2.1) (Ne.symm hno.2.2.2.1)
 | @region F id ops dr x x1 hmk h1 ih1=>
  intro b outs hb hA; simp only[rK,hmk,RB h1,z12]at hb; cases dr with
  | true=>
   simp only[z17]at hb; split at hb<;>try cases hb
   rename_i b1 hb1; unfold anyC at hb1; cases hcnd:(mG F (ops.toList.map (·.dst)) ops&&(Hn τ Sgs F (ops.toList.map (·.dst)) b ops.toList).isSome)with
   | false=>
    rw[hcnd,z12]at hb1; obtain⟨hK,hlate⟩:=OW (P:=P) hT hb1; obtain⟨b2,hK⟩:=z150.1 hK; obtain⟨_,_,hrun⟩:=ih1 ops 0 rfl rfl b b2 (xA hK) hA; obtain⟨hA2,hgo⟩:=hlate x x1 hA (hrun b2 hK); obtain⟨hA3,cs⟩:=Eg F id b1 x1 hA2; exact⟨_,0,rfl,hA3,fun g0 w0 Q a w hs hQ=>⟨wp_region_any hM (hgo g0 w0 Q a _ (hs.drawn _) (fun a' w' hs' hz=>hQ a' w' (cs _ _ _ _ hs') hz)),fun c' e=>by cases e⟩⟩
   | true=>
   rw[hcnd,z17]at hb1; have hc:=hcnd; simp only[z7]at hc; obtain⟨hO,hK⟩:=hc; split at hb1<;>try cases hb1
   rename_i mf hlv; obtain⟨b2,hK⟩:=z150.1 hK; obtain⟨hA1,_,hrun⟩:=ih1 ops 0 rfl rfl b b2 (xA hK) hA; have hrun:=hrun b2 hK; have hle:(List.range ops.size).filter (fun j=> !(Array.replicate ops.size false).getD j true)=List.range' 0 ops.toList.length:=by
    rw[List.filter_eq_self.2 (fun j hj=>by
     have:=z57.1 hj; simp [Array.getD,this]),TQ]
    simp
   have hany:=fun(g0:G) (w0:World)=>RK (P:=P) (xn:=x1) (g0:=g0) (w0:=w0) hT hO ops.size (Array.replicate ops.size false) 0 [(0,b)] b x hlv (by simp [oW]) (by simp) (fun i hi=>by simp [Array.getD,hi]) (fun j o ho hj=>by
    have:=(z31.1 ho).1
    simp [Array.getD,this]at hj) (by
    rw[z59,hle]; simp) hA (by rw[hle]; exact hrun)
   have hgo: ∀(g0:G) (w0:World) (Q:Exit→Act→World→Prop) (a:Act) (w:World),Sim g0 w0 (b.S F.n x) a w→(∀a' w',Sim g0 w0 (b1.S F.n x1) a' w'→(∀z,wB z ops.toList=true→a'.tmps.getD z undef=a.tmps.getD z undef)→Q .normal a' w')→
     wpAny P .any ops Q ops.size (Array.replicate ops.size false) a { w with drawn:=w.drawn+1 }:=fun g0 w0 Q a w hs hQ=>
    JL ((hany g0 w0).2 (a0:=a) hQ a _ (hs.drawn _) (fun _ _=>rfl))
   have hA2:=(hany ⟨fun _=>0,fun _=> .none⟩ default).1
   obtain⟨hA3,cs⟩:=Eg F id b1 x1 hA2; exact⟨_,0,rfl,hA3,fun g0 w0 Q a w hs hQ=>⟨wp_region_any hM (hgo g0 w0 Q a w hs (fun a' w' hs' hz=>hQ a' w' (cs _ _ _ _ hs') hz)),fun c' e=>by cases e⟩⟩
  | false=>
   simp only[z12]at hb; split at hb<;>try cases hb
   rename_i b1 hb1; obtain⟨hA1,w1,_⟩:=ih1 ops 0 rfl rfl b b1 hb1 hA; obtain⟨hA2,cs⟩:=Eg F id b1 x1 hA1; refine⟨_,0,rfl,hA2,fun g0 w0 Q a w hs hQ=>⟨wp_region ?_,fun c' e=>by cases e⟩⟩
   have:=w1 g0 w0 Q a w hs (fun a' w' hs' hz=>hQ a' w' (cs _ _ _ _ hs') hz)
   rw[TQ]; simpa using this
 | opsNil F ds x=>
  intro ops i _ _ b b' hb hA; cases hb; exact⟨hA,fun g0 w0 Q a w hs hQ=>hQ a w hs (fun _ _=>rfl),fun b2 _=>rfl⟩
 | @opsSkip F ds o r x x2 hg h2 ih2=>
  intro ops i hdrop hds b b' hb hA; subst hds; exact wW hT hdrop hA (.inl ⟨hg,rfl⟩) hb ih2
 | @opsRun F ds o r x x1 x2 hg h1 h2 ih2=>
  intro ops i hdrop hds b b' hb hA; subst hds; exact wW hT hdrop hA (.inr (.inl ⟨hg,h1⟩)) hb ih2
 | @opsCall F ds o rs x x2 c v f caps ob ob' r nw hg ho hcal hni hx hth hob h1 hsh h2 ih1 ih2=>
  intro ops i hdrop hds b b' hb hA; subst hds; exact wW hT hdrop hA (.inr (.inr (.inl ⟨hg,c,v,f,caps,ob,ob',r,nw,ho,hcal,hni,hx,hth,hob,fun sg hsg e1 e2=>ih1 sg hsg e1 e2,hsh,rfl⟩))) hb ih2
 | @opsIo F ds o rs x x2 c v f r t xs l p x0 es es' hg ho hcal hio hx hth hargs hal hat hnav h1 hsh h2 ih1 ih2=>
  intro ops i hdrop hds b b' hb hA; subst hds; exact wW hT hdrop hA (.inr (.inr (.inr ⟨hg,c,v,f,r,t,xs,l,p,x0,es,es',ho,hcal,hio,hx,hth,hargs,hal,hat,hnav,fun sg hsg e1 e2=>ih1 sg hsg e1 e2,hsh,rfl⟩))) hb ih2
 | @fn f fn c vs ob ob' e x' ws iov hf hb hsh hso h1 he hws hio hob ih1=>
  intro sg hsg hnp hno g w us hsim; have hq:=hS f sg hsg fn c hf hb; unfold fnC at hq; cases hlb:(An f).lb with
  | some q=>
   exfalso
   rw[hlb]at hq; obtain⟨_,l2,l3⟩:=Lz hq; obtain⟨v,vs',rfl⟩: ∃v vs',vs=v::vs':=by
    cases vs with
    | nil=>simp only[z27]at hnp; omega
    | cons v r=>exact⟨v,r,rfl⟩
   simp only[pE,z7,FA.shOf,l2,List.getElem?_nil]at hsh
   have h0:=hsh.1; cases v with
   | one w=>cases w<;>exact absurd h0 (by simp [fits,bP])
   | tup ws=>exact absurd h0 (by simp [fits])
  | none=>
  rw[hlb]at hq; simp only at hq; simp only[z7]at hq; obtain⟨⟨⟨⟨⟨⟨⟨⟨⟨q1,q2⟩,q3⟩,q4⟩,q5⟩,q6⟩,q7⟩,q8⟩,q9⟩,q10⟩:=hq; have hn:=z16 q1; have hp:=z33 q2; have hio0:sg.io=(An f).io:=of_decide_eq_true q7; cases hout:rK τ Sgs (An f) c sg.bi with
  | none=>rw[hout]at q10; cases q10
  | some outs=>
   rw[hout]at q10; simp only[z7]at q10; have hAg:Ag (An f) sg.bi (DA vs ob):=by
    refine⟨fun i hi=> ?_,fun o ho=> ?_⟩
    ·right
     simp only[B.has]at hi; cases hl:cQ i sg.bi.sl with
     | none=>rw[hl]at hi; cases hi
     | some κ=>
      have hlt:i<vs.length:=by rw[←hnp]; exact cD (z15.1 q5 _ (fX hl))
      have:=CD hsh (z14 hlt)
      rw[z32]at this; have e:(DA vs ob).sl i=vs[i]:=by simp [DA,List.getD,z14 hlt]
      rw[e]; exact this
    ·simp only[B.hasO]at ho
     cases hl:cQ o sg.bi.ob with
     | none=>rw[hl]at ho; cases ho
     | some κ=>
      have h3:=z15.1 q6 _ (fX hl); simp only[z7]at h3; have h4:=z33 h3.1; have h5:=cD h3.2; have hlt:o - par<ob.length:=by rw[←hno]; omega
      have:=CC hso (z14 hlt)
      rw[z32,TM h4]at this; exact⟨ob[o - par],by simp [DA,h4,z14 hlt],this⟩
   obtain⟨b',k,hg,hA',hw⟩:=ih1 sg.bi outs hout hAg; have hcall:(callFunc f us).run P w= .ok (.enter f us) w:=by
    have hne:fn.name≠ "runtime.NumGoroutine" :=by simpa using q4
    simp [callFunc,run_program,hf,hne,hb]
   rw[hcall]; show Calls P f us w _; refine calls_of_wp hf hb ?_
   have hsim2:=hsim.body (n:=fn.ntmps) (z33 q3) hp; rw[hn]at hw; refine(hw g w _ _ w ⟨g,hsim2⟩ (fun a' w' hs' hz=> ?_)).1
   obtain⟨g',hs'⟩:=hs'; have hchk:yX (An f) b' sg.bo (zP (An f) fn.results.toList (An f).n0 (An f).io) 0 fn.results.toList=true∧Kq (An f) b' sg.bo (An f).n0=true∧NY (An f) b' sg.bo fn.results.toList c=true:=by
    rcases he with rfl | rfl
    ·have:=q10.1; rw[hg]at this; simpa [and_assoc]using this
    ·have:=q10.2; rw[hg]at this; simpa [and_assoc]using this
   have hbo: ∀i,sg.bo.has i=true→i=0∨(i=1∧(An f).io.isSome=true):=fun i hi=>by
    simp only[B.has]at hi; cases hl:cQ i sg.bo.sl with
    | none=>rw[hl]at hi; cases hi
    | some κ=>
     have:=z15.1 q8 _ (fX hl); simp only[z50,z7]at this; rcases this with h | h
     ·exact .inl (z16 h)
     ·exact .inr ⟨z16 h.1,h.2⟩
   have hobd: ∀oc o1,sg.bo.hasO oc=true→sZ (An f).n0 o1=some oc→(DR ((Hl ws).to (sZ (An f).n0)) iov ob' ((An f).n0.bind x'.ob)).ob oc=x'.ob o1:=fun oc o1 hoc hret=>by
    obtain⟨hol,hog⟩:=Gg hob; simp only[sZ]at hret; split at hret
    ·rename_i hpo
     cases hret; have h1:sg.bi.hasO oc=true:=by
      simp only[B.hasO]at hoc; cases hl:cQ oc sg.bo.ob with
      | none=>rw[hl]at hoc; cases hoc
      | some κ=>
       have:=z15.1 q9 _ (fX hl); simp only[z50]at this; rcases this with h | h
       ·have:=z16 h
        subst this; exact absurd hpo Eb
       ·exact h
     simp only[B.hasO]at h1; cases hl:cQ oc sg.bi.ob with
     | none=>rw[hl]at h1; cases h1
     | some κ=>
      have h3:=z15.1 q6 _ (fX hl); simp only[z7]at h3; have h5:=cD h3.2; have hlt:oc - par<ob.length:=by rw[←hno]; omega
      have:=hog (oc - par) hlt; rw[z32,TM hpo]at this; simp only[DR,z19 hpo,this]
    ·split at hret
     ·rename_i hpo hn0
      cases hret; simp only[DR,z13 Eb,if_true,hn0,z8]
     ·cases hret
   obtain⟨us',hl',hrun,g'',hfin⟩:=bM.ret hT hs' hA' (io:=(An f).io) (iov:=iov) (u1:=us.getD (sg.io.getD 0) undef) (ob:=ob') (nw:=(An f).n0.bind x'.ob) hws hchk.1 hchk.2.1 hobd (fun z e=>by
    have h3:=hchk.2.2; unfold NY at h3; rw[e]at h3 hio; simp only[z7,z50,z37,z28]at h3; obtain⟨⟨⟨z1,z2⟩,z3⟩,z4⟩:=h3; simp only[Su]at hio; split at hio<;>try cases hio
    rename_i tt ht; refine⟨?_,z1,⟨tt,ht,rfl⟩,z2,fun hh=> ?_⟩
    ·rw[hz z z4,hio0,e]
     show(us++Array.replicate (fn.ntmps - us.size) undef).getD z undef=us.getD z undef; simp only[z55,z164]
     split
     ·rfl
     ·rename_i hi
      rw[z161 (xs:=us) (by omega)]
      simp only[z147]
      split<;>rfl
    ·rcases z3 with z3 | z3
     ·rw[z3]at hh; cases hh
     ·rw[e]; exact z3) (fun hn=>by
    cases h1:sg.bo.has 1 with
    | false=>rfl
    | true=>
     rcases hbo 1 h1 with h | h
     ·cases h
     ·rw[hn]at h; cases h.2) (fun i hi=>by rcases hbo i hi with h | h<;>omega)
   have hres:=Ia (P:=P) (w:=w') (fn:=fn) (tmps:=a'.tmps) hl' hrun; have hpost:bodyPost P fn (fun e w'=> ∃v,e= .returned v∧ ∃g',bM g w (sg.bo.S 2 (DR ((Hl ws).to (sZ (An f).n0)) iov ob' ((An f).n0.bind x'.ob))) ⟨#[v,us.getD (sg.io.getD 0) undef],[]⟩ g' w') .normal a' w':=⟨hs'.defers,_,hres,_,rfl,g'',hfin⟩
   rcases he with rfl | rfl
   ·exact hpost
   ·exact hpost
 | @lib f fn c vs r q hf hb hq h1=>
  intro sg hsg hnp hno; have hh:=hS f sg hsg fn c hf hb; unfold fnC at hh; rw[hq]at hh; obtain⟨e,_,_⟩:=Lz hh; rw[e]; exact h1
end
end Go.Own

namespace Go.Own
open Go.RowKit

section
variable (P:Program) (τ:TypeId→Option TI) (An:FuncId→FA)

def Wd(F:FA)(c:Code)(x:D)(Q:Ek→D→Prop):Prop:= ∃e x',Big P τ An (.code F c x e x')∧Q e x'
def Wo(F:FA)(ds:List (Option Nat))(os:List Oper)(x:D)(Q:D→Prop):Prop:= ∃x',Big P τ An (.ops F ds os x x')∧Q x'

def Ri(K:D→Prop)(Q:Ek→D→Prop):Ek→D→Prop
 | .n,x=>K x
 | e,x=>Q e x
def blkD(id:Nat)(Q:Ek→D→Prop)(e:Ek)(x:D):Prop:=Q (nI id e) x

def Th(F:FA)(o:Oper)(c:Call)(v:Operand)(x:D)(K:D→Prop):Prop:=
 xX F c=false∧ ∃f caps ob ob' r nw,ev x.sl v= .one (.fn f caps)∧c.args.toList.all (fun v=>fY (ev x.sl v))=true∧ob.map some=(iN F c v).map x.ob∧Big P τ An (.fn f (inV x c caps (iN F c v)) ob r none ob' nw)∧
  bJ F (x.call o.dst (pZ F o.dst) (iN F c v) (DR r none ob' nw)) o.dst (pZ F o.dst) (iN F c v)=true∧K (x.call o.dst (pZ F o.dst) (iN F c v) (DR r none ob' nw))
def vcIo(F:FA)(o:Oper)(c:Call)(v:Operand)(x:D)(K:D→Prop):Prop:=
 xX F c=true∧ ∃f r t xs l p x0 es es',ev x.sl v= .one (.fn f [])∧c.args.toList.all (fun v=>fY (ev x.sl v))=true∧c.args.toList= .tmp t::xs∧x.sl t= .one (.al l p)∧x.at l=some x0∧nav x0 p=some (.sl es)∧Big P τ An (.fn f (inV x c [] []) [] r (some (.sl es')) [] none)∧
  bJ F (x.call o.dst none [] (DR r (some (.sl es')) [] none)) o.dst none []=true∧K ((x.call o.dst none [] (DR r (some (.sl es')) [] none)).upd l (cJ x0 p (.sl es')))
def Kl(F:FA)(o:Oper)(x:D)(K:D→Prop):Prop:=match cW o with
 | some (c,v)=>Th P τ An F o c v x K∨vcIo P τ An F o c v x K
 | none=> ∃x1,dOp τ F x o=some x1∧K x1
def FR(F:FA)(ds:List (Option Nat))(o:Oper)(x:D)(K:D→Prop):Prop:=match bE ds x o.guard with
 | some true=>Kl P τ An F o x K
 | some false=>K (qI x o.dst)
 | none=>False
def aZ(F:FA)(ds:List (Option Nat)):List Oper→D→(D→Prop)→Prop
 | [],x,K=>K x
 | o::r,x,K=>FR P τ An F ds o x (fun x1=>aZ F ds r x1 K)

def vcC(F:FA):Code→D→(Ek→D→Prop)→Prop
 | .skip,x,Q=>Q .n x
 | .label _,x,Q=>Q .n x
 | .exit i,x,Q=>Q (.e i) x
 | .ret,x,Q=>Q .r x
 | .seq a b,x,Q=>vcC F a x (Ri (fun x1=>vcC F b x1 Q) Q)
 | .cond c a b,x,Q=> ∃t,ev x.sl c= .one (.c (.bool t))∧(t=true→vcC F a x Q)∧(t=false→vcC F b x Q)
 | .block id c,x,Q=>vcC F c x (blkD id Q)
 | .loop c,x,Q=>Wd P τ An F (.loop c) x Q
 | .region id ops dr,x,Q=>(cQ id F.mks=none∧aZ P τ An F (ops.toList.map (·.dst)) ops.toList x (fun x1=>Q .n x1))∨ ∃x1,Big P τ An (.code F (.region id ops dr) x .n x1)∧Q .n x1
 | _,_,_=>False
end

section
variable {P:Program} {τ:TypeId→Option TI} {An:FuncId→FA}

theorem wL{F:FA}{ds:List (Option Nat)}: ∀ {os:List Oper} {x:D} {K:D→Prop},aZ P τ An F ds os x K→Wo P τ An F ds os x K
 | [],x,K,h=>⟨x, .opsNil F ds x,h⟩
 | o::r,x,K,h=>by
  simp only[aZ,FR]at h; split at h
  ·rename_i hg
   unfold Kl at h; split at h
   ·rename_i c v hc
    have hoc:o.op= .call c∧c.callee= .value v:=by
     unfold cW at hc; split at hc<;>try cases hc
     rename_i c' ho; split at hc<;>try cases hc
     rename_i v' hv; exact⟨ho,hv⟩
    rcases h with⟨h0,f,caps,ob,ob',rr,nw,h1,h2,h3,h4,h5,h6⟩ | ⟨h0,f,rr,t,xs,l,p,x0,es,es',h1,h2,h3,h4,h5,h6,h7,h8,h9⟩
    ·obtain⟨x',q1,q2⟩:=wL h6
     exact⟨x', .opsCall hg hoc.1 hoc.2 h0 h1 h2 h3 h4 h5 q1,q2⟩
    ·obtain⟨x',q1,q2⟩:=wL h9
     exact⟨x', .opsIo hg hoc.1 hoc.2 h0 h1 h2 h3 h4 h5 h6 h7 h8 q1,q2⟩
   ·obtain⟨x1,h1,h2⟩:=h
    obtain⟨x',q1,q2⟩:=wL h2; exact⟨x', .opsRun hg h1 q1,q2⟩
  ·rename_i hg
   obtain⟨x',q1,q2⟩:=wL h; exact⟨x', .opsSkip hg q1,q2⟩
  ·exact h.elim

theorem AW{F:FA}: ∀ {c:Code} {x:D} {Q:Ek→D→Prop},vcC P τ An F c x Q→Wd P τ An F c x Q
 | .skip,x,Q,h=>⟨.n,x, .skip F x,h⟩
 | .label l,x,Q,h=>⟨.n,x, .label F l x,h⟩
 | .exit i,x,Q,h=>⟨.e i,x, .exit F i x,h⟩
 | .ret,x,Q,h=>⟨.r,x, .ret F x,h⟩
 | .seq a b,x,Q,h=>by
  obtain⟨e,x1,h1,h2⟩:=AW (c:=a) h; by_cases he:e= .n
  ·subst he
   obtain⟨e2,x2,q1,q2⟩:=AW (c:=b) h2; exact⟨e2,x2, .seqN h1 q1,q2⟩
  ·refine⟨e,x1, .seqX h1 he, ?_⟩
   cases e with
   | n=>exact absurd rfl he
   | r=>exact h2
   | e i=>exact h2
 | .cond c a b,x,Q,h=>by
  obtain⟨t,hc,h1,h2⟩:=h; cases t with
  | true=>
   obtain⟨e,x1,q1,q2⟩:=AW (c:=a) (h1 rfl); exact⟨e,x1, .cond hc q1,q2⟩
  | false=>
   obtain⟨e,x1,q1,q2⟩:=AW (c:=b) (h2 rfl); exact⟨e,x1, .cond hc q1,q2⟩
 | .block id c,x,Q,h=>by
  obtain⟨e,x1,h1,h2⟩:=AW (c:=c) h; exact⟨_,x1, .block h1,h2⟩
 | .loop c,x,Q,h=>h
 | .region id ops dr,x,Q,h=>by
  rcases h with⟨h0,h⟩ | ⟨x1,h1,h2⟩
  ·obtain⟨x1,h1,h2⟩:=wL h
   exact⟨.n,x1, .region h0 h1,h2⟩
  ·exact⟨.n,x1,h1,h2⟩
 | .scope c,x,Q,h=>h.elim
 | .rangeFunc _ _ _ _,x,Q,h=>h.elim
 | .goto _,x,Q,h=>h.elim
 | .refuse _,x,Q,h=>h.elim

end
end Go.Own

namespace Go.Own
open Go.RowKit

section
variable {P:Program} {τ:TypeId→Option TI} {An:FuncId→FA}

theorem Big.of{f:FuncId}{fn:Func}{c:Code}{vs:List V}{ob ob':List (List T)}{r:V}{nw:Option (List T)}(hf:P.funcs[f]? =some fn)(hb:fn.body=some c)(hsh:pE (An f) 0 vs=true)(hso:rA (An f) 0 ob=true)(hio:(An f).io=none)
  (h:vcC P τ An (An f) c (DA vs ob) (fun e x=>(e= .n∨e= .r)∧ ∃ws,Cx τ x fn.results.toList=some ws∧(Hl ws).to (sZ (An f).n0)=r∧yY x 0 ob=some ob'∧(An f).n0.bind x.ob=nw)):Big P τ An (.fn f vs ob r none ob' nw):=by
 obtain⟨e,x',h1,he,ws,h2,rfl,h3,rfl⟩:=AW h; exact .fn hf hb hsh hso h1 he h2 (by rw[hio]; rfl) h3

section
variable (x:D) (d i:Nat) (v:V)
@[simp] theorem put_ob:(x.put d v).ob=x.ob:=rfl.trans rfl
end
theorem gN{F:FA}{x:D}{d:Nat}{v:V}(h:fits v (F.shOf d)=true):qG F x d v=some (x.put d v):=by
 unfold qG; rw[h]; rfl
end
end Go.Own

namespace Go.Own
open Go.RowKit

def G.old:G:= { β:=fun _=>0,own:=fun _=> .none }

theorem TC.row{P:Program}{f:FuncId}{fn:Func}{c:Code}{sg:Sg}{args:List V}(h:TC P f sg args [] (.one (.c (.bool true))) none [] none)(hb0:sg.bo.has 0=true)(hbo:sg.bi.ob=[])(hnp:sg.np=args.length)(hle:sg.np≤par)
  (hf:P.funcs[f]? =some fn)(hb:fn.body=some c)(hname:(fn.name == "runtime.NumGoroutine")=false)(w:World)(us:Array Value)(hsz:us.size=args.length)
  (hroot: ∀i,aH (args.getD i (.one .junk))= .none)(hvs: ∀i,sg.bi.has i=true→RV G.old w (fun k j=>sg.bi.kd (.s i k j)) (fun k j=> .s i k j) (us.getD i undef) (args.getD i (.one .junk))):
  Calls P f us w fun e w'=>e= .returned (.bool true)∧Below w.heap.size w w':=by
 have hs:bM G.old w (sg.bi.S sg.np (DA args [])) ⟨us,[]⟩ G.old w:=by
  refine⟨oO.refl _ _,⟨fun b h=>absurd rfl h⟩,by rw[hsz, ←hnp]; rfl,rfl,fun i=> ?_,fun o cells ho=> ?_,fun i hi=> ?_,fun _ _=>rfl,hle⟩
  ·show RV _ w (fun k j=>sg.bi.kd (.s i k j)) _ (us.getD i undef) (if sg.bi.has i=true then args.getD i (.one .junk)else .one .junk)
   by_cases e:sg.bi.has i=true
   ·rw[z19 e]; exact hvs i e
   ·rw[z13 e]; trivial
  ·have ho':(if sg.bi.hasO o=true then(DA args []).ob o else none)=some cells:=ho
   split at ho'<;>try cases ho'
   rename_i e; simp only[B.hasO,hbo,cQ]at e; cases e
  ·exfalso
   apply hi
   show aH (if sg.bi.has i=true then args.getD i (.one .junk)else .one .junk)= .none
   split
   ·exact hroot i
   ·rfl
 have h1:=h _ w us hs; have hne:fn.name≠ "runtime.NumGoroutine" :=by simpa using hname
 have hcall:(callFunc f us).run P w= .ok (.enter f us) w:=by simp [callFunc,run_program,hf,hne,hb]
 rw[hcall]at h1; refine Calls.mono h1 ?_
 rintro e w' ⟨v,rfl,g',h2⟩
 have hr:=h2.slots 0; rw[oK hb0]at hr; have hv:v= .bool true:=Hu hr; subst hv; exact⟨rfl,h2.framed.os,h2.framed.tape,h2.framed.output,h2.framed.evo.size,fun k hk=>(h2.framed.evo.keep k hk (fun h=>h (.inl rfl))).2⟩

theorem TC.of{P:Program}{τ:TypeId→Option TI}{An:FuncId→FA}{Sgs:FuncId→List Sg}(hM:P.follows .mixedOrders=true)(hT:aY P τ)(hS: ∀f sg,sg∈Sgs f→ ∀fn c,P.funcs[f]? =some fn→fn.body=some c→fnC τ An Sgs f sg fn c=true)
  {f:FuncId}{vs:List V}{ob ob':List (List T)}{r:V}{nw:Option (List T)}(h:Big P τ An (.fn f vs ob r none ob' nw)){sg:Sg}(hsg:sg∈Sgs f)(hnp:sg.np=vs.length)(hno:sg.no=ob.length):TC P f sg vs ob r none ob' nw:=
 NE hM hT hS h sg hsg hnp hno
end Go.Own

namespace Go.Own
open Go.RowKit

section
variable {P:Program} {τ:TypeId→Option TI} {An:FuncId→FA} {F:FA} {ds:List (Option Nat)} {o:Oper} {r:List Oper} {x x1:D} {K:D→Prop} {Q:Ek→D→Prop}

theorem dB(hg:bE ds x o.guard=some true)(hc:cW o=none)(h1:dOp τ F x o=some x1)(h:aZ P τ An F ds r x1 K):aZ P τ An F ds (o::r) x K:=by
 simp only[aZ,FR,hg,Kl,hc]; exact⟨x1,h1,h⟩
theorem MX(hg:bE ds x o.guard=some false)(h1:qI x o.dst=x1)(h:aZ P τ An F ds r x1 K):aZ P τ An F ds (o::r) x K:=by
 subst h1; simp only[aZ,FR,hg]; exact h
theorem OG(h:K x):aZ P τ An F ds [] x K:=h
theorem Ai{c:Call}{v:Operand}{os:List Nat}(h:iN F c v=os)(hn:os≠[0,0]):xX F c=false:=by
 unfold iN at h; cases e:xX F c with
 | false=>rfl
 | true=>rw[e]at h; exact absurd h.symm hn
theorem wX{c:Call}{v:Operand}{f:FuncId}{caps:List (Nat×Nat)}{vs:List V}{ob ob':List (List T)}{rr:V}{nw:Option (List T)}{x1:D}(hg:bE ds x o.guard=some true)(hc:cW o=some (c,v))(hni:xX F c=false)(hx:ev x.sl v= .one (.fn f caps))(hth:c.args.toList.all (fun v=>fY (ev x.sl v))=true)
  (hob:ob.map some=(iN F c v).map x.ob)(hvs:inV x c caps (iN F c v)=vs)(hB:Big P τ An (.fn f vs ob rr none ob' nw))(hx1:x.call o.dst (pZ F o.dst) (iN F c v) (DR rr none ob' nw)=x1)(hsh:bJ F x1 o.dst (pZ F o.dst) (iN F c v)=true)
  (h:aZ P τ An F ds r x1 K):aZ P τ An F ds (o::r) x K:=by
 subst hx1; subst hvs; simp only[aZ,FR,hg,Kl,hc]; exact .inl ⟨hni,f,caps,ob,ob',rr,nw,hx,hth,hob,hB,hsh,h⟩
end

end Go.Own

namespace Go.Own
open Go.RowKit

section
variable {P:Program} {τ:TypeId→Option TI} {An:FuncId→FA} {F:FA} {ds:List (Option Nat)} {r:List Oper} {x:D} {K:D→Prop} {ty:TypeId} {pos:String} {after:Array Edge} {gd:Option (Nat×Bool)} {d:Nat}

theorem OH{y:Operand}{v:V}(hg:bE ds x gd=some true)(hv:ev x.sl y=v)(ht:fY v=true)(hf:fits v (F.shOf d)=true)(h:aZ P τ An F ds r (x.put d v) K):aZ P τ An F ds (⟨some d, .assign y,ty,pos,after,gd⟩::r) x K:=by
 subst hv; refine dB hg rfl ?_ h
 show xY F x d y=_; unfold xY; rw[ht]; exact gN hf
theorem Tn{y:Operand}{v:V}(hg:bE ds x gd=some true)(hm:mem d F.al=false)(hv:ev x.sl y=v)(ht:fY v=true)(hf:fits v (F.shOf d)=true)(h:aZ P τ An F ds r (x.put d v) K):aZ P τ An F ds (⟨some d, .move y,ty,pos,after,gd⟩::r) x K:=by
 subst hv; refine dB hg rfl ?_ h
 show(bif mem d F.al then zC F x d y else xY F x d y)=_
 rw[hm]; unfold xY; rw[z12,ht]; exact gN hf
theorem Tm{c y z:Operand}{b:Bool}{t:T}(hg:bE ds x gd=some true)(hc:ev x.sl c= .one (.c (.bool b)))(hv:ev x.sl (if b then y else z)= .one (.c t))(hs:scal t=true)(hf:fits (.one (.c t)) (F.shOf d)=true)(h:aZ P τ An F ds r (x.put d (.one (.c t))) K):aZ P τ An F ds (⟨some d, .pick c y z,ty,pos,after,gd⟩::r) x K:=by
 refine dB hg rfl ?_ h
 show DC F x d c y z=_; unfold DC; rw[hc]; cases b with
 | true=>
  have hv:ev x.sl y= .one (.c t):=hv; simp only[hv,hs,z17]; exact gN hf
 | false=>
  have hv:ev x.sl z= .one (.c t):=hv; simp only[hv,hs,z17]; exact gN hf
theorem s_bin{op:BinOp}{t t2:TypeId}{y z:Operand}{v1 v2:V}{w:T}(hg:bE ds x gd=some true)(h1:evD x y=v1)(h2:evD x z=v2)(hb:NN τ op t v1 v2=some w)(hf:fits (.one (.c w)) (F.shOf d)=true)(h:aZ P τ An F ds r (x.put d (.one (.c w))) K):aZ P τ An F ds (⟨some d, .binOp op t y z t2,ty,pos,after,gd⟩::r) x K:=by
 subst h1; subst h2; refine dB hg rfl ?_ h
 show mU τ F x d (.binOp op t y z t2)=_; unfold mU; simp only[gL,hb]; exact gN hf
end
end Go.Own

namespace Go.Own
open Go.RowKit

end Go.Own

namespace Go.Own
open Go.RowKit

section
variable {P:Program} {τ:TypeId→Option TI} {An:FuncId→FA} {F:FA} {ds:List (Option Nat)} {r:List Oper} {x:D} {K:D→Prop} {ty:TypeId} {pos:String} {after:Array Edge} {gd:Option (Nat×Bool)} {d:Nat}

theorem PM{op:Op}{w:T}(hg:bE ds x gd=some true)(hc:cW ⟨some d,op,ty,pos,after,gd⟩=none)(hd:dOp τ F x ⟨some d,op,ty,pos,after,gd⟩=mU τ F x d op)(hr:gL τ (evD x) op=some w)(hf:fits (.one (.c w)) (F.shOf d)=true)(h:aZ P τ An F ds r (x.put d (.one (.c w))) K):
  aZ P τ An F ds (⟨some d,op,ty,pos,after,gd⟩::r) x K:=by
 refine dB hg hc ?_ h
 rw[hd]; unfold mU; rw[hr]; exact gN hf
theorem s_len{y:Operand}{t e:TypeId}{es:List (List T)}(hg:bE ds x gd=some true)(ht:tk τ t=some (.sl e))(hv:evD x y= .one (.c (.sl es)))(hf:fits (.one (.c (.int .i64 0))) (F.shOf d)=true)(h:aZ P τ An F ds r (x.put d (.one (.c (.int .i64 es.length)))) K):
  aZ P τ An F ds (⟨some d, .call { callee:= .builtin .len,args:= #[y],argTypes:= #[t] },ty,pos,after,gd⟩::r) x K:=by
 refine PM hg rfl rfl ?_ (by
  revert hf
  cases F.shOf d with
  | tup ws=>simp [fits]
  | one w =>
        cases w<;>simp [fits,bP]
        rename_i z; cases z<;>simp [qX]) h
 show(match tk τ t,evD x y with
   | some .str, .one (.c (.str s))=>some (T.int .i64 s.length)
   | some (.sl _), .one (.c (.sl es))=>some (.int .i64 es.length)
   | _,_=>none)=_
 rw[ht,hv]
theorem QT{t e:TypeId}{ei:TI}{v i:Operand}{es:List (List T)}{row:List T}{k:IntKind}{n:Int}(hg:bE ds x gd=some true)(ht:tk τ t=some (.sl e))(he:τ e=some ei)(hv:ev x.sl v= .one (.c (.sl es)))(hi:ev x.sl i= .one (.c (.int k n)))(h0:0≤n)(hrow:es[n.toNat]? =some row)(hsz:row.length=ei.size)
  (hf:fits (.one (.cp row)) (F.shOf d)=true)(h:aZ P τ An F ds r (x.put d (.one (.cp row))) K):aZ P τ An F ds (⟨some d, .indexAddr t v i,ty,pos,after,gd⟩::r) x K:=by
 refine dB hg rfl ?_ h
 show(bif gM (F.shOf d)&&pS (ev x.sl v)then pQ τ F x d t v i else nM τ F x d t v i)=_
 rw[show(gM (F.shOf d)&&pS (ev x.sl v))=false by
  cases hq:gM (F.shOf d)with
  | false=>rfl
  | true=>
   obtain⟨l,p,n,j,e⟩:=FG hq; rw[e]at hf; simp [fits,bP]at hf,z12]
 unfold nM; simp only[ht,hi,hv,idx,he,h0,if_true,hrow,hsz,z42,z17]; exact gN hf
theorem QS{t:TypeId}{v:Operand}{ti:TI}{xs:List T}{w:V}(hg:bE ds x gd=some true)(ht:τ t=some ti)(hv:ev x.sl v= .one (.cp xs))(hl:nV ti xs=some w)(hf:fits w (F.shOf d)=true)(h:aZ P τ An F ds r (x.put d w) K):
  aZ P τ An F ds (⟨some d, .load t v,ty,pos,after,gd⟩::r) x K:=by
 refine dB hg rfl ?_ h
 show(bif mem d F.tk&&(!(mem d F.al)&&gM (ev x.sl v))then DS τ F x d t v else pT τ F x d t v (mem d F.al))=_
 rw[show(mem d F.tk&&(!(mem d F.al)&&gM (ev x.sl v)))=false by rw[hv]; simp [gM],z12]
 unfold pT; simp only[ht,hv,hl]; exact gN hf
theorem QR{t:TypeId}{v:Operand}{ti:TI}{ob p:Nat}{cells:List T}{w:V}(hg:bE ds x gd=some true)(ht:τ t=some ti)(hm:mem d F.al=false)(hv:ev x.sl v= .one (.ptr ob p))(hc:x.ob ob=some cells)(hl:nV ti (cells.drop p)=some w)(hf:fits w (F.shOf d)=true)(h:aZ P τ An F ds r (x.put d w) K):
  aZ P τ An F ds (⟨some d, .load t v,ty,pos,after,gd⟩::r) x K:=by
 refine dB hg rfl ?_ h
 show(bif mem d F.tk&&(!(mem d F.al)&&gM (ev x.sl v))then DS τ F x d t v else pT τ F x d t v (mem d F.al))=_
 rw[show(mem d F.tk&&(!(mem d F.al)&&gM (ev x.sl v)))=false by rw[hv]; simp [gM],z12]
 unfold pT; simp only[ht,hv,hc,hm,z12,hl]; exact gN hf
theorem OI{t u e:TypeId}{ei:TI}{v y:Operand}{es1 es2:List (List T)}(hg:bE ds x gd=some true)(ht:tk τ t=some (.sl e))(he:τ e=some ei)(hv:ev x.sl v= .one (.c (.sl es1)))(hy:FW (ev x.sl y)=some es2)(hu:yC τ u e=true)(hok:Nh ei es1 es2=true)
  (hf:fits (.one (.c (.sl []))) (F.shOf d)=true)(h:aZ P τ An F ds r (x.put d (.one (.c (.sl (es1++es2))))) K):aZ P τ An F ds (⟨some d, .call { callee:= .builtin .append,args:= #[v,y],argTypes:= #[t,u] },ty,pos,after,gd⟩::r) x K:=by
 refine dB hg rfl ?_ h
 show qU τ F x d t u v y=_; unfold qU; simp only[ht,he,hv,hy,hu,hok,z94,z17]
 exact gN (by
  revert hf
  cases F.shOf d with
  | tup ws=>simp [fits]
  | one w =>
        cases w<;>simp [fits,bP]
        rename_i z; cases z<;>simp [qX])
end
end Go.Own
