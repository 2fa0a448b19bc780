/- A calculus for runs on plain data (part 4): whoever runs code on data, with its owners checked, runs the program. No conditions. -/
import Derived.Test.YtloebajamceclaaDoorOwn2
set_option linter.unusedVariables false
set_option linter.unusedSimpArgs false
set_option linter.unnecessarySimpa false
namespace Go.Own
open Go.RowKit

section
variable {P:Program} {τ:TypeId→Option TI} {An:FuncId→FA} {Sgs:FuncId→List Sg}

theorem AH{ops:Array Oper}{i:Nat}{o:Oper}{r:List Oper}(h:ops.toList.drop i=o::r):ops[i]? =some o∧ops.toList.drop (i+1)=r:=by
 have h1:(ops.toList.drop i)[0]? =some o:=by rw[h]; rfl
 rw[z49,z69,z28]at h1
 refine⟨h1, ?_⟩
 have:(ops.toList.drop i).drop 1=r:=by rw[h]; rfl
 rw[List.drop_drop]at this; exact this

theorem tA(K:aR P τ){F:FA}{ops:Array Oper}{i:Nat}{o:Oper}{r:List Oper}{x x1 m:D}{b k:B}(d:ops.toList.drop i=o::r)(C:Ag F b x)(j:SD P τ Sgs F (ops.toList.map (·.dst)) o x x1)(l:KQ τ Sgs F (ops.toList.map (·.dst)) b (o::r)=some k)
  (M:Mot P τ Sgs (.ops F (ops.toList.map (·.dst)) r x1 m)):
  Ag F k m∧(∀g0 w0 (Q:Exit→Act→World→Prop) a w,Sim g0 w0 (b.S F.n x) a w→(∀f w',Sim g0 w0 (k.S F.n m) f w'→(∀z,sD z (o::r)=true→f.tmps.getD z undef=a.tmps.getD z undef)→Q .normal f w')→wpOps P ops Q (List.range' i (o::r).length) a w)∧
   ∀b2,Ei τ Sgs F (ops.toList.map (·.dst)) b (o::r)=some b2→AE P τ Sgs F (ops.toList.map (·.dst)) ops (List.range' i (o::r).length) x m:=by
 obtain⟨E,c⟩:=AH d; simp only[KQ]at l; split at l<;>try cases l
 rename_i b1 g; obtain⟨p,u⟩:=j.step K C E g; obtain⟨q,y,s⟩:=M ops (i+1) c rfl b1 k l p; refine⟨q,fun g0 w0 Q a w L J=> ?_,fun b2 I=> ?_⟩
 ·rw[z27,z155,wpOps_cons]
  refine u g0 w0 Q _ a w L (fun v w' t=>y g0 w0 Q _ w' t (fun f A h hz=>J f A h (fun z e=> ?_)))
  simp only[sD,z7,z37,z36]at e; rw[hz z e.2]; exact tC e.1
 ·obtain⟨h0,G,h1,H⟩:=JE I
  rw[g]at h1; cases h1; rw[z27,z155]; exact⟨o,x1,E,AF.of C h0,j,s b2 H⟩

theorem EB{K:Act→World→Prop}{Q:Exit→Act→World→Prop}{e:Ek}(b:e≠ .n){a:Act}{w:World}:Exit.then K Q e.exit a w=Q e.exit a w:=by
 cases e with
 | n=>exact absurd rfl b
 | r=>rfl
 | e i=>rfl

theorem HS{Q:Exit→Act→World→Prop}{id:Nat}{e:Ek}{a:Act}{w:World}(h:Q (kZ id e).exit a w):Exit.inBlock id Q e.exit a w:=by
 unfold kZ at h; cases e with
 | n=>rw[z11 (by simp)]at h; exact h
 | r=>rw[z11 (by simp)]at h; exact h
 | e i=>
  by_cases b:i=id
  ·subst b
   rw[z17 rfl]at h; simp only[Exit.inBlock,Ek.exit,if_true]; exact h
  ·rw[z11 (by simpa using b)]at h
   simp only[Exit.inBlock,Ek.exit,z11 b]; exact h

theorem zL{F:FA}: ∀ {l:List V} {a:Nat},mJ F a l=true→ ∀ {i:Nat} {v:V},l[i]? =some v→fits v (F.shOf (a+i))=true
 | [],_,_,i,v,h=>by simp at h
 | p::r,a,h,0,v,b=>by
  simp only[mJ,z7]at h; simp only[z19,z8]at b
  subst b; exact h.1
 | p::r,a,h,i+1,v,b=>by
  simp only[mJ,z7]at h; simp only[z23]at b
  have:=zL h.2 b; rwa[show a+1+i=a+(i+1)by omega]at this
theorem zK{F:FA}: ∀ {l:List (List T)} {a:Nat},oA F a l=true→ ∀ {i:Nat} {v:List T},l[i]? =some v→dP v (F.obOf (par+(a+i)))=true
 | [],_,_,i,v,h=>by simp at h
 | p::r,a,h,0,v,b=>by
  simp only[oA,z7]at h; simp only[z19,z8]at b
  subst b; exact h.1
 | p::r,a,h,i+1,v,b=>by
  simp only[oA,z7]at h; simp only[z23]at b
  have:=zK h.2 b; rwa[show a+1+i=a+(i+1)by omega]at this
theorem Dm{x:D}: ∀ {l l':List (List T)} {a:Nat},uT x a l=some l'→l'.length=l.length∧ ∀j,j<l.length→l'[j]? =x.ob (par+(a+j))
 | [],l',a,h=>by cases h; exact⟨rfl,fun j b=>by simp at b⟩
 | p::r,l',a,h=>by
  unfold uT at h; split at h<;>try cases h
  rename_i cs c h1 d; obtain⟨e,f⟩:=Dm d; refine⟨by simp [e],fun j b=> ?_⟩
  cases j with
  | zero=>simp [h1]
  | succ j=>
   have:=f j (by simpa using b)
   simp only[z23]
   rw[this,show a+1+j=a+(j+1)by omega]

theorem Jk(hM:P.follows .mixedOrders=true)(hT:aR P τ)(hS: ∀f sg,sg∈Sgs f→ ∀fn c,P.funcs[f]? =some fn→fn.body=some c→fnC τ An Sgs f sg fn c=true){J:Jd}(h:Big P τ An J):Mot P τ Sgs J:=by
 induction h with
 | skip F x=>exact fun b u s E=>by cases s; exact⟨b,0,rfl,E,fun g0 w0 Q a w H K=>⟨wp_skip (K a w H (fun _ _=>rfl)),fun c' e=>by cases e⟩⟩
 | label F l x=>exact fun b u s E=>by cases s; exact⟨b,0,rfl,E,fun g0 w0 Q a w H K=>⟨wp_label (K a w H (fun _ _=>rfl)),fun c' e=>by cases e⟩⟩
 | exit F i x=>
  intro b u s E; cases s; refine⟨b,0,by simp [nX,tI],E,fun g0 w0 Q a w H K=>⟨wp_exit (K a w H (fun _ _=>rfl)),fun c' e=>by cases e⟩⟩
 | ret F x=>exact fun b u s E=>by cases s; exact⟨b,0,rfl,E,fun g0 w0 Q a w H K=>⟨wp_ret (K a w H (fun _ _=>rfl)),fun c' e=>by cases e⟩⟩
 | @seqN F c d x x1 x2 e h1 h2 C T=>
  intro b u s E; simp only[oJ]at s; split at s<;>try cases s
  rename_i o1 ho1; obtain⟨b1,k1,W,D,w1⟩:=C b o1 ho1 E; rw[W]at s; simp only at s; split at s<;>try cases s
  rename_i o2 ho2; obtain⟨b2,k2,g2,N,w2⟩:=T b1 o2 ho2 D; obtain⟨m1,_⟩:=tG s; obtain⟨b3,g3,cv⟩:=m1 e b2 g2; obtain⟨O,cs⟩:=cv x2 N; refine⟨b3,0,g3,O,fun g0 w0 Q a w H K=>⟨wp_seq (w1 g0 w0 _ a w H (fun I w' y hz=> ?_)).1,fun c' e=>by cases e⟩⟩
  refine(w2 g0 w0 Q I w' y (fun a'' w'' hs'' hz2=>K a'' w'' (cs _ _ _ _ hs'') (fun z A=> ?_))).1
  simp only[noD,z7]at A; rw[hz2 z A.2,hz z A.1]
 | @seqX F c d x x1 e h1 he C=>
  intro b u s E; simp only[oJ]at s; split at s<;>try cases s
  rename_i o1 ho1; obtain⟨b1,k1,W,D,w1⟩:=C b o1 ho1 E
  have Z: ∀M,nX e u=some M→Ag F M x1→(∀g0 w0 a w,Sim g0 w0 (b1.S F.n x1) a w→Sim g0 w0 (M.S F.n x1) a w)→ ∃(M:B) (k:Nat),nX e u=some M∧Ag F M x1∧ ∀g0 w0 (Q:Exit→Act→World→Prop) a w,Sim g0 w0 (b.S F.n x) a w→
   (∀I w',Sim g0 w0 (M.S F.n x1) I w'→(∀z,noD z (.seq c d)=true→I.tmps.getD z undef=a.tmps.getD z undef)→Q e.exit I w')→(Code.seq c d).wp P Q a w∧ ∀c',Code.seq c d= .loop c'→Code.rounds P c' Q k a w:=fun M hg hA' hcv=>
   ⟨M,0,hg,hA',fun g0 w0 Q a w H K=>⟨wp_seq (w1 g0 w0 _ a w H (fun I w' y hz=>by
    rw[EB he]; refine K I w' (hcv _ _ _ _ y) (fun z A=> ?_)
    simp only[noD,z7]at A; exact hz z A.1)).1,fun c' e=>by cases e⟩⟩
  cases hn:nX .n o1 with
  | none=>
   rw[hn]at s; cases s; exact Z b1 W D (fun _ _ _ _ h=>h)
  | some bn=>
   rw[hn]at s; simp only at s; split at s<;>try cases s
   rename_i o2 ho2; obtain⟨_,m2⟩:=tG s; obtain⟨b3,g3,cv⟩:=m2 e b1 (by rw[nL he]; exact W)
   obtain⟨O,cs⟩:=cv x1 D; exact Z b3 g3 O cs
 | @cond F cnd c d x x1 e t hc h1 C=>
  intro b u s E; simp only[oJ]at s; obtain⟨hk,s⟩:=aF s; split at s<;>try cases s
  rename_i o1 o2 ho1 ho2; obtain⟨m1,m2⟩:=tG s; have hcv: ∀ {g0:G} {w0:World} {a:Act} {w:World},Sim g0 w0 (b.S F.n x) a w→a.eval cnd= .bool t:=fun H=>by
   obtain⟨g,Y⟩:=H; have:=Y.ev_rv cnd (fun _ _=> .none)
   rw[kN hk,hc]at this; exact Ep this
  cases t with
  | true=>
   obtain⟨b1,k1,W,D,w1⟩:=C b o1 ho1 E; obtain⟨b3,g3,cv⟩:=m2 e b1 W; obtain⟨O,cs⟩:=cv x1 D; refine⟨b3,0,g3,O,fun g0 w0 Q a w H K=>⟨wp_cond_true (hcv H) (w1 g0 w0 Q a w H (fun I w' y hz=>K I w' (cs _ _ _ _ y) (fun z A=> ?_))).1,fun c' e=>by cases e⟩⟩
   simp only[noD,z7]at A; exact hz z A.1
  | false=>
   obtain⟨b1,k1,W,D,w1⟩:=C b o2 ho2 E; obtain⟨b3,g3,cv⟩:=m1 e b1 W; obtain⟨O,cs⟩:=cv x1 D; refine⟨b3,0,g3,O,fun g0 w0 Q a w H K=>⟨wp_cond_false (hcv H) (w1 g0 w0 Q a w H (fun I w' y hz=>K I w' (cs _ _ _ _ y) (fun z A=> ?_))).1,fun c' e=>by cases e⟩⟩
   simp only[noD,z7]at A; exact hz z A.2
 | @block F id c x x1 e h1 C=>
  intro b u s E; simp only[oJ]at s; split at s<;>try cases s
  rename_i o1 ho1; obtain⟨b1,k1,W,D,w1⟩:=C b o1 ho1 E
  have Z: ∀M,nX (kZ id e) u=some M→Cv F b1 M→ ∃(M:B) (k:Nat),nX (kZ id e) u=some M∧Ag F M x1∧ ∀g0 w0 (Q:Exit→Act→World→Prop) a w,Sim g0 w0 (b.S F.n x) a w→
   (∀I w',Sim g0 w0 (M.S F.n x1) I w'→(∀z,noD z (.block id c)=true→I.tmps.getD z undef=a.tmps.getD z undef)→Q (kZ id e).exit I w')→(Code.block id c).wp P Q a w∧ ∀c',Code.block id c= .loop c'→Code.rounds P c' Q k a w:=fun M hg hcv=>by
   obtain⟨hA',cs⟩:=hcv x1 D; exact⟨M,0,hg,hA',fun g0 w0 Q a w H K=>⟨wp_block (w1 g0 w0 _ a w H (fun I w' y hz=>HS (K I w' (cs _ _ _ _ y) hz))).1,fun c' e=>by cases e⟩⟩
  cases X:nX (.e id) o1 with
  | none=>
   rw[X]at s; cases s; have hne:e≠ .e id:=fun he=>by subst he; rw[X]at W; cases W
   have e1:kZ id e=e:=by unfold kZ; rw[z11 hne]
   rw[e1]at Z ⊢; exact Z b1 W (Cv.refl F b1)
  | some bi=>
   rw[X]at s; simp only at s; obtain⟨a1,M,a2,a3⟩:=Iu s; by_cases he:e= .e id
   ·have e1:kZ id e= .n:=by unfold kZ; rw[z17 he]
    rw[e1]at Z ⊢; rw[he,X]at W; cases W; exact Z M a2 a3
   ·have e1:kZ id e=e:=by unfold kZ; rw[z11 he]
    rw[e1]at Z ⊢; obtain⟨b3,g3,cv⟩:=a1 e b1 (by rw[nL he]; exact W)
    exact Z b3 g3 cv
 | @loopX F c x x1 e h1 he C=>
  intro b u s E; simp only[oJ]at s; obtain⟨hd,o,cv,hf,ho,_,_⟩:=CO s; obtain⟨hAh,csh⟩:=cv x E; obtain⟨b1,k1,W,D,w1⟩:=C hd o hf hAh; refine⟨b1,1,by rw[ho,nL he]; exact W,D,fun g0 w0 Q a w H K=> ?_⟩
  have hr:Code.rounds P c Q 1 a w:=(w1 g0 w0 _ a w (csh _ _ _ _ H) (fun I w' y hz=>by rw[EB he]; exact K I w' y hz)).1
  exact⟨wp_loop_rounds 1 hr,fun c' e=>by cases e; exact hr⟩
 | @loopN F c x x1 x2 e h1 h2 C T=>
  intro b u s E; simp only[oJ]at s; obtain⟨hd,o,cv,hf,ho,hback,hfix⟩:=CO s; obtain⟨hAh,csh⟩:=cv x E; obtain⟨b1,k1,W,D,w1⟩:=C hd o hf hAh; obtain⟨hA1',csb⟩:=hback b1 W x1 D; obtain⟨b2,k2,g2,N,w2⟩:=T hd u (hfix 3) hA1'; refine⟨b2,k2+1,g2,N,fun g0 w0 Q a w H K=> ?_⟩
  have hr:Code.rounds P c Q (k2+1) a w:=by
   rw[rounds_succ]; refine(w1 g0 w0 _ a w (csh _ _ _ _ H) (fun I w' y hz=> ?_)).1
   exact(w2 g0 w0 Q I w' (csb _ _ _ _ y) (fun a'' w'' hs'' hz2=>K a'' w'' hs'' (fun z A=>(hz2 z A).trans (hz z A)))).2 c rfl
  exact⟨wp_loop_rounds _ hr,fun c' e=>by cases e; exact hr⟩
 | @regionM F id x S i f c o p0 tp tk t t' r r0 r2 cells cells' k k' rs t1 t2 t3 t4 p1 p2 p3 p4 f1 f2 f3 f4 hmk X h1 hM hle hc1 hc2 hr2 htp htk hob hch hB ihB=>
  intro b u s E; simp only[oJ]at s; rw[show List.any (Array.toList _) Ch=false from rfl]at s; simp only[hmk,z16]at s; split at s<;>try cases s
  rename_i b1 U; obtain⟨D,hw⟩:=NF (Sgs:=Sgs) hT E (id:=id) X h1 hM hle hc1 hc2 hr2 htp htk hob (fun m hm sg h2 h3 h4=>ihB m hm sg h2 h3 h4) hch U
  obtain⟨N,cs⟩:=Bx F id b1 _ D; refine⟨_,0,rfl,N,fun g0 w0 Q a w H K=>⟨hw g0 w0 Q a w H (fun I w' y hz=>K I w' (cs _ _ _ _ y) (fun z A=> ?_)),fun c' e=>by cases e⟩⟩
  simp only[noD,sD,z7,z37,z36,z8]at A; exact hz z (Ne.symm A.1) (Ne.symm A.2.1) (Ne.symm A.2.2.1) (Ne.symm A.2.2.2.1)
 | @region F id ops dr x x1 hmk h1 C=>
  intro b u s E; simp only[oJ,hmk,Nf h1,z16]at s; cases dr with
  | true=>
   simp only[z18]at s; split at s<;>try cases s
   rename_i b1 U; unfold anyC at U; cases hcnd:(kD F (ops.toList.map (·.dst)) ops&&(Ei τ Sgs F (ops.toList.map (·.dst)) b ops.toList).isSome)with
   | false=>
    rw[hcnd,z16]at U; obtain⟨hK,hlate⟩:=Kw (P:=P) hT U; obtain⟨b2,hK⟩:=z147.1 hK; obtain⟨_,_,R⟩:=C ops 0 rfl rfl b b2 (tD hK) E; obtain⟨N,hgo⟩:=hlate x x1 E (R b2 hK); obtain⟨O,cs⟩:=Bx F id b1 x1 N; exact⟨_,0,rfl,O,fun g0 w0 Q a w H K=>⟨wp_region_any hM (hgo g0 w0 Q a _ (H.drawn _) (fun I w' y hz=>K I w' (cs _ _ _ _ y) hz)),fun c' e=>by cases e⟩⟩
   | true=>
   rw[hcnd,z18]at U; have hc:=hcnd; simp only[z7]at hc; obtain⟨hO,hK⟩:=hc; split at U<;>try cases U
   rename_i mf hlv; obtain⟨b2,hK⟩:=z147.1 hK; obtain⟨D,_,R⟩:=C ops 0 rfl rfl b b2 (tD hK) E; have R:=R b2 hK; have hle:(List.range ops.size).filter (fun j=> !(Array.replicate ops.size false).getD j true)=List.range' 0 ops.toList.length:=by
    rw[List.filter_eq_self.2 (fun j hj=>by
     have:=z55.1 hj; simp [Array.getD,this]),Ol]
    simp
   have hany:=fun(g0:G) (w0:World)=>Np (P:=P) (xn:=x1) (g0:=g0) (w0:=w0) hT hO ops.size (Array.replicate ops.size false) 0 [(0,b)] b x hlv (by simp [mB]) (by simp) (fun i X=>by simp [Array.getD,X]) (fun j o ho hj=>by
    have:=(z30.1 ho).1
    simp [Array.getD,this]at hj) (by
    rw[z59,hle]; simp) E (by rw[hle]; exact R)
   have hgo: ∀(g0:G) (w0:World) (Q:Exit→Act→World→Prop) (a:Act) (w:World),Sim g0 w0 (b.S F.n x) a w→(∀I w',Sim g0 w0 (b1.S F.n x1) I w'→(∀z,sD z ops.toList=true→I.tmps.getD z undef=a.tmps.getD z undef)→Q .normal I w')→
     wpAny P .any ops Q ops.size (Array.replicate ops.size false) a { w with drawn:=w.drawn+1 }:=fun g0 w0 Q a w H K=>
    GH ((hany g0 w0).2 (a0:=a) K a _ (H.drawn _) (fun _ _=>rfl))
   have N:=(hany ⟨fun _=>0,fun _=> .none⟩ default).1
   obtain⟨O,cs⟩:=Bx F id b1 x1 N; exact⟨_,0,rfl,O,fun g0 w0 Q a w H K=>⟨wp_region_any hM (hgo g0 w0 Q a w H (fun I w' y hz=>K I w' (cs _ _ _ _ y) hz)),fun c' e=>by cases e⟩⟩
  | false=>
   simp only[z16]at s; split at s<;>try cases s
   rename_i b1 U; obtain⟨D,w1,_⟩:=C ops 0 rfl rfl b b1 U E; obtain⟨N,cs⟩:=Bx F id b1 x1 D; refine⟨_,0,rfl,N,fun g0 w0 Q a w H K=>⟨wp_region ?_,fun c' e=>by cases e⟩⟩
   have:=w1 g0 w0 Q a w H (fun I w' y hz=>K I w' (cs _ _ _ _ y) hz)
   rw[Ol]; simpa using this
 | opsNil F ds x=>
  intro ops i _ _ b M s E; cases s; exact⟨E,fun g0 w0 Q a w H K=>K a w H (fun _ _=>rfl),fun b2 _=>rfl⟩
 | @opsSkip F ds o r x x2 hg h2 T=>
  intro ops i L hds b M s E; subst hds; exact tA hT L E (.inl ⟨hg,rfl⟩) s T
 | @opsRun F ds o r x x1 x2 hg h1 h2 T=>
  intro ops i L hds b M s E; subst hds; exact tA hT L E (.inr (.inl ⟨hg,h1⟩)) s T
 | @opsCall F ds o rs x x2 c v f caps ob ob' r nw hg ho hcal hni hx hth hob h1 hsh h2 C T=>
  intro ops i L hds b M s E; subst hds; exact tA hT L E (.inr (.inr (.inl ⟨hg,c,v,f,caps,ob,ob',r,nw,ho,hcal,hni,hx,hth,hob,fun sg Y e1 e2=>C sg Y e1 e2,hsh,rfl⟩))) s T
 | @opsIo F ds o rs x x2 c v f r t xs l p x0 es es' hg ho hcal hio hx hth hargs hal hat hnav h1 hsh h2 C T=>
  intro ops i L hds b M s E; subst hds; exact tA hT L E (.inr (.inr (.inr ⟨hg,c,v,f,r,t,xs,l,p,x0,es,es',ho,hcal,hio,hx,hth,hargs,hal,hat,hnav,fun sg Y e1 e2=>C sg Y e1 e2,hsh,rfl⟩))) s T
 | @fn f fn c vs ob ob' e x' ws iov hf s hsh hso h1 he hws hio hob C=>
  intro sg Y hnp A g w us hsim; have hq:=hS f sg Y fn c hf s; unfold fnC at hq; cases hlb:(An f).lb with
  | some q=>
   exfalso
   rw[hlb]at hq; obtain⟨_,l2,l3⟩:=Ia hq; obtain⟨v,vs',rfl⟩: ∃v vs',vs=v::vs':=by
    cases vs with
    | nil=>simp only[z31]at hnp; omega
    | cons v r=>exact⟨v,r,rfl⟩
   simp only[mJ,z7,FA.shOf,l2,List.getElem?_nil]at hsh
   have h0:=hsh.1; cases v with
   | one w=>cases w<;>exact absurd h0 (by simp [fits,bK])
   | tup ws=>exact absurd h0 (by simp [fits])
  | none=>
  rw[hlb]at hq; simp only at hq; simp only[z7]at hq; obtain⟨⟨⟨⟨⟨⟨⟨⟨⟨q1,q2⟩,q3⟩,q4⟩,q5⟩,q6⟩,q7⟩,q8⟩,q9⟩,q10⟩:=hq; have hn:=z12 q1; have hp:=z32 q2; have hio0:sg.io=(An f).io:=of_decide_eq_true q7; cases hout:oJ τ Sgs (An f) c sg.bi with
  | none=>rw[hout]at q10; cases q10
  | some u=>
   rw[hout]at q10; simp only[z7]at q10; have hAg:Ag (An f) sg.bi (DA vs ob):=by
    refine⟨fun i X=> ?_,fun o ho=> ?_⟩
    ·right
     simp only[B.has]at X; cases hl:cG i sg.bi.sl with
     | none=>rw[hl]at X; cases X
     | some κ=>
      have hlt:i<vs.length:=by rw[←hnp]; exact bY (z14.1 q5 _ (eO hl))
      have:=zL hsh (z13 hlt)
      rw[z34]at this; have e:(DA vs ob).sl i=vs[i]:=by simp [DA,List.getD,z13 hlt]
      rw[e]; exact this
    ·simp only[B.hasO]at ho
     cases hl:cG o sg.bi.ob with
     | none=>rw[hl]at ho; cases ho
     | some κ=>
      have h3:=z14.1 q6 _ (eO hl); simp only[z7]at h3; have h4:=z32 h3.1; have h5:=bY h3.2; have hlt:o - par<ob.length:=by rw[←A]; omega
      have:=zK hso (z13 hlt)
      rw[z34,Oh h4]at this; exact⟨ob[o - par],by simp [DA,h4,z13 hlt],this⟩
   obtain⟨M,k,hg,hA',hw⟩:=C sg.bi u hout hAg; have hcall:(callFunc f us).run P w= .ok (.enter f us) w:=by
    have hne:fn.name≠ "runtime.NumGoroutine" :=by simpa using q4
    simp [callFunc,run_program,hf,hne,s]
   rw[hcall]; show Calls P f us w _; refine calls_of_wp hf s ?_
   have hsim2:=hsim.body (n:=fn.ntmps) (z32 q3) hp; rw[hn]at hw; refine(hw g w _ _ w ⟨g,hsim2⟩ (fun I w' y hz=> ?_)).1
   obtain⟨g',y⟩:=y; have hchk:uR (An f) M sg.bo (vP (An f) fn.results.toList (An f).n0 (An f).io) 0 fn.results.toList=true∧Hc (An f) M sg.bo (An f).n0=true∧KB (An f) M sg.bo fn.results.toList c=true:=by
    rcases he with rfl | rfl
    ·have:=q10.1; rw[hg]at this; simpa [and_assoc]using this
    ·have:=q10.2; rw[hg]at this; simpa [and_assoc]using this
   have hbo: ∀i,sg.bo.has i=true→i=0∨(i=1∧(An f).io.isSome=true):=fun i X=>by
    simp only[B.has]at X; cases hl:cG i sg.bo.sl with
    | none=>rw[hl]at X; cases X
    | some κ=>
     have:=z14.1 q8 _ (eO hl); simp only[z38,z7]at this; rcases this with h | h
     ·exact .inl (z12 h)
     ·exact .inr ⟨z12 h.1,h.2⟩
   have hobd: ∀oc o1,sg.bo.hasO oc=true→pM (An f).n0 o1=some oc→(DR ((Eg ws).to (pM (An f).n0)) iov ob' ((An f).n0.bind x'.ob)).ob oc=x'.ob o1:=fun oc o1 hoc V=>by
    obtain⟨hol,hog⟩:=Dm hob; simp only[pM]at V; split at V
    ·rename_i hpo
     cases V; have h1:sg.bi.hasO oc=true:=by
      simp only[B.hasO]at hoc; cases hl:cG oc sg.bo.ob with
      | none=>rw[hl]at hoc; cases hoc
      | some κ=>
       have:=z14.1 q9 _ (eO hl); simp only[z38]at this; rcases this with h | h
       ·have:=z12 h
        subst this; exact absurd hpo Bs
       ·exact h
     simp only[B.hasO]at h1; cases hl:cG oc sg.bi.ob with
     | none=>rw[hl]at h1; cases h1
     | some κ=>
      have h3:=z14.1 q6 _ (eO hl); simp only[z7]at h3; have h5:=bY h3.2; have hlt:oc - par<ob.length:=by rw[←A]; omega
      have:=hog (oc - par) hlt; rw[z34,Oh hpo]at this; simp only[DR,z17 hpo,this]
    ·split at V
     ·rename_i hpo hn0
      cases V; simp only[DR,z11 Bs,if_true,hn0,z10]
     ·cases V
   obtain⟨us',hl',R,g'',hfin⟩:=bH.ret hT y hA' (io:=(An f).io) (iov:=iov) (u1:=us.getD (sg.io.getD 0) undef) (ob:=ob') (nw:=(An f).n0.bind x'.ob) hws hchk.1 hchk.2.1 hobd (fun z e=>by
    have h3:=hchk.2.2; unfold KB at h3; rw[e]at h3 hio; simp only[z7,z38,z37,z22]at h3; obtain⟨⟨⟨z1,z2⟩,z3⟩,z4⟩:=h3; simp only[OU]at hio; split at hio<;>try cases hio
    rename_i tt ht; refine⟨?_,z1,⟨tt,ht,rfl⟩,z2,fun hh=> ?_⟩
    ·rw[hz z z4,hio0,e]
     show(us++Array.replicate (fn.ntmps - us.size) undef).getD z undef=us.getD z undef; simp only[z53,z158]
     split
     ·rfl
     ·rename_i X
      rw[z156 (xs:=us) (by omega)]
      simp only[z144]
      split<;>rfl
    ·rcases z3 with z3 | z3
     ·rw[z3]at hh; cases hh
     ·rw[e]; exact z3) (fun hn=>by
    cases h1:sg.bo.has 1 with
    | false=>rfl
    | true=>
     rcases hbo 1 h1 with h | h
     ·cases h
     ·rw[hn]at h; cases h.2) (fun i X=>by rcases hbo i X with h | h<;>omega)
   have hres:=FY (P:=P) (w:=w') (fn:=fn) (tmps:=I.tmps) hl' R; have hpost:bodyPost P fn (fun e w'=> ∃v,e= .returned v∧ ∃g',bH g w (sg.bo.S 2 (DR ((Eg ws).to (pM (An f).n0)) iov ob' ((An f).n0.bind x'.ob))) ⟨#[v,us.getD (sg.io.getD 0) undef],[]⟩ g' w') .normal I w':=⟨y.defers,_,hres,_,rfl,g'',hfin⟩
   rcases he with rfl | rfl
   ·exact hpost
   ·exact hpost
 | @lib f fn c vs r q hf s hq h1=>
  intro sg Y hnp A; have hh:=hS f sg Y fn c hf s; unfold fnC at hh; rw[hq]at hh; obtain⟨e,_,_⟩:=Ia hh; rw[e]; exact h1
end

section
variable (P:Program) (τ:TypeId→Option TI) (An:FuncId→FA)

def Wd(F:FA)(c:Code)(x:D)(Q:Ek→D→Prop):Prop:= ∃e x',Big P τ An (.code F c x e x')∧Q e x'
def Wo(F:FA)(a:List (Option Nat))(os:List Oper)(x:D)(Q:D→Prop):Prop:= ∃x',Big P τ An (.ops F a os x x')∧Q x'

def OM(K:D→Prop)(Q:Ek→D→Prop):Ek→D→Prop
 | .n,x=>K x
 | e,x=>Q e x
def blkD(id:Nat)(Q:Ek→D→Prop)(e:Ek)(x:D):Prop:=Q (kZ id e) x

def PG(F:FA)(o:Oper)(c:Call)(v:Operand)(x:D)(K:D→Prop):Prop:=
 tV F c=false∧ ∃f caps ob a r nw,ev x.sl v= .one (.fn f caps)∧c.args.toList.all (fun v=>eP (ev x.sl v))=true∧ob.map some=(gK F c v).map x.ob∧Big P τ An (.fn f (inV x c caps (gK F c v)) ob r none a nw)∧
  bD F (x.call o.dst (nB F o.dst) (gK F c v) (DR r none a nw)) o.dst (nB F o.dst) (gK F c v)=true∧K (x.call o.dst (nB F o.dst) (gK F c v) (DR r none a nw))
def vcIo(F:FA)(o:Oper)(c:Call)(v:Operand)(x:D)(K:D→Prop):Prop:=
 tV F c=true∧ ∃f r t xs l p x0 a es',ev x.sl v= .one (.fn f [])∧c.args.toList.all (fun v=>eP (ev x.sl v))=true∧c.args.toList= .tmp t::xs∧x.sl t= .one (.al l p)∧x.at l=some x0∧nav x0 p=some (.sl a)∧Big P τ An (.fn f (inV x c [] []) [] r (some (.sl es')) [] none)∧
  bD F (x.call o.dst none [] (DR r (some (.sl es')) [] none)) o.dst none []=true∧K ((x.call o.dst none [] (DR r (some (.sl es')) [] none)).upd l (cD x0 p (.sl es')))
def HX(F:FA)(o:Oper)(x:D)(K:D→Prop):Prop:=match cL o with
 | some (c,v)=>PG P τ An F o c v x K∨vcIo P τ An F o c v x K
 | none=> ∃x1,dOp τ F x o=some x1∧K x1
def Cc(F:FA)(a:List (Option Nat))(o:Oper)(x:D)(K:D→Prop):Prop:=match aW a x o.guard with
 | some true=>HX P τ An F o x K
 | some false=>K (nH x o.dst)
 | none=>False
def aS(F:FA)(a:List (Option Nat)):List Oper→D→(D→Prop)→Prop
 | [],x,K=>K x
 | o::r,x,K=>Cc P τ An F a o x (fun x1=>aS F a r x1 K)

def vcC(F:FA):Code→D→(Ek→D→Prop)→Prop
 | .skip,x,Q=>Q .n x
 | .label _,x,Q=>Q .n x
 | .exit i,x,Q=>Q (.e i) x
 | .ret,x,Q=>Q .r x
 | .seq a b,x,Q=>vcC F a x (OM (fun x1=>vcC F b x1 Q) Q)
 | .cond c a b,x,Q=> ∃t,ev x.sl c= .one (.c (.bool t))∧(t=true→vcC F a x Q)∧(t=false→vcC F b x Q)
 | .block id c,x,Q=>vcC F c x (blkD id Q)
 | .loop c,x,Q=>Wd P τ An F (.loop c) x Q
 | .region id ops d,x,Q=>(cG id F.mks=none∧aS P τ An F (ops.toList.map (·.dst)) ops.toList x (fun x1=>Q .n x1))∨ ∃x1,Big P τ An (.code F (.region id ops d) x .n x1)∧Q .n x1
 | _,_,_=>False
end

section
variable {P:Program} {τ:TypeId→Option TI} {An:FuncId→FA}

theorem sO{F:FA}{j:List (Option Nat)}: ∀ {os:List Oper} {x:D} {K:D→Prop},aS P τ An F j os x K→Wo P τ An F j os x K
 | [],x,K,h=>⟨x, .opsNil F j x,h⟩
 | o::r,x,K,h=>by
  simp only[aS,Cc]at h; split at h
  ·rename_i i
   unfold HX at h; split at h
   ·rename_i c v g
    have a:o.op= .call c∧c.callee= .value v:=by
     unfold cL at g; split at g<;>try cases g
     rename_i c' ho; split at g<;>try cases g
     rename_i v' z; exact⟨ho,z⟩
    rcases h with⟨h0,f,caps,ob,B,C,nw,h1,e,k,m,q,s⟩ | ⟨h0,f,C,t,xs,l,p,x0,E,es',h1,e,k,m,q,s,u,w,y⟩
    ·obtain⟨x',b,d⟩:=sO s
     exact⟨x', .opsCall i a.1 a.2 h0 h1 e k m q b,d⟩
    ·obtain⟨x',b,d⟩:=sO y
     exact⟨x', .opsIo i a.1 a.2 h0 h1 e k m q s u w b,d⟩
   ·obtain⟨x1,h1,e⟩:=h
    obtain⟨x',b,d⟩:=sO e; exact⟨x', .opsRun i h1 b,d⟩
  ·rename_i i
   obtain⟨x',b,d⟩:=sO h; exact⟨x', .opsSkip i b,d⟩
  ·exact h.elim

theorem wM{F:FA}: ∀ {c:Code} {x:D} {Q:Ek→D→Prop},vcC P τ An F c x Q→Wd P τ An F c x Q
 | .skip,x,Q,h=>⟨.n,x, .skip F x,h⟩
 | .label l,x,Q,h=>⟨.n,x, .label F l x,h⟩
 | .exit i,x,Q,h=>⟨.e i,x, .exit F i x,h⟩
 | .ret,x,Q,h=>⟨.r,x, .ret F x,h⟩
 | .seq a b,x,Q,h=>by
  obtain⟨e,x1,h1,d⟩:=wM (c:=a) h; by_cases j:e= .n
  ·subst j
   obtain⟨m,o,f,g⟩:=wM (c:=b) d; exact⟨m,o, .seqN h1 f,g⟩
  ·refine⟨e,x1, .seqX h1 j, ?_⟩
   cases e with
   | n=>exact absurd rfl j
   | r=>exact d
   | e i=>exact d
 | .cond c a b,x,Q,h=>by
  obtain⟨t,k,h1,d⟩:=h; cases t with
  | true=>
   obtain⟨e,x1,f,g⟩:=wM (c:=a) (h1 rfl); exact⟨e,x1, .cond k f,g⟩
  | false=>
   obtain⟨e,x1,f,g⟩:=wM (c:=b) (d rfl); exact⟨e,x1, .cond k f,g⟩
 | .block id c,x,Q,h=>by
  obtain⟨e,x1,h1,d⟩:=wM (c:=c) h; exact⟨_,x1, .block h1,d⟩
 | .loop c,x,Q,h=>h
 | .region id ops p,x,Q,h=>by
  rcases h with⟨h0,h⟩ | ⟨x1,h1,d⟩
  ·obtain⟨x1,h1,d⟩:=sO h
   exact⟨.n,x1, .region h0 h1,d⟩
  ·exact⟨.n,x1,h1,d⟩
 | .scope c,x,Q,h=>h.elim
 | .rangeFunc _ _ _ _,x,Q,h=>h.elim
 | .goto _,x,Q,h=>h.elim
 | .refuse _,x,Q,h=>h.elim

end

section
variable {P:Program} {τ:TypeId→Option TI} {An:FuncId→FA}

theorem Big.of{f:FuncId}{fn:Func}{c:Code}{vs:List V}{ob a:List (List T)}{r:V}{nw:Option (List T)}(q:P.funcs[f]? =some fn)(o:fn.body=some c)(g:mJ (An f) 0 vs=true)(j:oA (An f) 0 ob=true)(b:(An f).io=none)
  (h:vcC P τ An (An f) c (DA vs ob) (fun e x=>(e= .n∨e= .r)∧ ∃k,AW τ x fn.results.toList=some k∧(Eg k).to (pM (An f).n0)=r∧uT x 0 ob=some a∧(An f).n0.bind x.ob=nw)):Big P τ An (.fn f vs ob r none a nw):=by
 obtain⟨e,x',h1,p,k,l,rfl,m,rfl⟩:=wM h; exact .fn q o g j h1 p l (by rw[b]; rfl) m

section
variable (x:D) (d i:Nat) (v:V)
@[simp] theorem put_ob:(x.put d v).ob=x.ob:=rfl.trans rfl
end
theorem fM{F:FA}{x:D}{d:Nat}{v:V}(h:fits v (F.shOf d)=true):nG F x d v=some (x.put d v):=by
 unfold nG; rw[h]; rfl
end

def G.old:G:= { β:=fun _=>0,own:=fun _=> .none }

theorem TC.row{P:Program}{f:FuncId}{fn:Func}{c:Code}{sg:Sg}{a:List V}(h:TC P f sg a [] (.one (.c (.bool true))) none [] none)(q:sg.bo.has 0=true)(r:sg.bi.ob=[])(x:sg.np=a.length)(t:sg.np≤par)
  (D:P.funcs[f]? =some fn)(C:fn.body=some c)(g:(fn.name == "runtime.NumGoroutine")=false)(w:World)(I:Tab G.old w)(us:Array Value)(y:us.size=a.length)
  (l: ∀i,aE (a.getD i (.one .junk))= .none)(z: ∀i,sg.bi.has i=true→RV G.old w (fun k j=>sg.bi.kd (.s i k j)) (fun k j=> .s i k j) (us.getD i undef) (a.getD i (.one .junk))):
  Calls P f us w fun e w'=>e= .returned (.bool true)∧Below w.heap.size w w':=by
 have H:bH G.old w (sg.bi.S sg.np (DA a [])) ⟨us,[]⟩ G.old w:=by
  refine⟨lB.refl _ _ I,⟨fun b h=>absurd rfl h⟩,by rw[y, ←x]; rfl,rfl,fun i=> ?_,fun o cells ho=> ?_,fun i E=> ?_,fun _ _=>rfl,t⟩
  ·show RV _ w (fun k j=>sg.bi.kd (.s i k j)) _ (us.getD i undef) (if sg.bi.has i=true then a.getD i (.one .junk)else .one .junk)
   by_cases e:sg.bi.has i=true
   ·rw[z17 e]; exact z i e
   ·rw[z11 e]; trivial
  ·have p:(if sg.bi.hasO o=true then(DA a []).ob o else none)=some cells:=ho
   split at p<;>try cases p
   rename_i e; simp only[B.hasO,r,cG]at e; cases e
  ·exfalso
   apply E
   show aE (if sg.bi.has i=true then a.getD i (.one .junk)else .one .junk)= .none
   split
   ·exact l i
   ·rfl
 have h1:=h _ w us H; have u:fn.name≠ "runtime.NumGoroutine" :=by simpa using g
 have d:(callFunc f us).run P w= .ok (.enter f us) w:=by simp [callFunc,run_program,D,u,C]
 rw[d]at h1; refine Calls.mono h1 ?_
 rintro e w' ⟨v,rfl,g',m⟩
 have A:=m.slots 0; rw[lE q]at A; have J:v= .bool true:=Ep A; subst J; exact⟨rfl,m.framed.os,m.framed.tape,m.framed.output,m.framed.evo.size,fun k F=>(m.framed.evo.keep k F (fun h=>h (.inl rfl))).2⟩

theorem TC.of{P:Program}{τ:TypeId→Option TI}{An:FuncId→FA}{Sgs:FuncId→List Sg}(g:P.follows .mixedOrders=true)(j:aR P τ)(i: ∀f sg,sg∈Sgs f→ ∀fn c,P.funcs[f]? =some fn→fn.body=some c→fnC τ An Sgs f sg fn c=true)
  {f:FuncId}{vs:List V}{ob a:List (List T)}{r:V}{nw:Option (List T)}(h:Big P τ An (.fn f vs ob r none a nw)){sg:Sg}(e:sg∈Sgs f)(d:sg.np=vs.length)(b:sg.no=ob.length):TC P f sg vs ob r none a nw:=
 Jk g j i h sg e d b

section
variable {P:Program} {τ:TypeId→Option TI} {An:FuncId→FA} {F:FA} {ds:List (Option Nat)} {o:Oper} {r:List Oper} {x x1:D} {K:D→Prop} {Q:Ek→D→Prop}

theorem cN(b:aW ds x o.guard=some true)(a:cL o=none)(h1:dOp τ F x o=some x1)(h:aS P τ An F ds r x1 K):aS P τ An F ds (o::r) x K:=by
 simp only[aS,Cc,b,HX,a]; exact⟨x1,h1,h⟩
theorem JB(a:aW ds x o.guard=some false)(h1:nH x o.dst=x1)(h:aS P τ An F ds r x1 K):aS P τ An F ds (o::r) x K:=by
 subst h1; simp only[aS,Cc,a]; exact h
theorem Kf(h:K x):aS P τ An F ds [] x K:=h
theorem wZ{c:Call}{v:Operand}{os:List Nat}(h:gK F c v=os)(hn:os≠[0,0]):tV F c=false:=by
 unfold gK at h; cases e:tV F c with
 | false=>rfl
 | true=>rw[e]at h; exact absurd h.symm hn
theorem tB{c:Call}{v:Operand}{f:FuncId}{caps:List (Nat×Nat)}{vs:List V}{ob a:List (List T)}{k:V}{nw:Option (List T)}{x1:D}(p:aW ds x o.guard=some true)(m:cL o=some (c,v))(b:tV F c=false)(q:ev x.sl v= .one (.fn f caps))(g:c.args.toList.all (fun v=>eP (ev x.sl v))=true)
  (d:ob.map some=(gK F c v).map x.ob)(i:inV x c caps (gK F c v)=vs)(l:Big P τ An (.fn f vs ob k none a nw))(j:x.call o.dst (nB F o.dst) (gK F c v) (DR k none a nw)=x1)(e:bD F x1 o.dst (nB F o.dst) (gK F c v)=true)
  (h:aS P τ An F ds r x1 K):aS P τ An F ds (o::r) x K:=by
 subst j; subst i; simp only[aS,Cc,p,HX,m]; exact .inl ⟨b,f,caps,ob,a,k,nw,q,g,d,l,e,h⟩
end


section
variable {P:Program} {τ:TypeId→Option TI} {An:FuncId→FA} {F:FA} {ds:List (Option Nat)} {r:List Oper} {x:D} {K:D→Prop} {ty:TypeId} {pos:String} {after:Array Edge} {gd:Option (Nat×Bool)} {d:Nat}

theorem Kh{y:Operand}{v:V}(b:aW ds x gd=some true)(e:ev x.sl y=v)(c:eP v=true)(a:fits v (F.shOf d)=true)(h:aS P τ An F ds r (x.put d v) K):aS P τ An F ds (⟨some d, .assign y,ty,pos,after,gd⟩::r) x K:=by
 subst e; refine cN b rfl ?_ h
 show tW F x d y=_; unfold tW; rw[c]; exact fM a
theorem PO{y:Operand}{v:V}(b:aW ds x gd=some true)(c:mem d F.al=false)(f:ev x.sl y=v)(e:eP v=true)(a:fits v (F.shOf d)=true)(h:aS P τ An F ds r (x.put d v) K):aS P τ An F ds (⟨some d, .move y,ty,pos,after,gd⟩::r) x K:=by
 subst f; refine cN b rfl ?_ h
 show(bif mem d F.al then uX F x d y else tW F x d y)=_
 rw[c]; unfold tW; rw[z16,e]; exact fM a
theorem PN{c y z:Operand}{b:Bool}{t:T}(i:aW ds x gd=some true)(g:ev x.sl c= .one (.c (.bool b)))(a:ev x.sl (if b then y else z)= .one (.c t))(f:scal t=true)(e:fits (.one (.c t)) (F.shOf d)=true)(h:aS P τ An F ds r (x.put d (.one (.c t))) K):aS P τ An F ds (⟨some d, .pick c y z,ty,pos,after,gd⟩::r) x K:=by
 refine cN i rfl ?_ h
 show AZ F x d c y z=_; unfold AZ; rw[g]; cases b with
 | true=>
  have a:ev x.sl y= .one (.c t):=a; simp only[a,f,z18]; exact fM e
 | false=>
  have a:ev x.sl z= .one (.c t):=a; simp only[a,f,z18]; exact fM e
theorem s_bin{op:BinOp}{t a:TypeId}{y z:Operand}{b e:V}{w:T}(j:aW ds x gd=some true)(h1:evD x y=b)(f:evD x z=e)(g:Hq τ op t b e=some w)(i:fits (.one (.c w)) (F.shOf d)=true)(h:aS P τ An F ds r (x.put d (.one (.c w))) K):aS P τ An F ds (⟨some d, .binOp op t y z a,ty,pos,after,gd⟩::r) x K:=by
 subst h1; subst f; refine cN j rfl ?_ h
 show kL τ F x d (.binOp op t y z a)=_; unfold kL; simp only[fJ,g]; exact fM i
end


section
variable {P:Program} {τ:TypeId→Option TI} {An:FuncId→FA} {F:FA} {ds:List (Option Nat)} {r:List Oper} {x:D} {K:D→Prop} {ty:TypeId} {pos:String} {after:Array Edge} {gd:Option (Nat×Bool)} {d:Nat}

theorem Lj{op:Op}{w:T}(f:aW ds x gd=some true)(a:cL ⟨some d,op,ty,pos,after,gd⟩=none)(b:dOp τ F x ⟨some d,op,ty,pos,after,gd⟩=kL τ F x d op)(g:fJ τ (evD x) op=some w)(e:fits (.one (.c w)) (F.shOf d)=true)(h:aS P τ An F ds r (x.put d (.one (.c w))) K):
  aS P τ An F ds (⟨some d,op,ty,pos,after,gd⟩::r) x K:=by
 refine cN f a ?_ h
 rw[b]; unfold kL; rw[g]; exact fM e
theorem s_len{y:Operand}{t e:TypeId}{a:List (List T)}(f:aW ds x gd=some true)(g:tk τ t=some (.sl e))(i:evD x y= .one (.c (.sl a)))(b:fits (.one (.c (.int .i64 0))) (F.shOf d)=true)(h:aS P τ An F ds r (x.put d (.one (.c (.int .i64 a.length)))) K):
  aS P τ An F ds (⟨some d, .call { callee:= .builtin .len,args:= #[y],argTypes:= #[t] },ty,pos,after,gd⟩::r) x K:=by
 refine Lj f rfl rfl ?_ (by
  revert b
  cases F.shOf d with
  | tup j=>simp [fits]
  | one w =>
        cases w<;>simp [fits,bK]
        rename_i z; cases z<;>simp [nY]) h
 show(match tk τ t,evD x y with
   | some .str, .one (.c (.str s))=>some (T.int .i64 s.length)
   | some (.sl _), .one (.c (.sl a))=>some (.int .i64 a.length)
   | _,_=>none)=_
 rw[g,i]
theorem Ms{t e:TypeId}{g:TI}{v i:Operand}{m:List (List T)}{row:List T}{k:IntKind}{n:Int}(q:aW ds x gd=some true)(u:tk τ t=some (.sl e))(o:τ e=some g)(w:ev x.sl v= .one (.c (.sl m)))(s:ev x.sl i= .one (.c (.int k n)))(h0:0≤n)(a:m[n.toNat]? =some row)(f:row.length=g.size)
  (b:fits (.one (.cp row)) (F.shOf d)=true)(h:aS P τ An F ds r (x.put d (.one (.cp row))) K):aS P τ An F ds (⟨some d, .indexAddr t v i,ty,pos,after,gd⟩::r) x K:=by
 refine cN q rfl ?_ h
 show(bif fK (F.shOf d)&&mV (ev x.sl v)then mT τ F x d t v i else lA τ F x d t v i)=_
 rw[show(fK (F.shOf d)&&mV (ev x.sl v))=false by
  cases hq:fK (F.shOf d)with
  | false=>rfl
  | true=>
   obtain⟨l,p,n,j,e⟩:=CP hq; rw[e]at b; simp [fits,bK]at b,z16]
 unfold lA; simp only[u,s,w,idx,o,h0,if_true,a,f,z44,z18]; exact fM b
theorem Mr{t:TypeId}{v:Operand}{b:TI}{xs:List T}{w:V}(e:aW ds x gd=some true)(g:τ t=some b)(a:ev x.sl v= .one (.cp xs))(f:kW b xs=some w)(c:fits w (F.shOf d)=true)(h:aS P τ An F ds r (x.put d w) K):
  aS P τ An F ds (⟨some d, .load t v,ty,pos,after,gd⟩::r) x K:=by
 refine cN e rfl ?_ h
 show(bif mem d F.tk&&(!(mem d F.al)&&fK (ev x.sl v))then Ak τ F x d t v else mW τ F x d t v (mem d F.al))=_
 rw[show(mem d F.tk&&(!(mem d F.al)&&fK (ev x.sl v)))=false by rw[a]; simp [fK],z16]
 unfold mW; simp only[g,a,f]; exact fM c
theorem Mq{t:TypeId}{v:Operand}{b:TI}{ob p:Nat}{cells:List T}{w:V}(f:aW ds x gd=some true)(j:τ t=some b)(i:mem d F.al=false)(a:ev x.sl v= .one (.ptr ob p))(c:x.ob ob=some cells)(g:kW b (cells.drop p)=some w)(e:fits w (F.shOf d)=true)(h:aS P τ An F ds r (x.put d w) K):
  aS P τ An F ds (⟨some d, .load t v,ty,pos,after,gd⟩::r) x K:=by
 refine cN f rfl ?_ h
 show(bif mem d F.tk&&(!(mem d F.al)&&fK (ev x.sl v))then Ak τ F x d t v else mW τ F x d t v (mem d F.al))=_
 rw[show(mem d F.tk&&(!(mem d F.al)&&fK (ev x.sl v)))=false by rw[a]; simp [fK],z16]
 unfold mW; simp only[j,a,c,i,z16,g]; exact fM e
theorem Ki{t u e:TypeId}{g:TI}{v y:Operand}{a b:List (List T)}(k:aW ds x gd=some true)(l:tk τ t=some (.sl e))(i:τ e=some g)(o:ev x.sl v= .one (.c (.sl a)))(p:Cj (ev x.sl y)=some b)(m:tZ τ u e=true)(f:KJ g a b=true)
  (j:fits (.one (.c (.sl []))) (F.shOf d)=true)(h:aS P τ An F ds r (x.put d (.one (.c (.sl (a++b))))) K):aS P τ An F ds (⟨some d, .call { callee:= .builtin .append,args:= #[v,y],argTypes:= #[t,u] },ty,pos,after,gd⟩::r) x K:=by
 refine cN k rfl ?_ h
 show nV τ F x d t u v y=_; unfold nV; simp only[l,i,o,p,m,f,MC,z18]
 exact fM (by
  revert j
  cases F.shOf d with
  | tup q=>simp [fits]
  | one w =>
        cases w<;>simp [fits,bK]
        rename_i z; cases z<;>simp [nY])
end
end Go.Own
