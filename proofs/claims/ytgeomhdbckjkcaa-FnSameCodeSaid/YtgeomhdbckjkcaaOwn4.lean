/- A calculus for runs on plain data (part 5): whoever runs code on data, with its owners checked, runs the program. No conditions. -/
import Derived.Test.YtgeomhdbckjkcaaOwn3
import Derived.Below
import Derived.ChangeArms
import Derived.ChangeOld
import Derived.DataReads
import Derived.OpenShut
import Derived.ProofKit
import Derived.ShutString
import Derived.SizedLaws
import Derived.WalkKit
import Derived.WideShapes
set_option linter.unusedVariables false
set_option linter.unusedSimpArgs false
set_option linter.unnecessarySimpa false
/- Steps on typed data, for printed walks. -/
namespace Go.Own
open Go.RowKit

/-! ### what printed functions are made of -/
def ix{α:Type}(l:List α)(i:Int):Option α:=if 0≤i then l[i.toNat]? else none
def ixs(s:List UInt8)(i:Int):Option Int:=if 0≤i then(s[i.toNat]?).map fun b=>(b.toNat:Int)else none
def fQ{α:Type}(bytes:Nat)(a b:List α):Option (List α):=if a.length+b.length≤maxLen∧(a.length+b.length)*bytes≤140737488355328 then some (a++b)else none
def bnd(len:Nat)(lo hi:Option Int):Option (Nat×Nat):=if 0≤lo.getD 0∧lo.getD 0≤hi.getD len∧hi.getD len≤len then some ((lo.getD 0).toNat,(hi.getD len).toNat)else none
def sub{α:Type}(l:List α)(lo hi:Option Int):Option (List α):=(bnd l.length lo hi).map fun r=>(l.drop r.1).take (r.2 - r.1)
def loopN{σ ρ:Type}(body:σ→Option (σ⊕ρ)):Nat→σ→Option ρ
  | 0,_=>none
  | n+1,s=>match body s with
    | none=>none
    | some (.inl s')=>loopN body n s'
    | some (.inr r)=>some r

theorem bind_some{α β:Type}{o:Option α}{f:α→Option β}{r:β}(h:o.bind f=some r): ∃a,o=some a∧f a=some r:=Option.bind_eq_some_iff.1 h

theorem Oz{x:D}{d:Nat}{v:V}(h:x.sl d=v):x.put d v=x:=D.ext (fun i=>by
  simp only[D.put]
  by_cases e:i=d
  · subst e; rw[if_pos rfl,h]
  · rw[if_neg e]) (fun _=>rfl)
section
variable {P:Program} {τ:TypeId→Option TI} {An:FuncId→FA} {F:FA} {ds:List (Option Nat)} {r:List Oper} {x:D} {K:D→Prop} {ty:TypeId} {pos:String} {after:Array Edge} {gd:Option (Nat×Bool)} {d:Nat} {Q:Ek→D→Prop}

/-! ### code -/
theorem EK{os:List Oper}{ds:List (Option Nat)}: ∀ {x:D} {K K':D→Prop},(∀x,K x→K' x)→bB P τ An F ds os x K→bB P τ An F ds os x K':=by
  induction os with
  | nil=>exact fun hk h=>hk _ h
  | cons o r ih=>
    intro x K K' hk h
    have h:FV P τ An F ds o x (fun x1=>bB P τ An F ds r x1 K):=h
    show FV P τ An F ds o x (fun x1=>bB P τ An F ds r x1 K')
    unfold FV at h ⊢
    split
    · rename_i hg
      rw[hg]at h
      simp only at h
      unfold Ks at h ⊢
      split
      · rename_i hc
        rw[hc]at h
        rcases h with⟨h0,f,caps,ob,ob',rr,nw,h1,h2,h3,h4,h5,h6⟩ | ⟨h0,f,rr,t,xs,l,p,x0,es,es',h1,h2,h3,h4,h5,h6,h7,h8,h9⟩
        · exact .inl ⟨h0,f,caps,ob,ob',rr,nw,h1,h2,h3,h4,h5,ih hk h6⟩
        · exact .inr ⟨h0,f,rr,t,xs,l,p,x0,es,es',h1,h2,h3,h4,h5,h6,h7,h8,ih hk h9⟩
      · rename_i hc
        rw[hc]at h
        obtain⟨x1,h1,h2⟩:=h
        exact⟨x1,h1,ih hk h2⟩
    · rename_i hg
      rw[hg]at h
      exact ih hk h
    · rename_i hg
      rw[hg]at h
      exact h.elim
theorem Ew{c:Code}: ∀ {x:D} {M N:Ek→D→Prop},(∀e x,M e x→N e x)→vcC P τ An F c x M→vcC P τ An F c x N:=by
  induction c with
  | seq a b iha ihb=>
    intro x M N hmn h
    refine iha (fun e x he=> ?_) h
    cases e with
    | n=>exact ihb hmn he
    | r=>exact hmn _ _ he
    | e i=>exact hmn _ _ he
  | cond c a b iha ihb=>
    intro x M N hmn h
    obtain⟨t,h0,h1,h2⟩:=h
    exact⟨t,h0,fun e=>iha hmn (h1 e),fun e=>ihb hmn (h2 e)⟩
  | block id c ih=>exact fun hmn h=>ih (fun e x he=>hmn _ _ he) h
  | loop c _=>exact fun hmn ⟨e,x',h1,h2⟩=>⟨e,x',h1,hmn _ _ h2⟩
  | region id ops dr=>
    intro x M N hmn h
    rcases h with⟨h0,h⟩ | ⟨x1,h1,h2⟩
    · exact .inl ⟨h0,EK (fun x hx=>hmn _ _ hx) h⟩
    · exact .inr ⟨x1,h1,hmn _ _ h2⟩
  | skip=>exact fun hmn h=>hmn _ _ h
  | label=>exact fun hmn h=>hmn _ _ h
  | exit=>exact fun hmn h=>hmn _ _ h
  | ret=>exact fun hmn h=>hmn _ _ h
  | _=>exact fun _ h=>h.elim

theorem SJ{id:Nat}{c:Code}(h:vcC P τ An F c x (blkD id Q)):vcC P τ An F (.block id c) x Q:=h

/-- A loop, told by a function with fuel. -/
theorem Wd.loopN{σ ρ:Type}{body:σ→Option (σ⊕ρ)}{c:Code}(Rel:σ→D→Prop)(Fin:ρ→Ek→D→Prop)
    (hb: ∀s o x,Rel s x→body s=some o→vcC P τ An F c x (fun e x'=>match o with | .inl s'=>e= .n∧Rel s' x' | .inr r=>e≠ .n∧Fin r e x')):
    ∀ {n:Nat} {s:σ} {q:ρ} {x:D},loopN body n s=some q→Rel s x→(∀e x',Fin q e x'→Q e x')→vcC P τ An F (.loop c) x Q:=by
  intro n
  induction n with
  | zero=>intro s q x h; cases h
  | succ n ih=>
    intro s q x h hr hq
    unfold Own.loopN at h
    cases hs:body s with
    | none=>rw[hs]at h; cases h
    | some o=>
      rw[hs]at h
      obtain⟨e,x1,h1,h2⟩:=AR (hb s o x hr hs)
      cases o with
      | inl s'=>
        obtain⟨rfl,h2⟩:=h2
        obtain⟨e2,x2,q1,q2⟩:=ih h h2 hq
        exact⟨e2,x2, .loopN h1 q1,q2⟩
      | inr r=>
        cases h
        exact⟨e,x1, .loopX h1 h2.1,hq _ _ h2.2⟩

/-! ### operations -/
theorem mv{y:Operand}{v:V}(hg:bG ds x gd=some true)(hv:ev x.sl y=v)(hq:(!(mem d F.al)&&gC v&&fits v (F.shOf d))=true)(h:bB P τ An F ds r (x.put d v) K):bB P τ An F ds (⟨some d, .move y,ty,pos,after,gd⟩::r) x K:=by
  simp only[Bool.and_eq_true,Bool.not_eq_true']at hq
  exact Uq hg hq.1.1 hv hq.1.2 hq.2 h
theorem asg{y:Operand}{v:V}(hg:bG ds x gd=some true)(hv:ev x.sl y=v)(hq:(gC v&&fits v (F.shOf d))=true)(h:bB P τ An F ds r (x.put d v) K):bB P τ An F ds (⟨some d, .assign y,ty,pos,after,gd⟩::r) x K:=by
  simp only[Bool.and_eq_true]at hq
  exact Ou hg hv hq.1 hq.2 h
theorem pk{c y z:Operand}{b:Bool}{t:T}(hg:bG ds x gd=some true)(hc:ev x.sl c= .one (.c (.bool b)))(hv:ev x.sl (bif b then y else z)= .one (.c t))(hq:(scal t&&fits (.one (.c t)) (F.shOf d))=true)(h:bB P τ An F ds r (x.put d (.one (.c t))) K):bB P τ An F ds (⟨some d, .pick c y z,ty,pos,after,gd⟩::r) x K:=by
  simp only[Bool.and_eq_true]at hq
  refine Un hg hc ?_ hq.1 hq.2 h
  cases b<;>exact hv
theorem rd{op:Op}(w:T)(hg:bG ds x gd=some true)(hc:dA ⟨some d,op,ty,pos,after,gd⟩=none)(hd:dOp τ F x ⟨some d,op,ty,pos,after,gd⟩=nE τ F x d op)(hr:gI τ (evD x) op=some w)(hf:fits (.one (.c w)) (F.shOf d)=true)(h:bB P τ An F ds r (x.put d (.one (.c w))) K):
    bB P τ An F ds (⟨some d,op,ty,pos,after,gd⟩::r) x K:=QG hg hc hd hr hf h
theorem ln{α:Type}{L:List α}{f:α→List T}{y:Operand}{t e:TypeId}(hg:bG ds x gd=some true)(ht:tk τ t=some (.sl e))(hv:evD x y= .one (.c (.sl (L.map f))))(hf:fits (.one (.c (.int .i64 0))) (F.shOf d)=true)(h:bB P τ An F ds r (x.put d (.one (.c (.int .i64 L.length)))) K):
    bB P τ An F ds (⟨some d, .call { callee:= .builtin .len,args:= #[y],argTypes:= #[t] },ty,pos,after,gd⟩::r) x K:=s_len hg ht hv hf (by simpa using h)
theorem ixa{α:Type}{L:List α}{f:α→List T}{a:α}{t e:TypeId}{ei:TI}{v i:Operand}{row:List T}{k:IntKind}{n:Int}(hix:ix L n=some a)(hg:bG ds x gd=some true)(ht:tk τ t=some (.sl e))(he:τ e=some ei)(hv:ev x.sl v= .one (.c (.sl (L.map f))))(hi:ev x.sl i= .one (.c (.int k n)))(hrow:f a=row)(hsz:row.length=ei.size)
    (hf:fits (.one (.cp row)) (F.shOf d)=true)(h:bB P τ An F ds r (x.put d (.one (.cp row))) K):bB P τ An F ds (⟨some d, .indexAddr t v i,ty,pos,after,gd⟩::r) x K:=by
  unfold ix at hix
  split at hix<;>try cases hix
  rename_i h0
  exact RJ hg ht he hv hi h0 (by rw[List.getElem?_map,hix,Option.map_some,hrow]) hsz hf h
theorem ldc{t:TypeId}{v:Operand}{ti:TI}{xs:List T}{w:V}(hg:bG ds x gd=some true)(ht:τ t=some ti)(hv:ev x.sl v= .one (.cp xs))(hl:nD ti xs=some w)(hf:fits w (F.shOf d)=true)(h:bB P τ An F ds r (x.put d w) K):
    bB P τ An F ds (⟨some d, .load t v,ty,pos,after,gd⟩::r) x K:=RI hg ht hv hl hf h
theorem ldo{t:TypeId}{v:Operand}{ti:TI}{ob p:Nat}{cells:List T}{w:V}(hg:bG ds x gd=some true)(ht:τ t=some ti)(hm:mem d F.al=false)(hv:ev x.sl v= .one (.ptr ob p))(hc:x.ob ob=some cells)(hl:nD ti (cells.drop p)=some w)(hf:fits w (F.shOf d)=true)(h:bB P τ An F ds r (x.put d w) K):
    bB P τ An F ds (⟨some d, .load t v,ty,pos,after,gd⟩::r) x K:=RH hg ht hm hv hc hl hf h
theorem sto{t:TypeId}{v y:Operand}{ti:TI}{ob p:Nat}{cells xs cs:List T}(hg:bG ds x gd=some true)(ht:τ t=some ti)(hv:ev x.sl v= .one (.ptr ob p))(hy:aO (ev x.sl y)=some xs)(hc:x.ob ob=some cells)(hq:(Nat.beq xs.length ti.size&&Nat.ble (p+xs.length) cells.length&&eP cs (F.obOf ob))=true)(hcs:cells.take p++xs++cells.drop (p+xs.length)=cs)(h:bB P τ An F ds r (x.setO ob cs) K):
    bB P τ An F ds (⟨none, .store t v y,ty,pos,after,gd⟩::r) x K:=by
  subst hcs
  refine bR hg rfl ?_ h
  show(match τ t,ev x.sl v,aO (ev x.sl y)with
      | some i, .one (.ptr ob p),some xs=>oD F x i ob p xs
      | some i, .one (.pp l p n j),some xs=>lH F x i l p n j xs
      | _,_,_=>none)=_
  rw[ht,hv,hy]
  simp only[oD,hc,hq,cond_true]
/-- Any other. -/
theorem gen{o:Oper}{x1:D}(hg:bG ds x o.guard=some true)(hc:dA o=none)(h1:dOp τ F x o=some x1)(h:bB P τ An F ds r x1 K):bB P τ An F ds (o::r) x K:=bR hg hc h1 h
theorem lit{α:Type}{L:List α}{f:α→List T}{t e:TypeId}{n:Nat}{parts:Array (Nat×Operand)}{ei:TI}{es:List (List T)}(hg:bG ds x gd=some true)(ht:tk τ t=some (.sl e))(he:τ e=some ei)(hes:tH ((parts.toList.map (·.2)).map (ev x.sl))=some es)(hL:L.map f=es)
    (hq:(yC 0 parts.toList&&Nat.beq n parts.toList.length&&es.all (fun e=>Nat.beq e.length ei.size)&&Nat.ble (n*ei.size) 16777216)=true)(hf:fits (.one (.c (.sl []))) (F.shOf d)=true)(h:bB P τ An F ds r (x.put d (.one (.c (.sl (L.map f))))) K):
    bB P τ An F ds (⟨some d, .buildSlice t n parts,ty,pos,after,gd⟩::r) x K:=by
  rw[hL]at h
  refine bR hg rfl ?_ h
  show LS τ F x d t n parts=_
  unfold LS
  simp only[ht,he,hes,hq,cond_true]
  exact eO (by
    revert hf
    cases F.shOf d with
    | tup ws=>simp [fits]
    | one w=>
               cases w<;>simp [fits,bP]
               rename_i z; cases z<;>simp [rD])
theorem apd{α:Type}{L1 L2 L3:List α}{f:α→List T}{b:Nat}{t u e:TypeId}{ei:TI}{v y:Operand}{es2:List (List T)}(hap:fQ b L1 L2=some L3)(hg:bG ds x gd=some true)(ht:tk τ t=some (.sl e))(he:τ e=some ei)(hb:ei.bytes=b)(hv:ev x.sl v= .one (.c (.sl (L1.map f))))(hy:Fa (ev x.sl y)=some es2)(hL:es2=L2.map f)(hu:uT τ u e=true)(hsz: ∀a,(f a).length=ei.size)(hcf: ∀a,eP (f a) ei.zero=true)
    (hf:fits (.one (.c (.sl []))) (F.shOf d)=true)(h:bB P τ An F ds r (x.put d (.one (.c (.sl (L3.map f))))) K):bB P τ An F ds (⟨some d, .call { callee:= .builtin .append,args:= #[v,y],argTypes:= #[t,u] },ty,pos,after,gd⟩::r) x K:=by
  subst hL; subst hb
  unfold fQ at hap
  split at hap<;>try cases hap
  rename_i hle
  refine Ov hg ht he hv hy hu ?_ hf (by simpa using h)
  simp only[OL,Bool.and_eq_true,List.all_eq_true,List.mem_map,List.length_map]
  exact⟨⟨⟨fun e he=>by obtain⟨a,_,rfl⟩:=he; rw[hsz]; exact Nat.beq_refl _,fun e he=>by obtain⟨a,_,rfl⟩:=he; exact hcf a⟩,Nat.ble_eq_true_of_le hle.1⟩,Nat.ble_eq_true_of_le hle.2⟩
theorem mks{α:Type}{z:α}{f:α→List T}{t e:TypeId}{ei:TI}{v y:Operand}{n:Int}{k k':IntKind}(hn:0≤n∧n≤maxLen∧ei.bytes*n≤281474976710656)(hg:bG ds x gd=some true)(ht:tk τ t=some (.sl e))(he:τ e=some ei)(hv:ev x.sl v= .one (.c (.int k n)))(hy:ev x.sl y= .one (.c (.int k' n)))(hz:f z=ei.zero)(hf:fits (.one (.c (.sl []))) (F.shOf d)=true)(h:bB P τ An F ds r (x.put d (.one (.c (.sl ((List.replicate n.toNat z).map f))))) K):
    bB P τ An F ds (⟨some d, .makeSlice t v y,ty,pos,after,gd⟩::r) x K:=by
  refine bR hg rfl ?_ h
  show DT τ F x d t v y=_
  unfold DT
  simp only[ht,he,hv,hy]
  rw[if_pos ⟨trivial,hn⟩,List.map_replicate,hz]
  exact eO (by
    revert hf
    cases F.shOf d with
    | tup ws=>simp [fits]
    | one w=>
               cases w<;>simp [fits,bP]
               rename_i z; cases z<;>simp [rD])

/-! ### calls -/
theorem Pq{d:Nat}{y:D}{v:V}(h:(y.sl 0).to (sA [] none)=v):x.call (some d) none [] y=x.put d v:=D.ext (fun i=>by
  simp only[D.call,D.put,Option.some.injEq,h]
  by_cases e:d=i
  · rw[if_pos e,if_pos e.symm]
  · rw[if_neg e,if_neg (fun h=>e h.symm)]) (fun o=>by simp [D.call,pB])
theorem Ng{d o:Nat}{y:D}{v:V}{cs:List T}(h:(y.sl 0).to (sA [o] none)=v)(h2:y.ob par=some cs):x.call (some d) none [o] y=(x.put d v).setO o cs:=D.ext (fun i=>by
  simp only[D.call,D.put,D.setO,Option.some.injEq,h]
  by_cases e:d=i
  · rw[if_pos e,if_pos e.symm]
  · rw[if_neg e,if_neg (fun h=>e h.symm)]) (fun i=>by
  simp only[D.call,D.put,D.setO,pB,List.mem_singleton]
  by_cases e:i=o
  · subst e; simp [List.idxOf,List.findIdx,List.findIdx.go,h2]
  · simp [e])
theorem Nd{d:Nat}{y:D}{cs:List T}(h:(y.sl 0).to (sA [] (some d))= .one (.ptr d 0))(h2:y.ob 0=some cs):x.call (some d) (some d) [] y=(x.put d (.one (.ptr d 0))).setO d cs:=D.ext (fun i=>by
  simp only[D.call,D.put,D.setO,Option.some.injEq,h]
  by_cases e:d=i
  · rw[if_pos e,if_pos e.symm]
  · rw[if_neg e,if_neg (fun h=>e h.symm)]) (fun i=>by
  simp only[D.call,D.put,D.setO,pB]
  by_cases e:i=d
  · subst e; simp [h2]
  · simp [e,Ne.symm e])

/-- A call that is handed no objects. -/
theorem cl0{caps:List (Nat×Nat)}{c:Call}{v:Operand}{f:FuncId}{vs:List V}{rr v':V}(hB:Big P τ An (.fn f vs [] rr none [] none))(hg:bG ds x gd=some true)(hc:dA ⟨some d, .call c,ty,pos,after,gd⟩=some (c,v))(hx:ev x.sl v= .one (.fn f caps))(hth:c.args.toList.all (fun v=>gC (ev x.sl v))=true)(hos:iV F c v=[])(hnd:pX F (some d)=none)
    (hvs:inV x c caps []=vs)(hv':rr.to (sA [] none)=v')(hf:fits v' (F.shOf d)=true)(h:bB P τ An F ds r (x.put d v') K):bB P τ An F ds (⟨some d, .call c,ty,pos,after,gd⟩::r) x K:=by
  have hcp:x.call (some d) none [] (DR rr none [] none)=x.put d v':=Pq hv'
  refine xH (x1:=x.put d v') (ob:=[]) hg hc (Ae hos (by simp)) hx hth (by rw[hos]; rfl) (by rw[hos]; exact hvs) hB ?_ ?_ h
  · show x.call (some d) (pX F (some d)) (iV F c v) _=_
    rw[hos,hnd]; exact hcp
  · show bO F (x.put d v') (some d) (pX F (some d)) (iV F c v)=true
    rw[hos,hnd]
    simp [bO,dE,D.put,hf]
/-- A call that is handed one object. -/
theorem cl1{caps:List (Nat×Nat)}{c:Call}{v:Operand}{f:FuncId}{vs:List V}{rr v':V}{o:Nat}{cs cs':List T}(hB:Big P τ An (.fn f vs [cs] rr none [cs'] none))(hg:bG ds x gd=some true)(hc:dA ⟨some d, .call c,ty,pos,after,gd⟩=some (c,v))(hx:ev x.sl v= .one (.fn f caps))(hth:c.args.toList.all (fun v=>gC (ev x.sl v))=true)(hos:iV F c v=[o])(hnd:pX F (some d)=none)
    (hob:x.ob o=some cs)(hvs:inV x c caps [o]=vs)(hv':rr.to (sA [o] none)=v')(hf:(fits v' (F.shOf d)&&eP cs' (F.obOf o))=true)(h:bB P τ An F ds r ((x.put d v').setO o cs') K):bB P τ An F ds (⟨some d, .call c,ty,pos,after,gd⟩::r) x K:=by
  simp only[Bool.and_eq_true]at hf
  have hcp:x.call (some d) none [o] (DR rr none [cs'] none)=(x.put d v').setO o cs':=Ng hv' (by simp [DR])
  refine xH (x1:=(x.put d v').setO o cs') (ob:=[cs]) hg hc (Ae hos (by simp)) hx hth (by rw[hos]; simp [hob]) (by rw[hos]; exact hvs) hB ?_ ?_ h
  · show x.call (some d) (pX F (some d)) (iV F c v) _=_
    rw[hos,hnd]; exact hcp
  · show bO F ((x.put d v').setO o cs') (some d) (pX F (some d)) (iV F c v)=true
    rw[hos,hnd]
    simp [bO,dE,D.put,D.setO,hf.1,hf.2]
/-- A call that makes an object. -/
theorem cln{caps:List (Nat×Nat)}{c:Call}{v:Operand}{f:FuncId}{vs:List V}{rr:V}{cs:List T}(hB:Big P τ An (.fn f vs [] rr none [] (some cs)))(hg:bG ds x gd=some true)(hc:dA ⟨some d, .call c,ty,pos,after,gd⟩=some (c,v))(hx:ev x.sl v= .one (.fn f caps))(hth:c.args.toList.all (fun v=>gC (ev x.sl v))=true)(hos:iV F c v=[])(hnd:pX F (some d)=some d)
    (hvs:inV x c caps []=vs)(hv':rr.to (sA [] (some d))= .one (.ptr d 0))(hf:(fits (.one (.ptr d 0)) (F.shOf d)&&eP cs (F.obOf d))=true)(h:bB P τ An F ds r ((x.put d (.one (.ptr d 0))).setO d cs) K):bB P τ An F ds (⟨some d, .call c,ty,pos,after,gd⟩::r) x K:=by
  simp only[Bool.and_eq_true]at hf
  have hcp:x.call (some d) (some d) [] (DR rr none [] (some cs))=(x.put d (.one (.ptr d 0))).setO d cs:=Nd hv' (by simp [DR,par])
  refine xH (x1:=(x.put d (.one (.ptr d 0))).setO d cs) (ob:=[]) hg hc (Ae hos (by simp)) hx hth (by rw[hos]; rfl) (by rw[hos]; exact hvs) hB ?_ ?_ h
  · show x.call (some d) (pX F (some d)) (iV F c v) _=_
    rw[hos,hnd]; exact hcp
  · show bO F ((x.put d (.one (.ptr d 0))).setO d cs) (some d) (pX F (some d)) (iV F c v)=true
    rw[hos,hnd]
    simp [bO,dE,D.put,D.setO,hf.1,hf.2]
end
end Go.Own

/- More steps for printed walks. -/
namespace Go.Own
open Go.RowKit

def ck(b:Bool):Option Unit:=bif b then some ()else none
theorem ck_of{b:Bool}{u:Unit}(h:ck b=some u):b=true:=by
 cases b with
 | true=>rfl
 | false=>cases h
section
variable {P:Program} {τ:TypeId→Option TI} {An:FuncId→FA} {F:FA} {ds:List (Option Nat)} {r:List Oper} {x:D} {K:D→Prop} {ty:TypeId} {pos:String} {after:Array Edge} {gd:Option (Nat×Bool)} {d:Nat} {Q:Ek→D→Prop}

theorem c_ct{c:Operand}{a b:Code}(hc:ev x.sl c= .one (.c (.bool true)))(h:vcC P τ An F a x Q):vcC P τ An F (.cond c a b) x Q:=⟨true,hc,fun _=>h,nofun⟩
theorem c_cf{c:Operand}{a b:Code}(hc:ev x.sl c= .one (.c (.bool false)))(h:vcC P τ An F b x Q):vcC P τ An F (.cond c a b) x Q:=⟨false,hc,nofun,fun _=>h⟩
theorem Uu{t:TypeId}{y z:Operand}{s:List UInt8}{k:IntKind}{n b:Int}(h:ixs s n=some b)(ht:tk τ t=some .str)(h1:evD x y= .one (.c (.str s)))(h2:evD x z= .one (.c (.int k n))):gI τ (evD x) (.index t y z)=some (.int .u8 b):=by
 unfold ixs at h
 split at h<;>try cases h
 rename_i h0
 obtain⟨c,h3,rfl⟩:=Option.map_eq_some_iff.1 h
 simp [gI,ht,h1,h2,h0,h3]

/-- A bound that is there or not. -/
inductive Bd (x:D):Option Operand→Option Int→Prop
 | none:Bd x none none
 | some {y:Operand} {k:IntKind} {n:Int} (h:evD x y= .one (.c (.int k n))):Bd x (some y) (some n)
theorem Wq{len:Nat}{lo hi:Option Operand}{l h:Option Int}{q:Nat×Nat}(hl:Bd x lo l)(hh:Bd x hi h)(hb:bnd len l h=some q):mN (evD x) len lo hi none=some q:=by
 unfold bnd at hb
 unfold mN
 cases hl with
 | none=>
  cases hh with
  | none=>simpa using hb
  | some h1=>simpa [h1,tN]using hb
 | some h0=>
  cases hh with
  | none=>simpa [h0,tN]using hb
  | some h1=>simpa [h0,h1,tN]using hb
theorem Ut{α:Type}{f:α→List T}{t e:TypeId}{ei:TI}{y:Operand}{lo hi:Option Operand}{l h:Option Int}{s s':List α}(hb:sub s l h=some s')(ht:tk τ t=some (.sl e))(he:τ e=some ei)(h1:evD x y= .one (.c (.sl (s.map f))))(hl:Bd x lo l)(hh:Bd x hi h)(hsz: ∀a,(f a).length=ei.size):gI τ (evD x) (.slice t y lo hi none)=some (.sl (s'.map f)):=by
 obtain⟨q,h2,rfl⟩:=Option.map_eq_some_iff.1 hb
 have h3:(s.map f).all (fun x=>x.length == ei.size)=true:=by
  rw[List.all_eq_true]
  intro e he
  obtain⟨a,_,rfl⟩:=List.mem_map.1 he
  simpa using hsz a
 have h4:mN (evD x) (s.map f).length lo hi none=some q:=by rw[List.length_map]; exact Wq hl hh h2
 simp only[gI,ht,h1,he,Option.bind_some,h3,if_true,h4,Option.map_some,List.map_take,List.map_drop]

def isP:V→Bool
 | .one (.ptr _ _)=>true
 | .one (.cp _)=>true
 | .one (.fn _ _)=>true
 | .one (.pp _ _ _ _)=>true
 | _=>false
theorem nlc{v:Operand}{w:V}(hg:bG ds x gd=some true)(hv:ev x.sl v=w)(hp:isP w=true)(hf:fits w (F.shOf d)=true)(h:bB P τ An F ds r (x.put d w) K):bB P τ An F ds (⟨some d, .nilCheck v,ty,pos,after,gd⟩::r) x K:=by
 refine bR hg rfl ?_ h
 show KJ F x d v=_
 unfold KJ
 rw[hv]
 unfold isP at hp
 split at hp<;>first | exact eO hf | cases hp
theorem fld{s:TypeId}{v:Operand}{f:Nat}{fs:List (Nat×Nat×Bool)}{q:Nat×Nat×Bool}{w u:V}(hg:bG ds x gd=some true)(ht:tk τ s=some (.struct fs))(hq:fs[f]? =some q)(hv:ev x.sl v=w)(hw:yX (q.1,q.2.1) w=some u)(hf:fits u (F.shOf d)=true)(h:bB P τ An F ds r (x.put d u) K):bB P τ An F ds (⟨some d, .fieldAddr s v f,ty,pos,after,gd⟩::r) x K:=by
 refine bR hg rfl ?_ h
 show tQ τ F x d s v f=_
 unfold tQ
 simp only[ht,hq,hv,hw]
 exact eO hf
theorem alc{t:TypeId}{i:TI}{cs:List T}(hg:bG ds x gd=some true)(ht:τ t=some i)(hz:i.zero=cs)(hc:eP cs (F.obOf d)=true)(h:bB P τ An F ds r ((x.put d (.one (.ptr d 0))).setO d cs) K):bB P τ An F ds (⟨some d, .alloc t,ty,pos,after,gd⟩::r) x K:=by
 subst hz
 refine bR hg rfl ?_ h
 show AV τ F x d t=_
 unfold AV
 simp only[ht,hc,cond_true]
theorem bx{e:TypeId}{t:Nat}{xs:List T}{w:V}(hg:bG ds x gd=some true)(hv:x.sl t=w)(hw:aO w=some xs)(hc:eP xs (F.obOf d)=true)(h:bB P τ An F ds r ((x.put d (.one (.ptr d 0))).setO d xs) K):bB P τ An F ds (⟨some d, .box e (.tmp t),ty,pos,after,gd⟩::r) x K:=by
 refine bR hg rfl ?_ h
 show Ob F x d (.tmp t)=_
 unfold Ob
 simp only[hv,hw,hc,cond_true]
theorem bld{t:TypeId}{ti:TI}{fs:List (Nat×Nat×Bool)}{parts:Array (Nat×Operand)}{rs:List T}(hg:bG ds x gd=some true)(ht:τ t=some ti)(hk:ti.kind= .struct fs)(hb:qW fs ti.zero (parts.toList.map fun p=>(p.1,ev x.sl p.2))=some rs)(hf:fits (.one (.ag rs)) (F.shOf d)=true)(h:bB P τ An F ds r (x.put d (.one (.ag rs))) K):bB P τ An F ds (⟨some d, .build t parts,ty,pos,after,gd⟩::r) x K:=by
 refine bR hg rfl ?_ h
 show vP τ F x d t parts=_
 unfold vP
 simp only[ht,hk,hb]
 exact eO hf
theorem ext{k t:Nat}{ws:List W}{w:W}(hg:bG ds x gd=some true)(hv:x.sl t= .tup ws)(hw:ws[k]? =some w)(hf:fits (.one w) (F.shOf d)=true)(h:bB P τ An F ds r (x.put d (.one w)) K):bB P τ An F ds (⟨some d, .extract (.tmp t) k,ty,pos,after,gd⟩::r) x K:=by
 refine bR hg rfl ?_ h
 show nU F x d k (.tmp t)=_
 unfold nU
 simp only[hv,hw]
 exact eO hf
theorem mkf{f:FuncId}{caps:Array Operand}{cs:List (Nat×Nat)}(hg:bG ds x gd=some true)(hc:vS (caps.toList.map (ev x.sl))=some cs)(hf:fits (.one (.fn f cs)) (F.shOf d)=true)(h:bB P τ An F ds r (x.put d (.one (.fn f cs))) K):bB P τ An F ds (⟨some d, .makeFunc (.func f) #[] caps,ty,pos,after,gd⟩::r) x K:=by
 refine bR hg rfl ?_ h
 show(bif (#[]:Array Operand).isEmpty then BY F x d f caps else none)=_
 show BY F x d f caps=_
 unfold BY
 simp only[hc]
 exact eO hf
end
end Go.Own

/- Laws of loops and of what printed functions are made of. -/
namespace Go.Own
open Go.RowKit

theorem wrap_i64{n:Int}(h0: -9223372036854775808≤n)(h1:n≤9223372036854775807):IntKind.wrap .i64 n=n:=by
 rw[IntKind.wrap_i64]; omega

theorem JF(x:Int)(m:Nat)(hm:m<2 ^ 62):0≤bits .and .i64 x m∧bits .and .i64 x m≤m:=by
 have h:(BitVec.ofInt 64 x&&& BitVec.ofInt 64 (m:Int)).toNat≤m:=by
  rw[BitVec.toNat_and]
  refine Nat.le_trans Nat.and_le_right ?_
  have:(BitVec.ofInt 64 (m:Int)).toNat=m:=by
   simp only[BitVec.ofInt_natCast,BitVec.toNat_ofNat]
   exact Nat.mod_eq_of_lt (by omega)
  omega
 have e:bits .and .i64 x m=IntKind.i64.wrap ((BitVec.ofInt 64 x&&& BitVec.ofInt 64 (m:Int)).toNat:Int):=rfl
 rw[e,IntKind.wrap_i64]
 generalize (BitVec.ofInt 64 x&&& BitVec.ofInt 64 (m:Int)).toNat=k at h
 omega

theorem SG{w:World}{a:Addr}{v:Value}(h:w.cell? a=some v):a.block<w.heap.size∧a.spot=none:=by
 unfold World.cell? at h
 split at h
 ·rename_i c _ _ hc
  split at h
  ·cases h
  ·rename_i hs
   refine⟨(Array.getElem?_eq_some_iff.1 hc).1, ?_⟩
   cases hsp:a.spot with
   | none=>rfl
   | some x=>rw[hsp]at hs; simp at hs
 ·cases h

theorem aT{P:Program}{τ:TypeId→Option TI}{An:FuncId→FA}{Sgs:FuncId→List Sg}{f:FuncId}{sg0 sg:Sg}{fn0:Func}(h:fnC τ An Sgs f sg0 fn0 (fn0.body.getD .skip)=true)(hf:P.funcs[f]? =some fn0)(hs:sg∈[sg0]): ∀fn c,P.funcs[f]? =some fn→fn.body=some c→fnC τ An Sgs f sg fn c=true:=by
 intro fn c h1 h2
 rw[hf]at h1
 cases h1
 rw[List.mem_singleton]at hs
 subst hs
 rw[h2]at h
 exact h
end Go.Own

/- What a row's arguments read, as typed data. -/
namespace Go.Own
open Go.RowKit

/-- Cells that read so, with nobody owning them. -/
def CR(w:World)(cs:List Value)(xs:List T):Prop:=cs.length=xs.length∧ ∀(j:Nat) c y,cs[j]? =some c→xs[j]? =some y→mS c∧Rd (frz G.old w) w c y

theorem CR.one{w:World}{c:Value}{y:T}(hn:mS c)(h:Rd (frz G.old w) w c y):CR w [c] [y]:=⟨rfl,fun j c' y' hc hy=>by
 cases j with
 | zero=>simp only[List.getElem?_cons_zero,Option.some.injEq]at hc hy; subst hc; subst hy; exact⟨hn,h⟩
 | succ j=>simp at hc⟩

/-- Whatever is read of a type, with such fuel, is told so. -/
def OpF(P:Program)(n:Nat)(t:TypeId){α:Type}(f:α→List T)(ok:α→Prop):Prop:= ∀ {H:Type} (enc:TypeId×Value→H) (w:World) (base:Nat) (spare:Nat→Bool) (held:Bool) (cs:List Value) (x:DataW H×List MemPlace),
 DataW.trod enc P w base spare held n t cs=some x→ ∃a,CR w cs (f a)∧ok a

section
variable {P:Program} {t e:TypeId}

theorem OpF.zero{α:Type}{f:α→List T}{ok:α→Prop}:OpF P 0 t f ok:=fun _ _ _ _ _ _ _ h=>by simp [DataW.trod]at h
theorem OpF.int{n:Nat}{k:IntKind}(ht:P.underlying t=some (.int k)):OpF P n t (fun a:Int=> [.int k a]) (fun a=>k.min≤a∧a≤k.max):=fun enc w base spare held cs x h=>by
 obtain⟨a,rfl,_,hw⟩:=DataW.trod_int ht h
 refine⟨a, .one ⟨nofun,nofun⟩ (.int k a), ?_⟩
 unfold Lit.wf at hw
 simp only[Bool.and_eq_true,decide_eq_true_eq]at hw
 exact hw
theorem OpF.slice{n s:Nat}{α:Type}{f:α→List T}{ok:α→Prop}(ht:P.underlying t=some (.slice e))(hc:P.cellsOf e=s)(hs:0<s)(hf: ∀a,(f a).length=s)(h:OpF P n e f ok):OpF P (n+1) t (fun l:List α=> [.sl (l.map f)]) (fun l=>l.length≤maxLen∧ ∀a∈l,ok a):=fun enc w base spare held cs x hx=>by
 rcases DataW.trod_slice ht hx with⟨rfl,_⟩ | ⟨a,len,cap,elems,rest,m,hm,rfl,_,hb,hl,hcap,hlen,hel,_,_⟩
 ·exact⟨[], .one ⟨nofun,nofun⟩ (.nil _ _),by simp,by simp⟩
 ·have hm:m=n:=by omega
  subst hm
  have each: ∀i,i<len→ ∃cs' a',w.cells? base (a.add (i*s)) s=some cs'∧CR w cs' (f a')∧ok a':=fun i hi=>by
   have h1:=hel i hi
   rw[hc,List.getElem?_eq_getElem (by omega)]at h1
   obtain⟨cs',h2,h3⟩:=Option.bind_eq_some_iff.1 h1
   obtain⟨a',h4,h5⟩:=h enc w base spare held cs' _ h3
   exact⟨cs',a',h2,h4,h5⟩
  have hl2: ∃L:List α,L.length=len∧ ∀(i:Nat) a',L[i]? =some a'→(∃cs',w.cells? base (a.add (i*s)) s=some cs'∧CR w cs' (f a'))∧ok a':=by
   have: ∀k,k≤len→ ∃L:List α,L.length=k∧ ∀(i:Nat) a',L[i]? =some a'→(∃cs',w.cells? base (a.add (i*s)) s=some cs'∧CR w cs' (f a'))∧ok a':=by
    intro k
    induction k with
    | zero=>exact fun _=>⟨[],rfl,fun i a' h=>by simp at h⟩
    | succ k ih=>
     intro hk
     obtain⟨L,h1,h2⟩:=ih (by omega)
     obtain⟨cs',a',h3,h4,h5⟩:=each k (by omega)
     refine⟨L++[a'],by simp [h1],fun i b hb=> ?_⟩
     by_cases hi:i<L.length
     ·rw[List.getElem?_append_left hi]at hb
      exact h2 i b hb
     ·rw[List.getElem?_append_right (by omega)]at hb
      have hi0:i - L.length=0:=by
       rcases Nat.eq_zero_or_pos (i - L.length)with h | h
       ·exact h
       ·rw[List.getElem?_eq_none (by simp; omega)]at hb; cases hb
      rw[hi0]at hb
      simp only[List.getElem?_cons_zero,Option.some.injEq]at hb
      subst hb
      have:i=k:=by omega
      subst this
      exact⟨⟨cs',h3,h4⟩,h5⟩
   exact this len (Nat.le_refl _)
  obtain⟨L,hL,hLi⟩:=hl2
  refine⟨L, .one ⟨nofun,nofun⟩ ?_, ?_,fun b hb=> ?_⟩
  ·cases len with
   | zero=>
    have:L=[]:=List.eq_nil_of_length_eq_zero hL
    subst this
    exact .nil _ _
   | succ len=>
    have cell: ∀(i:Nat) b (j:Nat) y,L[i]? =some b→(f b)[j]? =some y→ ∃c,w.cell? ((a.add (i*s)).add j)=some c∧mS c∧Rd (frz G.old w) w c y:=fun i b j y hb hy=>by
     obtain⟨⟨cs',h1,h2,h3⟩,_⟩:=hLi i b hb
     unfold World.cells? at h1
     split at h1<;>try cases h1
     have hj:j<s:=by
      have:=(List.getElem?_eq_some_iff.1 hy).1
      rw[hf]at this; exact this
     have hjc:j<cs'.length:=by rw[h2,hf]; exact hj
     have h4:=mapM_some_get h1 j j (by rw[List.getElem?_range hj])
     rw[List.getElem?_eq_getElem hjc]at h4
     exact⟨cs'[j],h4,h3 j _ y (List.getElem?_eq_getElem hjc) hy⟩
    have h0:(0:Nat)<L.length:=by omega
    have hf0:0<(f L[0]).length:=by rw[hf]; exact hs
    obtain⟨c0,h00,_⟩:=cell 0 L[0] 0 _ (List.getElem?_eq_getElem h0) (List.getElem?_eq_getElem hf0)
    obtain⟨hbk,hsp⟩:=SG h00
    have e0:(a.add (0*s)).add 0=a:=by simp [Addr.add]
    rw[e0]at hbk hsp
    obtain⟨b,off,sp⟩:=a
    simp only at hsp hbk
    subst hsp
    have cell': ∀(i:Nat) b' (j:Nat) y,L[i]? =some b'→(f b')[j]? =some y→ ∃c,w.cell? ⟨b,off+i*s+j,none⟩=some c∧mS c∧Rd (frz G.old w) w c y:=fun i b' j y hb' hy=>by
     have:=cell i b' j y hb' hy
     rwa[jD,jD]at this
    refine .sl b off (len+1) cap s _ (fun i j=>(w.cell? ⟨b,off+i*s+j,none⟩).getD undef) (by simp [hL]) hl (fun i e' he=> ?_) ⟨hbk,rfl⟩ (fun i e' j y he hy=> ?_) (fun i e' j y he hy=> ?_)
    ·rw[List.getElem?_map,Option.map_eq_some_iff]at he
     obtain⟨z,_,rfl⟩:=he
     exact hf z
    ·rw[List.getElem?_map,Option.map_eq_some_iff]at he
     obtain⟨z,hz,rfl⟩:=he
     obtain⟨c,h1,_⟩:=cell' i z j y hz hy
     simp only[h1,Option.getD_some]
    ·rw[List.getElem?_map,Option.map_eq_some_iff]at he
     obtain⟨z,hz,rfl⟩:=he
     obtain⟨c,h1,_,h3⟩:=cell' i z j y hz hy
     simp only[h1,Option.getD_some]
     exact h3
  ·rw[hL]; omega
  ·obtain⟨i,hi,rfl⟩:=List.getElem_of_mem hb
   exact(hLi i _ (List.getElem?_eq_getElem hi)).2

end

theorem Rd.nowhere{Q:Nat→Prop}{w:World}{v:Value}{x:T}(h:Rd Q w v x)(hs:Own.scal x=true):Rd (fun _=>False) w v x:=by
 cases h with
 | int=>exact .int _ _
 | bool=>exact .bool _
 | np=>exact .np
 | str=>exact .str _
 | _=>cases hs
end Go.Own

/- Steps at elements of slices that are turned in place. -/
namespace Go.Own
open Go.RowKit

section
variable {P:Program} {τ:TypeId→Option TI} {An:FuncId→FA} {F:FA} {ds:List (Option Nat)} {r:List Oper} {x:D} {K:D→Prop} {ty:TypeId} {pos:String} {after:Array Edge} {gd:Option (Nat×Bool)} {d:Nat}

theorem alo{t:TypeId}{v:Operand}{ti:TI}{ob p:Nat}{cells:List T}(hg:bG ds x gd=some true)(ht:τ t=some ti)(hm:mem d F.al=true)(hv:ev x.sl v= .one (.ptr ob p))(hc:x.ob ob=some cells)(hq:(DQ τ t&&slT (cells[p]?))=true)(hf:fits (.one (.al (.oc ob p) [])) (F.shOf d)=true)(h:bB P τ An F ds r (x.put d (.one (.al (.oc ob p) []))) K):
  bB P τ An F ds (⟨some d, .load t v,ty,pos,after,gd⟩::r) x K:=by
 refine bR hg rfl ?_ h
 show(bif mem d F.tk&&(!(mem d F.al)&&eE (ev x.sl v))then tP τ F x d t v else mU τ F x d t v (mem d F.al))=_
 rw[show(mem d F.tk&&(!(mem d F.al)&&eE (ev x.sl v)))=false by rw[hm]; simp,cond_false]
 unfold mU
 simp only[ht,hv,hc,hm,cond_true,hq]
 exact eO hf
theorem ixp{α:Type}{L:List α}{f:α→List T}{a:α}{t e:TypeId}{ei:TI}{v i:Operand}{l:Loc}{k:IntKind}{n:Int}(hix:ix L n=some a)(hg:bG ds x gd=some true)(ht:tk τ t=some (.sl e))(he:τ e=some ei)(hv:ev x.sl v= .one (.al l []))(hr:x.at l=some (.sl (L.map f)))(hi:ev x.sl i= .one (.c (.int k n)))(hsz:(f a).length=ei.size)
  (hf:fits (.one (.pp l [] 0 0)) (F.shOf d)=true)(h:bB P τ An F ds r (x.put d (.one (.pp l [] n.toNat 0))) K):bB P τ An F ds (⟨some d, .indexAddr t v i,ty,pos,after,gd⟩::r) x K:=by
 unfold ix at hix
 split at hix<;>try cases hix
 rename_i h0
 refine bR hg rfl ?_ h
 show(bif eE (F.shOf d)&&mT (ev x.sl v)then mM τ F x d t v i else lO τ F x d t v i)=_
 rw[show(eE (F.shOf d)&&mT (ev x.sl v))=false by rw[hv]; simp [mT],cond_false]
 unfold lO
 have hrow:(L.map f)[n.toNat]? =some (f a):=by rw[List.getElem?_map,hix]; rfl
 simp only[ht,hi,hv,hr,Option.bind_some,nav,idx,he,h0,if_true,hrow,hsz,Nat.beq_refl,cond_true]
 refine eO ?_
 revert hf
 cases F.shOf d with
 | tup ws=>simp [fits]
 | one w=>cases w<;>simp [fits,bP]
theorem Og{t:Nat}{y z:T}(h:x.sl t= .one (.c y)):x.upd (.s t 0 0) z=x.put t (.one (.c z)):=D.ext (fun i=>by
 simp only[D.upd,jR,D.put]
 by_cases e:i=t
 ·subst e; rw[if_pos rfl,if_pos rfl,h]; rfl
 ·rw[if_neg e,if_neg e]) (fun _=>rfl)
theorem Oh{o j:Nat}{cells:List T}{z:T}(h:x.ob o=some cells):x.upd (.oc o j) z=x.setO o (cells.set j z):=D.ext (fun _=>rfl) (fun i=>by
 simp only[D.upd,rP,D.setO]
 by_cases e:i=o
 ·subst e; rw[if_pos rfl,if_pos rfl,h]; rfl
 ·rw[if_neg e,if_neg e])
theorem Uk{α:Type}{L:List α}{f:α→List T}{a v':α}{i:Int}{t:TypeId}{v y:Operand}{ti:TI}{l:Loc}{j:Nat}{xs:List T}(hix:ix L i=some a)(ht:τ t=some ti)(hv:ev x.sl v= .one (.pp l [] i.toNat j))(hr:x.at l=some (.sl (L.map f)))(hy:aO (ev x.sl y)=some xs)(hq:(Nat.beq xs.length ti.size&&Nat.ble (j+xs.length) (f a).length)=true)(hrow:(f a).take j++xs++(f a).drop (j+xs.length)=f v'):
  dOp τ F x ⟨none, .store t v y,ty,pos,after,gd⟩=some (x.upd l (.sl ((L.set i.toNat v').map f))):=by
 unfold ix at hix
 split at hix<;>try cases hix
 have hrw:(L.map f)[i.toNat]? =some (f a):=by rw[List.getElem?_map,hix]; rfl
 show(match τ t,ev x.sl v,aO (ev x.sl y)with
   | some i, .one (.ptr ob p),some xs=>oD F x i ob p xs
   | some i, .one (.pp l p n j),some xs=>lH F x i l p n j xs
   | _,_,_=>none)=_
 rw[ht,hv,hy]
 simp only[lH,hr,nav,hrw,hq,cond_true,hrow,cG,List.map_set]
end
end Go.Own

/- Walks in few words: what is known of the data is told by a list, and the goal carries it. -/
namespace Go.Own
open Go.RowKit

inductive SS (α:Type) where
 | nil
 | cons (i:Nat) (a:α) (r:SS α)
 | many (l:List (Nat×α)) (r:SS α)
 | drop (l:List (Nat×Nat)) (r:SS α)
/-- i lies in one of the ranges. -/
def inR(i:Nat):List (Nat×Nat)→Bool
 | []=>false
 | p::r=>(Nat.ble p.1 i&&Nat.ble i p.2)||inR i r
def SS.get{α:Type}:SS α→Nat→Option α
 | .nil,_=>none
 | .cons j a r,i=>bif Nat.beq i j then some a else r.get i
 | .many l r,i=>match cU i l with | some a=>some a | none=>r.get i
 | .drop l r,i=>bif inR i l then none else r.get i

def rIn(lo hi:Nat):List (Nat×Nat)→Bool
 | []=>false
 | p::r=>(Nat.ble p.1 lo&&Nat.ble hi p.2)||rIn lo hi r
def LD(w:List (Nat×Nat)):List (Nat×Nat)→Bool
 | []=>true
 | q::r=>rIn q.1 q.2 w&&LD w r
def GI{α:Type}(w:List (Nat×Nat)):List (Nat×α)→Bool
 | []=>true
 | p::r=>inR p.1 w&&GI w r
/-- What is left when w's are taken off. -/
def SS.strip{α:Type}(w:List (Nat×Nat)):SS α→SS α
 | .nil=> .nil
 | .cons j a r=>bif inR j w then r.strip w else .cons j a r
 | .many l r=>bif GI w l then r.strip w else .many l r
 | .drop l r=>bif LD w l then r.strip w else .drop l r

theorem QI{lo hi i:Nat}(h1:lo≤i)(h2:i≤hi): ∀ {w:List (Nat×Nat)},rIn lo hi w=true→inR i w=true
 | [],h=>h
 | p::r,h=>by
  simp only[rIn,Bool.or_eq_true,Bool.and_eq_true]at h
  simp only[inR,Bool.or_eq_true,Bool.and_eq_true]
  rcases h with h | h
  ·exact .inl ⟨Nat.ble_eq_true_of_le (Nat.le_trans (Nat.le_of_ble_eq_true h.1) h1),Nat.ble_eq_true_of_le (Nat.le_trans h2 (Nat.le_of_ble_eq_true h.2))⟩
  ·exact .inr (QI h1 h2 h)
theorem Gn{w:List (Nat×Nat)}{i:Nat}(hi:inR i w=false): ∀ {l:List (Nat×Nat)},LD w l=true→inR i l=false
 | [],_=>rfl
 | q::r,h=>by
  simp only[LD,Bool.and_eq_true]at h
  simp only[inR,Gn hi h.2,Bool.or_false]
  cases e:(Nat.ble q.1 i&&Nat.ble i q.2)with
  | false=>rfl
  | true=>
   simp only[Bool.and_eq_true]at e
   rw[QI (Nat.le_of_ble_eq_true e.1) (Nat.le_of_ble_eq_true e.2) h.1]at hi; cases hi
theorem CL{α:Type}{w:List (Nat×Nat)}{i:Nat}(hi:inR i w=false): ∀ {l:List (Nat×α)},GI w l=true→cU i l=none
 | [],_=>rfl
 | (j,a)::r,h=>by
  simp only[GI,Bool.and_eq_true]at h
  simp only[cU]
  cases e:Nat.beq i j with
  | false=>exact CL hi h.2
  | true=>have:=Nat.eq_of_beq_eq_true e; subst this; rw[h.1]at hi; cases hi
theorem sX{α:Type}{w:List (Nat×Nat)}{i:Nat}(hi:inR i w=false): ∀s:SS α,(s.strip w).get i=s.get i
 | .nil=>rfl
 | .cons j a r=>by
  simp only[SS.strip]
  cases h:inR j w with
  | false=>rfl
  | true=>
   simp only[cond_true,SS.get]
   rw[sX hi r]
   cases e:Nat.beq i j with
   | false=>rfl
   | true=>have:=Nat.eq_of_beq_eq_true e; subst this; rw[h]at hi; cases hi
 | .many l r=>by
  simp only[SS.strip]
  cases h:GI w l with
  | false=>rfl
  | true=>
   simp only[cond_true,SS.get]
   rw[sX hi r,CL hi h]
 | .drop l r=>by
  simp only[SS.strip]
  cases h:LD w l with
  | false=>rfl
  | true=>
   simp only[cond_true,SS.get]
   rw[sX hi r,Gn hi h]; rfl

/-- s tells all that t tells. -/
structure LeS {α:Type} (t s:SS α):Prop where
 get: ∀i a,t.get i=some a→s.get i=some a
theorem lb{α:Type}{w:List (Nat×Nat)}{s0 s:SS α}(h:s.strip w=s0.strip w):LeS (.drop w s0) s:=⟨fun i a hi=>by
 simp only[SS.get]at hi
 cases hw:inR i w with
 | true=>rw[hw]at hi; cases hi
 | false=>rw[hw]at hi; rw[←sX hw s,h,sX hw s0]; exact hi⟩
theorem lm{α:Type}{s r:SS α}(h:LeS r s):LeS (.many [] r) s:=⟨fun i a hi=>h.get i a hi⟩
theorem lc{α:Type}{i:Nat}{a:α}{l:List (Nat×α)}{s r:SS α}(h0:s.get i=some a)(h:LeS (.many l r) s):LeS (.many ((i,a)::l) r) s:=⟨fun j b hj=>by
 simp only[SS.get,cU]at hj
 cases e:Nat.beq j i with
 | true=>
  have:=Nat.eq_of_beq_eq_true e
  subst this
  rw[Nat.beq_refl]at hj
  simp only[cond_true,Option.some.injEq]at hj
  subst hj; exact h0
 | false=>rw[e]at hj; exact h.get j b (by simpa [SS.get]using hj)⟩

def GS{α:Type}(s:SS α):List (Nat×α)→Option (List α)
 | []=>some []
 | p::r=>match s.get p.1,GS s r with
  | some a,some l=>some (a::l)
  | _,_=>none
def vB{α:Type}:List (Nat×α)→List α
 | []=> []
 | p::r=>p.2::vB r
theorem AD{α:Type}{s s0:SS α}{w:List (Nat×Nat)}(h:s.strip w=s0.strip w): ∀ {l:List (Nat×α)},GS s l=some (vB l)→LeS (.many l (.drop w s0)) s
 | [],_=>lm (lb h)
 | (i,a)::r,h2=>by
  simp only[GS,vB]at h2
  split at h2<;>try cases h2
  rename_i b l h3 h4
  exact lc h3 (AD h h4)

structure Mt (S:SS V) (O:SS (List T)) (x:D):Prop where
 sl: ∀i v,S.get i=some v→x.sl i=v
 ob: ∀o cs,O.get o=some cs→x.ob o=some cs
theorem Mt.le{S S':SS V}{O O':SS (List T)}{x:D}(h:Mt S O x)(h1:LeS S' S)(h2:LeS O' O):Mt S' O' x:=⟨fun i v hi=>h.sl i v (h1.get i v hi),fun o cs ho=>h.ob o cs (h2.get o cs ho)⟩
theorem Mt.put{S:SS V}{O:SS (List T)}{x:D}(h:Mt S O x)(d:Nat)(v:V):Mt (.cons d v S) O (x.put d v):=⟨fun i u hi=>by
 simp only[SS.get]at hi
 simp only[D.put]
 cases e:Nat.beq i d with
 | true=>
  rw[e]at hi
  simp only[cond_true,Option.some.injEq]at hi
  rw[if_pos (Nat.eq_of_beq_eq_true e)]; exact hi
 | false=>
  rw[e]at hi
  rw[if_neg (fun e2=>by subst e2; rw[Nat.beq_refl]at e; cases e)]
  exact h.sl i u hi,h.ob⟩
theorem Mt.setO{S:SS V}{O:SS (List T)}{x:D}(h:Mt S O x)(o:Nat)(cs:List T):Mt S (.cons o cs O) (x.setO o cs):=⟨h.sl,fun i u hi=>by
 simp only[SS.get]at hi
 simp only[D.setO]
 cases e:Nat.beq i o with
 | true=>
  rw[e]at hi
  simp only[cond_true,Option.some.injEq]at hi
  rw[if_pos (Nat.eq_of_beq_eq_true e),hi]
 | false=>
  rw[e]at hi
  rw[if_neg (fun e2=>by subst e2; rw[Nat.beq_refl]at e; cases e)]
  exact h.ob i u hi⟩
/-- A slot's datum told anew by what is equal to it. -/
theorem Mt.su{S:SS V}{O:SS (List T)}{x:D}(h:Mt S O x){d:Nat}{v u:V}(hv:S.get d=some v)(e:v=u):Mt (.cons d u S) O x:=by
 have:=h.put d u
 rwa[Oz (by rw[h.sl d v hv,e])]at this

/-! ### operands -/
def evS(S:SS V):Operand→Option V
 | .tmp t=>S.get t
 | .const v=>some (bI v)
 | .func f=>some (.one (.fn f []))
 | .global _=>none
def atS(S:SS V)(O:SS (List T)):Loc→Option T
 | .s i _ j=>(S.get i).bind (·.leaf 0 j)
 | .oc o j=>(O.get o).bind (·[j]?)
 | _=>none
/-- What is read. -/
def rdS(S:SS V)(O:SS (List T))(y:Operand):Option V:=match evS S y with
 | some (.one (.al (.s i 0 j) []))=>match atS S O (.s i 0 j)with | some t=>some (.one (.c t)) | none=>none
 | some (.one (.al (.oc o j) []))=>match atS S O (.oc o j)with | some t=>some (.one (.c t)) | none=>none
 | some (.one (.al _ _))=>none
 | v=>v
def gS(ds:List (Option Nat))(S:SS V):Option (Nat×Bool)→Option Bool
 | none=>some true
 | some (j,want)=>match ds[j]? with
  | some (some t)=>(match S.get t with
   | some (.one (.c (.bool true)))=>some want
   | some (.one (.c (.bool false)))=>some (!want)
   | some (.tup [])=>some false
   | _=>none)
  | _=>none

section
variable {S:SS V} {O:SS (List T)} {x:D}
theorem Mt.ev(h:Mt S O x){y:Operand}{v:V}(hv:evS S y=some v):Own.ev x.sl y=v:=by
 cases y with
 | tmp t=>exact h.sl t v hv
 | const c=>exact Option.some.inj hv
 | func f=>exact Option.some.inj hv
 | global g=>cases hv
theorem Mt.at(h:Mt S O x){l:Loc}{t:T}(hk: ∀i k j,l= .s i k j→k=0)(hv:atS S O l=some t):x.at l=some t:=by
 cases l with
 | s i k j=>
  have:=hk i k j rfl
  subst this
  simp only[atS,Option.bind_eq_some_iff]at hv
  obtain⟨v,h1,h2⟩:=hv
  simp only[D.at,atL,h.sl i v h1,h2]
 | oc o j=>
  simp only[atS,Option.bind_eq_some_iff]at hv
  obtain⟨v,h1,h2⟩:=hv
  simp only[D.at,atL,h.ob o v h1,Option.bind_some,h2]
 | _=>cases hv
theorem Mt.rd(h:Mt S O x){y:Operand}{v:V}(hv:rdS S O y=some v):evD x y=v:=by
 unfold rdS at hv
 unfold evD
 split at hv
 ·rename_i i j he
  rw[h.ev he]
  split at hv
  ·rename_i t ht
   have:=h.at (l:= .s i 0 j) (fun i k j e=>by cases e; rfl) ht
   simp only[D.at]at this
   simp only[vD,this,Option.bind_some,nav]
   exact Option.some.inj hv
  ·cases hv
 ·rename_i o j he
  rw[h.ev he]
  split at hv
  ·rename_i t ht
   have:=h.at (l:= .oc o j) (fun i k j e=>by cases e) ht
   simp only[D.at]at this
   simp only[vD,this,Option.bind_some,nav]
   exact Option.some.inj hv
  ·cases hv
 ·cases hv
 ·rename_i h1 h2 h3
  cases v with
  | tup ws=>rw[h.ev hv]; rfl
  | one w=>
   rw[h.ev hv]
   cases w with
   | al l p=>exact absurd hv (h3 l p)
   | _=>rfl
theorem Mt.gd(h:Mt S O x){ds:List (Option Nat)}{gd:Option (Nat×Bool)}{b:Bool}(hg:gS ds S gd=some b):bG ds x gd=some b:=by
 unfold gS at hg
 unfold bG
 split at hg
 ·exact hg
 ·rename_i j want
  split at hg
  ·rename_i t hd
   simp only[hd]
   split at hg<;>try cases hg
   ·rename_i e; rw[h.sl t _ e]; cases b<;>rfl
   ·rename_i e; rw[h.sl t _ e]; cases want<;>rfl
   ·rename_i e; rw[h.sl t _ e]
  ·cases hg
end

/-! ### code -/
inductive Kt where
 | seq (b:Code) (k:Kt)
 | blk (id:Nat) (k:Kt)
 | top (Q:Ek→D→Prop)

section
variable (P:Program) (τ:TypeId→Option TI) (An:FuncId→FA) (F:FA)
def Kt.den:Kt→Ek→D→Prop
 | .seq b k=>Sj (fun x=>vcC P τ An F b x k.den) k.den
 | .blk id k=>blkD id k.den
 | .top Q=>Q

structure Vo (ds:List (Option Nat)) (os:List Oper) (k:Kt) (S:SS V) (O:SS (List T)):Prop where
 run: ∀x,Mt S O x→bB P τ An F ds os x (fun x1=>k.den P τ An F .n x1)
structure Vc (c:Code) (k:Kt) (S:SS V) (O:SS (List T)):Prop where
 run: ∀x,Mt S O x→vcC P τ An F c x (k.den P τ An F)
structure Fb (Q:Ek→D→Prop) (e:Ek) (S:SS V) (O:SS (List T)):Prop where
 run: ∀x,Mt S O x→Q e x
def nxt:Kt→SS V→SS (List T)→Prop
 | .seq b k,S,O=>Vc P τ An F b k S O
 | .blk _ k,S,O=>nxt k S O
 | .top Q,S,O=>Fb Q .n S O
def exi:Kt→Nat→SS V→SS (List T)→Prop
 | .seq _ k,i,S,O=>exi k i S O
 | .blk id k,i,S,O=>bif Nat.beq i id then nxt P τ An F k S O else exi k i S O
 | .top Q,i,S,O=>Fb Q (.e i) S O
def rtn:Kt→SS V→SS (List T)→Prop
 | .seq _ k,S,O=>rtn k S O
 | .blk _ k,S,O=>rtn k S O
 | .top Q,S,O=>Fb Q .r S O
def aft(k:Kt)(e:Ek)(S:SS V)(O:SS (List T)):Prop:=match e with
 | .n=>nxt P τ An F k S O
 | .r=>rtn k S O
 | .e i=>exi P τ An F k i S O
end

section
variable {P:Program} {τ:TypeId→Option TI} {An:FuncId→FA} {F:FA} {k:Kt} {S:SS V} {O:SS (List T)}
theorem AT: ∀ {k:Kt},nxt P τ An F k S O→ ∀x,Mt S O x→k.den P τ An F .n x
 | .seq b k,h,x,hx=>h.run x hx
 | .blk id k,h,x,hx=>by
  show k.den P τ An F (nR id .n) x
  have:nR id .n= .n:=rfl
  rw[this]; exact AT (k:=k) h x hx
 | .top Q,h,x,hx=>h.run x hx
theorem Ic{i:Nat}: ∀ {k:Kt},exi P τ An F k i S O→ ∀x,Mt S O x→k.den P τ An F (.e i) x
 | .seq b k,h,x,hx=>Ic (k:=k) h x hx
 | .blk id k,h,x,hx=>by
  show k.den P τ An F (nR id (.e i)) x
  simp only[exi]at h
  cases e:Nat.beq i id with
  | true=>
   have:=Nat.eq_of_beq_eq_true e
   subst this
   rw[e]at h
   have:nR i (.e i)= .n:=by simp [nR]
   rw[this]; exact AT h x hx
  | false=>
   rw[e]at h
   have:nR id (.e i)= .e i:=by
    unfold nR
    rw[if_neg]
    intro e2
    cases e2
    rw[Nat.beq_refl]at e; cases e
   rw[this]; exact Ic (k:=k) h x hx
 | .top Q,h,x,hx=>h.run x hx
theorem IV: ∀ {k:Kt},rtn k S O→ ∀x,Mt S O x→k.den P τ An F .r x
 | .seq b k,h,x,hx=>IV (k:=k) h x hx
 | .blk id k,h,x,hx=>by
  show k.den P τ An F (nR id .r) x
  have:nR id .r= .r:=rfl
  rw[this]; exact IV (k:=k) h x hx
 | .top Q,h,x,hx=>h.run x hx
theorem QV{e:Ek}(h:aft P τ An F k e S O): ∀x,Mt S O x→k.den P τ An F e x:=by
 cases e with
 | n=>exact AT h
 | r=>exact IV h
 | e i=>exact Ic h

theorem cSq{a b:Code}(h:Vc P τ An F a (.seq b k) S O):Vc P τ An F (.seq a b) k S O:=⟨fun x hx=>h.run x hx⟩
theorem cSk(h:nxt P τ An F k S O):Vc P τ An F .skip k S O:=⟨fun x hx=>AT h x hx⟩
theorem cLb{l:Nat}(h:nxt P τ An F k S O):Vc P τ An F (.label l) k S O:=⟨fun x hx=>AT h x hx⟩
theorem cEx{i:Nat}(h:exi P τ An F k i S O):Vc P τ An F (.exit i) k S O:=⟨fun x hx=>Ic h x hx⟩
theorem cRt(h:rtn k S O):Vc P τ An F .ret k S O:=⟨fun x hx=>IV h x hx⟩
theorem cBk{id:Nat}{c:Code}(h:Vc P τ An F c (.blk id k) S O):Vc P τ An F (.block id c) k S O:=⟨fun x hx=>h.run x hx⟩
theorem cRg{id:Nat}{ops:List Oper}{dr:Bool}(h:Vo P τ An F (ops.map (·.dst)) ops k S O)(hm:cU id F.mks=none:=by exact rfl):Vc P τ An F (.region id ops.toArray dr) k S O:=⟨fun x hx=> .inl ⟨hm,h.run x hx⟩⟩
theorem cRs{id:Nat}{ops:List Oper}{dr:Bool}{b:Code}(h:Vo P τ An F (ops.map (·.dst)) ops (.seq b k) S O)(hm:cU id F.mks=none:=by exact rfl):Vc P τ An F (.seq (.region id ops.toArray dr) b) k S O:=⟨fun x hx=> .inl ⟨hm,h.run x hx⟩⟩
theorem cT{t:Nat}{a b:Code}(hc:S.get t=some (.one (.c (.bool true))))(h:Vc P τ An F a k S O):Vc P τ An F (.cond (.tmp t) a b) k S O:=⟨fun x hx=>c_ct (hx.sl t _ hc) (h.run x hx)⟩
theorem cF{t:Nat}{a b:Code}(hc:S.get t=some (.one (.c (.bool false))))(h:Vc P τ An F b k S O):Vc P τ An F (.cond (.tmp t) a b) k S O:=⟨fun x hx=>c_cf (hx.sl t _ hc) (h.run x hx)⟩
theorem cIf{ρ:Type}{A B:Option ρ}{r:ρ}{e:Bool}{t:Nat}{a b:Code}(h:(bif e then A else B)=some r)(hc:S.get t=some (.one (.c (.bool e))))(h1:e=true→A=some r→Vc P τ An F a k (.cons t (.one (.c (.bool true))) S) O)(h0:e=false→B=some r→Vc P τ An F b k (.cons t (.one (.c (.bool false))) S) O):Vc P τ An F (.cond (.tmp t) a b) k S O:=by
 cases e with
 | true=>exact⟨fun x hx=>c_ct (hx.sl t _ hc) ((h1 rfl h).run x (hx.su hc rfl))⟩
 | false=>exact⟨fun x hx=>c_cf (hx.sl t _ hc) ((h0 rfl h).run x (hx.su hc rfl))⟩
/-! ### joins -/
abbrev Up:=List (Nat×V)
abbrev Uo:=List (Nat×List T)
def JQ{ρ:Type}(X:ρ→Ek×Up×Uo)(w wo:List (Nat×Nat))(S:SS V)(O:SS (List T))(q:ρ)(e:Ek)(x:D):Prop:=e=(X q).1∧Mt (.many (X q).2.1 (.drop w S)) (.many (X q).2.2 (.drop wo O)) x
theorem eJ{ρ:Type}{X:ρ→Ek×Up×Uo}{w wo:List (Nat×Nat)}{S0:SS V}{O0:SS (List T)}{q0 q:ρ}{e:Ek}(h:some q0=some q)(hl:(e,GS S (X q0).2.1,GS O (X q0).2.2,S.strip w,O.strip wo)=((X q0).1,some (vB (X q0).2.1),some (vB (X q0).2.2),S0.strip w,O0.strip wo)):Fb (JQ X w wo S0 O0 q) e S O:=by
 cases h
 simp only[Prod.mk.injEq]at hl
 obtain⟨he,h1,h2,h3,h4⟩:=hl
 exact⟨fun x hx=>⟨he,hx.le (AD h3 h1) (AD h4 h2)⟩⟩
/-- A piece of code that ends in several ways, told by one value. -/
theorem cJn{ρ β:Type}{o:Option ρ}{f:ρ→Option β}{r:β}{c:Code}(h:o.bind f=some r)(w wo:List (Nat×Nat))(X:ρ→Ek×Up×Uo)(h1: ∀q,o=some q→Vc P τ An F c (.top (JQ X w wo S O q)) S O)
  (h2: ∀q,f q=some r→aft P τ An F k (X q).1 (.many (X q).2.1 (.drop w S)) (.many (X q).2.2 (.drop wo O))):Vc P τ An F c k S O:=by
 obtain⟨q,hq,hf⟩:=bind_some h
 refine⟨fun x hx=>Ew (fun e x1 hh=> ?_) ((h1 q hq).run x hx)⟩
 obtain⟨rfl,hm⟩:=hh
 exact QV (h2 q hf) x1 hm
/-- A region with ways that join behind it. -/
theorem oJn{ρ β:Type}{o:Option ρ}{f:ρ→Option β}{r:β}{ds:List (Option Nat)}{os:List Oper}(h:o.bind f=some r)(w wo:List (Nat×Nat))(X:ρ→Ek×Up×Uo)(h1: ∀q,o=some q→Vo P τ An F ds os (.top (JQ X w wo S O q)) S O)
  (h2: ∀q,f q=some r→aft P τ An F k (X q).1 (.many (X q).2.1 (.drop w S)) (.many (X q).2.2 (.drop wo O)))(hn: ∀q,(X q).1= .n:=by intro; rfl):Vo P τ An F ds os k S O:=by
 obtain⟨q,hq,hf⟩:=bind_some h
 refine⟨fun x hx=>EK (fun x1 hh=> ?_) ((h1 q hq).run x hx)⟩
 obtain⟨he,hm⟩:=hh
 have h3:=h2 q hf
 rw[hn q]at h3
 exact AT h3 x1 hm

/-! ### loops -/
def LQ{σ ρ:Type}(u:σ→Up×Uo)(X:ρ→Ek×Up×Uo)(w wo:List (Nat×Nat))(S:SS V)(O:SS (List T))(o:σ⊕ρ)(e:Ek)(x:D):Prop:=match o with
 | .inl s=>e= .n∧Mt (.many (u s).1 (.drop w S)) (.many (u s).2 (.drop wo O)) x
 | .inr q=>e≠ .n∧e=(X q).1∧Mt (.many (X q).2.1 (.drop w S)) (.many (X q).2.2 (.drop wo O)) x
theorem eL{σ ρ:Type}{u:σ→Up×Uo}{X:ρ→Ek×Up×Uo}{w wo:List (Nat×Nat)}{S0:SS V}{O0:SS (List T)}{s:σ}{o:σ⊕ρ}(h:some (.inl s)=some o)(hl:(GS S (u s).1,GS O (u s).2,S.strip w,O.strip wo)=(some (vB (u s).1),some (vB (u s).2),S0.strip w,O0.strip wo)):Fb (LQ u X w wo S0 O0 o) .n S O:=by
 cases h
 simp only[Prod.mk.injEq]at hl
 obtain⟨h1,h2,h3,h4⟩:=hl
 exact⟨fun x hx=>⟨rfl,hx.le (AD h3 h1) (AD h4 h2)⟩⟩
theorem eX{σ ρ:Type}{u:σ→Up×Uo}{X:ρ→Ek×Up×Uo}{w wo:List (Nat×Nat)}{S0:SS V}{O0:SS (List T)}{q:ρ}{o:σ⊕ρ}{i:Nat}(h:some (.inr q)=some o)(hl:(Ek.e i,GS S (X q).2.1,GS O (X q).2.2,S.strip w,O.strip wo)=((X q).1,some (vB (X q).2.1),some (vB (X q).2.2),S0.strip w,O0.strip wo)):Fb (LQ u X w wo S0 O0 o) (.e i) S O:=by
 cases h
 simp only[Prod.mk.injEq]at hl
 obtain⟨he,h1,h2,h3,h4⟩:=hl
 exact⟨fun x hx=>⟨nofun,he,hx.le (AD h3 h1) (AD h4 h2)⟩⟩
theorem eXr{σ ρ:Type}{u:σ→Up×Uo}{X:ρ→Ek×Up×Uo}{w wo:List (Nat×Nat)}{S0:SS V}{O0:SS (List T)}{q:ρ}{o:σ⊕ρ}(h:some (.inr q)=some o)(hl:(.r,GS S (X q).2.1,GS O (X q).2.2,S.strip w,O.strip wo)=((X q).1,some (vB (X q).2.1),some (vB (X q).2.2),S0.strip w,O0.strip wo)):Fb (LQ u X w wo S0 O0 o) .r S O:=by
 cases h
 simp only[Prod.mk.injEq]at hl
 obtain⟨he,h1,h2,h3,h4⟩:=hl
 exact⟨fun x hx=>⟨nofun,he,hx.le (AD h3 h1) (AD h4 h2)⟩⟩
theorem cLp{σ ρ β:Type}{body:σ→Option (σ⊕ρ)}{n:Nat}{s0:σ}{f:ρ→Option β}{r:β}{c:Code}{id:Nat}(h:(loopN body n s0).bind f=some r)(w wo:List (Nat×Nat))(u:σ→Up×Uo)(X:ρ→Ek×Up×Uo)(hl:(GS S (u s0).1,GS O (u s0).2)=(some (vB (u s0).1),some (vB (u s0).2)))
  (hb: ∀s o,body s=some o→Vc P τ An F c (.top (LQ u X w wo S O o)) (.many (u s).1 (.drop w S)) (.many (u s).2 (.drop wo O)))
  (hx: ∀q,f q=some r→aft P τ An F (.blk id k) (X q).1 (.many (X q).2.1 (.drop w S)) (.many (X q).2.2 (.drop wo O))):Vc P τ An F (.block id (.loop c)) k S O:=by
 obtain⟨q,hq,hf⟩:=bind_some h
 simp only[Prod.mk.injEq]at hl
 have hi:LeS (.many (u s0).1 (.drop w S)) S:=AD rfl hl.1
 have hio:LeS (.many (u s0).2 (.drop wo O)) O:=AD rfl hl.2
 refine⟨fun x hx0=>SJ ?_⟩
 refine Wd.loopN (fun s x=>Mt (.many (u s).1 (.drop w S)) (.many (u s).2 (.drop wo O)) x) (fun q e x=>e=(X q).1∧Mt (.many (X q).2.1 (.drop w S)) (.many (X q).2.2 (.drop wo O)) x) ?_ hq (hx0.le hi hio) ?_
 ·intro s o x hs ho
  refine Ew (fun e x1 hh=> ?_) ((hb s o ho).run x hs)
  cases o with
  | inl s'=>exact hh
  | inr q=>exact hh
 ·intro e x1 ⟨he,hm⟩
  subst he
  exact QV (k:= .blk id k) (hx q hf) x1 hm

/-! ### a function's end -/
def UU(τ:TypeId→Option TI)(S:SS V)(O:SS (List T)):ResultVar→Option W
 | .tmp t=>(match S.get t with | some (.one w)=>some w | _=>none)
 | .cell t ty=>(match τ ty,S.get t with
  | some i,some (.one (.ptr o p))=>(match O.get o with
   | some cells=>(match nD i (cells.drop p)with | some (.one w)=>some w | _=>none)
   | none=>none)
  | _,_=>none)
def HN(τ:TypeId→Option TI)(S:SS V)(O:SS (List T)):List ResultVar→Option (List W)
 | []=>some []
 | r::rs=>match UU τ S O r,HN τ S O rs with
  | some w,some ws=>some (w::ws)
  | _,_=>none
theorem RL{x:D}(hx:Mt S O x){r:ResultVar}{w:W}(h:UU τ S O r=some w):OV τ x r=some w:=by
 cases r with
 | tmp t=>
  simp only[UU]at h
  split at h<;>try cases h
  rename_i e
  simp only[OV,hx.sl t _ e]
 | cell t ty=>
  simp only[UU]at h
  split at h<;>try cases h
  rename_i i o p h1 h2
  split at h<;>try cases h
  rename_i cells h3
  simp only[OV,h1,hx.sl t _ h2,hx.ob o _ h3]
  exact h
theorem Ja{x:D}(hx:Mt S O x): ∀ {rs:List ResultVar} {ws:List W},HN τ S O rs=some ws→DL τ x rs=some ws
 | [],ws,h=>h
 | r::rs,ws,h=>by
  simp only[HN]at h
  split at h<;>try cases h
  rename_i w ws' h1 h2
  simp only[DL,RL hx h1,Ja hx h2]
def OX(O:SS (List T)):Nat→List (List T)→Option (List (List T))
 | _,[]=>some []
 | i,_::r=>match O.get (par+i),OX O (i+1) r with
  | some cs,some css=>some (cs::css)
  | _,_=>none
theorem ME{x:D}(hx:Mt S O x): ∀ {l:List (List T)} {i:Nat} {l':List (List T)},OX O i l=some l'→yU x i l=some l'
 | [],i,l',h=>h
 | a::r,i,l',h=>by
  simp only[OX]at h
  split at h<;>try cases h
  rename_i cs css h1 h2
  simp only[yU,hx.ob _ _ h1,ME hx h2]
def nwS(O:SS (List T)):Option Nat→Option (Option (List T))
 | none=>some none
 | some o=>match O.get o with | some cs=>some (some cs) | none=>none
def FQ(τ:TypeId→Option TI)(F:FA)(rs:List ResultVar)(ob:List (List T))(r:V)(ob':List (List T))(nw:Option (List T))(e:Ek)(x:D):Prop:=(e= .n∨e= .r)∧ ∃ws,DL τ x rs=some ws∧(Ho ws).to (tI F.n0)=r∧yU x 0 ob=some ob'∧F.n0.bind x.ob=nw
theorem eN{rs:List ResultVar}{ob ob':List (List T)}{r:V}{nw:Option (List T)}{ws:List W}(h1:HN τ S O rs=some ws)(h2:(Ho ws).to (tI F.n0)=r)(h3:OX O 0 ob=some ob')(h4:nwS O F.n0=some nw):Fb (FQ τ F rs ob r ob' nw) .n S O:=⟨fun x hx=>⟨.inl rfl,ws,Ja hx h1,h2,ME hx h3,by
 revert h4
 cases F.n0 with
 | none=>intro h4; exact Option.some.inj h4
 | some o=>
  intro h4
  simp only[nwS]at h4
  split at h4<;>try cases h4
  rename_i e
  exact hx.ob _ _ e⟩⟩
theorem eR{rs:List ResultVar}{ob ob':List (List T)}{r:V}{nw:Option (List T)}{ws:List W}(h1:HN τ S O rs=some ws)(h2:(Ho ws).to (tI F.n0)=r)(h3:OX O 0 ob=some ob')(h4:nwS O F.n0=some nw):Fb (FQ τ F rs ob r ob' nw) .r S O:=⟨fun x hx=>by
 obtain⟨_,h⟩:=(eN (F:=F) h1 h2 h3 h4).run x hx
 exact⟨.inr rfl,h⟩⟩

def SU:Nat→List V→List (Nat×V)
 | _,[]=> []
 | i,v::r=>(i,v)::SU (i+1) r
def SV:Nat→List (List T)→List (Nat×List T)
 | _,[]=> []
 | i,v::r=>(par+i,v)::SV (i+1) r
theorem Gs: ∀(vs:List V) (i j:Nat) (v:V),cU j (SU i vs)=some v→i≤j∧vs[j - i]? =some v
 | [],i,j,v,h=>by cases h
 | u::r,i,j,v,h=>by
  simp only[SU,cU]at h
  cases e:Nat.beq j i with
  | true=>
   have:=Nat.eq_of_beq_eq_true e
   subst this
   rw[e]at h
   simp only[cond_true,Option.some.injEq]at h
   subst h
   exact⟨Nat.le_refl _,by rw[Nat.sub_self]; rfl⟩
  | false=>
   rw[e]at h
   obtain⟨h1,h2⟩:=Gs r (i+1) j v h
   refine⟨by omega, ?_⟩
   rw[show j - i=(j - (i+1))+1 by omega]; exact h2
theorem Gu: ∀(vs:List (List T)) (i j:Nat) (v:List T),cU j (SV i vs)=some v→par+i≤j∧vs[j - (par+i)]? =some v
 | [],i,j,v,h=>by cases h
 | u::r,i,j,v,h=>by
  simp only[SV,cU]at h
  cases e:Nat.beq j (par+i)with
  | true=>
   have:=Nat.eq_of_beq_eq_true e
   subst this
   rw[Nat.beq_refl]at h
   simp only[cond_true,Option.some.injEq]at h
   subst h
   exact⟨Nat.le_refl _,by rw[Nat.sub_self]; rfl⟩
  | false=>
   rw[e]at h
   obtain⟨h1,h2⟩:=Gu r (i+1) j v h
   refine⟨by omega, ?_⟩
   rw[show j - (par+i)=(j - (par+(i+1)))+1 by omega]; exact h2
theorem Mt.start{vs:List V}{ob:List (List T)}:Mt (.many (SU 0 vs) .nil) (.many (SV 0 ob) .nil) (DA vs ob):=⟨fun i v h=>by
 simp only[SS.get]at h
 split at h<;>try cases h
 rename_i h1
 have:=(Gs vs 0 i v h1).2
 show vs.getD i _=v
 rw[Nat.sub_zero]at this
 rw[List.getD_eq_getElem?_getD,this]; rfl,fun o cs h=>by
 simp only[SS.get]at h
 split at h<;>try cases h
 rename_i h1
 obtain⟨h2,h3⟩:=Gu ob 0 o cs h1
 show(if par≤o then ob[o - par]? else none)=some cs
 rw[if_pos (by omega)]; exact h3⟩
/-- A function's run. -/
theorem bF{f:FuncId}{fn:Func}{c:Code}{vs:List V}{ob ob':List (List T)}{r:V}{nw:Option (List T)}(hf:P.funcs[f]? =some fn)(hb:fn.body=some c)(hq:(pH (An f) 0 vs&&rG (An f) 0 ob&& !(An f).io.isSome)=true)
  (h:Vc P τ An (An f) c (.top (FQ τ (An f) fn.results.toList ob r ob' nw)) (.many (SU 0 vs) .nil) (.many (SV 0 ob) .nil)):Big P τ An (.fn f vs ob r none ob' nw):=by
 simp only[Bool.and_eq_true]at hq
 refine Big.of hf hb hq.1.1 hq.1.2 ?_ (Ew (fun e x hh=> ?_) (h.run _ Mt.start))
 ·have:=hq.2
  revert this
  cases (An f).io<;>simp
 ·obtain⟨h0,ws,h1,h2,h3,h4⟩:=hh
  exact⟨h0,ws,h1,h2,h3,h4⟩
end
end Go.Own

/- Walks in few words: the operations. -/
namespace Go.Own
open Go.RowKit

abbrev I64(a:Int):V:= .one (.c (.int .i64 a))
abbrev U8(a:Int):V:= .one (.c (.int .u8 a))
abbrev Bo(b:Bool):V:= .one (.c (.bool b))
abbrev Li{α:Type}(f:α→List T)(l:List α):V:= .one (.c (.sl (l.map f)))
def fOff(τ:TypeId→Option TI)(s:TypeId)(f:Nat):Option (Nat×Nat):=match tk τ s with
  | some (.struct fs)=>(match fs[f]? with | some q=>some (q.1,q.2.1) | none=>none)
  | _=>none
def ldS(τ:TypeId→Option TI)(S:SS V)(O:SS (List T))(t:TypeId)(v:Operand):Option V:=match τ t,evS S v with
  | some ti,some (.one (.ptr ob p))=>(match O.get ob with | some cells=>nD ti (cells.drop p) | none=>none)
  | some ti,some (.one (.cp xs))=>nD ti xs
  | _,_=>none
def Ny:List T→List T→List T
  | [],cs=>cs
  | x::r,_::cs=>x::Ny r cs
  | _::_,[]=> []
def OS:Nat→List T→List T→List T
  | 0,xs,cs=>Ny xs cs
  | p+1,xs,c::cs=>c::OS p xs cs
  | _+1,_,[]=> []
theorem Je: ∀ {xs cs:List T},xs.length≤cs.length→Ny xs cs=xs++cs.drop xs.length
  | [],cs,_=>rfl
  | x::r,c::cs,h=>by
    simp only[List.length_cons]at h
    simp only[Ny,Je (xs:=r) (cs:=cs) (by omega),List.length_cons,List.drop_succ_cons,List.cons_append]
  | x::r,[],h=>by simp at h
theorem Ls: ∀ {p:Nat} {xs cs:List T},p+xs.length≤cs.length→OS p xs cs=cs.take p++xs++cs.drop (p+xs.length)
  | 0,xs,cs,h=>by simp only[OS,Je (xs:=xs) (cs:=cs) (by omega),List.take_zero,List.nil_append,Nat.zero_add]
  | p+1,xs,c::cs,h=>by
    simp only[List.length_cons]at h
    simp only[OS,Ls (p:=p) (xs:=xs) (cs:=cs) (by omega),List.take_succ_cons,List.cons_append,show p+1+xs.length=(p+xs.length)+1 by omega,List.drop_succ_cons]
  | p+1,xs,[],h=>by simp at h
def stS(τ:TypeId→Option TI)(F:FA)(S:SS V)(O:SS (List T))(t:TypeId)(v y:Operand):Option (Nat×List T):=match τ t,evS S v,(evS S y).bind aO with
  | some ti,some (.one (.ptr ob p)),some xs=>(match O.get ob with
    | some cells=>bif Nat.beq xs.length ti.size&&Nat.ble (p+xs.length) cells.length&&eP (OS p xs cells) (F.obOf ob)then some (ob,OS p xs cells)else none
    | none=>none)
  | _,_,_=>none
def zS(τ:TypeId→Option TI)(t:TypeId):Option (List T):=match τ t with
  | some ⟨_,_,_,z,_,_⟩=>some z
  | none=>none
def elS(τ:TypeId→Option TI)(t:TypeId):Option TI:=match tk τ t with
  | some (.sl e)=>τ e
  | _=>none
theorem sT{τ:TypeId→Option TI}{t:TypeId}{ei:TI}(h:elS τ t=some ei): ∃e,tk τ t=some (.sl e)∧τ e=some ei:=by
  unfold elS at h
  split at h
  · rename_i e he; exact⟨e,he,h⟩
  · cases h
def UZ(S:SS V):List Operand→Option (List (Nat×Nat))
  | []=>some []
  | v::r=>match evS S v,UZ S r with
    | some (.one (.ptr o off)),some l=>some ((o,off)::l)
    | _,_=>none
def LA(S:SS V):List Operand→Option (List V)
  | []=>some []
  | v::r=>match evS S v,LA S r with
    | some a,some l=>some (a::l)
    | _,_=>none
def inA(S:SS V)(O:SS (List T))(os:List Nat):List Operand→Option (List V)
  | []=>some []
  | v::r=>match evS S v,rdS S O v,inA S O os r with
    | some u,some a,some l=>bif gC u then some (a.to (nG os)::l)else none
    | _,_,_=>none
def LZ:W→Bool
  | .junk=>false
  | .ptr _ _=>false
  | .fn _ _=>false
  | .al _ _=>false
  | .pp _ _ _ _=>false
  | _=>true
def DX:V→Bool
  | .one w=>LZ w
  | .tup ws=>ws.all LZ
theorem Gj{ρ:Nat→Option Nat}{w:W}(h:LZ w=true):w.to ρ=w:=by
  cases w<;>first | rfl | cases h
theorem Bi{ρ:Nat→Option Nat}{v:V}(h:DX v=true):v.to ρ=v:=by
  cases v with
  | one w=>exact congrArg V.one (Gj h)
  | tup ws=>
    show V.tup (ws.map (W.to ρ))=_
    rw[show ws.map (W.to ρ)=ws.map id from List.map_congr_left fun w hw=>Gj (List.all_eq_true.1 h w hw),List.map_id]

theorem fI{s:V}{κ:IntKind}{a b:Int}(h:fits (.one (.c (.int κ a))) s=true):fits (.one (.c (.int κ b))) s=true:=by
  cases s with
  | tup ws=>cases h
  | one w=>cases w<;>first | (cases h; done) | (rename_i z; cases z<;>first | exact h | rfl | cases h)
theorem fB{s:V}{a b:Bool}(h:fits (.one (.c (.bool a))) s=true):fits (.one (.c (.bool b))) s=true:=by
  cases s with
  | tup ws=>cases h
  | one w=>cases w<;>first | (cases h; done) | (rename_i z; cases z<;>first | exact h | rfl | cases h)
theorem fL{s:V}{a b:List (List T)}(h:fits (.one (.c (.sl a))) s=true):fits (.one (.c (.sl b))) s=true:=by
  cases s with
  | tup ws=>cases h
  | one w=>cases w<;>first | (cases h; done) | (rename_i z; cases z<;>first | exact h | rfl | cases h)

set_option linter.unusedVariables false
section
variable {P:Program} {τ:TypeId→Option TI} {An:FuncId→FA} {F:FA} {ds:List (Option Nat)} {r:List Oper} {k:Kt} {S:SS V} {O:SS (List T)} {ty:TypeId} {pos:String} {after:Array Edge} {gd:Option (Nat×Bool)} {d:Nat}

theorem FN{x:D}(hx:Mt S O x): ∀ {l:List Operand} {vs:List V},LA S l=some vs→l.map (ev x.sl)=vs
  | [],vs,h=>by cases h; rfl
  | v::r,vs,h=>by
    simp only[LA]at h
    split at h<;>try cases h
    rename_i a l h1 h2
    simp only[List.map_cons,hx.ev h1,FN hx h2]
theorem Mi{x:D}(hx:Mt S O x): ∀ {l:List Operand} {cs:List (Nat×Nat)},UZ S l=some cs→vS (l.map (ev x.sl))=some cs
  | [],cs,h=>by cases h; rfl
  | v::r,cs,h=>by
    simp only[UZ]at h
    split at h<;>try cases h
    rename_i o off l h1 h2
    simp only[List.map_cons,hx.ev h1,vS,Mi hx h2,Option.map_some]
theorem GL{x:D}(hx:Mt S O x){os:List Nat}: ∀ {l:List Operand} {vs:List V},inA S O os l=some vs→l.map (fun v=>(evD x v).to (nG os))=vs∧l.all (fun v=>gC (ev x.sl v))=true
  | [],vs,h=>by cases h; exact⟨rfl,rfl⟩
  | v::r,vs,h=>by
    simp only[inA]at h
    split at h<;>try cases h
    rename_i u a l h0 h1 h2
    obtain⟨c,h⟩:=aJ h
    cases h
    obtain⟨i1,i2⟩:=GL hx h2
    simp only[List.map_cons,hx.rd h1,i1,List.all_cons,hx.ev h0,c,i2,Bool.and_self,and_self]

theorem oNl(h:nxt P τ An F k S O):Vo P τ An F ds [] k S O:=⟨fun x hx=>Ot (AT h x hx)⟩
/-- Two ways. -/
theorem oIf{ρ:Type}{A B:Option ρ}{r0:ρ}{e:Bool}(t:Nat){os:List Oper}(h:(bif e then A else B)=some r0)(hc:S.get t=some (.one (.c (.bool e))))(h1:e=true→A=some r0→Vo P τ An F ds os k (.cons t (.one (.c (.bool true))) S) O)(h0:e=false→B=some r0→Vo P τ An F ds os k (.cons t (.one (.c (.bool false))) S) O):Vo P τ An F ds os k S O:=by
  cases e with
  | true=>exact⟨fun x hx=>(h1 rfl h).run x (hx.su hc rfl)⟩
  | false=>exact⟨fun x hx=>(h0 rfl h).run x (hx.su hc rfl)⟩
/-- A check. -/
theorem oCk{β:Type}{c:Bool}{f:Unit→Option β}{r0:β}{os:List Oper}(h:(ck c).bind f=some r0)(h1:c=true→f ()=some r0→Vo P τ An F ds os k S O):Vo P τ An F ds os k S O:=by
  obtain⟨u,h2,h3⟩:=bind_some h
  exact h1 (ck_of h2) h3

theorem wSk{op:Op}(hg:gS ds S gd=some false)(h:Vo P τ An F ds r k (.cons d (.tup []) S) O):Vo P τ An F ds (⟨some d,op,ty,pos,after,gd⟩::r) k S O:=
  ⟨fun x hx=>Ms (hx.gd hg) rfl (h.run _ (hx.put d _))⟩
theorem wMv{y:Operand}{v:V}(hg:gS ds S gd=some true)(hv:evS S y=some v)(hq:(!(mem d F.al)&&gC v&&fits v (F.shOf d))=true)(h:Vo P τ An F ds r k (.cons d v S) O):Vo P τ An F ds (⟨some d, .move y,ty,pos,after,gd⟩::r) k S O:=
  ⟨fun x hx=>mv (hx.gd hg) (hx.ev hv) hq (h.run _ (hx.put d _))⟩
theorem wAs{y:Operand}{v:V}(hg:gS ds S gd=some true)(hv:evS S y=some v)(hq:(gC v&&fits v (F.shOf d))=true)(h:Vo P τ An F ds r k (.cons d v S) O):Vo P τ An F ds (⟨some d, .assign y,ty,pos,after,gd⟩::r) k S O:=
  ⟨fun x hx=>asg (hx.gd hg) (hx.ev hv) hq (h.run _ (hx.put d _))⟩
theorem wPk{c y z:Operand}{b:Bool}{t:T}(hg:gS ds S gd=some true)(hc:evS S c=some (.one (.c (.bool b))))(hv:evS S (bif b then y else z)=some (.one (.c t)))(hq:(scal t&&fits (.one (.c t)) (F.shOf d))=true)(h:Vo P τ An F ds r k (.cons d (.one (.c t)) S) O):Vo P τ An F ds (⟨some d, .pick c y z,ty,pos,after,gd⟩::r) k S O:=
  ⟨fun x hx=>pk (hx.gd hg) (hx.ev hc) (hx.ev hv) hq (h.run _ (hx.put d _))⟩

/-! reads -/
set_option linter.unusedVariables false
theorem wBi{op:BinOp}{t t2:TypeId}{y z:Operand}(w:T){v1 v2:V}(hg:gS ds S gd=some true)(h1:rdS S O y=some v1)(h2:rdS S O z=some v2)(hr:Nr τ op t v1 v2=some w)(hf:fits (.one (.c w)) (F.shOf d)=true)(h:Vo P τ An F ds r k (.cons d (.one (.c w)) S) O):Vo P τ An F ds (⟨some d, .binOp op t y z t2,ty,pos,after,gd⟩::r) k S O:=
  ⟨fun x hx=>s_bin (hx.gd hg) (hx.rd h1) (hx.rd h2) hr hf (h.run _ (hx.put d _))⟩
section
variable {t t2:TypeId} {y z:Operand} {κ:IntKind} {a b:Int}
theorem rB{op:BinOp}{w:T}(h1:op≠ .shl)(h2:op≠ .shr)(h:OD op κ a b=some w):Nr τ op t (.one (.c (.int κ a))) (.one (.c (.int κ b)))=some w:=by
  cases op<;>first | exact absurd rfl h1 | exact absurd rfl h2 | (simp only[Nr,if_true]; exact h)
theorem wAdd(hg:gS ds S gd=some true)(h1:rdS S O y=some (.one (.c (.int κ a))))(h2:rdS S O z=some (.one (.c (.int κ b))))(hf:fits (.one (.c (.int κ 0))) (F.shOf d)=true)(h:Vo P τ An F ds r k (.cons d (.one (.c (.int κ (κ.wrap (a+b))))) S) O):Vo P τ An F ds (⟨some d, .binOp .add t y z t2,ty,pos,after,gd⟩::r) k S O:=
  wBi _ hg h1 h2 (rB nofun nofun rfl) (fI hf) h
theorem wSub(hg:gS ds S gd=some true)(h1:rdS S O y=some (.one (.c (.int κ a))))(h2:rdS S O z=some (.one (.c (.int κ b))))(hf:fits (.one (.c (.int κ 0))) (F.shOf d)=true)(h:Vo P τ An F ds r k (.cons d (.one (.c (.int κ (κ.wrap (a - b))))) S) O):Vo P τ An F ds (⟨some d, .binOp .sub t y z t2,ty,pos,after,gd⟩::r) k S O:=
  wBi _ hg h1 h2 (rB nofun nofun rfl) (fI hf) h
theorem wMul(hg:gS ds S gd=some true)(h1:rdS S O y=some (.one (.c (.int κ a))))(h2:rdS S O z=some (.one (.c (.int κ b))))(hf:fits (.one (.c (.int κ 0))) (F.shOf d)=true)(h:Vo P τ An F ds r k (.cons d (.one (.c (.int κ (κ.wrap (a*b))))) S) O):Vo P τ An F ds (⟨some d, .binOp .mul t y z t2,ty,pos,after,gd⟩::r) k S O:=
  wBi _ hg h1 h2 (rB nofun nofun rfl) (fI hf) h
theorem wEq(hg:gS ds S gd=some true)(h1:rdS S O y=some (.one (.c (.int κ a))))(h2:rdS S O z=some (.one (.c (.int κ b))))(hf:fits (Bo true) (F.shOf d)=true)(h:Vo P τ An F ds r k (.cons d (Bo (decide (a=b))) S) O):Vo P τ An F ds (⟨some d, .binOp .eql t y z t2,ty,pos,after,gd⟩::r) k S O:=
  wBi _ hg h1 h2 (rB nofun nofun rfl) (fB hf) h
theorem wNe(hg:gS ds S gd=some true)(h1:rdS S O y=some (.one (.c (.int κ a))))(h2:rdS S O z=some (.one (.c (.int κ b))))(hf:fits (Bo true) (F.shOf d)=true)(h:Vo P τ An F ds r k (.cons d (Bo (!decide (a=b))) S) O):Vo P τ An F ds (⟨some d, .binOp .neq t y z t2,ty,pos,after,gd⟩::r) k S O:=
  wBi _ hg h1 h2 (rB nofun nofun rfl) (fB hf) h
theorem wLt(hg:gS ds S gd=some true)(h1:rdS S O y=some (.one (.c (.int κ a))))(h2:rdS S O z=some (.one (.c (.int κ b))))(hf:fits (Bo true) (F.shOf d)=true)(h:Vo P τ An F ds r k (.cons d (Bo (decide (a<b))) S) O):Vo P τ An F ds (⟨some d, .binOp .lss t y z t2,ty,pos,after,gd⟩::r) k S O:=
  wBi _ hg h1 h2 (rB nofun nofun rfl) (fB hf) h
theorem wLe(hg:gS ds S gd=some true)(h1:rdS S O y=some (.one (.c (.int κ a))))(h2:rdS S O z=some (.one (.c (.int κ b))))(hf:fits (Bo true) (F.shOf d)=true)(h:Vo P τ An F ds r k (.cons d (Bo (decide (a≤b))) S) O):Vo P τ An F ds (⟨some d, .binOp .leq t y z t2,ty,pos,after,gd⟩::r) k S O:=
  wBi _ hg h1 h2 (rB nofun nofun rfl) (fB hf) h
theorem wGt(hg:gS ds S gd=some true)(h1:rdS S O y=some (.one (.c (.int κ a))))(h2:rdS S O z=some (.one (.c (.int κ b))))(hf:fits (Bo true) (F.shOf d)=true)(h:Vo P τ An F ds r k (.cons d (Bo (decide (b<a))) S) O):Vo P τ An F ds (⟨some d, .binOp .gtr t y z t2,ty,pos,after,gd⟩::r) k S O:=
  wBi _ hg h1 h2 (rB nofun nofun rfl) (fB hf) h
theorem wGe(hg:gS ds S gd=some true)(h1:rdS S O y=some (.one (.c (.int κ a))))(h2:rdS S O z=some (.one (.c (.int κ b))))(hf:fits (Bo true) (F.shOf d)=true)(h:Vo P τ An F ds r k (.cons d (Bo (decide (b≤a))) S) O):Vo P τ An F ds (⟨some d, .binOp .geq t y z t2,ty,pos,after,gd⟩::r) k S O:=
  wBi _ hg h1 h2 (rB nofun nofun rfl) (fB hf) h
theorem wEs{a b:List UInt8}(hg:gS ds S gd=some true)(h1:rdS S O y=some (.one (.c (.str a))))(h2:rdS S O z=some (.one (.c (.str b))))(hf:fits (Bo true) (F.shOf d)=true)(h:Vo P τ An F ds r k (.cons d (Bo (decide (a=b))) S) O):Vo P τ An F ds (⟨some d, .binOp .eql t y z t2,ty,pos,after,gd⟩::r) k S O:=
  wBi _ hg h1 h2 rfl (fB hf) h
theorem wNs{a b:List UInt8}(hg:gS ds S gd=some true)(h1:rdS S O y=some (.one (.c (.str a))))(h2:rdS S O z=some (.one (.c (.str b))))(hf:fits (Bo true) (F.shOf d)=true)(h:Vo P τ An F ds r k (.cons d (Bo (!decide (a=b))) S) O):Vo P τ An F ds (⟨some d, .binOp .neq t y z t2,ty,pos,after,gd⟩::r) k S O:=
  wBi _ hg h1 h2 rfl (fB hf) h
theorem wRem(hc:(!decide (b=0))=true)(hg:gS ds S gd=some true)(h1:rdS S O y=some (.one (.c (.int κ a))))(h2:rdS S O z=some (.one (.c (.int κ b))))(hf:fits (.one (.c (.int κ 0))) (F.shOf d)=true)(h:Vo P τ An F ds r k (.cons d (.one (.c (.int κ (Int.tmod a b)))) S) O):Vo P τ An F ds (⟨some d, .binOp .rem t y z t2,ty,pos,after,gd⟩::r) k S O:=
  wBi (.int κ (Int.tmod a b)) hg h1 h2 (by
                                           have: ¬ b=0:=by simpa using hc
                                           simp [Nr,OD,this]) (fI hf) h
theorem wNot{b:Bool}(hg:gS ds S gd=some true)(h1:rdS S O y=some (.one (.c (.bool b))))(hf:fits (Bo true) (F.shOf d)=true)(h:Vo P τ An F ds r k (.cons d (Bo (!b)) S) O):Vo P τ An F ds (⟨some d, .unOp .not t y,ty,pos,after,gd⟩::r) k S O:=
  ⟨fun x hx=>rd (.bool !b) (hx.gd hg) rfl rfl (by simp only[gI,hx.rd h1]) (fB hf) (h.run _ (hx.put d _))⟩
theorem wCv{κ':IntKind}{u:TK}(hg:gS ds S gd=some true)(ht:tk τ t=some u)(ht2:tk τ t2=some (.int κ'))(h1:rdS S O y=some (.one (.c (.int κ a))))(hf:fits (.one (.c (.int κ' 0))) (F.shOf d)=true)(h:Vo P τ An F ds r k (.cons d (.one (.c (.int κ' (κ'.wrap a)))) S) O):Vo P τ An F ds (⟨some d, .convert t t2 y,ty,pos,after,gd⟩::r) k S O:=
  ⟨fun x hx=>rd (.int κ' (κ'.wrap a)) (hx.gd hg) rfl rfl (by simp only[gI,hx.rd h1,ht,ht2]) (fI hf) (h.run _ (hx.put d _))⟩
theorem wLs{s:List UInt8}(hg:gS ds S gd=some true)(ht:tk τ t=some .str)(h1:rdS S O y=some (.one (.c (.str s))))(hf:fits (I64 0) (F.shOf d)=true)(h:Vo P τ An F ds r k (.cons d (I64 s.length) S) O):Vo P τ An F ds (⟨some d, .call { callee:= .builtin .len,args:= #[y],argTypes:= #[t] },ty,pos,after,gd⟩::r) k S O:=
  ⟨fun x hx=>rd (.int .i64 s.length) (hx.gd hg) rfl rfl (by simp only[gI,hx.rd h1,ht]) (fI hf) (h.run _ (hx.put d _))⟩
theorem wLn{α:Type}{L:List α}{f:α→List T}{e:TypeId}(hg:gS ds S gd=some true)(ht:tk τ t=some (.sl e))(h1:rdS S O y=some (.one (.c (.sl (L.map f)))))(hf:fits (I64 0) (F.shOf d)=true)(h:Vo P τ An F ds r k (.cons d (I64 L.length) S) O):Vo P τ An F ds (⟨some d, .call { callee:= .builtin .len,args:= #[y],argTypes:= #[t] },ty,pos,after,gd⟩::r) k S O:=
  ⟨fun x hx=>ln (hx.gd hg) ht (hx.rd h1) hf (h.run _ (hx.put d _))⟩
theorem LK{β:Type}{f:Int→Option β}{r0:β}{s:List UInt8}(h:(ixs s a).bind f=some r0)(hg:gS ds S gd=some true)(ht:tk τ t=some .str)(h1:rdS S O y=some (.one (.c (.str s))))(h2:rdS S O z=some (.one (.c (.int κ a))))(hf:fits (U8 0) (F.shOf d)=true)(hn: ∀b,f b=some r0→Vo P τ An F ds r k (.cons d (U8 b) S) O):Vo P τ An F ds (⟨some d, .index t y z,ty,pos,after,gd⟩::r) k S O:=by
  obtain⟨b,h3,h4⟩:=bind_some h
  exact⟨fun x hx=>rd (.int .u8 b) (hx.gd hg) rfl rfl (Uu h3 ht (hx.rd h1) (hx.rd h2)) (fI hf) ((hn b h4).run _ (hx.put d _))⟩
end

inductive BdS (S:SS V) (O:SS (List T)):Option Operand→Option Int→Prop
  | no:BdS S O none none
  | so {y:Operand} {k:IntKind} {n:Int} (h:rdS S O y=some (.one (.c (.int k n)))):BdS S O (some y) (some n)
theorem BdS.bd{x:D}(hx:Mt S O x){y:Option Operand}{n:Option Int}(h:BdS S O y n):Bd x y n:=by
  cases h with
  | no=>exact .none
  | so h=>exact .some (hx.rd h)
theorem wSl{α β:Type}{t e:TypeId}{ei:TI}{y:Operand}{lo hi:Option Operand}{l g:Option Int}{s:List α}{rf:α→List T}{f:List α→Option β}{r0:β}(h:(sub s l g).bind f=some r0)(hg:gS ds S gd=some true)(ht:tk τ t=some (.sl e))(he:τ e=some ei)(h1:rdS S O y=some (.one (.c (.sl (s.map rf)))))(h2:BdS S O lo l)(h3:BdS S O hi g)(hsz: ∀a,(rf a).length=ei.size)(hf:fits (.one (.c (.sl []))) (F.shOf d)=true)(hn: ∀s',f s'=some r0→Vo P τ An F ds r k (.cons d (Li rf s') S) O):Vo P τ An F ds (⟨some d, .slice t y lo hi none,ty,pos,after,gd⟩::r) k S O:=by
  obtain⟨b,h5,h4⟩:=bind_some h
  refine⟨fun x hx=>rd (.sl (b.map rf)) (hx.gd hg) rfl rfl (Ut h5 ht he (hx.rd h1) (h2.bd hx) (h3.bd hx) hsz) (fL hf) ((hn b h4).run _ (hx.put d _))⟩

/-! addresses, objects -/
theorem wNc{v:Operand}{w:V}(hg:gS ds S gd=some true)(hv:evS S v=some w)(hp:(isP w&&fits w (F.shOf d))=true)(h:Vo P τ An F ds r k (.cons d w S) O):Vo P τ An F ds (⟨some d, .nilCheck v,ty,pos,after,gd⟩::r) k S O:=by
  simp only[Bool.and_eq_true]at hp
  exact⟨fun x hx=>nlc (hx.gd hg) (hx.ev hv) hp.1 hp.2 (h.run _ (hx.put d _))⟩
theorem wFd{s:TypeId}{v:Operand}{f:Nat}{off:Nat×Nat}{w u:V}(hg:gS ds S gd=some true)(hq:fOff τ s f=some off)(hv:evS S v=some w)(hw:yX off w=some u)(hf:fits u (F.shOf d)=true)(h:Vo P τ An F ds r k (.cons d u S) O):Vo P τ An F ds (⟨some d, .fieldAddr s v f,ty,pos,after,gd⟩::r) k S O:=by
  unfold fOff at hq
  split at hq<;>try cases hq
  rename_i fs hs
  split at hq<;>try cases hq
  rename_i q hf2
  exact⟨fun x hx=>fld (hx.gd hg) hs hf2 (hx.ev hv) hw hf (h.run _ (hx.put d _))⟩
theorem wLd{t:TypeId}{v:Operand}{w:V}(hg:gS ds S gd=some true)(hl:ldS τ S O t v=some w)(hq:(!(mem d F.al)&&fits w (F.shOf d))=true)(h:Vo P τ An F ds r k (.cons d w S) O):Vo P τ An F ds (⟨some d, .load t v,ty,pos,after,gd⟩::r) k S O:=by
  simp only[Bool.and_eq_true,Bool.not_eq_true']at hq
  refine⟨fun x hx=> ?_⟩
  unfold ldS at hl
  split at hl<;>try cases hl
  · rename_i ti ob p h1 h2
    split at hl<;>try cases hl
    rename_i cells h3
    exact ldo (hx.gd hg) h1 hq.1 (hx.ev h2) (hx.ob _ _ h3) hl hq.2 (h.run _ (hx.put d _))
  · rename_i ti xs h1 h2
    exact ldc (hx.gd hg) h1 (hx.ev h2) hl hq.2 (h.run _ (hx.put d _))
theorem wSt{t:TypeId}{v y:Operand}{ob:Nat}{cs:List T}(hg:gS ds S gd=some true)(hs:stS τ F S O t v y=some (ob,cs))(h:Vo P τ An F ds r k S (.cons ob cs O)):Vo P τ An F ds (⟨none, .store t v y,ty,pos,after,gd⟩::r) k S O:=by
  refine⟨fun x hx=> ?_⟩
  unfold stS at hs
  split at hs<;>try cases hs
  rename_i ti ob' p xs h1 h2 h3
  split at hs<;>try cases hs
  rename_i cells h4
  obtain⟨c,hs⟩:=aJ hs
  cases hs
  have hy:aO (ev x.sl y)=some xs:=by
    obtain⟨u,h5,h6⟩:=Option.bind_eq_some_iff.1 h3
    rw[hx.ev h5]; exact h6
  have c2:=c
  simp only[Bool.and_eq_true]at c2
  exact sto (cs:=OS p xs cells) (hx.gd hg) h1 (hx.ev h2) hy (hx.ob _ _ h4) c (Ls (Nat.le_of_ble_eq_true c2.1.2)).symm (h.run _ (hx.setO ob _))
theorem wAc{t:TypeId}{cs:List T}(hg:gS ds S gd=some true)(hz:zS τ t=some cs)(hc:eP cs (F.obOf d)=true)(h:Vo P τ An F ds r k (.cons d (.one (.ptr d 0)) S) (.cons d cs O)):Vo P τ An F ds (⟨some d, .alloc t,ty,pos,after,gd⟩::r) k S O:=by
  unfold zS at hz
  split at hz<;>try cases hz
  rename_i h1
  exact⟨fun x hx=>alc (hx.gd hg) h1 rfl hc (h.run _ ((hx.put d _).setO d _))⟩
theorem wBx{e:TypeId}{t:Nat}{xs:List T}{w:V}(hg:gS ds S gd=some true)(hv:S.get t=some w)(hw:aO w=some xs)(hc:eP xs (F.obOf d)=true)(h:Vo P τ An F ds r k (.cons d (.one (.ptr d 0)) S) (.cons d xs O)):Vo P τ An F ds (⟨some d, .box e (.tmp t),ty,pos,after,gd⟩::r) k S O:=
  ⟨fun x hx=>bx (hx.gd hg) (hx.sl _ _ hv) hw hc (h.run _ ((hx.put d _).setO d _))⟩
def UQ:List (Nat×Operand)→List V→List (Nat×V)
  | p::r,v::q=>(p.1,v)::UQ r q
  | _,_=> []
theorem Ln{x:D}: ∀ {l:List (Nat×Operand)} {vs:List V},(l.map (·.2)).map (ev x.sl)=vs→l.map (fun p=>(p.1,ev x.sl p.2))=UQ l vs
  | [],vs,h=>by cases h; rfl
  | p::r,vs,h=>by
    cases vs with
    | nil=>cases h
    | cons v vs=>
      simp only[List.map_cons,List.cons.injEq]at h
      simp only[List.map_cons,UQ,h.1,Ln h.2]
theorem wBd{t:TypeId}{fs:List (Nat×Nat×Bool)}{parts:Array (Nat×Operand)}{vs:List V}{z:List T}(rs:List T)(hg:gS ds S gd=some true)(hk:tk τ t=some (.struct fs))(hz:zS τ t=some z)(hv:LA S (parts.toList.map (·.2))=some vs)(hb:qW fs z (UQ parts.toList vs)=some rs)(hf:fits (.one (.ag rs)) (F.shOf d)=true)(h:Vo P τ An F ds r k (.cons d (.one (.ag rs)) S) O):Vo P τ An F ds (⟨some d, .build t parts,ty,pos,after,gd⟩::r) k S O:=by
  unfold zS at hz
  split at hz<;>try cases hz
  rename_i a b c k' h1
  simp only[tk,h1,Option.map_some,Option.some.injEq]at hk
  exact⟨fun x hx=>bld (hx.gd hg) h1 hk (by rw[Ln (FN hx hv)]; exact hb) hf (h.run _ (hx.put d _))⟩
theorem wEt{j t:Nat}{ws:List W}{w:W}(hg:gS ds S gd=some true)(hv:S.get t=some (.tup ws))(hw:ws[j]? =some w)(hf:fits (.one w) (F.shOf d)=true)(h:Vo P τ An F ds r k (.cons d (.one w) S) O):Vo P τ An F ds (⟨some d, .extract (.tmp t) j,ty,pos,after,gd⟩::r) k S O:=
  ⟨fun x hx=>ext (hx.gd hg) (hx.sl _ _ hv) hw hf (h.run _ (hx.put d _))⟩
theorem wFn{f:FuncId}{caps:Array Operand}{cs:List (Nat×Nat)}(hg:gS ds S gd=some true)(hc:UZ S caps.toList=some cs)(hf:fits (.one (.fn f cs)) (F.shOf d)=true)(h:Vo P τ An F ds r k (.cons d (.one (.fn f cs)) S) O):Vo P τ An F ds (⟨some d, .makeFunc (.func f) #[] caps,ty,pos,after,gd⟩::r) k S O:=
  ⟨fun x hx=>mkf (hx.gd hg) (Mi hx hc) hf (h.run _ (hx.put d _))⟩

/-! slices -/
theorem wIx{α β:Type}{L:List α}{f:α→List T}{g:α→Option β}{r0:β}{t:TypeId}{ei:TI}{v i:Operand}{κ:IntKind}{n:Int}{row:α→List T}(h:(ix L n).bind g=some r0)(hg:gS ds S gd=some true)(he:elS τ t=some ei)(hv:evS S v=some (.one (.c (.sl (L.map f)))))(hi:evS S i=some (.one (.c (.int κ n))))(hrow: ∀a,f a=row a)(hq: ∀a,(Nat.beq (row a).length ei.size&&fits (.one (.cp (row a))) (F.shOf d))=true)
    (hn: ∀a,g a=some r0→Vo P τ An F ds r k (.cons d (.one (.cp (row a))) S) O):Vo P τ An F ds (⟨some d, .indexAddr t v i,ty,pos,after,gd⟩::r) k S O:=by
  obtain⟨a,h1,h2⟩:=bind_some h
  obtain⟨e,q1,q2⟩:=sT he
  have q:=hq a
  simp only[Bool.and_eq_true]at q
  exact⟨fun x hx=>ixa h1 (hx.gd hg) q1 q2 (hx.ev hv) (hx.ev hi) (hrow a) (Nat.eq_of_beq_eq_true q.1) q.2 ((hn a h2).run _ (hx.put d _))⟩
theorem dM{α:Type}{L:List α}{f:α→List T}{t:TypeId}{n:Nat}{parts:Array (Nat×Operand)}{ei:TI}{vs:List V}{es:List (List T)}(hg:gS ds S gd=some true)(he:elS τ t=some ei)(hv:LA S (parts.toList.map (·.2))=some vs)(hes:tH vs=some es)(hL:L.map f=es)
    (hq:(yC 0 parts.toList&&Nat.beq n parts.toList.length&&es.all (fun e=>Nat.beq e.length ei.size)&&Nat.ble (n*ei.size) 16777216)=true)(hf:fits (.one (.c (.sl []))) (F.shOf d)=true)(h:Vo P τ An F ds r k (.cons d (Li f L) S) O):Vo P τ An F ds (⟨some d, .buildSlice t n parts,ty,pos,after,gd⟩::r) k S O:=by
  obtain⟨e,q1,q2⟩:=sT he
  exact⟨fun x hx=>lit (hx.gd hg) q1 q2 (by rw[FN hx hv]; exact hes) hL hq hf (h.run _ (hx.put d _))⟩
theorem wAp{α β:Type}{L1 L2:List α}{g:List α→Option β}{r0:β}{f:α→List T}{b:Nat}{t u:TypeId}{ei:TI}{v y:Operand}{vy:V}{es2:List (List T)}(h:(fQ b L1 L2).bind g=some r0)(hg:gS ds S gd=some true)(he:elS τ t=some ei)(hb:Nat.beq ei.bytes b=true)(hv:evS S v=some (.one (.c (.sl (L1.map f)))))(hy:evS S y=some vy)(hes:Fa vy=some es2)(hL:es2=L2.map f)(hu:elS τ u=some ei)
    (hu2:uT τ u (match tk τ t with | some (.sl e)=>e | _=>0)=true)(hsz: ∀a,(Nat.beq (f a).length ei.size&&eP (f a) ei.zero)=true)(hf:fits (.one (.c (.sl []))) (F.shOf d)=true)(hn: ∀L3,g L3=some r0→Vo P τ An F ds r k (.cons d (Li f L3) S) O):Vo P τ An F ds (⟨some d, .call { callee:= .builtin .append,args:= #[v,y],argTypes:= #[t,u] },ty,pos,after,gd⟩::r) k S O:=by
  obtain⟨a,h1,h2⟩:=bind_some h
  obtain⟨e,q1,q2⟩:=sT he
  rw[q1]at hu2
  refine⟨fun x hx=>apd h1 (hx.gd hg) q1 q2 (Nat.eq_of_beq_eq_true hb) (hx.ev hv) (by rw[hx.ev hy]; exact hes) hL hu2 (fun a=> ?_) (fun a=> ?_) hf ((hn a h2).run _ (hx.put d _))⟩
  · have:=hsz a; simp only[Bool.and_eq_true]at this; exact Nat.eq_of_beq_eq_true this.1
  · have:=hsz a; simp only[Bool.and_eq_true]at this; exact this.2
theorem wMk{α:Type}{z:α}{f:α→List T}{t:TypeId}{ei:TI}{v y:Operand}{n:Int}{κ κ':IntKind}{b:Nat}(hc:decide (0≤n∧n≤maxLen∧b*n≤281474976710656)=true)(hg:gS ds S gd=some true)(he:elS τ t=some ei)(hb:ei.bytes=b)(hv:evS S v=some (.one (.c (.int κ n))))(hy:evS S y=some (.one (.c (.int κ' n))))(hz:f z=ei.zero)(hf:fits (.one (.c (.sl []))) (F.shOf d)=true)
    (h:Vo P τ An F ds r k (.cons d (Li f (List.replicate n.toNat z)) S) O):Vo P τ An F ds (⟨some d, .makeSlice t v y,ty,pos,after,gd⟩::r) k S O:=by
  subst hb
  obtain⟨e,q1,q2⟩:=sT he
  exact⟨fun x hx=>mks (of_decide_eq_true hc) (hx.gd hg) q1 q2 (hx.ev hv) (hx.ev hy) hz hf (h.run _ (hx.put d _))⟩

/-! places inside slices -/
theorem wLa{t:TypeId}{v:Operand}{ti:TI}{ob p:Nat}{cells:List T}(hg:gS ds S gd=some true)(ht:τ t=some ti)(hm:mem d F.al=true)(hv:evS S v=some (.one (.ptr ob p)))(hc:O.get ob=some cells)(hq:(DQ τ t&&slT (cells[p]?))=true)(hf:fits (.one (.al (.oc ob p) [])) (F.shOf d)=true)(h:Vo P τ An F ds r k (.cons d (.one (.al (.oc ob p) [])) S) O):
    Vo P τ An F ds (⟨some d, .load t v,ty,pos,after,gd⟩::r) k S O:=⟨fun x hx=>alo (hx.gd hg) ht hm (hx.ev hv) (hx.ob _ _ hc) hq hf (h.run _ (hx.put d _))⟩
end
end Go.Own

/- Walks in few words: places inside slices, calls. -/
namespace Go.Own
open Go.RowKit
set_option linter.unusedVariables false

def vU:Loc→Bool
 | .s _ k j=>Nat.beq k 0&&Nat.beq j 0
 | _=>true
theorem nT{l:Loc}(h:vU l=true): ∀i k j,l= .s i k j→k=0:=fun i k j e=>by
 subst e
 simp only[vU,Bool.and_eq_true]at h
 exact Nat.eq_of_beq_eq_true h.1
/-- The state with another datum at a place. -/
def OP(S:SS V):Loc→T→SS V
 | .s i _ _,z=> .cons i (.one (.c z)) S
 | _,_=>S
def OQ(O:SS (List T)):Loc→T→SS (List T)
 | .oc o j,z=>(match O.get o with | some cs=> .cons o (cs.set j z) O | none=>O)
 | _,_=>O
def isC:SS V→Loc→Bool
 | S, .s i _ _=>(match S.get i with | some (.one (.c _))=>true | _=>false)
 | _,_=>true

section
variable {P:Program} {τ:TypeId→Option TI} {An:FuncId→FA} {F:FA} {ds:List (Option Nat)} {r:List Oper} {k:Kt} {S:SS V} {O:SS (List T)} {ty:TypeId} {pos:String} {after:Array Edge} {gd:Option (Nat×Bool)} {d:Nat}

theorem Mt.upd{x:D}(hx:Mt S O x){l:Loc}{y z:T}(hk:vU l=true)(hc:isC S l=true)(ha:atS S O l=some y):Mt (OP S l z) (OQ O l z) (x.upd l z):=by
 cases l with
 | s i k j=>
  simp only[vU,Bool.and_eq_true]at hk
  have e1:=Nat.eq_of_beq_eq_true hk.1
  have e2:=Nat.eq_of_beq_eq_true hk.2
  subst e1; subst e2
  simp only[isC]at hc
  split at hc<;>try cases hc
  rename_i w hw
  rw[Og (hx.sl i _ hw)]
  exact hx.put i _
 | oc o j=>
  simp only[atS,Option.bind_eq_some_iff]at ha
  obtain⟨cs,h1,h2⟩:=ha
  rw[Oh (hx.ob o _ h1)]
  simp only[OP,OQ,h1]
  exact hx.setO o _
 | _=>cases ha
theorem wIp{α β:Type}{L:List α}{f:α→List T}{g:α→Option β}{r0:β}{t:TypeId}{ei:TI}{v i:Operand}{l:Loc}{κ:IntKind}{n:Int}(h:(ix L n).bind g=some r0)(hg:gS ds S gd=some true)(he:elS τ t=some ei)(hv:evS S v=some (.one (.al l [])))(hk:vU l=true)(hr:atS S O l=some (.sl (L.map f)))(hi:evS S i=some (.one (.c (.int κ n))))(hsz: ∀a,(f a).length=ei.size)
  (hf:fits (.one (.pp l [] 0 0)) (F.shOf d)=true)(hn: ∀a,ix L n=some a→g a=some r0→Vo P τ An F ds r k (.cons d (.one (.pp l [] n.toNat 0)) S) O):Vo P τ An F ds (⟨some d, .indexAddr t v i,ty,pos,after,gd⟩::r) k S O:=by
 obtain⟨a,h1,h2⟩:=bind_some h
 obtain⟨e,q1,q2⟩:=sT he
 exact⟨fun x hx=>ixp h1 (hx.gd hg) q1 q2 (hx.ev hv) (hx.at (nT hk) hr) (hx.ev hi) (hsz a) hf ((hn a h1 h2).run _ (hx.put d _))⟩
/-- A store into an element: the row's cells with the new ones between. -/
theorem wSp{α:Type}{L:List α}{f:α→List T}{a v':α}{i:Int}{t:TypeId}{v y:Operand}{ti:TI}{l:Loc}{m j:Nat}{xs:List T}(hix:ix L i=some a)(hg:gS ds S gd=some true)(ht:τ t=some ti)(hv:evS S v=some (.one (.pp l [] m j)))(hm:m=i.toNat)(hk:(vU l&&isC S l)=true)(hr:atS S O l=some (.sl (L.map f)))(hy:(evS S y).bind aO=some xs)(hq:(Nat.beq xs.length ti.size&&Nat.ble (j+xs.length) (f a).length)=true)
  (hrow:(f a).take j++xs++(f a).drop (j+xs.length)=f v')(h:Vo P τ An F ds r k (OP S l (.sl ((L.set i.toNat v').map f))) (OQ O l (.sl ((L.set i.toNat v').map f)))):Vo P τ An F ds (⟨none, .store t v y,ty,pos,after,gd⟩::r) k S O:=by
 subst hm
 simp only[Bool.and_eq_true]at hk
 refine⟨fun x hx=>bR (x1:=x.upd l (.sl ((L.set i.toNat v').map f))) (hx.gd hg) rfl ?_ (h.run _ (hx.upd hk.1 hk.2 hr))⟩
 refine Uk hix ht (hx.ev hv) (hx.at (nT hk.1) hr) ?_ hq hrow
 obtain⟨u,h5,h6⟩:=Option.bind_eq_some_iff.1 hy
 rw[hx.ev h5]; exact h6

theorem wAe{y:Operand}{v':V}(v:V)(hg:gS ds S gd=some true)(hv:evS S y=some v')(he:v'=v)(hq:(gC v&&fits v (F.shOf d))=true)(h:Vo P τ An F ds r k (.cons d v S) O):Vo P τ An F ds (⟨some d, .assign y,ty,pos,after,gd⟩::r) k S O:=by
 subst he; exact wAs hg hv hq h
/-! calls -/
def KH{α:Type}:List α→Bool
 | []=>true
 | _=>false
/-- A call that is handed no objects. -/
theorem wC0{ρ β:Type}{o:Option ρ}{g:ρ→Option β}{r0:β}{f:FuncId}{vs:List V}{rr:ρ→V}{c:Call}{v:Operand}{caps:List (Nat×Nat)}(h:o.bind g=some r0)(hB: ∀q,o=some q→Big P τ An (.fn f vs [] (rr q) none [] none))(hg:gS ds S gd=some true)(hc:dA ⟨some d, .call c,ty,pos,after,gd⟩=some (c,v))(hx:evS S v=some (.one (.fn f caps)))
  (hk:(KH (iV F c v)&&KH caps&&(pX F (some d)).isNone)=true)(hvs:inA S O [] c.args.toList=some vs)(hf: ∀q,(DX (rr q)&&fits (rr q) (F.shOf d))=true)(hn: ∀q,g q=some r0→Vo P τ An F ds r k (.cons d (rr q) S) O):Vo P τ An F ds (⟨some d, .call c,ty,pos,after,gd⟩::r) k S O:=by
 obtain⟨q,h1,h2⟩:=bind_some h
 have hq:=hf q
 simp only[Bool.and_eq_true]at hk hq
 obtain⟨⟨k1,k2⟩,k3⟩:=hk
 have e1:iV F c v=[]:=by revert k1; cases iV F c v<;>simp [KH]
 have e2:caps=[]:=by revert k2; cases caps<;>simp [KH]
 have e3:pX F (some d)=none:=by revert k3; cases pX F (some d)<;>simp
 subst e2
 refine⟨fun x hm=> ?_⟩
 obtain⟨i1,i2⟩:=GL hm hvs
 exact cl0 (v':=rr q) (hB q h1) (hm.gd hg) hc (hm.ev hx) i2 e1 e3 (by simp only[inV,List.map_nil,List.append_nil]; exact i1) (Bi hq.1) hq.2 ((hn q h2).run _ (hm.put d _))
/-- A call that is handed one object. -/
theorem wC1{ρ β:Type}{o:Option ρ}{g:ρ→Option β}{r0:β}{f:FuncId}{vs:List V}{rr:ρ→V}{c:Call}{v:Operand}{caps:List (Nat×Nat)}{ob:Nat}{cs:List T}{cs':ρ→List T}(h:o.bind g=some r0)(hB: ∀q,o=some q→Big P τ An (.fn f vs [cs] (rr q) none [cs' q] none))(hg:gS ds S gd=some true)(hc:dA ⟨some d, .call c,ty,pos,after,gd⟩=some (c,v))(hx:evS S v=some (.one (.fn f caps)))
  (hk:iV F c v=[ob])(hnd:pX F (some d)=none)(hob:O.get ob=some cs)(hvs:inA S O [ob] c.args.toList=some (vs.take c.args.size))(hcs:(vs.drop c.args.size)=caps.map (fun c=>(V.one (.ptr c.1 c.2)).to (nG [ob])))(hf: ∀q,(DX (rr q)&&fits (rr q) (F.shOf d)&&eP (cs' q) (F.obOf ob))=true)(hn: ∀q,g q=some r0→Vo P τ An F ds r k (.cons d (rr q) S) (.cons ob (cs' q) O)):Vo P τ An F ds (⟨some d, .call c,ty,pos,after,gd⟩::r) k S O:=by
 obtain⟨q,h1,h2⟩:=bind_some h
 have hq:=hf q
 simp only[Bool.and_eq_true]at hq
 refine⟨fun x hm=> ?_⟩
 obtain⟨i1,i2⟩:=GL hm hvs
 exact cl1 (v':=rr q) (hB q h1) (hm.gd hg) hc (hm.ev hx) i2 hk hnd (hm.ob _ _ hob) (by simp only[inV]; rw[i1, ←hcs,List.take_append_drop]) (Bi hq.1.1) (by rw[hq.1.2,hq.2]; rfl) ((hn q h2).run _ ((hm.put d _).setO ob _))
/-- A call that makes an object. -/
theorem wCn{ρ β:Type}{o:Option ρ}{g:ρ→Option β}{r0:β}{f:FuncId}{vs:List V}{rr:V}{c:Call}{v:Operand}{caps:List (Nat×Nat)}{cs:ρ→List T}(h:o.bind g=some r0)(hB: ∀q,o=some q→Big P τ An (.fn f vs [] rr none [] (some (cs q))))(hg:gS ds S gd=some true)(hc:dA ⟨some d, .call c,ty,pos,after,gd⟩=some (c,v))(hx:evS S v=some (.one (.fn f caps)))
  (hk:(KH (iV F c v)&&KH caps)=true)(hnd:pX F (some d)=some d)(hvs:inA S O [] c.args.toList=some vs)(hv':rr.to (sA [] (some d))= .one (.ptr d 0))(hf: ∀q,(fits (.one (.ptr d 0)) (F.shOf d)&&eP (cs q) (F.obOf d))=true)(hn: ∀q,g q=some r0→Vo P τ An F ds r k (.cons d (.one (.ptr d 0)) S) (.cons d (cs q) O)):Vo P τ An F ds (⟨some d, .call c,ty,pos,after,gd⟩::r) k S O:=by
 obtain⟨q,h1,h2⟩:=bind_some h
 simp only[Bool.and_eq_true]at hk
 obtain⟨k1,k2⟩:=hk
 have e1:iV F c v=[]:=by revert k1; cases iV F c v<;>simp [KH]
 have e2:caps=[]:=by revert k2; cases caps<;>simp [KH]
 subst e2
 refine⟨fun x hm=> ?_⟩
 obtain⟨i1,i2⟩:=GL hm hvs
 exact cln (hB q h1) (hm.gd hg) hc (hm.ev hx) i2 e1 hnd (by simp only[inV,List.map_nil,List.append_nil]; exact i1) hv' (hf q) ((hn q h2).run _ ((hm.put d _).setO d _))
end
end Go.Own

/- Walks in few words: one condition for each step. -/
namespace Go.Own
open Go.RowKit
set_option linter.unusedVariables false

section
variable (ds:List (Option Nat)) (F:FA) (τ:TypeId→Option TI) (S:SS V) (O:SS (List T)) (gd:Option (Nat×Bool)) (d:Nat)
def xG{α:Type}(a:Option α):Option α:=match gS ds S gd with
 | some true=>a
 | _=>none
def xMvS(y:Operand):Option V:=xG ds S gd (match evS S y with
 | some v=>bif !(mem d F.al)&&gC v&&fits v (F.shOf d)then some v else none
 | none=>none)
def xAsS(y:Operand):Option V:=xG ds S gd (match evS S y with
 | some v=>bif gC v&&fits v (F.shOf d)then some v else none
 | none=>none)
def xLdS(t:TypeId)(v:Operand):Option V:=xG ds S gd (match ldS τ S O t v with
 | some w=>bif !(mem d F.al)&&fits w (F.shOf d)then some w else none
 | none=>none)
def xFdS(s:TypeId)(v:Operand)(f:Nat):Option V:=xG ds S gd (match fOff τ s f,evS S v with
 | some off,some w=>(match yX off w with
  | some u=>bif fits u (F.shOf d)then some u else none
  | none=>none)
 | _,_=>none)
def xStS(t:TypeId)(v y:Operand):Option (Nat×List T):=xG ds S gd (stS τ F S O t v y)
def xI2(y z:Operand):Option (IntKind×Int×Int):=xG ds S gd (match rdS S O y,rdS S O z with
 | some (.one (.c (.int κ a))),some (.one (.c (.int κ' b)))=>bif decide (κ=κ')&&fits (.one (.c (.int κ 0))) (F.shOf d)then some (κ,a,b)else none
 | _,_=>none)
def xC2(y z:Operand):Option (IntKind×Int×Int):=xG ds S gd (match rdS S O y,rdS S O z with
 | some (.one (.c (.int κ a))),some (.one (.c (.int κ' b)))=>bif decide (κ=κ')&&fits (Bo true) (F.shOf d)then some (κ,a,b)else none
 | _,_=>none)
def xS2(y z:Operand):Option (List UInt8×List UInt8):=xG ds S gd (match rdS S O y,rdS S O z with
 | some (.one (.c (.str a))),some (.one (.c (.str b)))=>bif fits (Bo true) (F.shOf d)then some (a,b)else none
 | _,_=>none)
def xNo(y:Operand):Option Bool:=xG ds S gd (match rdS S O y with
 | some (.one (.c (.bool a)))=>bif fits (Bo true) (F.shOf d)then some a else none
 | _=>none)
def xPkS(c y z:Operand):Option T:=xG ds S gd (match evS S c with
 | some (.one (.c (.bool b)))=>(match evS S (bif b then y else z)with
  | some (.one (.c t))=>bif scal t&&fits (.one (.c t)) (F.shOf d)then some t else none
  | _=>none)
 | _=>none)
def xEtS(t j:Nat):Option W:=xG ds S gd (match S.get t with
 | some (.tup ws)=>(match ws[j]? with
  | some w=>bif fits (.one w) (F.shOf d)then some w else none
  | none=>none)
 | _=>none)
def xNcS(v:Operand):Option V:=xG ds S gd (match evS S v with
 | some w=>bif isP w&&fits w (F.shOf d)then some w else none
 | none=>none)
def xBxS(t:Nat):Option (List T):=xG ds S gd (match(S.get t).bind aO with
 | some xs=>bif eP xs (F.obOf d)then some xs else none
 | none=>none)
def xAcS(t:TypeId):Option (List T):=xG ds S gd (match zS τ t with
 | some cs=>bif eP cs (F.obOf d)then some cs else none
 | none=>none)
end

section
variable {P:Program} {τ:TypeId→Option TI} {An:FuncId→FA} {F:FA} {ds:List (Option Nat)} {r:List Oper} {k:Kt} {S:SS V} {O:SS (List T)} {ty:TypeId} {pos:String} {after:Array Edge} {gd:Option (Nat×Bool)} {d:Nat}
theorem tD{α:Type}{a:Option α}{b:α}(h:xG ds S gd a=some b):gS ds S gd=some true∧a=some b:=by
 unfold xG at h
 split at h
 ·rename_i e; exact⟨e,h⟩
 ·cases h
theorem xMv{y:Operand}{v:V}(hq:xMvS ds F S gd d y=some v)(h:Vo P τ An F ds r k (.cons d v S) O):Vo P τ An F ds (⟨some d, .move y,ty,pos,after,gd⟩::r) k S O:=by
 obtain⟨hg,hq⟩:=tD hq
 split at hq<;>try cases hq
 rename_i u e
 obtain⟨c,hq⟩:=aJ hq
 cases hq
 exact wMv hg e c h
theorem xAs{y:Operand}{v:V}(hq:xAsS ds F S gd d y=some v)(h:Vo P τ An F ds r k (.cons d v S) O):Vo P τ An F ds (⟨some d, .assign y,ty,pos,after,gd⟩::r) k S O:=by
 obtain⟨hg,hq⟩:=tD hq
 split at hq<;>try cases hq
 rename_i u e
 obtain⟨c,hq⟩:=aJ hq
 cases hq
 exact wAs hg e c h
theorem xLd{t:TypeId}{v:Operand}{w:V}(hq:xLdS ds F τ S O gd d t v=some w)(h:Vo P τ An F ds r k (.cons d w S) O):Vo P τ An F ds (⟨some d, .load t v,ty,pos,after,gd⟩::r) k S O:=by
 obtain⟨hg,hq⟩:=tD hq
 split at hq<;>try cases hq
 rename_i u e
 obtain⟨c,hq⟩:=aJ hq
 cases hq
 exact wLd hg e c h
theorem xFd{s:TypeId}{v:Operand}{f:Nat}{u:V}(hq:xFdS ds F τ S gd d s v f=some u)(h:Vo P τ An F ds r k (.cons d u S) O):Vo P τ An F ds (⟨some d, .fieldAddr s v f,ty,pos,after,gd⟩::r) k S O:=by
 obtain⟨hg,hq⟩:=tD hq
 split at hq<;>try cases hq
 rename_i off w e1 e2
 split at hq<;>try cases hq
 rename_i u' e3
 obtain⟨c,hq⟩:=aJ hq
 cases hq
 exact wFd hg e1 e2 e3 c h
theorem xSt{t:TypeId}{v y:Operand}{ob:Nat}{cs:List T}(hq:xStS ds F τ S O gd t v y=some (ob,cs))(h:Vo P τ An F ds r k S (.cons ob cs O)):Vo P τ An F ds (⟨none, .store t v y,ty,pos,after,gd⟩::r) k S O:=by
 obtain⟨hg,hq⟩:=tD hq
 exact wSt hg hq h
section
variable {t t2:TypeId} {y z:Operand} {κ:IntKind} {a b:Int}
theorem LU(hq:xI2 ds F S O gd d y z=some (κ,a,b)):gS ds S gd=some true∧rdS S O y=some (.one (.c (.int κ a)))∧rdS S O z=some (.one (.c (.int κ b)))∧fits (.one (.c (.int κ 0))) (F.shOf d)=true:=by
 obtain⟨hg,hq⟩:=tD hq
 split at hq<;>try cases hq
 rename_i e1 e2
 obtain⟨c,hq2⟩:=aJ hq
 clear hq
 simp only[Bool.and_eq_true,decide_eq_true_eq]at c
 obtain⟨rfl,c⟩:=c
 cases hq2
 exact⟨hg,e1,e2,c⟩
theorem DV(hq:xC2 ds F S O gd d y z=some (κ,a,b)):gS ds S gd=some true∧rdS S O y=some (.one (.c (.int κ a)))∧rdS S O z=some (.one (.c (.int κ b)))∧fits (Bo true) (F.shOf d)=true:=by
 obtain⟨hg,hq⟩:=tD hq
 split at hq<;>try cases hq
 rename_i e1 e2
 obtain⟨c,hq2⟩:=aJ hq
 clear hq
 simp only[Bool.and_eq_true,decide_eq_true_eq]at c
 obtain⟨rfl,c⟩:=c
 cases hq2
 exact⟨hg,e1,e2,c⟩
theorem QB{a b:List UInt8}(hq:xS2 ds F S O gd d y z=some (a,b)):gS ds S gd=some true∧rdS S O y=some (.one (.c (.str a)))∧rdS S O z=some (.one (.c (.str b)))∧fits (Bo true) (F.shOf d)=true:=by
 obtain⟨hg,hq⟩:=tD hq
 split at hq<;>try cases hq
 rename_i e1 e2
 obtain⟨c,hq⟩:=aJ hq
 cases hq
 exact⟨hg,e1,e2,c⟩
theorem xAdd(hq:xI2 ds F S O gd d y z=some (κ,a,b))(h:Vo P τ An F ds r k (.cons d (.one (.c (.int κ (κ.wrap (a+b))))) S) O):Vo P τ An F ds (⟨some d, .binOp .add t y z t2,ty,pos,after,gd⟩::r) k S O:=by
 obtain⟨h1,h2,h3,h4⟩:=LU hq; exact wAdd h1 h2 h3 h4 h
theorem xSub(hq:xI2 ds F S O gd d y z=some (κ,a,b))(h:Vo P τ An F ds r k (.cons d (.one (.c (.int κ (κ.wrap (a - b))))) S) O):Vo P τ An F ds (⟨some d, .binOp .sub t y z t2,ty,pos,after,gd⟩::r) k S O:=by
 obtain⟨h1,h2,h3,h4⟩:=LU hq; exact wSub h1 h2 h3 h4 h
theorem xMul(hq:xI2 ds F S O gd d y z=some (κ,a,b))(h:Vo P τ An F ds r k (.cons d (.one (.c (.int κ (κ.wrap (a*b))))) S) O):Vo P τ An F ds (⟨some d, .binOp .mul t y z t2,ty,pos,after,gd⟩::r) k S O:=by
 obtain⟨h1,h2,h3,h4⟩:=LU hq; exact wMul h1 h2 h3 h4 h
theorem xEq(hq:xC2 ds F S O gd d y z=some (κ,a,b))(h:Vo P τ An F ds r k (.cons d (Bo (decide (a=b))) S) O):Vo P τ An F ds (⟨some d, .binOp .eql t y z t2,ty,pos,after,gd⟩::r) k S O:=by
 obtain⟨h1,h2,h3,h4⟩:=DV hq; exact wEq h1 h2 h3 h4 h
theorem xNe(hq:xC2 ds F S O gd d y z=some (κ,a,b))(h:Vo P τ An F ds r k (.cons d (Bo (!decide (a=b))) S) O):Vo P τ An F ds (⟨some d, .binOp .neq t y z t2,ty,pos,after,gd⟩::r) k S O:=by
 obtain⟨h1,h2,h3,h4⟩:=DV hq; exact wNe h1 h2 h3 h4 h
theorem xLt(hq:xC2 ds F S O gd d y z=some (κ,a,b))(h:Vo P τ An F ds r k (.cons d (Bo (decide (a<b))) S) O):Vo P τ An F ds (⟨some d, .binOp .lss t y z t2,ty,pos,after,gd⟩::r) k S O:=by
 obtain⟨h1,h2,h3,h4⟩:=DV hq; exact wLt h1 h2 h3 h4 h
theorem xLe(hq:xC2 ds F S O gd d y z=some (κ,a,b))(h:Vo P τ An F ds r k (.cons d (Bo (decide (a≤b))) S) O):Vo P τ An F ds (⟨some d, .binOp .leq t y z t2,ty,pos,after,gd⟩::r) k S O:=by
 obtain⟨h1,h2,h3,h4⟩:=DV hq; exact wLe h1 h2 h3 h4 h
theorem xGt(hq:xC2 ds F S O gd d y z=some (κ,a,b))(h:Vo P τ An F ds r k (.cons d (Bo (decide (b<a))) S) O):Vo P τ An F ds (⟨some d, .binOp .gtr t y z t2,ty,pos,after,gd⟩::r) k S O:=by
 obtain⟨h1,h2,h3,h4⟩:=DV hq; exact wGt h1 h2 h3 h4 h
theorem xGe(hq:xC2 ds F S O gd d y z=some (κ,a,b))(h:Vo P τ An F ds r k (.cons d (Bo (decide (b≤a))) S) O):Vo P τ An F ds (⟨some d, .binOp .geq t y z t2,ty,pos,after,gd⟩::r) k S O:=by
 obtain⟨h1,h2,h3,h4⟩:=DV hq; exact wGe h1 h2 h3 h4 h
theorem xEs{a b:List UInt8}(hq:xS2 ds F S O gd d y z=some (a,b))(h:Vo P τ An F ds r k (.cons d (Bo (decide (a=b))) S) O):Vo P τ An F ds (⟨some d, .binOp .eql t y z t2,ty,pos,after,gd⟩::r) k S O:=by
 obtain⟨h1,h2,h3,h4⟩:=QB hq; exact wEs h1 h2 h3 h4 h
theorem xNs{a b:List UInt8}(hq:xS2 ds F S O gd d y z=some (a,b))(h:Vo P τ An F ds r k (.cons d (Bo (!decide (a=b))) S) O):Vo P τ An F ds (⟨some d, .binOp .neq t y z t2,ty,pos,after,gd⟩::r) k S O:=by
 obtain⟨h1,h2,h3,h4⟩:=QB hq; exact wNs h1 h2 h3 h4 h
theorem xNot{b:Bool}(hq:xNo ds F S O gd d y=some b)(h:Vo P τ An F ds r k (.cons d (Bo (!b)) S) O):Vo P τ An F ds (⟨some d, .unOp .not t y,ty,pos,after,gd⟩::r) k S O:=by
 obtain⟨hg,hq⟩:=tD hq
 split at hq<;>try cases hq
 rename_i e1
 obtain⟨c,hq⟩:=aJ hq
 cases hq
 exact wNot hg e1 c h
end
theorem xPk{c y z:Operand}{t:T}(hq:xPkS ds F S gd d c y z=some t)(h:Vo P τ An F ds r k (.cons d (.one (.c t)) S) O):Vo P τ An F ds (⟨some d, .pick c y z,ty,pos,after,gd⟩::r) k S O:=by
 obtain⟨hg,hq⟩:=tD hq
 split at hq<;>try cases hq
 rename_i b e1
 split at hq<;>try cases hq
 rename_i t' e2
 obtain⟨c,hq⟩:=aJ hq
 cases hq
 exact wPk hg e1 e2 c h
theorem xEt{j t:Nat}{w:W}(hq:xEtS ds F S gd d t j=some w)(h:Vo P τ An F ds r k (.cons d (.one w) S) O):Vo P τ An F ds (⟨some d, .extract (.tmp t) j,ty,pos,after,gd⟩::r) k S O:=by
 obtain⟨hg,hq⟩:=tD hq
 split at hq<;>try cases hq
 rename_i ws e1
 split at hq<;>try cases hq
 rename_i w' e2
 obtain⟨c,hq⟩:=aJ hq
 cases hq
 exact wEt hg e1 e2 c h
theorem xNc{v:Operand}{w:V}(hq:xNcS ds F S gd d v=some w)(h:Vo P τ An F ds r k (.cons d w S) O):Vo P τ An F ds (⟨some d, .nilCheck v,ty,pos,after,gd⟩::r) k S O:=by
 obtain⟨hg,hq⟩:=tD hq
 split at hq<;>try cases hq
 rename_i w' e1
 obtain⟨c,hq⟩:=aJ hq
 cases hq
 exact wNc hg e1 c h
theorem xBx{e:TypeId}{t:Nat}{xs:List T}(hq:xBxS ds F S gd d t=some xs)(h:Vo P τ An F ds r k (.cons d (.one (.ptr d 0)) S) (.cons d xs O)):Vo P τ An F ds (⟨some d, .box e (.tmp t),ty,pos,after,gd⟩::r) k S O:=by
 obtain⟨hg,hq⟩:=tD hq
 split at hq<;>try cases hq
 rename_i xs' e1
 obtain⟨u,e2,e3⟩:=Option.bind_eq_some_iff.1 e1
 obtain⟨c,hq⟩:=aJ hq
 cases hq
 exact wBx hg e2 e3 c h
theorem xAc{t:TypeId}{cs:List T}(hq:xAcS ds F τ S gd d t=some cs)(h:Vo P τ An F ds r k (.cons d (.one (.ptr d 0)) S) (.cons d cs O)):Vo P τ An F ds (⟨some d, .alloc t,ty,pos,after,gd⟩::r) k S O:=by
 obtain⟨hg,hq⟩:=tD hq
 split at hq<;>try cases hq
 rename_i cs' e1
 obtain⟨c,hq⟩:=aJ hq
 cases hq
 exact wAc hg e1 c h
/-- The same, the cells told by typed data. -/
theorem xAz{t:TypeId}(cs:List T)(hq:xAcS ds F τ S gd d t=some cs)(h:Vo P τ An F ds r k (.cons d (.one (.ptr d 0)) S) (.cons d cs O)):Vo P τ An F ds (⟨some d, .alloc t,ty,pos,after,gd⟩::r) k S O:=xAc hq h
theorem xLn{α:Type}{L:List α}{f:α→List T}{t:TypeId}{y:Operand}(hq:(gS ds S gd,DQ τ t&&fits (I64 0) (F.shOf d),rdS S O y)=(some true,true,some (.one (.c (.sl (L.map f))))))(h:Vo P τ An F ds r k (.cons d (I64 L.length) S) O):Vo P τ An F ds (⟨some d, .call { callee:= .builtin .len,args:= #[y],argTypes:= #[t] },ty,pos,after,gd⟩::r) k S O:=by
 simp only[Prod.mk.injEq,Bool.and_eq_true]at hq
 obtain⟨h1,⟨h2,h3⟩,h4⟩:=hq
 unfold DQ at h2
 split at h2
 ·rename_i e he; exact wLn h1 he h4 h3 h
 ·cases h2
theorem xLs{s:List UInt8}{t:TypeId}{y:Operand}(hq:(gS ds S gd,tk τ t,fits (I64 0) (F.shOf d),rdS S O y)=(some true,some .str,true,some (.one (.c (.str s)))))(h:Vo P τ An F ds r k (.cons d (I64 s.length) S) O):Vo P τ An F ds (⟨some d, .call { callee:= .builtin .len,args:= #[y],argTypes:= #[t] },ty,pos,after,gd⟩::r) k S O:=by
 simp only[Prod.mk.injEq]at hq
 obtain⟨h1,h2,h3,h4⟩:=hq
 exact wLs h1 h2 h4 h3 h
/-- A call that is handed no objects. -/
theorem xC0{ρ β:Type}{o:Option ρ}{g:ρ→Option β}{r0:β}{f:FuncId}{vs:List V}{rr:ρ→V}{c:Call}{v:Operand}{caps:List (Nat×Nat)}(h:o.bind g=some r0)(hB: ∀ {q},o=some q→Big P τ An (.fn f vs [] (rr q) none [] none))
  (hq:(gS ds S gd,dA ⟨some d, .call c,ty,pos,after,gd⟩,evS S v,KH (iV F c v)&&KH caps&&(pX F (some d)).isNone,inA S O [] c.args.toList)=(some true,some (c,v),some (.one (.fn f caps)),true,some vs))(hn: ∀q,g q=some r0→Vo P τ An F ds r k (.cons d (rr q) S) O)(hf: ∀q,(DX (rr q)&&fits (rr q) (F.shOf d))=true:=by exact fun _=>rfl):Vo P τ An F ds (⟨some d, .call c,ty,pos,after,gd⟩::r) k S O:=by
 simp only[Prod.mk.injEq]at hq
 obtain⟨h1,h2,h3,h4,h5⟩:=hq
 exact wC0 h (fun _=>hB) h1 h2 h3 h4 h5 hf hn
/-- A call that is handed one object. -/
theorem xC1{ρ β:Type}{o:Option ρ}{g:ρ→Option β}{r0:β}{f:FuncId}{vs:List V}{rr:ρ→V}{c:Call}{v:Operand}{caps:List (Nat×Nat)}{ob:Nat}{cs:List T}{cs':ρ→List T}(h:o.bind g=some r0)(hB: ∀ {q},o=some q→Big P τ An (.fn f vs [cs] (rr q) none [cs' q] none))
  (hq:(gS ds S gd,dA ⟨some d, .call c,ty,pos,after,gd⟩,evS S v,iV F c v,pX F (some d),O.get ob,inA S O [ob] c.args.toList,vs.drop c.args.size)=(some true,some (c,v),some (.one (.fn f caps)),[ob],none,some cs,some (vs.take c.args.size),caps.map (fun c=>(V.one (.ptr c.1 c.2)).to (nG [ob]))))(hn: ∀q,g q=some r0→Vo P τ An F ds r k (.cons d (rr q) S) (.cons ob (cs' q) O))(hf: ∀q,(DX (rr q)&&fits (rr q) (F.shOf d)&&eP (cs' q) (F.obOf ob))=true:=by exact fun _=>rfl):Vo P τ An F ds (⟨some d, .call c,ty,pos,after,gd⟩::r) k S O:=by
 simp only[Prod.mk.injEq]at hq
 obtain⟨h1,h2,h3,h4,h5,h6,h7,h8⟩:=hq
 exact wC1 h (fun _=>hB) h1 h2 h3 h4 h5 h6 h7 h8 hf hn
theorem xIx{α β:Type}{L:List α}{f:α→List T}{g:α→Option β}{r0:β}{t:TypeId}{ei:TI}{v i:Operand}{κ:IntKind}{n:Int}{row:α→List T}(h:(ix L n).bind g=some r0)(hrow: ∀a,f a=row a)(hq:(gS ds S gd,elS τ t,evS S v,evS S i)=(some true,some ei,some (.one (.c (.sl (L.map f)))),some (.one (.c (.int κ n)))))
  (hn: ∀a,g a=some r0→Vo P τ An F ds r k (.cons d (.one (.cp (row a))) S) O)(hf: ∀a,(Nat.beq (row a).length ei.size&&fits (.one (.cp (row a))) (F.shOf d))=true:=by exact fun _=>rfl):Vo P τ An F ds (⟨some d, .indexAddr t v i,ty,pos,after,gd⟩::r) k S O:=by
 simp only[Prod.mk.injEq]at hq
 obtain⟨h1,h2,h3,h4⟩:=hq
 exact wIx h h1 h2 h3 h4 hrow hf hn

/-! regions' ends -/
theorem oRs{id:Nat}{ops:List Oper}{dr:Bool}{b:Code}(h:Vo P τ An F (ops.map (·.dst)) ops (.seq b k) S O)(hm:cU id F.mks=none:=by exact rfl):Vo P τ An F ds [] (.seq (.seq (.region id ops.toArray dr) b) k) S O:=oNl (cRs h hm)
end
end Go.Own

/- A row's arguments: what is read of them becomes what the slots tell. -/
namespace Go.Own
open Go.RowKit

def kOk(q:K)(x:T):Bool:=match q with
 | .F=>true
 | .S=>scal x
 | _=>false
theorem lf_of{w:World}{q:K}{l:Loc}{c:Value}{x:T}(hk:kOk q x=true)(h:Rd (frz G.old w) w c x):LF G.old w q l c x:=by
 cases q with
 | F=>exact h
 | S=>exact⟨hk,h.nowhere hk⟩
 | _=>cases hk
/-- Any other value that came in. -/
theorem rv_c{w:World}{v:Value}{x:T}{κ:Nat→Nat→K}{l:Nat→Nat→Loc}(h:CR w [v] [x])(hk:kOk (κ 0 0) x=true):RV G.old w κ l v (.one (.c x)):=by
 obtain⟨n1,n2⟩:=h.2 0 v x rfl rfl
 exact⟨n1,lf_of hk n2⟩
end Go.Own

/- Reading at an element of a slice that lies in a place. -/
namespace Go.Own
open Go.RowKit
set_option linter.unusedVariables false
section
variable {P:Program} {τ:TypeId→Option TI} {An:FuncId→FA} {F:FA} {ds:List (Option Nat)} {r:List Oper} {k:Kt} {S:SS V} {O:SS (List T)} {ty:TypeId} {pos:String} {after:Array Edge} {gd:Option (Nat×Bool)} {d:Nat}
theorem wLp{α:Type}{L:List α}{f:α→List T}{a:α}{i:Int}{t:TypeId}{v:Operand}{ti:TI}{l:Loc}{m j:Nat}{cs:List T}{w:V}(hix:ix L i=some a)(hg:gS ds S gd=some true)(ht:τ t=some ti)(hv:evS S v=some (.one (.pp l [] m j)))(hm:m=i.toNat)(hk:vU l=true)(hr:atS S O l=some (.sl (L.map f)))(hal:(mem d F.al||mem d F.tk)=false)(hc:f a=cs)(hl:nD ti (cs.drop j)=some w)(hf:fits w (F.shOf d)=true)
  (h:Vo P τ An F ds r k (.cons d w S) O):Vo P τ An F ds (⟨some d, .load t v,ty,pos,after,gd⟩::r) k S O:=by
 subst hm hc
 unfold ix at hix
 split at hix<;>try cases hix
 have hrw:(L.map f)[i.toNat]? =some (f a):=by rw[List.getElem?_map,hix]; rfl
 refine⟨fun x hx=>bR (x1:=x.put d w) (hx.gd hg) rfl ?_ (h.run _ (hx.put d w))⟩
 simp only[Bool.or_eq_false_iff]at hal
 show(bif mem d F.tk&&(!(mem d F.al)&&eE (ev x.sl v))then tP τ F x d t v else mU τ F x d t v (mem d F.al))=_
 rw[show(mem d F.tk&&(!(mem d F.al)&&eE (ev x.sl v)))=false by rw[hal.2]; rfl,cond_false]
 unfold mU
 simp only[ht,hx.ev hv,hal.1,hx.at (nT hk) hr,Option.bind_some,nav,hrw,cond_false,hl]
 exact eO hf
end
end Go.Own

/- Walks in few words: what is turned in place by a callee. -/
namespace Go.Own
open Go.RowKit
set_option linter.unusedVariables false

theorem QX{α:Type}{L:List α}{f:α→List T}{a:α}{i:Int}{j:Nat}{y:T}(h:ix L i=some a)(hy:(f a)[j]? =some y):nav (.sl (L.map f)) [(i.toNat,j)]=some y:=by
 unfold ix at h
 split at h<;>try cases h
 have hrw:(L.map f)[i.toNat]? =some (f a):=by rw[List.getElem?_map,h]; rfl
 have e: ∀z:T,nav z []=some z:=fun z=>by cases z<;>rfl
 simp only[nav,hrw,Option.bind_some,hy,e]
theorem LX{α:Type}{L:List α}{f:α→List T}{a a':α}{i:Int}{j:Nat}{y0 y:T}(h:ix L i=some a)(hy:(f a)[j]? =some y0)(hs:(f a).set j y=f a'):cG (.sl (L.map f)) [(i.toNat,j)] y= .sl ((L.set i.toNat a').map f):=by
 unfold ix at h
 split at h<;>try cases h
 have hrw:(L.map f)[i.toNat]? =some (f a):=by rw[List.getElem?_map,h]; rfl
 have e: ∀z:T,cG z [] y=y:=fun z=>by cases z<;>rfl
 rw[uA hrw hy,e,hs,List.map_set]
section
variable {P:Program} {τ:TypeId→Option TI} {An:FuncId→FA} {F:FA} {ds:List (Option Nat)} {r:List Oper} {k:Kt} {S:SS V} {O:SS (List T)} {ty:TypeId} {pos:String} {after:Array Edge} {gd:Option (Nat×Bool)} {d:Nat}
/-- A part of an element, as an alias. -/
theorem wLq{α:Type}{L:List α}{f:α→List T}{a:α}{i:Int}{t:TypeId}{v:Operand}{ti:TI}{l:Loc}{m j:Nat}{cs:List T}(hix:ix L i=some a)(hg:gS ds S gd=some true)(ht:τ t=some ti)(hv:evS S v=some (.one (.pp l [] m j)))(hm:m=i.toNat)(hk:vU l=true)(hr:atS S O l=some (.sl (L.map f)))(hal:mem d F.al=true)(hc:f a=cs)(hl:(DQ τ t&&slT (cs[j]?))=true)(hf:fits (.one (.al l [(0,0)])) (F.shOf d)=true)
  (h:Vo P τ An F ds r k (.cons d (.one (.al l [(i.toNat,j)])) S) O):Vo P τ An F ds (⟨some d, .load t v,ty,pos,after,gd⟩::r) k S O:=by
 subst hm hc
 unfold ix at hix
 split at hix<;>try cases hix
 have hrw:(L.map f)[i.toNat]? =some (f a):=by rw[List.getElem?_map,hix]; rfl
 refine⟨fun x hx=>bR (x1:=x.put d (.one (.al l [(i.toNat,j)]))) (hx.gd hg) rfl ?_ (h.run _ (hx.put d _))⟩
 show(bif mem d F.tk&&(!(mem d F.al)&&eE (ev x.sl v))then tP τ F x d t v else mU τ F x d t v (mem d F.al))=_
 rw[show(mem d F.tk&&(!(mem d F.al)&&eE (ev x.sl v)))=false by rw[hal]; simp,cond_false]
 unfold mU
 simp only[ht,hx.ev hv,hal,hx.at (nT hk) hr,Option.bind_some,nav,hrw,cond_true,hl,List.nil_append]
 refine eO ?_
 revert hf
 cases F.shOf d with
 | tup ws=>simp [fits]
 | one w=>cases w<;>simp [fits,bP]

end

section
variable {P:Program} {τ:TypeId→Option TI} {An:FuncId→FA} {F:FA} {S:SS V} {O:SS (List T)}
def FQi(τ:TypeId→Option TI)(F:FA)(rs:List ResultVar)(ob:List (List T))(r:V)(y:T)(ob':List (List T))(nw:Option (List T))(e:Ek)(x:D):Prop:=FQ τ F rs ob r ob' nw e x∧ ∃z,F.io=some z∧x.sl z= .one (.c y)
def ioS(F:FA)(S:SS V):Option V:=F.io.bind S.get
theorem eRi{rs:List ResultVar}{ob ob':List (List T)}{r:V}{y:T}{nw:Option (List T)}{ws:List W}(h1:HN τ S O rs=some ws)(h2:(Ho ws).to (tI F.n0)=r)(h3:OX O 0 ob=some ob')(h4:nwS O F.n0=some nw)(h5:ioS F S=some (.one (.c y))):Fb (FQi τ F rs ob r y ob' nw) .r S O:=⟨fun x hx=>by
 unfold ioS at h5
 obtain⟨z,e1,e2⟩:=Option.bind_eq_some_iff.1 h5
 exact⟨(eR h1 h2 h3 h4).run x hx,z,e1,hx.sl z _ e2⟩⟩
theorem eNi{rs:List ResultVar}{ob ob':List (List T)}{r:V}{y:T}{nw:Option (List T)}{ws:List W}(h1:HN τ S O rs=some ws)(h2:(Ho ws).to (tI F.n0)=r)(h3:OX O 0 ob=some ob')(h4:nwS O F.n0=some nw)(h5:ioS F S=some (.one (.c y))):Fb (FQi τ F rs ob r y ob' nw) .n S O:=⟨fun x hx=>by
 unfold ioS at h5
 obtain⟨z,e1,e2⟩:=Option.bind_eq_some_iff.1 h5
 exact⟨(eN h1 h2 h3 h4).run x hx,z,e1,hx.sl z _ e2⟩⟩
end
end Go.Own

/- Walks in few words: a region that hands a struct to a function that turns its slices. -/
namespace Go.Own
open Go.RowKit
set_option linter.unusedVariables false

section
variable {P:Program} {τ:TypeId→Option TI} {An:FuncId→FA} {F:FA} {S:SS V} {O:SS (List T)} {κ:Kt}
end
end Go.Own

/- Walks in few words: calls that are handed several objects. -/
namespace Go.Own
open Go.RowKit
set_option linter.unusedVariables false

/-- Objects' cells, set one by one. -/
def setOs(x:D):List Nat→List (List T)→D
 | o::os,c::cs=>(setOs x os cs).setO o c
 | _,_=>x
theorem Ez(x:D): ∀(os:List Nat) (cs:List (List T)),(setOs x os cs).sl=x.sl
 | [],_=>rfl
 | _::_,[]=>rfl
 | o::os,c::cs=>Ez x os cs
theorem FB(x:D)(i:Nat): ∀(os:List Nat) (cs:List (List T)),os.length=cs.length→(setOs x os cs).ob i=if i∈os then cs[os.idxOf i]? else x.ob i
 | [],[],_=>by simp [setOs]
 | o::os,c::cs,h=>by
  have ih:=FB x i os cs (by simpa using h)
  simp only[setOs,D.setO,List.mem_cons]
  by_cases e:i=o
  ·subst e; simp
  ·rw[if_neg e,ih]
   have:(o == i)=false:=by simpa using Ne.symm e
   simp only[e,false_or,List.idxOf_cons,this,cond_false]
   by_cases m:i∈os
   ·rw[if_pos m,if_pos m]; rfl
   ·rw[if_neg m,if_neg m]
 | [],_::_,h=>by simp at h
 | _::_,[],h=>by simp at h
def ndB:List Nat→Bool
 | []=>true
 | o::r=> !(mem o r)&&ndB r
def shO(F:FA):List Nat→List (List T)→Bool
 | [],[]=>true
 | o::os,c::cs=>eP c (F.obOf o)&&shO F os cs
 | _,_=>false
theorem Lq{F:FA}: ∀ {os:List Nat} {cs:List (List T)},shO F os cs=true→os.length=cs.length
 | [],[],_=>rfl
 | o::os,c::cs,h=>by
  simp only[shO,Bool.and_eq_true]at h
  simp [Lq h.2]
 | [],_::_,h=>by cases h
 | _::_,[],h=>by cases h
theorem Lr{F:FA}: ∀ {os:List Nat} {cs:List (List T)},shO F os cs=true→ ∀i,i∈os→ ∃c,cs[os.idxOf i]? =some c∧eP c (F.obOf i)=true
 | [],_,_,i,hi=>by simp at hi
 | o::os,[],h,i,hi=>by cases h
 | o::os,c::cs,h,i,hi=>by
  simp only[shO,Bool.and_eq_true]at h
  by_cases e:i=o
  ·subst e; exact⟨c,by simp,h.1⟩
  ·have hm:i∈os:=by
    rcases List.mem_cons.1 hi with h | h
    ·exact absurd h e
    ·exact h
   obtain⟨c',h1,h2⟩:=Lr h.2 i hm
   have:(o == i)=false:=by simpa using Ne.symm e
   refine⟨c', ?_,h2⟩
   simp only[List.idxOf_cons,this,cond_false]
   exact h1

section
variable {P:Program} {τ:TypeId→Option TI} {An:FuncId→FA} {F:FA} {ds:List (Option Nat)} {r:List Oper} {ty:TypeId} {pos:String} {after:Array Edge} {gd:Option (Nat×Bool)} {d:Nat} {x:D} {K:D→Prop}
theorem Nf{d:Nat}{os:List Nat}{y:D}{v:V}{cs:List (List T)}(hl:os.length=cs.length)(h:(y.sl 0).to (sA os none)=v)(h2: ∀k,y.ob (par+k)=cs[k]?):x.call (some d) none os y=setOs (x.put d v) os cs:=D.ext (fun i=>by
 rw[Ez]
 simp only[D.call,D.put,Option.some.injEq,h]
 by_cases e:d=i
 ·rw[if_pos e,if_pos e.symm]
 ·rw[if_neg e,if_neg (fun h=>e h.symm)]) (fun i=>by
 rw[FB _ _ _ _ hl]
 simp only[D.call,pB]
 by_cases m:i∈os
 ·rw[if_pos m,if_pos m]; exact h2 _
 ·rw[if_neg m,if_neg m]
  simp [D.put])
end
section
variable {P:Program} {τ:TypeId→Option TI} {An:FuncId→FA} {F:FA} {ds:List (Option Nat)} {r:List Oper} {k:Kt} {S:SS V} {O:SS (List T)} {ty:TypeId} {pos:String} {after:Array Edge} {gd:Option (Nat×Bool)} {d:Nat}
def Qo:List Nat→List (List T)→SS (List T)→SS (List T)
 | o::os,c::cs,O=> .cons o c (Qo os cs O)
 | _,_,O=>O
theorem Mt.setOs{S:SS V}{O:SS (List T)}{x:D}(h:Mt S O x): ∀(os:List Nat) (cs:List (List T)),Mt S (Qo os cs O) (setOs x os cs)
 | [],_=>h
 | _::_,[]=>h
 | o::os,c::cs=>(h.setOs os cs).setO o c
theorem QO{S:SS V}{O:SS (List T)}{x:D}(h:Mt S O x): ∀ {os:List Nat} {cs:List (List T)},os.map O.get=cs.map some→cs.map some=os.map x.ob
 | [],[],_=>rfl
 | o::os,c::cs,e=>by
  simp only[List.map_cons,List.cons.injEq]at e ⊢
  exact⟨(h.ob _ _ e.1).symm,QO h e.2⟩
 | [],_::_,e=>by cases e
 | _::_,[],e=>by cases e
/-- A call that is handed objects. -/
theorem xCk{ρ β:Type}{o:Option ρ}{g:ρ→Option β}{r0:β}{f:FuncId}{vs:List V}{rr:ρ→V}{c:Call}{v:Operand}{caps:List (Nat×Nat)}{os:List Nat}{css:List (List T)}{cs':ρ→List (List T)}(h:o.bind g=some r0)(hB: ∀ {q},o=some q→Big P τ An (.fn f vs css (rr q) none (cs' q) none))
  (hq:(gS ds S gd,dA ⟨some d, .call c,ty,pos,after,gd⟩,evS S v,iV F c v,pX F (some d),os.map O.get,inA S O os c.args.toList,vs.drop c.args.size,ndB os)=(some true,some (c,v),some (.one (.fn f caps)),os,none,css.map some,some (vs.take c.args.size),caps.map (fun c=>(V.one (.ptr c.1 c.2)).to (nG os)),true))
  (hn: ∀q,g q=some r0→Vo P τ An F ds r k (.cons d (rr q) S) (Qo os (cs' q) O))(hf: ∀q,(DX (rr q)&&fits (rr q) (F.shOf d)&&shO F os (cs' q))=true:=by exact fun _=>rfl):Vo P τ An F ds (⟨some d, .call c,ty,pos,after,gd⟩::r) k S O:=by
 simp only[Prod.mk.injEq]at hq
 obtain⟨h1,h2,h3,hk,hnd,h6,hvs,hcs,hno⟩:=hq
 obtain⟨q,e1,e2⟩:=bind_some h
 have hq:=hf q
 simp only[Bool.and_eq_true]at hq
 refine⟨fun x hm=> ?_⟩
 obtain⟨i1,i2⟩:=GL hm hvs
 have hl:=Lq hq.2
 have hcp:x.call (some d) none os (DR (rr q) none (cs' q) none)=setOs (x.put d (rr q)) os (cs' q):=Nf hl (Bi hq.1.1) (fun k=>by simp [DR])
 have ho2:os≠[0,0]:=by rintro rfl; cases hno
 refine xH (x1:=setOs (x.put d (rr q)) os (cs' q)) (ob:=css) (hm.gd h1) h2 (Ae hk ho2) (hm.ev h3) i2 (by rw[hk]; exact QO hm h6) (by rw[hk]; simp only[inV]; rw[i1, ←hcs,List.take_append_drop]) (hB e1) ?_ ?_ ((hn q e2).run _ ((hm.put d _).setOs os _))
 ·show x.call (some d) (pX F (some d)) (iV F c v) _=_
  rw[hk,hnd]; exact hcp
 ·show bO F (setOs (x.put d (rr q)) os (cs' q)) (some d) (pX F (some d)) (iV F c v)=true
  rw[hk,hnd]
  simp only[bO,Ez,dE,List.append_nil,Bool.and_eq_true,List.all_eq_true]
  refine⟨by simp [D.put,hq.1.2],fun i hi=> ?_⟩
  rw[FB _ _ _ _ hl,if_pos hi]
  obtain⟨c',h7,h8⟩:=Lr hq.2 i hi
  rw[h7]; exact h8
end
end Go.Own

/- Walks in few words: what is stored into an element, under a name. -/
namespace Go.Own
open Go.RowKit
set_option linter.unusedVariables false

section
variable {P:Program} {τ:TypeId→Option TI} {An:FuncId→FA} {F:FA} {ds:List (Option Nat)} {r:List Oper} {k:Kt} {S:SS V} {O:SS (List T)} {ty:TypeId} {pos:String} {after:Array Edge} {gd:Option (Nat×Bool)} {d:Nat}
theorem LJ{α β:Type}{L:List α}{f:α→List T}{a v':α}{i:Int}{t:TypeId}{v y:Operand}{ti:TI}{l:Loc}{m j:Nat}{xs:List T}{g:List α→Option β}{r0:β}(h:(some (L.set i.toNat v')).bind g=some r0)(hix:ix L i=some a)(hg:gS ds S gd=some true)(ht:τ t=some ti)(hv:evS S v=some (.one (.pp l [] m j)))(hm:m=i.toNat)(hk:(vU l&&isC S l)=true)(hr:atS S O l=some (.sl (L.map f)))(hy:(evS S y).bind aO=some xs)(hq:(Nat.beq xs.length ti.size&&Nat.ble (j+xs.length) (f a).length)=true)
  (hrow:(f a).take j++xs++(f a).drop (j+xs.length)=f v')(hn: ∀M,g M=some r0→Vo P τ An F ds r k (OP S l (.sl (M.map f))) (OQ O l (.sl (M.map f)))):Vo P τ An F ds (⟨none, .store t v y,ty,pos,after,gd⟩::r) k S O:=
 wSp hix hg ht hv hm hk hr hy hq hrow (hn _ h)
end
end Go.Own

/- Functions of the library: slices.Grow of no slice. -/
namespace Go.Own
open Go.RowKit

section
variable {P:Program} {τ:TypeId→Option TI} {An:FuncId→FA} {F:FA} {ds:List (Option Nat)} {r:List Oper} {k:Kt} {S:SS V} {O:SS (List T)} {gd:Option (Nat×Bool)} {d:Nat} {ty:TypeId} {pos:String} {after:Array Edge}
theorem wAps{β:Type}{L1:List Int}{s:List UInt8}{g:List Int→Option β}{r0:β}{f:Int→List T}{b:Nat}{t u:TypeId}{ei:TI}{v y:Operand}(h:(fQ b L1 (s.map fun c=>((c.toNat:Nat):Int))).bind g=some r0)(hg:gS ds S gd=some true)(he:elS τ t=some ei)(hb:Nat.beq ei.bytes b=true)(hv:evS S v=some (.one (.c (.sl (L1.map f)))))(hy:evS S y=some (.one (.c (.str s))))(hf0: ∀n,f n=[.int .u8 n])
  (hu2:uT τ u (match tk τ t with | some (.sl e)=>e | _=>0)=true)(hsz: ∀a,(Nat.beq (f a).length ei.size&&eP (f a) ei.zero)=true)(hf:fits (.one (.c (.sl []))) (F.shOf d)=true)(hn: ∀L3,g L3=some r0→Vo P τ An F ds r k (.cons d (Li f L3) S) O):Vo P τ An F ds (⟨some d, .call { callee:= .builtin .append,args:= #[v,y],argTypes:= #[t,u] },ty,pos,after,gd⟩::r) k S O:=by
 obtain⟨a,h1,h2⟩:=bind_some h
 obtain⟨e,q1,q2⟩:=sT he
 rw[q1]at hu2
 refine⟨fun x hx=>apd h1 (hx.gd hg) q1 q2 (Nat.eq_of_beq_eq_true hb) (hx.ev hv) (by rw[hx.ev hy]; rfl) (show qV s=_ from ?_) hu2 (fun a=> ?_) (fun a=> ?_) hf ((hn a h2).run _ (hx.put d _))⟩
 ·simp only[qV,List.map_map]
  exact List.map_congr_left fun c _=>(hf0 _).symm
 ·have:=hsz a; simp only[Bool.and_eq_true]at this; exact Nat.eq_of_beq_eq_true this.1
 ·have:=hsz a; simp only[Bool.and_eq_true]at this; exact this.2
theorem wMx{t u:TypeId}{y z:Operand}{κ κ2:IntKind}{a b:Int}(hg:gS ds S gd=some true)(h1:rdS S O y=some (.one (.c (.int κ a))))(h2:rdS S O z=some (.one (.c (.int κ2 b))))(hf:fits (.one (.c (.int κ 0))) (F.shOf d)=true)(h:Vo P τ An F ds r k (.cons d (.one (.c (.int κ (if b > a then b else a)))) S) O):Vo P τ An F ds (⟨some d, .call { callee:= .builtin .max,args:= #[y,z],argTypes:= #[t,u] },ty,pos,after,gd⟩::r) k S O:=
 ⟨fun x hx=>rd (.int κ (if b > a then b else a)) (hx.gd hg) rfl rfl (by simp only[gI,hx.rd h1,hx.rd h2]) (fI hf) (h.run _ (hx.put d _))⟩
theorem wMn{t u:TypeId}{y z:Operand}{κ κ2:IntKind}{a b:Int}(hg:gS ds S gd=some true)(h1:rdS S O y=some (.one (.c (.int κ a))))(h2:rdS S O z=some (.one (.c (.int κ2 b))))(hf:fits (.one (.c (.int κ 0))) (F.shOf d)=true)(h:Vo P τ An F ds r k (.cons d (.one (.c (.int κ (if b<a then b else a)))) S) O):Vo P τ An F ds (⟨some d, .call { callee:= .builtin .min,args:= #[y,z],argTypes:= #[t,u] },ty,pos,after,gd⟩::r) k S O:=
 ⟨fun x hx=>rd (.int κ (if b<a then b else a)) (hx.gd hg) rfl rfl (by simp only[gI,hx.rd h1,hx.rd h2]) (fI hf) (h.run _ (hx.put d _))⟩
end
end Go.Own

/- Checks in parts: drawn regions' outcomes told ahead, each checked by itself. -/
namespace Go.Own
open Go.RowKit

end Go.Own

/- Shifts by a value. -/
namespace Go.Own
open Go.RowKit
section
variable {P:Program} {τ:TypeId→Option TI} {An:FuncId→FA} {F:FA} {ds:List (Option Nat)} {r:List Oper} {k:Kt} {S:SS V} {O:SS (List T)} {gd:Option (Nat×Bool)} {d:Nat} {ty:TypeId} {pos:String} {after:Array Edge}
end
end Go.Own

/- Functions of the library: slices.Clone of elements that are scalars. -/
namespace Go.Own
open Go.RowKit

end Go.Own

/- Walk: an element's place in a slice that a slot holds. -/
namespace Go.Own
open Go.RowKit
section
variable {P:Program} {τ:TypeId→Option TI} {An:FuncId→FA} {F:FA} {ds:List (Option Nat)} {r:List Oper} {x:D} {K:D→Prop} {ty:TypeId} {pos:String} {after:Array Edge} {gd:Option (Nat×Bool)} {d:Nat}
theorem ixsl{α:Type}{L:List α}{f:α→List T}{a:α}{t e:TypeId}{ei:TI}{s:Nat}{i:Operand}{k:IntKind}{n:Int}(hix:ix L n=some a)(hg:bG ds x gd=some true)(ht:tk τ t=some (.sl e))(he:τ e=some ei)(hv:x.sl s= .one (.c (.sl (L.map f))))(hi:ev x.sl i= .one (.c (.int k n)))(hsz:(f a).length=ei.size)
  (hf:fits (.one (.pp (.s s 0 0) [] 0 0)) (F.shOf d)=true)(h:bB P τ An F ds r (x.put d (.one (.pp (.s s 0 0) [] n.toNat 0))) K):bB P τ An F ds (⟨some d, .indexAddr t (.tmp s) i,ty,pos,after,gd⟩::r) x K:=by
 unfold ix at hix
 split at hix<;>try cases hix
 rename_i h0
 have hrow:(L.map f)[n.toNat]? =some (f a):=by rw[List.getElem?_map,hix]; rfl
 have hv':ev x.sl (.tmp s)= .one (.c (.sl (L.map f))):=hv
 have e1:eE (F.shOf d)=true:=by
  revert hf
  cases F.shOf d with
  | tup ws=>simp [fits]
  | one w=>cases w<;>simp [fits,bP,eE]
 refine bR hg rfl ?_ h
 show(bif eE (F.shOf d)&&mT (ev x.sl (.tmp s))then mM τ F x d t (.tmp s) i else lO τ F x d t (.tmp s) i)=_
 rw[e1,show mT (ev x.sl (.tmp s))=true by rw[hv']; rfl,Bool.and_self,cond_true]
 unfold mM
 simp only[ht,hi,hv',idx,he,h0,if_true,hrow,hsz,Nat.beq_refl,cond_true]
 refine eO ?_
 revert hf
 cases F.shOf d with
 | tup ws=>simp [fits]
 | one w=>cases w<;>simp [fits,bP]
end
section
variable {P:Program} {τ:TypeId→Option TI} {An:FuncId→FA} {F:FA} {ds:List (Option Nat)} {r:List Oper} {k:Kt} {S:SS V} {O:SS (List T)} {ty:TypeId} {pos:String} {after:Array Edge} {gd:Option (Nat×Bool)} {d:Nat}
theorem wIs{α β:Type}{L:List α}{f:α→List T}{g:α→Option β}{r0:β}{t:TypeId}{ei:TI}{s:Nat}{i:Operand}{κ:IntKind}{n:Int}(h:(ix L n).bind g=some r0)(hg:gS ds S gd=some true)(he:elS τ t=some ei)(hv:evS S (.tmp s)=some (.one (.c (.sl (L.map f)))))(hi:evS S i=some (.one (.c (.int κ n))))(hsz: ∀a,(f a).length=ei.size)
  (hf:fits (.one (.pp (.s s 0 0) [] 0 0)) (F.shOf d)=true)(hn: ∀a,ix L n=some a→g a=some r0→Vo P τ An F ds r k (.cons d (.one (.pp (.s s 0 0) [] n.toNat 0)) S) O):Vo P τ An F ds (⟨some d, .indexAddr t (.tmp s) i,ty,pos,after,gd⟩::r) k S O:=by
 obtain⟨a,h1,h2⟩:=bind_some h
 obtain⟨e,q1,q2⟩:=sT he
 exact⟨fun x hx=>ixsl h1 (hx.gd hg) q1 q2 (hx.ev hv) (hx.ev hi) (hsz a) hf ((hn a h1 h2).run _ (hx.put d _))⟩
end
end Go.Own

/- Walks in fewer words: what needs no telling is run at once. -/

namespace Go.Own
open Go Go.RowKit
set_option linter.unusedVariables false

section
variable (ds:List (Option Nat)) (F:FA) (τ:TypeId→Option TI) (S:SS V) (O:SS (List T)) (gd:Option (Nat×Bool)) (d:Nat)
/-- An operation that needs no telling. -/
def xBn(op:BinOp)(t t2:TypeId)(y z:Operand):Option V:=match op with
 | .add=>(match xI2 ds F S O gd d y z with | some (κ,a,b)=>some (.one (.c (.int κ (κ.wrap (a+b))))) | none=>none)
 | .sub=>(match xI2 ds F S O gd d y z with | some (κ,a,b)=>some (.one (.c (.int κ (κ.wrap (a - b))))) | none=>none)
 | .mul=>(match xI2 ds F S O gd d y z with | some (κ,a,b)=>some (.one (.c (.int κ (κ.wrap (a*b))))) | none=>none)
 | .eql=>(match xC2 ds F S O gd d y z with | some (κ,a,b)=>some (Bo (decide (a=b))) | none=>(match xS2 ds F S O gd d y z with | some (a,b)=>some (Bo (decide (a=b))) | none=>none))
 | .neq=>(match xC2 ds F S O gd d y z with | some (κ,a,b)=>some (Bo (!decide (a=b))) | none=>(match xS2 ds F S O gd d y z with | some (a,b)=>some (Bo (!decide (a=b))) | none=>none))
 | .lss=>(match xC2 ds F S O gd d y z with | some (κ,a,b)=>some (Bo (decide (a<b))) | none=>none)
 | .leq=>(match xC2 ds F S O gd d y z with | some (κ,a,b)=>some (Bo (decide (a≤b))) | none=>none)
 | .gtr=>(match xC2 ds F S O gd d y z with | some (κ,a,b)=>some (Bo (decide (b<a))) | none=>none)
 | .geq=>(match xC2 ds F S O gd d y z with | some (κ,a,b)=>some (Bo (decide (b≤a))) | none=>none)
 | _=>none
def xCvS(t t2:TypeId)(y:Operand):Option V:=xG ds S gd (match tk τ t,tk τ t2,rdS S O y with
 | some _,some (.int κ'),some (.one (.c (.int κ a)))=>bif fits (.one (.c (.int κ' 0))) (F.shOf d)then some (.one (.c (.int κ' (κ'.wrap a))))else none
 | _,_,_=>none)
def xOne:Op→Option (SS V×SS (List T))
 | .move y=>(match xMvS ds F S gd d y with | some v=>some (.cons d v S,O) | none=>none)
 | .assign y=>(match xAsS ds F S gd d y with | some v=>some (.cons d v S,O) | none=>none)
 | .load t y=>(match xLdS ds F τ S O gd d t y with | some v=>some (.cons d v S,O) | none=>none)
 | .fieldAddr s v f=>(match xFdS ds F τ S gd d s v f with | some v=>some (.cons d v S,O) | none=>none)
 | .binOp op t y z t2=>(match xBn ds F S O gd d op t t2 y z with | some v=>some (.cons d v S,O) | none=>none)
 | .unOp .not _ y=>(match xNo ds F S O gd d y with | some b=>some (.cons d (Bo (!b)) S,O) | none=>none)
 | .convert t t2 y=>(match xCvS ds F τ S O gd d t t2 y with | some v=>some (.cons d v S,O) | none=>none)
 | .pick c y z=>(match xPkS ds F S gd d c y z with | some t=>some (.cons d (.one (.c t)) S,O) | none=>none)
 | .extract (.tmp t) j=>(match xEtS ds F S gd d t j with | some w=>some (.cons d (.one w) S,O) | none=>none)
 | .nilCheck v=>(match xNcS ds F S gd d v with | some w=>some (.cons d w S,O) | none=>none)
 | .box _ (.tmp t)=>(match xBxS ds F S gd d t with | some xs=>some (.cons d (.one (.ptr d 0)) S, .cons d xs O) | none=>none)
 | _=>none
end

inductive Cf where
 | c (code:Code) (k:Kt) (S:SS V) (O:SS (List T))
 | o (ds:List (Option Nat)) (os:List Oper) (k:Kt) (S:SS V) (O:SS (List T))
 | f (Q:Ek→D→Prop) (e:Ek) (S:SS V) (O:SS (List T))
@[reducible] def Cf.sat (P:Program) (τ:TypeId→Option TI) (An:FuncId→FA) (F:FA):Cf→Prop
 | .c a k S O=>Vc P τ An F a k S O
 | .o ds os k S O=>Vo P τ An F ds os k S O
 | .f Q e S O=>Fb Q e S O
def QW(S:SS V)(O:SS (List T)):Kt→Cf
 | .seq b k=> .c b k S O
 | .blk _ k=>QW S O k
 | .top Q=> .f Q .n S O
def SZ(i:Nat)(S:SS V)(O:SS (List T)):Kt→Cf
 | .seq _ k=>SZ i S O k
 | .blk id k=>bif Nat.beq i id then QW S O k else SZ i S O k
 | .top Q=> .f Q (.e i) S O
def UT(S:SS V)(O:SS (List T)):Kt→Cf
 | .seq _ k=>UT S O k
 | .blk _ k=>UT S O k
 | .top Q=> .f Q .r S O
def isLp:Code→Bool
 | .loop _=>true
 | _=>false
/-- One step. -/
def UV(F:FA)(τ:TypeId→Option TI):Cf→Option Cf
 | .c a k S O=>(match a with
  | .seq a b=>some (.c a (.seq b k) S O)
  | .skip=>some (QW S O k)
  | .label _=>some (QW S O k)
  | .exit i=>some (SZ i S O k)
  | .ret=>some (UT S O k)
  | .block id c=>bif isLp c then none else some (.c c (.blk id k) S O)
  | .region id ops _=>(match cU id F.mks with | none=>some (.o (ops.toList.map (·.dst)) ops.toList k S O) | some _=>none)
  | .cond (.tmp t) a b=>(match S.get t with
   | some (.one (.c (.bool true)))=>some (.c a k S O)
   | some (.one (.c (.bool false)))=>some (.c b k S O)
   | _=>none)
  | _=>none)
 | .o ds os k S O=>(match os with
  | []=>some (QW S O k)
  | ⟨some d,op,_,_,_,gd⟩::r=>(match gS ds S gd with
   | some false=>some (.o ds r k (.cons d (.tup []) S) O)
   | _=>(match xOne ds F τ S O gd d op with
    | some (S1,O1)=>some (.o ds r k S1 O1)
    | none=>none))
  | ⟨none, .store t v y,_,_,_,gd⟩::r=>(match xStS ds F τ S O gd t v y with
   | some (ob,cs)=>some (.o ds r k S (.cons ob cs O))
   | none=>none)
  | _=>none)
 | .f .. =>none
def run(F:FA)(τ:TypeId→Option TI):Nat→Cf→Cf
 | 0,c=>c
 | n+1,c=>match UV F τ c with
  | some c1=>run F τ n c1
  | none=>c

section
variable {P:Program} {τ:TypeId→Option TI} {An:FuncId→FA} {F:FA} {ds:List (Option Nat)} {r:List Oper} {k:Kt} {S:SS V} {O:SS (List T)} {ty:TypeId} {pos:String} {after:Array Edge} {gd:Option (Nat×Bool)} {d:Nat}
theorem BM: ∀ {k:Kt},(QW S O k).sat P τ An F→nxt P τ An F k S O
 | .seq b k,h=>h
 | .blk _ k,h=>BM (k:=k) h
 | .top Q,h=>h
theorem IP{i:Nat}: ∀ {k:Kt},(SZ i S O k).sat P τ An F→exi P τ An F k i S O
 | .seq b k,h=>IP (k:=k) h
 | .blk id k,h=>by
  simp only[SZ,exi]at h ⊢
  cases e:Nat.beq i id with
  | true=>rw[e]at h; exact BM h
  | false=>rw[e]at h; exact IP h
 | .top Q,h=>h
theorem IA: ∀ {k:Kt},(UT S O k).sat P τ An F→rtn k S O
 | .seq b k,h=>IA (k:=k) h
 | .blk _ k,h=>IA (k:=k) h
 | .top Q,h=>h
theorem Ue{op:BinOp}{t t2:TypeId}{y z:Operand}{v:V}(hq:xBn ds F S O gd d op t t2 y z=some v)(h:Vo P τ An F ds r k (.cons d v S) O):Vo P τ An F ds (⟨some d, .binOp op t y z t2,ty,pos,after,gd⟩::r) k S O:=by
 unfold xBn at hq
 split at hq
 ·split at hq<;>cases hq; rename_i e; exact xAdd e h
 ·split at hq<;>cases hq; rename_i e; exact xSub e h
 ·split at hq<;>cases hq; rename_i e; exact xMul e h
 ·split at hq
  ·cases hq; rename_i e; exact xEq e h
  ·split at hq<;>cases hq; rename_i e; exact xEs e h
 ·split at hq
  ·cases hq; rename_i e; exact xNe e h
  ·split at hq<;>cases hq; rename_i e; exact xNs e h
 ·split at hq<;>cases hq; rename_i e; exact xLt e h
 ·split at hq<;>cases hq; rename_i e; exact xLe e h
 ·split at hq<;>cases hq; rename_i e; exact xGt e h
 ·split at hq<;>cases hq; rename_i e; exact xGe e h
 ·cases hq
theorem Ud{t t2:TypeId}{y:Operand}{v:V}(hq:xCvS ds F τ S O gd d t t2 y=some v)(h:Vo P τ An F ds r k (.cons d v S) O):Vo P τ An F ds (⟨some d, .convert t t2 y,ty,pos,after,gd⟩::r) k S O:=by
 obtain⟨hg,hq⟩:=tD hq
 split at hq<;>try cases hq
 rename_i e1 e2 e3
 obtain⟨c,hq⟩:=aJ hq
 cases hq
 exact wCv hg e1 e2 e3 c h
theorem Qv{op:Op}{S1:SS V}{O1:SS (List T)}(hq:xOne ds F τ S O gd d op=some (S1,O1))(h:Vo P τ An F ds r k S1 O1):Vo P τ An F ds (⟨some d,op,ty,pos,after,gd⟩::r) k S O:=by
 unfold xOne at hq
 split at hq
 ·split at hq<;>cases hq; rename_i e; exact xMv e h
 ·split at hq<;>cases hq; rename_i e; exact xAs e h
 ·split at hq<;>cases hq; rename_i e; exact xLd e h
 ·split at hq<;>cases hq; rename_i e; exact xFd e h
 ·split at hq<;>cases hq; rename_i e; exact Ue e h
 ·split at hq<;>cases hq; rename_i e; exact xNot e h
 ·split at hq<;>cases hq; rename_i e; exact Ud e h
 ·split at hq<;>cases hq; rename_i e; exact xPk e h
 ·split at hq<;>cases hq; rename_i e; exact xEt e h
 ·split at hq<;>cases hq; rename_i e; exact xNc e h
 ·split at hq<;>cases hq; rename_i e; exact xBx e h
 ·cases hq
theorem RO{a b:Cf}(hq:UV F τ a=some b)(h:b.sat P τ An F):a.sat P τ An F:=by
 unfold UV at hq
 split at hq
 ·split at hq
  ·cases hq; exact cSq h
  ·cases hq; exact cSk (BM h)
  ·cases hq; exact cLb (BM h)
  ·cases hq; exact cEx (IP h)
  ·cases hq; exact cRt (IA h)
  ·rename_i id c
   revert hq
   cases isLp c with
   | true=>intro hq; cases hq
   | false=>intro hq; cases hq; exact cBk h
  ·split at hq<;>cases hq
   rename_i ops _ _ e
   exact cRg (ops:=ops.toList) h e
  ·split at hq<;>cases hq
   ·rename_i e; exact cT e h
   ·rename_i e; exact cF e h
  ·cases hq
 ·split at hq
  ·cases hq; exact oNl (BM h)
  ·split at hq
   ·cases hq; rename_i e; exact wSk e h
   ·split at hq<;>cases hq
    rename_i e; exact Qv e h
  ·split at hq<;>cases hq
   rename_i e; exact xSt e h
  ·cases hq
 ·cases hq
theorem AS: ∀ {n:Nat} {a:Cf},(run F τ n a).sat P τ An F→a.sat P τ An F
 | 0,_,h=>h
 | n+1,a,h=>by
  simp only[run]at h
  cases e:UV F τ a with
  | none=>rw[e]at h; exact h
  | some b=>rw[e]at h; exact RO e (AS h)
variable {a:Code} {os os1:List Oper} {k1:Kt} {S1:SS V} {O1:SS (List T)} {c1:Code} {ds1:List (Option Nat)} {Q:Ek→D→Prop} {e:Ek}
theorem gcc(n:Nat)(hq:run F τ n (.c a k S O)= .c c1 k1 S1 O1)(h:Vc P τ An F c1 k1 S1 O1):Vc P τ An F a k S O:=AS (n:=n) (a:= .c a k S O) (by rw[hq]; exact h)
theorem gco(n:Nat)(hq:run F τ n (.c a k S O)= .o ds1 os1 k1 S1 O1)(h:Vo P τ An F ds1 os1 k1 S1 O1):Vc P τ An F a k S O:=AS (n:=n) (a:= .c a k S O) (by rw[hq]; exact h)
theorem gcf(n:Nat)(hq:run F τ n (.c a k S O)= .f Q e S1 O1)(h:Fb Q e S1 O1):Vc P τ An F a k S O:=AS (n:=n) (a:= .c a k S O) (by rw[hq]; exact h)
theorem goc(n:Nat)(hq:run F τ n (.o ds os k S O)= .c c1 k1 S1 O1)(h:Vc P τ An F c1 k1 S1 O1):Vo P τ An F ds os k S O:=AS (n:=n) (a:= .o ds os k S O) (by rw[hq]; exact h)
theorem goo(n:Nat)(hq:run F τ n (.o ds os k S O)= .o ds1 os1 k1 S1 O1)(h:Vo P τ An F ds1 os1 k1 S1 O1):Vo P τ An F ds os k S O:=AS (n:=n) (a:= .o ds os k S O) (by rw[hq]; exact h)
theorem gof(n:Nat)(hq:run F τ n (.o ds os k S O)= .f Q e S1 O1)(h:Fb Q e S1 O1):Vo P τ An F ds os k S O:=AS (n:=n) (a:= .o ds os k S O) (by rw[hq]; exact h)
end
/-- An end of a walk. -/
theorem en{P:Prop}(p:P:=by
 first
  | exact eJ h rfl
  | exact eL h rfl
  | exact eX h rfl
  | exact eXr h rfl
  | (cases h; first | exact eR rfl rfl rfl rfl | exact eRi rfl rfl rfl rfl rfl | exact eN rfl rfl rfl rfl | exact eNi rfl rfl rfl rfl rfl)):P:=p
/-- A way to an end without a test. -/
theorem gec{P:Prop}(p:P:=by exact gcf 99 rfl en):P:=p
theorem geo{P:Prop}(p:P:=by exact gof 99 rfl en):P:=p
end Go.Own

/- Walks: places inside places inside slices; slices taken out of an element and put back. -/
namespace Go.Own
open Go Go.RowKit
set_option linter.unusedVariables false
section
variable {P:Program} {τ:TypeId→Option TI} {An:FuncId→FA} {F:FA} {ds:List (Option Nat)} {r:List Oper} {k:Kt} {S:SS V} {O:SS (List T)} {ty:TypeId} {pos:String} {after:Array Edge} {gd:Option (Nat×Bool)} {d:Nat}
theorem Ia{α:Type}{L:List α}{f:α→List T}{n:Int}{a:α}(h:ix L n=some a):(L.map f)[n.toNat]? =some (f a)∧0≤n:=by
 unfold ix at h
 split at h<;>try cases h
 rename_i h0
 exact⟨by rw[List.getElem?_map,h]; rfl,h0⟩
/-- An index into a slice inside a place. -/
theorem wIpP{α β:Type}{M:List α}{f:α→List T}{g:α→Option β}{r0:β}{t:TypeId}{ei:TI}{v i:Operand}{l:Loc}{p:List (Nat×Nat)}{κ:IntKind}{n:Int}{x0:T}(h:(ix M n).bind g=some r0)(hnav:nav x0 p=some (.sl (M.map f)))(hg:gS ds S gd=some true)(he:elS τ t=some ei)(hv:evS S v=some (.one (.al l p)))(hk:vU l=true)(hr:atS S O l=some x0)(hi:evS S i=some (.one (.c (.int κ n))))(hsz: ∀a,(f a).length=ei.size)
  (hf:fits (.one (.pp l p 0 0)) (F.shOf d)=true)(hn: ∀a,ix M n=some a→g a=some r0→Vo P τ An F ds r k (.cons d (.one (.pp l p n.toNat 0)) S) O):Vo P τ An F ds (⟨some d, .indexAddr t v i,ty,pos,after,gd⟩::r) k S O:=by
 obtain⟨a,h1,h2⟩:=bind_some h
 obtain⟨e,q1,q2⟩:=sT he
 obtain⟨hrow,h0⟩:=Ia (f:=f) h1
 refine⟨fun x hx=>bR (x1:=x.put d (.one (.pp l p n.toNat 0))) (hx.gd hg) rfl ?_ ((hn a h1 h2).run _ (hx.put d _))⟩
 show(bif eE (F.shOf d)&&mT (ev x.sl v)then mM τ F x d t v i else lO τ F x d t v i)=_
 rw[show(eE (F.shOf d)&&mT (ev x.sl v))=false by rw[hx.ev hv]; simp [mT],cond_false]
 unfold lO
 simp only[q1,hx.ev hi,hx.ev hv,hx.at (nT hk) hr,Option.bind_some,hnav,idx,q2,h0,if_true,hrow,hsz,Nat.beq_refl,cond_true]
 refine eO ?_
 revert hf
 cases F.shOf d with
 | tup ws=>simp [fits]
 | one w=>cases w<;>simp [fits,bP]
/-- A store into an element of a slice inside a place. -/
theorem wSpP{α α' β:Type}{M:List α}{f:α→List T}{a v':α}{L':List α'}{rf:α'→List T}{g:List α'→Option β}{r0:β}{i:Int}{t:TypeId}{v y:Operand}{ti:TI}{l:Loc}{p:List (Nat×Nat)}{m j:Nat}{xs:List T}{x0:T}(h:(some L').bind g=some r0)(hix:ix M i=some a)(hnav:nav x0 p=some (.sl (M.map f)))(hz:cG x0 p (.sl ((M.set i.toNat v').map f))= .sl (L'.map rf))(hg:gS ds S gd=some true)(ht:τ t=some ti)(hv:evS S v=some (.one (.pp l p m j)))(hm:m=i.toNat)(hk:(vU l&&isC S l)=true)(hr:atS S O l=some x0)(hy:(evS S y).bind aO=some xs)(hq:(Nat.beq xs.length ti.size&&Nat.ble (j+xs.length) (f a).length)=true)
  (hrow:(f a).take j++xs++(f a).drop (j+xs.length)=f v')(hn: ∀N,g N=some r0→Vo P τ An F ds r k (OP S l (.sl (N.map rf))) (OQ O l (.sl (N.map rf)))):Vo P τ An F ds (⟨none, .store t v y,ty,pos,after,gd⟩::r) k S O:=by
 subst hm
 simp only[Bool.and_eq_true]at hk
 obtain⟨hrw,_⟩:=Ia (f:=f) hix
 refine⟨fun x hx=>bR (x1:=x.upd l (.sl (L'.map rf))) (hx.gd hg) rfl ?_ ((hn _ h).run _ (hx.upd hk.1 hk.2 hr))⟩
 obtain⟨u,h5,h6⟩:=Option.bind_eq_some_iff.1 hy
 show(match τ t,ev x.sl v,aO (ev x.sl y)with
   | some i, .one (.ptr ob p),some xs=>oD F x i ob p xs
   | some i, .one (.pp l p n j),some xs=>lH F x i l p n j xs
   | _,_,_=>none)=_
 rw[ht,hx.ev hv,hx.ev h5,h6]
 simp only[lH,hx.at (nT hk.1) hr,hnav,hrw,hq,cond_true,hrow, ←List.map_set,hz]
/-- A slice taken out of an element. -/
theorem wLtk{α:Type}{L:List α}{f:α→List T}{a:α}{i:Int}{t:TypeId}{v:Operand}{ti:TI}{l:Loc}{m j:Nat}{cs:List T}{y:T}(hix:ix L i=some a)(hg:gS ds S gd=some true)(ht:τ t=some ti)(hv:evS S v=some (.one (.pp l [] m j)))(hm:m=i.toNat)(hk:vU l=true)(hr:atS S O l=some (.sl (L.map f)))(hal:(mem d F.al,mem d F.tk,tkM F d)=(false,true,[0]))(hc:f a=cs)(hy:cs[j]? =some y)(hl:nD ti (cs.drop j)=some (.one (.c y)))(hf:fits (.one (.c y)) (F.shOf d)=true)(hr2:(isC (.cons d (.one (.c y)) S) l,atS (.cons d (.one (.c y)) S) O l)=(true,some (.sl (L.map f))))
  (h:Vo P τ An F ds r k (OP (.cons d (.one (.c y)) S) l (.sl ((L.map f).set i.toNat (cs.set j .hole)))) (OQ O l (.sl ((L.map f).set i.toNat (cs.set j .hole))))):Vo P τ An F ds (⟨some d, .load t v,ty,pos,after,gd⟩::r) k S O:=by
 subst hm hc
 obtain⟨hrw,_⟩:=Ia (f:=f) hix
 simp only[Prod.mk.injEq]at hal hr2
 obtain⟨a1,a2,a3⟩:=hal
 refine⟨fun x hx=> ?_⟩
 have hx1:=hx.put d (.one (.c y))
 have hat1:=hx1.at (nT hk) hr2.2
 have hx2:=hx1.upd (z:= .sl ((L.map f).set i.toNat ((f a).set j .hole))) hk hr2.1 hr2.2
 refine bR (x1:=(x.put d (.one (.c y))).upd l (.sl ((L.map f).set i.toNat ((f a).set j .hole)))) (hx.gd hg) rfl ?_ (h.run _ hx2)
 show(bif mem d F.tk&&(!(mem d F.al)&&eE (ev x.sl v))then tP τ F x d t v else mU τ F x d t v (mem d F.al))=_
 rw[show(mem d F.tk&&(!(mem d F.al)&&eE (ev x.sl v)))=true by rw[a1,a2,hx.ev hv]; rfl,cond_true]
 unfold tP
 have e0: ∀z:T,cG z [] .hole= .hole:=fun z=>by cases z<;>rfl
 simp only[ht,hx.ev hv,hx.at (nT hk) hr,Option.bind_some,nav,hrw,hl,hf,cond_true,a3,D.takes,hat1,Option.getD_some,List.nil_append,Nat.add_zero,uA hrw hy,e0]
/-- It is put back. -/
theorem wStH{α β:Type}{L:List α}{f:α→List T}{a v':α}{i:Int}{row:List T}{t:TypeId}{v y:Operand}{ti:TI}{l:Loc}{m j:Nat}{xs:List T}{g:List α→Option β}{r0:β}(h:(some (L.set i.toNat v')).bind g=some r0)(hix:ix L i=some a)(hg:gS ds S gd=some true)(ht:τ t=some ti)(hv:evS S v=some (.one (.pp l [] m j)))(hm:m=i.toNat)(hk:(vU l&&isC S l)=true)(hr:atS S O l=some (.sl ((L.map f).set i.toNat row)))(hy:(evS S y).bind aO=some xs)(hq:(Nat.beq xs.length ti.size&&Nat.ble (j+xs.length) row.length)=true)
  (hrow:row.take j++xs++row.drop (j+xs.length)=f v')(hn: ∀M,g M=some r0→Vo P τ An F ds r k (OP S l (.sl (M.map f))) (OQ O l (.sl (M.map f)))):Vo P τ An F ds (⟨none, .store t v y,ty,pos,after,gd⟩::r) k S O:=by
 subst hm
 simp only[Bool.and_eq_true]at hk
 obtain⟨hrw,_⟩:=Ia (f:=f) hix
 have hlt:i.toNat<(L.map f).length:=cC hrw
 have hrw2:((L.map f).set i.toNat row)[i.toNat]? =some row:=by rw[List.getElem?_set_self hlt]
 refine⟨fun x hx=>bR (x1:=x.upd l (.sl ((L.set i.toNat v').map f))) (hx.gd hg) rfl ?_ ((hn _ h).run _ (hx.upd hk.1 hk.2 hr))⟩
 obtain⟨u,h5,h6⟩:=Option.bind_eq_some_iff.1 hy
 show(match τ t,ev x.sl v,aO (ev x.sl y)with
   | some i, .one (.ptr ob p),some xs=>oD F x i ob p xs
   | some i, .one (.pp l p n j),some xs=>lH F x i l p n j xs
   | _,_,_=>none)=_
 rw[ht,hx.ev hv,hx.ev h5,h6]
 simp only[lH,hx.at (nT hk.1) hr,nav,hrw2,hq,cond_true,hrow,cG,List.set_set,List.map_set]
end
end Go.Own
