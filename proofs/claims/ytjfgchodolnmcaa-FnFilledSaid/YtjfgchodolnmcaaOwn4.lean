/- A calculus for runs on plain data (part 5): whoever runs code on data, with its owners checked, runs the program. No conditions. -/
import Derived.Test.YtjfgchodolnmcaaOwn3
import Derived.Below
import Derived.ChangeArms
import Derived.ChangeOld
import Derived.DataReads
import Derived.OpenShut
import Derived.ProofKit
import Derived.ShutString
import Derived.SizedLaws
import Derived.WalkKit
import Derived.WideShapes
set_option linter.unusedVariables false
set_option linter.unusedSimpArgs false
set_option linter.unnecessarySimpa false
namespace Go.Own
open Go.RowKit

def ix{α:Type}(l:List α)(i:Int):Option α:=if 0≤i then l[i.toNat]? else none
def ixs(s:List UInt8)(i:Int):Option Int:=if 0≤i then(s[i.toNat]?).map fun b=>(b.toNat:Int)else none
def fE{α:Type}(bytes:Nat)(a b:List α):Option (List α):=if a.length+b.length≤maxLen∧(a.length+b.length)*bytes≤140737488355328 then some (a++b)else none
def bnd(len:Nat)(lo hi:Option Int):Option (Nat×Nat):=if 0≤lo.getD 0∧lo.getD 0≤hi.getD len∧hi.getD len≤len then some ((lo.getD 0).toNat,(hi.getD len).toNat)else none
def sub{α:Type}(l:List α)(lo hi:Option Int):Option (List α):=(bnd l.length lo hi).map fun r=>(l.drop r.1).take (r.2 - r.1)
def loopN{σ ρ:Type}(body:σ→Option (σ⊕ρ)):Nat→σ→Option ρ
 | 0,_=>none
 | n+1,s=>match body s with
  | none=>none
  | some (.inl s')=>loopN body n s'
  | some (.inr r)=>some r

theorem bind_some{α β:Type}{o:Option α}{f:α→Option β}{r:β}(h:o.bind f=some r): ∃a,o=some a∧f a=some r:=z18.1 h

theorem OL{x:D}{d:Nat}{v:V}(h:x.sl d=v):x.put d v=x:=D.ext (fun i=>by
 simp only[D.put]; by_cases e:i=d
 ·subst e; rw[z19 rfl,h]
 ·rw[z13 e]) (fun _=>rfl)
section
variable {P:Program} {τ:TypeId→Option TI} {An:FuncId→FA} {F:FA} {ds:List (Option Nat)} {r:List Oper} {x:D} {K:D→Prop} {ty:TypeId} {pos:String} {after:Array Edge} {gd:Option (Nat×Bool)} {d:Nat} {Q:Ek→D→Prop}

theorem Dz{os:List Oper}{ds:List (Option Nat)}: ∀ {x:D} {K K':D→Prop},(∀x,K x→K' x)→aZ P τ An F ds os x K→aZ P τ An F ds os x K':=by
 induction os with
 | nil=>exact fun hk h=>hk _ h
 | cons o r ih=>
  intro x K K' hk h; have h:FR P τ An F ds o x (fun x1=>aZ P τ An F ds r x1 K):=h
  show FR P τ An F ds o x (fun x1=>aZ P τ An F ds r x1 K')
  unfold FR at h ⊢; split
  ·rename_i hg
   rw[hg]at h; simp only at h; unfold Kl at h ⊢; split
   ·rename_i hc
    rw[hc]at h; rcases h with⟨h0,f,caps,ob,ob',rr,nw,h1,h2,h3,h4,h5,h6⟩ | ⟨h0,f,rr,t,xs,l,p,x0,es,es',h1,h2,h3,h4,h5,h6,h7,h8,h9⟩
    ·exact .inl ⟨h0,f,caps,ob,ob',rr,nw,h1,h2,h3,h4,h5,ih hk h6⟩
    ·exact .inr ⟨h0,f,rr,t,xs,l,p,x0,es,es',h1,h2,h3,h4,h5,h6,h7,h8,ih hk h9⟩
   ·rename_i hc
    rw[hc]at h; obtain⟨x1,h1,h2⟩:=h; exact⟨x1,h1,ih hk h2⟩
  ·rename_i hg
   rw[hg]at h; exact ih hk h
  ·rename_i hg
   rw[hg]at h; exact h.elim
theorem Ep{c:Code}: ∀ {x:D} {M N:Ek→D→Prop},(∀e x,M e x→N e x)→vcC P τ An F c x M→vcC P τ An F c x N:=by
 induction c with
 | seq a b iha ihb=>
  intro x M N hmn h; refine iha (fun e x he=> ?_) h
  cases e with
  | n=>exact ihb hmn he
  | r=>exact hmn _ _ he
  | e i=>exact hmn _ _ he
 | cond c a b iha ihb=>
  intro x M N hmn h; obtain⟨t,h0,h1,h2⟩:=h; exact⟨t,h0,fun e=>iha hmn (h1 e),fun e=>ihb hmn (h2 e)⟩
 | block id c ih=>exact fun hmn h=>ih (fun e x he=>hmn _ _ he) h
 | loop c _=>exact fun hmn ⟨e,x',h1,h2⟩=>⟨e,x',h1,hmn _ _ h2⟩
 | region id ops dr=>
  intro x M N hmn h; rcases h with⟨h0,h⟩ | ⟨x1,h1,h2⟩
  ·exact .inl ⟨h0,Dz (fun x hx=>hmn _ _ hx) h⟩
  ·exact .inr ⟨x1,h1,hmn _ _ h2⟩
 | skip=>exact fun hmn h=>hmn _ _ h
 | label=>exact fun hmn h=>hmn _ _ h
 | exit=>exact fun hmn h=>hmn _ _ h
 | ret=>exact fun hmn h=>hmn _ _ h
 | _=>exact fun _ h=>h.elim

theorem RG{id:Nat}{c:Code}(h:vcC P τ An F c x (blkD id Q)):vcC P τ An F (.block id c) x Q:=h

theorem Wd.loopN{σ ρ:Type}{body:σ→Option (σ⊕ρ)}{c:Code}(Rel:σ→D→Prop)(Fin:ρ→Ek→D→Prop)
  (hb: ∀s o x,Rel s x→body s=some o→vcC P τ An F c x (fun e x'=>match o with | .inl s'=>e= .n∧Rel s' x' | .inr r=>e≠ .n∧Fin r e x')):
  ∀ {n:Nat} {s:σ} {q:ρ} {x:D},loopN body n s=some q→Rel s x→(∀e x',Fin q e x'→Q e x')→vcC P τ An F (.loop c) x Q:=by
 intro n; induction n with
 | zero=>intro s q x h; cases h
 | succ n ih=>
  intro s q x h hr hq; unfold Own.loopN at h; cases hs:body s with
  | none=>rw[hs]at h; cases h
  | some o=>
   rw[hs]at h; obtain⟨e,x1,h1,h2⟩:=AW (hb s o x hr hs); cases o with
   | inl s'=>
    obtain⟨rfl,h2⟩:=h2; obtain⟨e2,x2,q1,q2⟩:=ih h h2 hq; exact⟨e2,x2, .loopN h1 q1,q2⟩
   | inr r=>
    cases h; exact⟨e,x1, .loopX h1 h2.1,hq _ _ h2.2⟩

theorem mv{y:Operand}{v:V}(hg:bE ds x gd=some true)(hv:ev x.sl y=v)(hq:(!(mem d F.al)&&fY v&&fits v (F.shOf d))=true)(h:aZ P τ An F ds r (x.put d v) K):aZ P τ An F ds (⟨some d, .move y,ty,pos,after,gd⟩::r) x K:=by
 simp only[z7,z37]at hq; exact Tn hg hq.1.1 hv hq.1.2 hq.2 h
theorem asg{y:Operand}{v:V}(hg:bE ds x gd=some true)(hv:ev x.sl y=v)(hq:(fY v&&fits v (F.shOf d))=true)(h:aZ P τ An F ds r (x.put d v) K):aZ P τ An F ds (⟨some d, .assign y,ty,pos,after,gd⟩::r) x K:=by
 simp only[z7]at hq; exact OH hg hv hq.1 hq.2 h
theorem pk{c y z:Operand}{b:Bool}{t:T}(hg:bE ds x gd=some true)(hc:ev x.sl c= .one (.c (.bool b)))(hv:ev x.sl (bif b then y else z)= .one (.c t))(hq:(scal t&&fits (.one (.c t)) (F.shOf d))=true)(h:aZ P τ An F ds r (x.put d (.one (.c t))) K):aZ P τ An F ds (⟨some d, .pick c y z,ty,pos,after,gd⟩::r) x K:=by
 simp only[z7]at hq; refine Tm hg hc ?_ hq.1 hq.2 h
 cases b<;>exact hv
theorem rd{op:Op}(w:T)(hg:bE ds x gd=some true)(hc:cW ⟨some d,op,ty,pos,after,gd⟩=none)(hd:dOp τ F x ⟨some d,op,ty,pos,after,gd⟩=mU τ F x d op)(hr:gL τ (evD x) op=some w)(hf:fits (.one (.c w)) (F.shOf d)=true)(h:aZ P τ An F ds r (x.put d (.one (.c w))) K):
  aZ P τ An F ds (⟨some d,op,ty,pos,after,gd⟩::r) x K:=PM hg hc hd hr hf h
theorem ln{α:Type}{L:List α}{f:α→List T}{y:Operand}{t e:TypeId}(hg:bE ds x gd=some true)(ht:tk τ t=some (.sl e))(hv:evD x y= .one (.c (.sl (L.map f))))(hf:fits (.one (.c (.int .i64 0))) (F.shOf d)=true)(h:aZ P τ An F ds r (x.put d (.one (.c (.int .i64 L.length)))) K):
  aZ P τ An F ds (⟨some d, .call { callee:= .builtin .len,args:= #[y],argTypes:= #[t] },ty,pos,after,gd⟩::r) x K:=s_len hg ht hv hf (by simpa using h)
theorem ixa{α:Type}{L:List α}{f:α→List T}{a:α}{t e:TypeId}{ei:TI}{v i:Operand}{row:List T}{k:IntKind}{n:Int}(hix:ix L n=some a)(hg:bE ds x gd=some true)(ht:tk τ t=some (.sl e))(he:τ e=some ei)(hv:ev x.sl v= .one (.c (.sl (L.map f))))(hi:ev x.sl i= .one (.c (.int k n)))(hrow:f a=row)(hsz:row.length=ei.size)
  (hf:fits (.one (.cp row)) (F.shOf d)=true)(h:aZ P τ An F ds r (x.put d (.one (.cp row))) K):aZ P τ An F ds (⟨some d, .indexAddr t v i,ty,pos,after,gd⟩::r) x K:=by
 unfold ix at hix; split at hix<;>try cases hix
 rename_i h0; exact QT hg ht he hv hi h0 (by rw[z36,hix,z35,hrow]) hsz hf h
theorem ldc{t:TypeId}{v:Operand}{ti:TI}{xs:List T}{w:V}(hg:bE ds x gd=some true)(ht:τ t=some ti)(hv:ev x.sl v= .one (.cp xs))(hl:nV ti xs=some w)(hf:fits w (F.shOf d)=true)(h:aZ P τ An F ds r (x.put d w) K):
  aZ P τ An F ds (⟨some d, .load t v,ty,pos,after,gd⟩::r) x K:=QS hg ht hv hl hf h
theorem ldo{t:TypeId}{v:Operand}{ti:TI}{ob p:Nat}{cells:List T}{w:V}(hg:bE ds x gd=some true)(ht:τ t=some ti)(hm:mem d F.al=false)(hv:ev x.sl v= .one (.ptr ob p))(hc:x.ob ob=some cells)(hl:nV ti (cells.drop p)=some w)(hf:fits w (F.shOf d)=true)(h:aZ P τ An F ds r (x.put d w) K):
  aZ P τ An F ds (⟨some d, .load t v,ty,pos,after,gd⟩::r) x K:=QR hg ht hm hv hc hl hf h
theorem sto{t:TypeId}{v y:Operand}{ti:TI}{ob p:Nat}{cells xs cs:List T}(hg:bE ds x gd=some true)(ht:τ t=some ti)(hv:ev x.sl v= .one (.ptr ob p))(hy:aT (ev x.sl y)=some xs)(hc:x.ob ob=some cells)(hq:(Nat.beq xs.length ti.size&&Nat.ble (p+xs.length) cells.length&&eH cs (F.obOf ob))=true)(hcs:cells.take p++xs++cells.drop (p+xs.length)=cs)(h:aZ P τ An F ds r (x.setO ob cs) K):
  aZ P τ An F ds (⟨none, .store t v y,ty,pos,after,gd⟩::r) x K:=by
 subst hcs; refine dB hg rfl ?_ h
 show(match τ t,ev x.sl v,aT (ev x.sl y)with
   | some i, .one (.ptr ob p),some xs=>qT F x i ob p xs
   | some i, .one (.pp l p n j),some xs=>pP F x i l p n j xs
   | _,_,_=>none)=_
 rw[ht,hv,hy]; simp only[qT,hc,hq,z17]
theorem gen{o:Oper}{x1:D}(hg:bE ds x o.guard=some true)(hc:cW o=none)(h1:dOp τ F x o=some x1)(h:aZ P τ An F ds r x1 K):aZ P τ An F ds (o::r) x K:=dB hg hc h1 h
theorem lit{α:Type}{L:List α}{f:α→List T}{t e:TypeId}{n:Nat}{parts:Array (Nat×Operand)}{ei:TI}{es:List (List T)}(hg:bE ds x gd=some true)(ht:tk τ t=some (.sl e))(he:τ e=some ei)(hes:sY ((parts.toList.map (·.2)).map (ev x.sl))=some es)(hL:L.map f=es)
  (hq:(yD 0 parts.toList&&Nat.beq n parts.toList.length&&es.all (fun e=>Nat.beq e.length ei.size)&&Nat.ble (n*ei.size) 16777216)=true)(hf:fits (.one (.c (.sl []))) (F.shOf d)=true)(h:aZ P τ An F ds r (x.put d (.one (.c (.sl (L.map f))))) K):
  aZ P τ An F ds (⟨some d, .buildSlice t n parts,ty,pos,after,gd⟩::r) x K:=by
 rw[hL]at h; refine dB hg rfl ?_ h
 show LK τ F x d t n parts=_; unfold LK; simp only[ht,he,hes,hq,z17]
 exact gN (by
  revert hf
  cases F.shOf d with
  | tup ws=>simp [fits]
  | one w =>
        cases w<;>simp [fits,bP]
        rename_i z; cases z<;>simp [qX])
theorem apd{α:Type}{L1 L2 L3:List α}{f:α→List T}{b:Nat}{t u e:TypeId}{ei:TI}{v y:Operand}{es2:List (List T)}(hap:fE b L1 L2=some L3)(hg:bE ds x gd=some true)(ht:tk τ t=some (.sl e))(he:τ e=some ei)(hb:ei.bytes=b)(hv:ev x.sl v= .one (.c (.sl (L1.map f))))(hy:FW (ev x.sl y)=some es2)(hL:es2=L2.map f)(hu:yC τ u e=true)(hsz: ∀a,(f a).length=ei.size)(hcf: ∀a,eH (f a) ei.zero=true)
  (hf:fits (.one (.c (.sl []))) (F.shOf d)=true)(h:aZ P τ An F ds r (x.put d (.one (.c (.sl (L3.map f))))) K):aZ P τ An F ds (⟨some d, .call { callee:= .builtin .append,args:= #[v,y],argTypes:= #[t,u] },ty,pos,after,gd⟩::r) x K:=by
 subst hL; subst hb; unfold fE at hap; split at hap<;>try cases hap
 rename_i hle; refine OI hg ht he hv hy hu ?_ hf (by simpa using h)
 simp only[Nh,z7,z15,z51,z89]; exact⟨⟨⟨fun e he=>by obtain⟨a,_,rfl⟩:=he; rw[hsz]; exact z42 _,fun e he=>by obtain⟨a,_,rfl⟩:=he; exact hcf a⟩,TR hle.1⟩,TR hle.2⟩
theorem mks{α:Type}{z:α}{f:α→List T}{t e:TypeId}{ei:TI}{v y:Operand}{n:Int}{k k':IntKind}(hn:0≤n∧n≤maxLen∧ei.bytes*n≤281474976710656)(hg:bE ds x gd=some true)(ht:tk τ t=some (.sl e))(he:τ e=some ei)(hv:ev x.sl v= .one (.c (.int k n)))(hy:ev x.sl y= .one (.c (.int k' n)))(hz:f z=ei.zero)(hf:fits (.one (.c (.sl []))) (F.shOf d)=true)(h:aZ P τ An F ds r (x.put d (.one (.c (.sl ((List.replicate n.toNat z).map f))))) K):
  aZ P τ An F ds (⟨some d, .makeSlice t v y,ty,pos,after,gd⟩::r) x K:=by
 refine dB hg rfl ?_ h
 show DD τ F x d t v y=_; unfold DD; simp only[ht,he,hv,hy]; rw[z19 ⟨trivial,hn⟩,List.map_replicate,hz]
 exact gN (by
  revert hf
  cases F.shOf d with
  | tup ws=>simp [fits]
  | one w =>
        cases w<;>simp [fits,bP]
        rename_i z; cases z<;>simp [qX])

theorem Oy{d:Nat}{y:D}{v:V}(h:(y.sl 0).to (rX [] none)=v):x.call (some d) none [] y=x.put d v:=D.ext (fun i=>by
 simp only[D.call,D.put,z10,h]; by_cases e:d=i
 ·rw[z19 e,z19 e.symm]
 ·rw[z13 e,z13 (fun h=>e h.symm)]) (fun o=>by simp [D.call,oV])
theorem ND{d o:Nat}{y:D}{v:V}{cs:List T}(h:(y.sl 0).to (rX [o] none)=v)(h2:y.ob par=some cs):x.call (some d) none [o] y=(x.put d v).setO o cs:=D.ext (fun i=>by
 simp only[D.call,D.put,D.setO,z10,h]; by_cases e:d=i
 ·rw[z19 e,z19 e.symm]
 ·rw[z13 e,z13 (fun h=>e h.symm)]) (fun i=>by
 simp only[D.call,D.put,D.setO,oV,z64]; by_cases e:i=o
 ·subst e; simp [List.idxOf,List.findIdx,List.findIdx.go,h2]
 ·simp [e])
theorem NB{d:Nat}{y:D}{cs:List T}(h:(y.sl 0).to (rX [] (some d))= .one (.ptr d 0))(h2:y.ob 0=some cs):x.call (some d) (some d) [] y=(x.put d (.one (.ptr d 0))).setO d cs:=D.ext (fun i=>by
 simp only[D.call,D.put,D.setO,z10,h]; by_cases e:d=i
 ·rw[z19 e,z19 e.symm]
 ·rw[z13 e,z13 (fun h=>e h.symm)]) (fun i=>by
 simp only[D.call,D.put,D.setO,oV]; by_cases e:i=d
 ·subst e; simp [h2]
 ·simp [e,Ne.symm e])

theorem cl0{caps:List (Nat×Nat)}{c:Call}{v:Operand}{f:FuncId}{vs:List V}{rr v':V}(hB:Big P τ An (.fn f vs [] rr none [] none))(hg:bE ds x gd=some true)(hc:cW ⟨some d, .call c,ty,pos,after,gd⟩=some (c,v))(hx:ev x.sl v= .one (.fn f caps))(hth:c.args.toList.all (fun v=>fY (ev x.sl v))=true)(hos:iN F c v=[])(hnd:pZ F (some d)=none)
  (hvs:inV x c caps []=vs)(hv':rr.to (rX [] none)=v')(hf:fits v' (F.shOf d)=true)(h:aZ P τ An F ds r (x.put d v') K):aZ P τ An F ds (⟨some d, .call c,ty,pos,after,gd⟩::r) x K:=by
 have hcp:x.call (some d) none [] (DR rr none [] none)=x.put d v':=Oy hv'; refine wX (x1:=x.put d v') (ob:=[]) hg hc (Ai hos (by simp)) hx hth (by rw[hos]; rfl) (by rw[hos]; exact hvs) hB ?_ ?_ h
 ·show x.call (some d) (pZ F (some d)) (iN F c v) _=_
  rw[hos,hnd]; exact hcp
 ·show bJ F (x.put d v') (some d) (pZ F (some d)) (iN F c v)=true
  rw[hos,hnd]; simp [bJ,uK,D.put,hf]
theorem cl1{caps:List (Nat×Nat)}{c:Call}{v:Operand}{f:FuncId}{vs:List V}{rr v':V}{o:Nat}{cs cs':List T}(hB:Big P τ An (.fn f vs [cs] rr none [cs'] none))(hg:bE ds x gd=some true)(hc:cW ⟨some d, .call c,ty,pos,after,gd⟩=some (c,v))(hx:ev x.sl v= .one (.fn f caps))(hth:c.args.toList.all (fun v=>fY (ev x.sl v))=true)(hos:iN F c v=[o])(hnd:pZ F (some d)=none)
  (hob:x.ob o=some cs)(hvs:inV x c caps [o]=vs)(hv':rr.to (rX [o] none)=v')(hf:(fits v' (F.shOf d)&&eH cs' (F.obOf o))=true)(h:aZ P τ An F ds r ((x.put d v').setO o cs') K):aZ P τ An F ds (⟨some d, .call c,ty,pos,after,gd⟩::r) x K:=by
 simp only[z7]at hf; have hcp:x.call (some d) none [o] (DR rr none [cs'] none)=(x.put d v').setO o cs':=ND hv' (by simp [DR])
 refine wX (x1:=(x.put d v').setO o cs') (ob:=[cs]) hg hc (Ai hos (by simp)) hx hth (by rw[hos]; simp [hob]) (by rw[hos]; exact hvs) hB ?_ ?_ h
 ·show x.call (some d) (pZ F (some d)) (iN F c v) _=_
  rw[hos,hnd]; exact hcp
 ·show bJ F ((x.put d v').setO o cs') (some d) (pZ F (some d)) (iN F c v)=true
  rw[hos,hnd]; simp [bJ,uK,D.put,D.setO,hf.1,hf.2]
theorem cln{caps:List (Nat×Nat)}{c:Call}{v:Operand}{f:FuncId}{vs:List V}{rr:V}{cs:List T}(hB:Big P τ An (.fn f vs [] rr none [] (some cs)))(hg:bE ds x gd=some true)(hc:cW ⟨some d, .call c,ty,pos,after,gd⟩=some (c,v))(hx:ev x.sl v= .one (.fn f caps))(hth:c.args.toList.all (fun v=>fY (ev x.sl v))=true)(hos:iN F c v=[])(hnd:pZ F (some d)=some d)
  (hvs:inV x c caps []=vs)(hv':rr.to (rX [] (some d))= .one (.ptr d 0))(hf:(fits (.one (.ptr d 0)) (F.shOf d)&&eH cs (F.obOf d))=true)(h:aZ P τ An F ds r ((x.put d (.one (.ptr d 0))).setO d cs) K):aZ P τ An F ds (⟨some d, .call c,ty,pos,after,gd⟩::r) x K:=by
 simp only[z7]at hf; have hcp:x.call (some d) (some d) [] (DR rr none [] (some cs))=(x.put d (.one (.ptr d 0))).setO d cs:=NB hv' (by simp [DR,par])
 refine wX (x1:=(x.put d (.one (.ptr d 0))).setO d cs) (ob:=[]) hg hc (Ai hos (by simp)) hx hth (by rw[hos]; rfl) (by rw[hos]; exact hvs) hB ?_ ?_ h
 ·show x.call (some d) (pZ F (some d)) (iN F c v) _=_
  rw[hos,hnd]; exact hcp
 ·show bJ F ((x.put d (.one (.ptr d 0))).setO d cs) (some d) (pZ F (some d)) (iN F c v)=true
  rw[hos,hnd]; simp [bJ,uK,D.put,D.setO,hf.1,hf.2]
end
end Go.Own

namespace Go.Own
open Go.RowKit

def ck(b:Bool):Option Unit:=bif b then some ()else none
theorem ck_of{b:Bool}{u:Unit}(h:ck b=some u):b=true:=by
 cases b with
 | true=>rfl
 | false=>cases h
section
variable {P:Program} {τ:TypeId→Option TI} {An:FuncId→FA} {F:FA} {ds:List (Option Nat)} {r:List Oper} {x:D} {K:D→Prop} {ty:TypeId} {pos:String} {after:Array Edge} {gd:Option (Nat×Bool)} {d:Nat} {Q:Ek→D→Prop}

theorem c_ct{c:Operand}{a b:Code}(hc:ev x.sl c= .one (.c (.bool true)))(h:vcC P τ An F a x Q):vcC P τ An F (.cond c a b) x Q:=⟨true,hc,fun _=>h,nofun⟩
theorem c_cf{c:Operand}{a b:Code}(hc:ev x.sl c= .one (.c (.bool false)))(h:vcC P τ An F b x Q):vcC P τ An F (.cond c a b) x Q:=⟨false,hc,nofun,fun _=>h⟩
theorem Tp{t:TypeId}{y z:Operand}{s:List UInt8}{k:IntKind}{n b:Int}(h:ixs s n=some b)(ht:tk τ t=some .str)(h1:evD x y= .one (.c (.str s)))(h2:evD x z= .one (.c (.int k n))):gL τ (evD x) (.index t y z)=some (.int .u8 b):=by
 unfold ixs at h; split at h<;>try cases h
 rename_i h0; obtain⟨c,h3,rfl⟩:=z22.1 h; simp [gL,ht,h1,h2,h0,h3]

inductive Bd (x:D):Option Operand→Option Int→Prop
 | none:Bd x none none
 | some {y:Operand} {k:IntKind} {n:Int} (h:evD x y= .one (.c (.int k n))):Bd x (some y) (some n)
theorem VU{len:Nat}{lo hi:Option Operand}{l h:Option Int}{q:Nat×Nat}(hl:Bd x lo l)(hh:Bd x hi h)(hb:bnd len l h=some q):mI (evD x) len lo hi none=some q:=by
 unfold bnd at hb; unfold mI; cases hl with
 | none=>
  cases hh with
  | none=>simpa using hb
  | some h1=>simpa [h1,tE]using hb
 | some h0=>
  cases hh with
  | none=>simpa [h0,tE]using hb
  | some h1=>simpa [h0,h1,tE]using hb
theorem To{α:Type}{f:α→List T}{t e:TypeId}{ei:TI}{y:Operand}{lo hi:Option Operand}{l h:Option Int}{s s':List α}(hb:sub s l h=some s')(ht:tk τ t=some (.sl e))(he:τ e=some ei)(h1:evD x y= .one (.c (.sl (s.map f))))(hl:Bd x lo l)(hh:Bd x hi h)(hsz: ∀a,(f a).length=ei.size):gL τ (evD x) (.slice t y lo hi none)=some (.sl (s'.map f)):=by
 obtain⟨q,h2,rfl⟩:=z22.1 hb; have h3:(s.map f).all (fun x=>x.length == ei.size)=true:=by
  rw[z15]; intro e he; obtain⟨a,_,rfl⟩:=z51.1 he; simpa using hsz a
 have h4:mI (evD x) (s.map f).length lo hi none=some q:=by rw[z89]; exact VU hl hh h2
 simp only[gL,ht,h1,he,z8,h3,if_true,h4,z35,List.map_take,List.map_drop]

def isP:V→Bool
 | .one (.ptr _ _)=>true
 | .one (.cp _)=>true
 | .one (.fn _ _)=>true
 | .one (.pp _ _ _ _)=>true
 | _=>false
theorem nlc{v:Operand}{w:V}(hg:bE ds x gd=some true)(hv:ev x.sl v=w)(hp:isP w=true)(hf:fits w (F.shOf d)=true)(h:aZ P τ An F ds r (x.put d w) K):aZ P τ An F ds (⟨some d, .nilCheck v,ty,pos,after,gd⟩::r) x K:=by
 refine dB hg rfl ?_ h
 show KF F x d v=_; unfold KF; rw[hv]; unfold isP at hp; split at hp<;>first | exact gN hf | cases hp
theorem fld{s:TypeId}{v:Operand}{f:Nat}{fs:List (Nat×Nat×Bool)}{q:Nat×Nat×Bool}{w u:V}(hg:bE ds x gd=some true)(ht:tk τ s=some (.struct fs))(hq:fs[f]? =some q)(hv:ev x.sl v=w)(hw:zB (q.1,q.2.1) w=some u)(hf:fits u (F.shOf d)=true)(h:aZ P τ An F ds r (x.put d u) K):aZ P τ An F ds (⟨some d, .fieldAddr s v f,ty,pos,after,gd⟩::r) x K:=by
 refine dB hg rfl ?_ h
 show tF τ F x d s v f=_; unfold tF; simp only[ht,hq,hv,hw]; exact gN hf
theorem alc{t:TypeId}{i:TI}{cs:List T}(hg:bE ds x gd=some true)(ht:τ t=some i)(hz:i.zero=cs)(hc:eH cs (F.obOf d)=true)(h:aZ P τ An F ds r ((x.put d (.one (.ptr d 0))).setO d cs) K):aZ P τ An F ds (⟨some d, .alloc t,ty,pos,after,gd⟩::r) x K:=by
 subst hz; refine dB hg rfl ?_ h
 show Aa τ F x d t=_; unfold Aa; simp only[ht,hc,z17]
theorem bx{e:TypeId}{t:Nat}{xs:List T}{w:V}(hg:bE ds x gd=some true)(hv:x.sl t=w)(hw:aT w=some xs)(hc:eH xs (F.obOf d)=true)(h:aZ P τ An F ds r ((x.put d (.one (.ptr d 0))).setO d xs) K):aZ P τ An F ds (⟨some d, .box e (.tmp t),ty,pos,after,gd⟩::r) x K:=by
 refine dB hg rfl ?_ h
 show Nv F x d (.tmp t)=_; unfold Nv; simp only[hv,hw,hc,z17]
theorem bld{t:TypeId}{ti:TI}{fs:List (Nat×Nat×Bool)}{parts:Array (Nat×Operand)}{rs:List T}(hg:bE ds x gd=some true)(ht:τ t=some ti)(hk:ti.kind= .struct fs)(hb:qQ fs ti.zero (parts.toList.map fun p=>(p.1,ev x.sl p.2))=some rs)(hf:fits (.one (.ag rs)) (F.shOf d)=true)(h:aZ P τ An F ds r (x.put d (.one (.ag rs))) K):aZ P τ An F ds (⟨some d, .build t parts,ty,pos,after,gd⟩::r) x K:=by
 refine dB hg rfl ?_ h
 show vP τ F x d t parts=_; unfold vP; simp only[ht,hk,hb]; exact gN hf
theorem ext{k t:Nat}{ws:List W}{w:W}(hg:bE ds x gd=some true)(hv:x.sl t= .tup ws)(hw:ws[k]? =some w)(hf:fits (.one w) (F.shOf d)=true)(h:aZ P τ An F ds r (x.put d (.one w)) K):aZ P τ An F ds (⟨some d, .extract (.tmp t) k,ty,pos,after,gd⟩::r) x K:=by
 refine dB hg rfl ?_ h
 show nN F x d k (.tmp t)=_; unfold nN; simp only[hv,hw]; exact gN hf
end
end Go.Own

namespace Go.Own
open Go.RowKit

theorem wrap_i64{n:Int}(h0: -9223372036854775808≤n)(h1:n≤9223372036854775807):IntKind.wrap .i64 n=n:=by
 rw[IntKind.wrap_i64]; omega

theorem It(x:Int)(m:Nat)(hm:m<2 ^ 62):0≤bits .and .i64 x m∧bits .and .i64 x m≤m:=by
 have h:(BitVec.ofInt 64 x&&& BitVec.ofInt 64 (m:Int)).toNat≤m:=by
  rw[BitVec.toNat_and]; refine z41 Nat.and_le_right ?_
  have:(BitVec.ofInt 64 (m:Int)).toNat=m:=by
   simp only[BitVec.ofInt_natCast,BitVec.toNat_ofNat]; exact Nat.mod_eq_of_lt (by omega)
  omega
 have e:bits .and .i64 x m=IntKind.i64.wrap ((BitVec.ofInt 64 x&&& BitVec.ofInt 64 (m:Int)).toNat:Int):=rfl; rw[e,IntKind.wrap_i64]; generalize (BitVec.ofInt 64 x&&& BitVec.ofInt 64 (m:Int)).toNat=k at h; omega

theorem RD{w:World}{a:Addr}{v:Value}(h:w.cell? a=some v):a.block<w.heap.size∧a.spot=none:=by
 unfold World.cell? at h; split at h
 ·rename_i c _ _ hc
  split at h
  ·cases h
  ·rename_i hs
   refine⟨(z31.1 hc).1, ?_⟩
   cases hsp:a.spot with
   | none=>rfl
   | some x=>rw[hsp]at hs; simp at hs
 ·cases h

theorem aU{P:Program}{τ:TypeId→Option TI}{An:FuncId→FA}{Sgs:FuncId→List Sg}{f:FuncId}{sg0 sg:Sg}{fn0:Func}(h:fnC τ An Sgs f sg0 fn0 (fn0.body.getD .skip)=true)(hf:P.funcs[f]? =some fn0)(hs:sg∈[sg0]): ∀fn c,P.funcs[f]? =some fn→fn.body=some c→fnC τ An Sgs f sg fn c=true:=by
 intro fn c h1 h2; rw[hf]at h1; cases h1; rw[z64]at hs; subst hs; rw[h2]at h; exact h
end Go.Own

namespace Go.Own
open Go.RowKit

def CR(w:World)(cs:List Value)(xs:List T):Prop:=cs.length=xs.length∧ ∀(j:Nat) c y,cs[j]? =some c→xs[j]? =some y→mL c∧Rd (frz G.old w) w c y

theorem CR.one{w:World}{c:Value}{y:T}(hn:mL c)(h:Rd (frz G.old w) w c y):CR w [c] [y]:=⟨rfl,fun j c' y' hc hy=>by
 cases j with
 | zero=>simp only[z20,z10]at hc hy; subst hc; subst hy; exact⟨hn,h⟩
 | succ j=>simp at hc⟩

def OpF(P:Program)(n:Nat)(t:TypeId){α:Type}(f:α→List T)(ok:α→Prop):Prop:= ∀ {H:Type} (enc:TypeId×Value→H) (w:World) (base:Nat) (spare:Nat→Bool) (held:Bool) (cs:List Value) (x:DataW H×List MemPlace),
 DataW.trod enc P w base spare held n t cs=some x→ ∃a,CR w cs (f a)∧ok a

section
variable {P:Program} {t e:TypeId}

theorem OpF.zero{α:Type}{f:α→List T}{ok:α→Prop}:OpF P 0 t f ok:=fun _ _ _ _ _ _ _ h=>by simp [DataW.trod]at h
theorem OpF.int{n:Nat}{k:IntKind}(ht:P.underlying t=some (.int k)):OpF P n t (fun a:Int=> [.int k a]) (fun a=>k.min≤a∧a≤k.max):=fun enc w base spare held cs x h=>by
 obtain⟨a,rfl,_,hw⟩:=DataW.trod_int ht h; refine⟨a, .one ⟨nofun,nofun⟩ (.int k a), ?_⟩
 unfold Lit.wf at hw; simp only[z7,z28]at hw; exact hw
theorem OpF.slice{n s:Nat}{α:Type}{f:α→List T}{ok:α→Prop}(ht:P.underlying t=some (.slice e))(hc:P.cellsOf e=s)(hs:0<s)(hf: ∀a,(f a).length=s)(h:OpF P n e f ok):OpF P (n+1) t (fun l:List α=> [.sl (l.map f)]) (fun l=>l.length≤maxLen∧ ∀a∈l,ok a):=fun enc w base spare held cs x hx=>by
 rcases DataW.trod_slice ht hx with⟨rfl,_⟩ | ⟨a,len,cap,elems,rest,m,hm,rfl,_,hb,hl,hcap,hlen,hel,_,_⟩
 ·exact⟨[], .one ⟨nofun,nofun⟩ (.nil _ _),by simp,by simp⟩
 ·have hm:m=n:=by omega
  subst hm; have each: ∀i,i<len→ ∃cs' a',w.cells? base (a.add (i*s)) s=some cs'∧CR w cs' (f a')∧ok a':=fun i hi=>by
   have h1:=hel i hi; rw[hc,z14 (by omega)]at h1
   obtain⟨cs',h2,h3⟩:=z18.1 h1; obtain⟨a',h4,h5⟩:=h enc w base spare held cs' _ h3; exact⟨cs',a',h2,h4,h5⟩
  have hl2: ∃L:List α,L.length=len∧ ∀(i:Nat) a',L[i]? =some a'→(∃cs',w.cells? base (a.add (i*s)) s=some cs'∧CR w cs' (f a'))∧ok a':=by
   have: ∀k,k≤len→ ∃L:List α,L.length=k∧ ∀(i:Nat) a',L[i]? =some a'→(∃cs',w.cells? base (a.add (i*s)) s=some cs'∧CR w cs' (f a'))∧ok a':=by
    intro k; induction k with
    | zero=>exact fun _=>⟨[],rfl,fun i a' h=>by simp at h⟩
    | succ k ih=>
     intro hk; obtain⟨L,h1,h2⟩:=ih (by omega)
     obtain⟨cs',a',h3,h4,h5⟩:=each k (by omega)
     refine⟨L++[a'],by simp [h1],fun i b hb=> ?_⟩
     by_cases hi:i<L.length
     ·rw[z67 hi]at hb
      exact h2 i b hb
     ·rw[z62 (by omega)]at hb
      have hi0:i - L.length=0:=by
       rcases Nat.eq_zero_or_pos (i - L.length)with h | h
       ·exact h
       ·rw[z70 (by simp; omega)]at hb; cases hb
      rw[hi0]at hb; simp only[z20,z10]at hb
      subst hb; have:i=k:=by omega
      subst this; exact⟨⟨cs',h3,h4⟩,h5⟩
   exact this len (z53 _)
  obtain⟨L,hL,hLi⟩:=hl2; refine⟨L, .one ⟨nofun,nofun⟩ ?_, ?_,fun b hb=> ?_⟩
  ·cases len with
   | zero=>
    have:L=[]:=z102 hL; subst this; exact .nil _ _
   | succ len=>
    have cell: ∀(i:Nat) b (j:Nat) y,L[i]? =some b→(f b)[j]? =some y→ ∃c,w.cell? ((a.add (i*s)).add j)=some c∧mL c∧Rd (frz G.old w) w c y:=fun i b j y hb hy=>by
     obtain⟨⟨cs',h1,h2,h3⟩,_⟩:=hLi i b hb; unfold World.cells? at h1; split at h1<;>try cases h1
     have hj:j<s:=by
      have:=(z95.1 hy).1
      rw[hf]at this; exact this
     have hjc:j<cs'.length:=by rw[h2,hf]; exact hj
     have h4:=mapM_some_get h1 j j (by rw[TP hj])
     rw[z14 hjc]at h4
     exact⟨cs'[j],h4,h3 j _ y (z14 hjc) hy⟩
    have h0:(0:Nat)<L.length:=by omega
    have hf0:0<(f L[0]).length:=by rw[hf]; exact hs
    obtain⟨c0,h00,_⟩:=cell 0 L[0] 0 _ (z14 h0) (z14 hf0)
    obtain⟨hbk,hsp⟩:=RD h00; have e0:(a.add (0*s)).add 0=a:=by simp [Addr.add]
    rw[e0]at hbk hsp; obtain⟨b,off,sp⟩:=a; simp only at hsp hbk; subst hsp; have cell': ∀(i:Nat) b' (j:Nat) y,L[i]? =some b'→(f b')[j]? =some y→ ∃c,w.cell? ⟨b,off+i*s+j,none⟩=some c∧mL c∧Rd (frz G.old w) w c y:=fun i b' j y hb' hy=>by
     have:=cell i b' j y hb' hy; rwa[iS,iS]at this
    refine .sl b off (len+1) cap s _ (fun i j=>(w.cell? ⟨b,off+i*s+j,none⟩).getD undef) (by simp [hL]) hl (fun i e' he=> ?_) ⟨hbk,rfl⟩ (fun i e' j y he hy=> ?_) (fun i e' j y he hy=> ?_)
    ·rw[z36,z22]at he
     obtain⟨z,_,rfl⟩:=he; exact hf z
    ·rw[z36,z22]at he
     obtain⟨z,hz,rfl⟩:=he; obtain⟨c,h1,_⟩:=cell' i z j y hz hy; simp only[h1,z63]
    ·rw[z36,z22]at he
     obtain⟨z,hz,rfl⟩:=he; obtain⟨c,h1,_,h3⟩:=cell' i z j y hz hy; simp only[h1,z63]; exact h3
  ·rw[hL]; omega
  ·obtain⟨i,hi,rfl⟩:=List.getElem_of_mem hb
   exact(hLi i _ (z14 hi)).2

end

theorem Rd.nowhere{Q:Nat→Prop}{w:World}{v:Value}{x:T}(h:Rd Q w v x)(hs:Own.scal x=true):Rd (fun _=>False) w v x:=by
 cases h with
 | int=>exact .int _ _
 | bool=>exact .bool _
 | np=>exact .np
 | str=>exact .str _
 | _=>cases hs
end Go.Own

namespace Go.Own
open Go.RowKit

section
variable {P:Program} {τ:TypeId→Option TI} {An:FuncId→FA} {F:FA} {ds:List (Option Nat)} {r:List Oper} {x:D} {K:D→Prop} {ty:TypeId} {pos:String} {after:Array Edge} {gd:Option (Nat×Bool)} {d:Nat}

theorem alo{t:TypeId}{v:Operand}{ti:TI}{ob p:Nat}{cells:List T}(hg:bE ds x gd=some true)(ht:τ t=some ti)(hm:mem d F.al=true)(hv:ev x.sl v= .one (.ptr ob p))(hc:x.ob ob=some cells)(hq:(FU τ t&&slT (cells[p]?))=true)(hf:fits (.one (.al (.oc ob p) [])) (F.shOf d)=true)(h:aZ P τ An F ds r (x.put d (.one (.al (.oc ob p) []))) K):
  aZ P τ An F ds (⟨some d, .load t v,ty,pos,after,gd⟩::r) x K:=by
 refine dB hg rfl ?_ h
 show(bif mem d F.tk&&(!(mem d F.al)&&gM (ev x.sl v))then DS τ F x d t v else pT τ F x d t v (mem d F.al))=_
 rw[show(mem d F.tk&&(!(mem d F.al)&&gM (ev x.sl v)))=false by rw[hm]; simp,z12]
 unfold pT; simp only[ht,hv,hc,hm,z17,hq]; exact gN hf
theorem ixp{α:Type}{L:List α}{f:α→List T}{a:α}{t e:TypeId}{ei:TI}{v i:Operand}{l:Loc}{k:IntKind}{n:Int}(hix:ix L n=some a)(hg:bE ds x gd=some true)(ht:tk τ t=some (.sl e))(he:τ e=some ei)(hv:ev x.sl v= .one (.al l []))(hr:x.at l=some (.sl (L.map f)))(hi:ev x.sl i= .one (.c (.int k n)))(hsz:(f a).length=ei.size)
  (hf:fits (.one (.pp l [] 0 0)) (F.shOf d)=true)(h:aZ P τ An F ds r (x.put d (.one (.pp l [] n.toNat 0))) K):aZ P τ An F ds (⟨some d, .indexAddr t v i,ty,pos,after,gd⟩::r) x K:=by
 unfold ix at hix; split at hix<;>try cases hix
 rename_i h0; refine dB hg rfl ?_ h
 show(bif gM (F.shOf d)&&pS (ev x.sl v)then pQ τ F x d t v i else nM τ F x d t v i)=_
 rw[show(gM (F.shOf d)&&pS (ev x.sl v))=false by rw[hv]; simp [pS],z12]
 unfold nM; have hrow:(L.map f)[n.toNat]? =some (f a):=by rw[z36,hix]; rfl
 simp only[ht,hi,hv,hr,z8,nav,idx,he,h0,if_true,hrow,hsz,z42,z17]; refine gN ?_
 revert hf
 cases F.shOf d with
 | tup ws=>simp [fits]
 | one w=>cases w<;>simp [fits,bP]
theorem Nx{t:Nat}{y z:T}(h:x.sl t= .one (.c y)):x.upd (.s t 0 0) z=x.put t (.one (.c z)):=D.ext (fun i=>by
 simp only[D.upd,jS,D.put]; by_cases e:i=t
 ·subst e; rw[z19 rfl,z19 rfl,h]; rfl
 ·rw[z13 e,z13 e]) (fun _=>rfl)
theorem Ny{o j:Nat}{cells:List T}{z:T}(h:x.ob o=some cells):x.upd (.oc o j) z=x.setO o (cells.set j z):=D.ext (fun _=>rfl) (fun i=>by
 simp only[D.upd,rJ,D.setO]; by_cases e:i=o
 ·subst e; rw[z19 rfl,z19 rfl,h]; rfl
 ·rw[z13 e,z13 e])
theorem Tj{α:Type}{L:List α}{f:α→List T}{a v':α}{i:Int}{t:TypeId}{v y:Operand}{ti:TI}{l:Loc}{j:Nat}{xs:List T}(hix:ix L i=some a)(ht:τ t=some ti)(hv:ev x.sl v= .one (.pp l [] i.toNat j))(hr:x.at l=some (.sl (L.map f)))(hy:aT (ev x.sl y)=some xs)(hq:(Nat.beq xs.length ti.size&&Nat.ble (j+xs.length) (f a).length)=true)(hrow:(f a).take j++xs++(f a).drop (j+xs.length)=f v'):
  dOp τ F x ⟨none, .store t v y,ty,pos,after,gd⟩=some (x.upd l (.sl ((L.set i.toNat v').map f))):=by
 unfold ix at hix; split at hix<;>try cases hix
 have hrw:(L.map f)[i.toNat]? =some (f a):=by rw[z36,hix]; rfl
 show(match τ t,ev x.sl v,aT (ev x.sl y)with
   | some i, .one (.ptr ob p),some xs=>qT F x i ob p xs
   | some i, .one (.pp l p n j),some xs=>pP F x i l p n j xs
   | _,_,_=>none)=_
 rw[ht,hv,hy]; simp only[pP,hr,nav,hrw,hq,z17,hrow,cJ,List.map_set]
end
end Go.Own

namespace Go.Own
open Go.RowKit

inductive SS (α:Type) where
 | nil
 | cons (i:Nat) (a:α) (r:SS α)
 | many (l:List (Nat×α)) (r:SS α)
 | drop (l:List (Nat×Nat)) (r:SS α)
def inR(i:Nat):List (Nat×Nat)→Bool
 | []=>false
 | p::r=>(Nat.ble p.1 i&&Nat.ble i p.2)||inR i r
def SS.get{α:Type}:SS α→Nat→Option α
 | .nil,_=>none
 | .cons j a r,i=>bif Nat.beq i j then some a else r.get i
 | .many l r,i=>match cQ i l with | some a=>some a | none=>r.get i
 | .drop l r,i=>bif inR i l then none else r.get i

def rIn(lo hi:Nat):List (Nat×Nat)→Bool
 | []=>false
 | p::r=>(Nat.ble p.1 lo&&Nat.ble hi p.2)||rIn lo hi r
def Kx(w:List (Nat×Nat)):List (Nat×Nat)→Bool
 | []=>true
 | q::r=>rIn q.1 q.2 w&&Kx w r
def GL{α:Type}(w:List (Nat×Nat)):List (Nat×α)→Bool
 | []=>true
 | p::r=>inR p.1 w&&GL w r
def SS.strip{α:Type}(w:List (Nat×Nat)):SS α→SS α
 | .nil=> .nil
 | .cons j a r=>bif inR j w then r.strip w else .cons j a r
 | .many l r=>bif GL w l then r.strip w else .many l r
 | .drop l r=>bif Kx w l then r.strip w else .drop l r

theorem PN{lo hi i:Nat}(h1:lo≤i)(h2:i≤hi): ∀ {w:List (Nat×Nat)},rIn lo hi w=true→inR i w=true
 | [],h=>h
 | p::r,h=>by
  simp only[rIn,z50,z7]at h; simp only[inR,z50,z7]; rcases h with h | h
  ·exact .inl ⟨TR (z41 (z33 h.1) h1),TR (z41 h2 (z33 h.2))⟩
  ·exact .inr (PN h1 h2 h)
theorem Gj{w:List (Nat×Nat)}{i:Nat}(hi:inR i w=false): ∀ {l:List (Nat×Nat)},Kx w l=true→inR i l=false
 | [],_=>rfl
 | q::r,h=>by
  simp only[Kx,z7]at h; simp only[inR,Gj hi h.2,Bool.or_false]; cases e:(Nat.ble q.1 i&&Nat.ble i q.2)with
  | false=>rfl
  | true=>
   simp only[z7]at e; rw[PN (z33 e.1) (z33 e.2) h.1]at hi; cases hi
theorem CI{α:Type}{w:List (Nat×Nat)}{i:Nat}(hi:inR i w=false): ∀ {l:List (Nat×α)},GL w l=true→cQ i l=none
 | [],_=>rfl
 | (j,a)::r,h=>by
  simp only[GL,z7]at h; simp only[cQ]; cases e:Nat.beq i j with
  | false=>exact CI hi h.2
  | true=>have:=z16 e; subst this; rw[h.1]at hi; cases hi
theorem sN{α:Type}{w:List (Nat×Nat)}{i:Nat}(hi:inR i w=false): ∀s:SS α,(s.strip w).get i=s.get i
 | .nil=>rfl
 | .cons j a r=>by
  simp only[SS.strip]; cases h:inR j w with
  | false=>rfl
  | true=>
   simp only[z17,SS.get]; rw[sN hi r]; cases e:Nat.beq i j with
   | false=>rfl
   | true=>have:=z16 e; subst this; rw[h]at hi; cases hi
 | .many l r=>by
  simp only[SS.strip]; cases h:GL w l with
  | false=>rfl
  | true=>
   simp only[z17,SS.get]; rw[sN hi r,CI hi h]
 | .drop l r=>by
  simp only[SS.strip]; cases h:Kx w l with
  | false=>rfl
  | true=>
   simp only[z17,SS.get]; rw[sN hi r,Gj hi h]; rfl

structure LeS {α:Type} (t s:SS α):Prop where
 get: ∀i a,t.get i=some a→s.get i=some a
theorem lb{α:Type}{w:List (Nat×Nat)}{s0 s:SS α}(h:s.strip w=s0.strip w):LeS (.drop w s0) s:=⟨fun i a hi=>by
 simp only[SS.get]at hi; cases hw:inR i w with
 | true=>rw[hw]at hi; cases hi
 | false=>rw[hw]at hi; rw[←sN hw s,h,sN hw s0]; exact hi⟩
theorem lm{α:Type}{s r:SS α}(h:LeS r s):LeS (.many [] r) s:=⟨fun i a hi=>h.get i a hi⟩
theorem lc{α:Type}{i:Nat}{a:α}{l:List (Nat×α)}{s r:SS α}(h0:s.get i=some a)(h:LeS (.many l r) s):LeS (.many ((i,a)::l) r) s:=⟨fun j b hj=>by
 simp only[SS.get,cQ]at hj; cases e:Nat.beq j i with
 | true=>
  have:=z16 e; subst this; rw[z42]at hj; simp only[z17,z10]at hj; subst hj; exact h0
 | false=>rw[e]at hj; exact h.get j b (by simpa [SS.get]using hj)⟩

def GR{α:Type}(s:SS α):List (Nat×α)→Option (List α)
 | []=>some []
 | p::r=>match s.get p.1,GR s r with
  | some a,some l=>some (a::l)
  | _,_=>none
def uT{α:Type}:List (Nat×α)→List α
 | []=> []
 | p::r=>p.2::uT r
theorem AH{α:Type}{s s0:SS α}{w:List (Nat×Nat)}(h:s.strip w=s0.strip w): ∀ {l:List (Nat×α)},GR s l=some (uT l)→LeS (.many l (.drop w s0)) s
 | [],_=>lm (lb h)
 | (i,a)::r,h2=>by
  simp only[GR,uT]at h2; split at h2<;>try cases h2
  rename_i b l h3 h4; exact lc h3 (AH h h4)

structure Mt (S:SS V) (O:SS (List T)) (x:D):Prop where
 sl: ∀i v,S.get i=some v→x.sl i=v
 ob: ∀o cs,O.get o=some cs→x.ob o=some cs
theorem Mt.le{S S':SS V}{O O':SS (List T)}{x:D}(h:Mt S O x)(h1:LeS S' S)(h2:LeS O' O):Mt S' O' x:=⟨fun i v hi=>h.sl i v (h1.get i v hi),fun o cs ho=>h.ob o cs (h2.get o cs ho)⟩
theorem Mt.put{S:SS V}{O:SS (List T)}{x:D}(h:Mt S O x)(d:Nat)(v:V):Mt (.cons d v S) O (x.put d v):=⟨fun i u hi=>by
 simp only[SS.get]at hi; simp only[D.put]; cases e:Nat.beq i d with
 | true=>
  rw[e]at hi; simp only[z17,z10]at hi; rw[z19 (z16 e)]; exact hi
 | false=>
  rw[e]at hi; rw[z13 (fun e2=>by subst e2; rw[z42]at e; cases e)]
  exact h.sl i u hi,h.ob⟩
theorem Mt.setO{S:SS V}{O:SS (List T)}{x:D}(h:Mt S O x)(o:Nat)(cs:List T):Mt S (.cons o cs O) (x.setO o cs):=⟨h.sl,fun i u hi=>by
 simp only[SS.get]at hi; simp only[D.setO]; cases e:Nat.beq i o with
 | true=>
  rw[e]at hi; simp only[z17,z10]at hi; rw[z19 (z16 e),hi]
 | false=>
  rw[e]at hi; rw[z13 (fun e2=>by subst e2; rw[z42]at e; cases e)]
  exact h.ob i u hi⟩
theorem Mt.su{S:SS V}{O:SS (List T)}{x:D}(h:Mt S O x){d:Nat}{v u:V}(hv:S.get d=some v)(e:v=u):Mt (.cons d u S) O x:=by
 have:=h.put d u; rwa[OL (by rw[h.sl d v hv,e])]at this

def evS(S:SS V):Operand→Option V
 | .tmp t=>S.get t
 | .const v=>some (bG v)
 | .func f=>some (.one (.fn f []))
 | .global _=>none
def atS(S:SS V)(O:SS (List T)):Loc→Option T
 | .s i _ j=>(S.get i).bind (·.leaf 0 j)
 | .oc o j=>(O.get o).bind (·[j]?)
 | _=>none
def rdS(S:SS V)(O:SS (List T))(y:Operand):Option V:=match evS S y with
 | some (.one (.al (.s i 0 j) []))=>match atS S O (.s i 0 j)with | some t=>some (.one (.c t)) | none=>none
 | some (.one (.al (.oc o j) []))=>match atS S O (.oc o j)with | some t=>some (.one (.c t)) | none=>none
 | some (.one (.al _ _))=>none
 | v=>v
def gS(ds:List (Option Nat))(S:SS V):Option (Nat×Bool)→Option Bool
 | none=>some true
 | some (j,want)=>match ds[j]? with
  | some (some t)=>(match S.get t with
   | some (.one (.c (.bool true)))=>some want
   | some (.one (.c (.bool false)))=>some (!want)
   | some (.tup [])=>some false
   | _=>none)
  | _=>none

section
variable {S:SS V} {O:SS (List T)} {x:D}
theorem Mt.ev(h:Mt S O x){y:Operand}{v:V}(hv:evS S y=some v):Own.ev x.sl y=v:=by
 cases y with
 | tmp t=>exact h.sl t v hv
 | const c=>exact z46 hv
 | func f=>exact z46 hv
 | global g=>cases hv
theorem Mt.at(h:Mt S O x){l:Loc}{t:T}(hk: ∀i k j,l= .s i k j→k=0)(hv:atS S O l=some t):x.at l=some t:=by
 cases l with
 | s i k j=>
  have:=hk i k j rfl; subst this; simp only[atS,z18]at hv; obtain⟨v,h1,h2⟩:=hv; simp only[D.at,atL,h.sl i v h1,h2]
 | oc o j=>
  simp only[atS,z18]at hv; obtain⟨v,h1,h2⟩:=hv; simp only[D.at,atL,h.ob o v h1,z8,h2]
 | _=>cases hv
theorem Mt.rd(h:Mt S O x){y:Operand}{v:V}(hv:rdS S O y=some v):evD x y=v:=by
 unfold rdS at hv; unfold evD; split at hv
 ·rename_i i j he
  rw[h.ev he]; split at hv
  ·rename_i t ht
   have:=h.at (l:= .s i 0 j) (fun i k j e=>by cases e; rfl) ht
   simp only[D.at]at this; simp only[uU,this,z8,nav]; exact z46 hv
  ·cases hv
 ·rename_i o j he
  rw[h.ev he]; split at hv
  ·rename_i t ht
   have:=h.at (l:= .oc o j) (fun i k j e=>by cases e) ht
   simp only[D.at]at this; simp only[uU,this,z8,nav]; exact z46 hv
  ·cases hv
 ·cases hv
 ·rename_i h1 h2 h3
  cases v with
  | tup ws=>rw[h.ev hv]; rfl
  | one w=>
   rw[h.ev hv]; cases w with
   | al l p=>exact absurd hv (h3 l p)
   | _=>rfl
theorem Mt.gd(h:Mt S O x){ds:List (Option Nat)}{gd:Option (Nat×Bool)}{b:Bool}(hg:gS ds S gd=some b):bE ds x gd=some b:=by
 unfold gS at hg; unfold bE; split at hg
 ·exact hg
 ·rename_i j want
  split at hg
  ·rename_i t hd
   simp only[hd]; split at hg<;>try cases hg
   ·rename_i e; rw[h.sl t _ e]; cases b<;>rfl
   ·rename_i e; rw[h.sl t _ e]; cases want<;>rfl
   ·rename_i e; rw[h.sl t _ e]
  ·cases hg
end

inductive Kt where
 | seq (b:Code) (k:Kt)
 | blk (id:Nat) (k:Kt)
 | top (Q:Ek→D→Prop)

section
variable (P:Program) (τ:TypeId→Option TI) (An:FuncId→FA) (F:FA)
def Kt.den:Kt→Ek→D→Prop
 | .seq b k=>Ri (fun x=>vcC P τ An F b x k.den) k.den
 | .blk id k=>blkD id k.den
 | .top Q=>Q

structure Vo (ds:List (Option Nat)) (os:List Oper) (k:Kt) (S:SS V) (O:SS (List T)):Prop where
 run: ∀x,Mt S O x→aZ P τ An F ds os x (fun x1=>k.den P τ An F .n x1)
structure Vc (c:Code) (k:Kt) (S:SS V) (O:SS (List T)):Prop where
 run: ∀x,Mt S O x→vcC P τ An F c x (k.den P τ An F)
structure FX (Q:Ek→D→Prop) (e:Ek) (S:SS V) (O:SS (List T)):Prop where
 run: ∀x,Mt S O x→Q e x
def nxt:Kt→SS V→SS (List T)→Prop
 | .seq b k,S,O=>Vc P τ An F b k S O
 | .blk _ k,S,O=>nxt k S O
 | .top Q,S,O=>FX Q .n S O
def exi:Kt→Nat→SS V→SS (List T)→Prop
 | .seq _ k,i,S,O=>exi k i S O
 | .blk id k,i,S,O=>bif Nat.beq i id then nxt P τ An F k S O else exi k i S O
 | .top Q,i,S,O=>FX Q (.e i) S O
def rtn:Kt→SS V→SS (List T)→Prop
 | .seq _ k,S,O=>rtn k S O
 | .blk _ k,S,O=>rtn k S O
 | .top Q,S,O=>FX Q .r S O
def aft(k:Kt)(e:Ek)(S:SS V)(O:SS (List T)):Prop:=match e with
 | .n=>nxt P τ An F k S O
 | .r=>rtn k S O
 | .e i=>exi P τ An F k i S O
end

section
variable {P:Program} {τ:TypeId→Option TI} {An:FuncId→FA} {F:FA} {k:Kt} {S:SS V} {O:SS (List T)}
theorem AY: ∀ {k:Kt},nxt P τ An F k S O→ ∀x,Mt S O x→k.den P τ An F .n x
 | .seq b k,h,x,hx=>h.run x hx
 | .blk id k,h,x,hx=>by
  show k.den P τ An F (nI id .n) x; have:nI id .n= .n:=rfl; rw[this]; exact AY (k:=k) h x hx
 | .top Q,h,x,hx=>h.run x hx
theorem IU{i:Nat}: ∀ {k:Kt},exi P τ An F k i S O→ ∀x,Mt S O x→k.den P τ An F (.e i) x
 | .seq b k,h,x,hx=>IU (k:=k) h x hx
 | .blk id k,h,x,hx=>by
  show k.den P τ An F (nI id (.e i)) x; simp only[exi]at h; cases e:Nat.beq i id with
  | true=>
   have:=z16 e; subst this; rw[e]at h; have:nI i (.e i)= .n:=by simp [nI]
   rw[this]; exact AY h x hx
  | false=>
   rw[e]at h; have:nI id (.e i)= .e i:=by
    unfold nI; rw[z13]; intro e2; cases e2; rw[z42]at e; cases e
   rw[this]; exact IU (k:=k) h x hx
 | .top Q,h,x,hx=>h.run x hx
theorem IN: ∀ {k:Kt},rtn k S O→ ∀x,Mt S O x→k.den P τ An F .r x
 | .seq b k,h,x,hx=>IN (k:=k) h x hx
 | .blk id k,h,x,hx=>by
  show k.den P τ An F (nI id .r) x; have:nI id .r= .r:=rfl; rw[this]; exact IN (k:=k) h x hx
 | .top Q,h,x,hx=>h.run x hx
theorem Pc{e:Ek}(h:aft P τ An F k e S O): ∀x,Mt S O x→k.den P τ An F e x:=by
 cases e with
 | n=>exact AY h
 | r=>exact IN h
 | e i=>exact IU h

theorem cSq{a b:Code}(h:Vc P τ An F a (.seq b k) S O):Vc P τ An F (.seq a b) k S O:=⟨fun x hx=>h.run x hx⟩
theorem cSk(h:nxt P τ An F k S O):Vc P τ An F .skip k S O:=⟨fun x hx=>AY h x hx⟩
theorem cLb{l:Nat}(h:nxt P τ An F k S O):Vc P τ An F (.label l) k S O:=⟨fun x hx=>AY h x hx⟩
theorem cEx{i:Nat}(h:exi P τ An F k i S O):Vc P τ An F (.exit i) k S O:=⟨fun x hx=>IU h x hx⟩
theorem cRt(h:rtn k S O):Vc P τ An F .ret k S O:=⟨fun x hx=>IN h x hx⟩
theorem cBk{id:Nat}{c:Code}(h:Vc P τ An F c (.blk id k) S O):Vc P τ An F (.block id c) k S O:=⟨fun x hx=>h.run x hx⟩
theorem cRg{id:Nat}{ops:List Oper}{dr:Bool}(h:Vo P τ An F (ops.map (·.dst)) ops k S O)(hm:cQ id F.mks=none:=by exact rfl):Vc P τ An F (.region id ops.toArray dr) k S O:=⟨fun x hx=> .inl ⟨hm,h.run x hx⟩⟩
theorem cRs{id:Nat}{ops:List Oper}{dr:Bool}{b:Code}(h:Vo P τ An F (ops.map (·.dst)) ops (.seq b k) S O)(hm:cQ id F.mks=none:=by exact rfl):Vc P τ An F (.seq (.region id ops.toArray dr) b) k S O:=⟨fun x hx=> .inl ⟨hm,h.run x hx⟩⟩
theorem cT{t:Nat}{a b:Code}(hc:S.get t=some (.one (.c (.bool true))))(h:Vc P τ An F a k S O):Vc P τ An F (.cond (.tmp t) a b) k S O:=⟨fun x hx=>c_ct (hx.sl t _ hc) (h.run x hx)⟩
theorem cF{t:Nat}{a b:Code}(hc:S.get t=some (.one (.c (.bool false))))(h:Vc P τ An F b k S O):Vc P τ An F (.cond (.tmp t) a b) k S O:=⟨fun x hx=>c_cf (hx.sl t _ hc) (h.run x hx)⟩
theorem cIf{ρ:Type}{A B:Option ρ}{r:ρ}{e:Bool}{t:Nat}{a b:Code}(h:(bif e then A else B)=some r)(hc:S.get t=some (.one (.c (.bool e))))(h1:e=true→A=some r→Vc P τ An F a k (.cons t (.one (.c (.bool true))) S) O)(h0:e=false→B=some r→Vc P τ An F b k (.cons t (.one (.c (.bool false))) S) O):Vc P τ An F (.cond (.tmp t) a b) k S O:=by
 cases e with
 | true=>exact⟨fun x hx=>c_ct (hx.sl t _ hc) ((h1 rfl h).run x (hx.su hc rfl))⟩
 | false=>exact⟨fun x hx=>c_cf (hx.sl t _ hc) ((h0 rfl h).run x (hx.su hc rfl))⟩
theorem cSu{c:Code}{e b:Bool}(t:Nat)(q:e=b)(hc:S.get t=some (.one (.c (.bool e))))(h:Vc P τ An F c k (.cons t (.one (.c (.bool b))) S) O):Vc P τ An F c k S O:=⟨fun x hx=>h.run x (hx.su hc (by rw[q]))⟩

abbrev Up:=List (Nat×V)
abbrev Uo:=List (Nat×List T)
def JQ{ρ:Type}(X:ρ→Ek×Up×Uo)(w wo:List (Nat×Nat))(S:SS V)(O:SS (List T))(q:ρ)(e:Ek)(x:D):Prop:=e=(X q).1∧Mt (.many (X q).2.1 (.drop w S)) (.many (X q).2.2 (.drop wo O)) x
theorem eJ{ρ:Type}{X:ρ→Ek×Up×Uo}{w wo:List (Nat×Nat)}{S0:SS V}{O0:SS (List T)}{q0 q:ρ}{e:Ek}(h:some q0=some q)(hl:(e,GR S (X q0).2.1,GR O (X q0).2.2,S.strip w,O.strip wo)=((X q0).1,some (uT (X q0).2.1),some (uT (X q0).2.2),S0.strip w,O0.strip wo)):FX (JQ X w wo S0 O0 q) e S O:=by
 cases h; simp only[z48]at hl; obtain⟨he,h1,h2,h3,h4⟩:=hl; exact⟨fun x hx=>⟨he,hx.le (AH h3 h1) (AH h4 h2)⟩⟩
theorem cJn{ρ β:Type}{o:Option ρ}{f:ρ→Option β}{r:β}{c:Code}(h:o.bind f=some r)(w wo:List (Nat×Nat))(X:ρ→Ek×Up×Uo)(h1: ∀q,o=some q→Vc P τ An F c (.top (JQ X w wo S O q)) S O)
  (h2: ∀q,f q=some r→aft P τ An F k (X q).1 (.many (X q).2.1 (.drop w S)) (.many (X q).2.2 (.drop wo O))):Vc P τ An F c k S O:=by
 obtain⟨q,hq,hf⟩:=bind_some h; refine⟨fun x hx=>Ep (fun e x1 hh=> ?_) ((h1 q hq).run x hx)⟩
 obtain⟨rfl,hm⟩:=hh; exact Pc (h2 q hf) x1 hm
theorem oJn{ρ β:Type}{o:Option ρ}{f:ρ→Option β}{r:β}{ds:List (Option Nat)}{os:List Oper}(h:o.bind f=some r)(w wo:List (Nat×Nat))(X:ρ→Ek×Up×Uo)(h1: ∀q,o=some q→Vo P τ An F ds os (.top (JQ X w wo S O q)) S O)
  (h2: ∀q,f q=some r→aft P τ An F k (X q).1 (.many (X q).2.1 (.drop w S)) (.many (X q).2.2 (.drop wo O)))(hn: ∀q,(X q).1= .n:=by intro; rfl):Vo P τ An F ds os k S O:=by
 obtain⟨q,hq,hf⟩:=bind_some h; refine⟨fun x hx=>Dz (fun x1 hh=> ?_) ((h1 q hq).run x hx)⟩
 obtain⟨he,hm⟩:=hh; have h3:=h2 q hf; rw[hn q]at h3; exact AY h3 x1 hm

def LQ{σ ρ:Type}(u:σ→Up×Uo)(X:ρ→Ek×Up×Uo)(w wo:List (Nat×Nat))(S:SS V)(O:SS (List T))(o:σ⊕ρ)(e:Ek)(x:D):Prop:=match o with
 | .inl s=>e= .n∧Mt (.many (u s).1 (.drop w S)) (.many (u s).2 (.drop wo O)) x
 | .inr q=>e≠ .n∧e=(X q).1∧Mt (.many (X q).2.1 (.drop w S)) (.many (X q).2.2 (.drop wo O)) x
theorem eL{σ ρ:Type}{u:σ→Up×Uo}{X:ρ→Ek×Up×Uo}{w wo:List (Nat×Nat)}{S0:SS V}{O0:SS (List T)}{s:σ}{o:σ⊕ρ}(h:some (.inl s)=some o)(hl:(GR S (u s).1,GR O (u s).2,S.strip w,O.strip wo)=(some (uT (u s).1),some (uT (u s).2),S0.strip w,O0.strip wo)):FX (LQ u X w wo S0 O0 o) .n S O:=by
 cases h; simp only[z48]at hl; obtain⟨h1,h2,h3,h4⟩:=hl; exact⟨fun x hx=>⟨rfl,hx.le (AH h3 h1) (AH h4 h2)⟩⟩
theorem eX{σ ρ:Type}{u:σ→Up×Uo}{X:ρ→Ek×Up×Uo}{w wo:List (Nat×Nat)}{S0:SS V}{O0:SS (List T)}{q:ρ}{o:σ⊕ρ}{i:Nat}(h:some (.inr q)=some o)(hl:(Ek.e i,GR S (X q).2.1,GR O (X q).2.2,S.strip w,O.strip wo)=((X q).1,some (uT (X q).2.1),some (uT (X q).2.2),S0.strip w,O0.strip wo)):FX (LQ u X w wo S0 O0 o) (.e i) S O:=by
 cases h; simp only[z48]at hl; obtain⟨he,h1,h2,h3,h4⟩:=hl; exact⟨fun x hx=>⟨nofun,he,hx.le (AH h3 h1) (AH h4 h2)⟩⟩
theorem eXr{σ ρ:Type}{u:σ→Up×Uo}{X:ρ→Ek×Up×Uo}{w wo:List (Nat×Nat)}{S0:SS V}{O0:SS (List T)}{q:ρ}{o:σ⊕ρ}(h:some (.inr q)=some o)(hl:(.r,GR S (X q).2.1,GR O (X q).2.2,S.strip w,O.strip wo)=((X q).1,some (uT (X q).2.1),some (uT (X q).2.2),S0.strip w,O0.strip wo)):FX (LQ u X w wo S0 O0 o) .r S O:=by
 cases h; simp only[z48]at hl; obtain⟨he,h1,h2,h3,h4⟩:=hl; exact⟨fun x hx=>⟨nofun,he,hx.le (AH h3 h1) (AH h4 h2)⟩⟩
theorem cLp{σ ρ β:Type}{body:σ→Option (σ⊕ρ)}{n:Nat}{s0:σ}{f:ρ→Option β}{r:β}{c:Code}{id:Nat}(h:(loopN body n s0).bind f=some r)(w wo:List (Nat×Nat))(u:σ→Up×Uo)(X:ρ→Ek×Up×Uo)(hl:(GR S (u s0).1,GR O (u s0).2)=(some (uT (u s0).1),some (uT (u s0).2)))
  (hb: ∀s o,body s=some o→Vc P τ An F c (.top (LQ u X w wo S O o)) (.many (u s).1 (.drop w S)) (.many (u s).2 (.drop wo O)))
  (hx: ∀q,f q=some r→aft P τ An F (.blk id k) (X q).1 (.many (X q).2.1 (.drop w S)) (.many (X q).2.2 (.drop wo O))):Vc P τ An F (.block id (.loop c)) k S O:=by
 obtain⟨q,hq,hf⟩:=bind_some h; simp only[z48]at hl; have hi:LeS (.many (u s0).1 (.drop w S)) S:=AH rfl hl.1; have hio:LeS (.many (u s0).2 (.drop wo O)) O:=AH rfl hl.2; refine⟨fun x hx0=>RG ?_⟩
 refine Wd.loopN (fun s x=>Mt (.many (u s).1 (.drop w S)) (.many (u s).2 (.drop wo O)) x) (fun q e x=>e=(X q).1∧Mt (.many (X q).2.1 (.drop w S)) (.many (X q).2.2 (.drop wo O)) x) ?_ hq (hx0.le hi hio) ?_
 ·intro s o x hs ho
  refine Ep (fun e x1 hh=> ?_) ((hb s o ho).run x hs)
  cases o with
  | inl s'=>exact hh
  | inr q=>exact hh
 ·intro e x1 ⟨he,hm⟩
  subst he; exact Pc (k:= .blk id k) (hx q hf) x1 hm

def TY(τ:TypeId→Option TI)(S:SS V)(O:SS (List T)):ResultVar→Option W
 | .tmp t=>(match S.get t with | some (.one w)=>some w | _=>none)
 | .cell t ty=>(match τ ty,S.get t with
  | some i,some (.one (.ptr o p))=>(match O.get o with
   | some cells=>(match nV i (cells.drop p)with | some (.one w)=>some w | _=>none)
   | none=>none)
  | _,_=>none)
def HH(τ:TypeId→Option TI)(S:SS V)(O:SS (List T)):List ResultVar→Option (List W)
 | []=>some []
 | r::rs=>match TY τ S O r,HH τ S O rs with
  | some w,some ws=>some (w::ws)
  | _,_=>none
theorem QV{x:D}(hx:Mt S O x){r:ResultVar}{w:W}(h:TY τ S O r=some w):Nn τ x r=some w:=by
 cases r with
 | tmp t=>
  simp only[TY]at h; split at h<;>try cases h
  rename_i e; simp only[Nn,hx.sl t _ e]
 | cell t ty=>
  simp only[TY]at h; split at h<;>try cases h
  rename_i i o p h1 h2; split at h<;>try cases h
  rename_i cells h3; simp only[Nn,h1,hx.sl t _ h2,hx.ob o _ h3]; exact h
theorem JR{x:D}(hx:Mt S O x): ∀ {rs:List ResultVar} {ws:List W},HH τ S O rs=some ws→Cx τ x rs=some ws
 | [],ws,h=>h
 | r::rs,ws,h=>by
  simp only[HH]at h; split at h<;>try cases h
  rename_i w ws' h1 h2; simp only[Cx,QV hx h1,JR hx h2]
def Nq(O:SS (List T)):Nat→List (List T)→Option (List (List T))
 | _,[]=>some []
 | i,_::r=>match O.get (par+i),Nq O (i+1) r with
  | some cs,some css=>some (cs::css)
  | _,_=>none
theorem Lq{x:D}(hx:Mt S O x): ∀ {l:List (List T)} {i:Nat} {l':List (List T)},Nq O i l=some l'→yY x i l=some l'
 | [],i,l',h=>h
 | a::r,i,l',h=>by
  simp only[Nq]at h; split at h<;>try cases h
  rename_i cs css h1 h2; simp only[yY,hx.ob _ _ h1,Lq hx h2]
def nwS(O:SS (List T)):Option Nat→Option (Option (List T))
 | none=>some none
 | some o=>match O.get o with | some cs=>some (some cs) | none=>none
def FQ(τ:TypeId→Option TI)(F:FA)(rs:List ResultVar)(ob:List (List T))(r:V)(ob':List (List T))(nw:Option (List T))(e:Ek)(x:D):Prop:=(e= .n∨e= .r)∧ ∃ws,Cx τ x rs=some ws∧(Hl ws).to (sZ F.n0)=r∧yY x 0 ob=some ob'∧F.n0.bind x.ob=nw
theorem eN{rs:List ResultVar}{ob ob':List (List T)}{r:V}{nw:Option (List T)}{ws:List W}(h1:HH τ S O rs=some ws)(h2:(Hl ws).to (sZ F.n0)=r)(h3:Nq O 0 ob=some ob')(h4:nwS O F.n0=some nw):FX (FQ τ F rs ob r ob' nw) .n S O:=⟨fun x hx=>⟨.inl rfl,ws,JR hx h1,h2,Lq hx h3,by
 revert h4
 cases F.n0 with
 | none=>intro h4; exact z46 h4
 | some o=>
  intro h4; simp only[nwS]at h4; split at h4<;>try cases h4
  rename_i e; exact hx.ob _ _ e⟩⟩
theorem eR{rs:List ResultVar}{ob ob':List (List T)}{r:V}{nw:Option (List T)}{ws:List W}(h1:HH τ S O rs=some ws)(h2:(Hl ws).to (sZ F.n0)=r)(h3:Nq O 0 ob=some ob')(h4:nwS O F.n0=some nw):FX (FQ τ F rs ob r ob' nw) .r S O:=⟨fun x hx=>by
 obtain⟨_,h⟩:=(eN (F:=F) h1 h2 h3 h4).run x hx; exact⟨.inr rfl,h⟩⟩

def RY:Nat→List V→List (Nat×V)
 | _,[]=> []
 | i,v::r=>(i,v)::RY (i+1) r
def RZ:Nat→List (List T)→List (Nat×List T)
 | _,[]=> []
 | i,v::r=>(par+i,v)::RZ (i+1) r
theorem Gn: ∀(vs:List V) (i j:Nat) (v:V),cQ j (RY i vs)=some v→i≤j∧vs[j - i]? =some v
 | [],i,j,v,h=>by cases h
 | u::r,i,j,v,h=>by
  simp only[RY,cQ]at h; cases e:Nat.beq j i with
  | true=>
   have:=z16 e; subst this; rw[e]at h; simp only[z17,z10]at h; subst h; exact⟨z53 _,by rw[RQ]; rfl⟩
  | false=>
   rw[e]at h; obtain⟨h1,h2⟩:=Gn r (i+1) j v h; refine⟨by omega, ?_⟩
   rw[show j - i=(j - (i+1))+1 by omega]; exact h2
theorem Gp: ∀(vs:List (List T)) (i j:Nat) (v:List T),cQ j (RZ i vs)=some v→par+i≤j∧vs[j - (par+i)]? =some v
 | [],i,j,v,h=>by cases h
 | u::r,i,j,v,h=>by
  simp only[RZ,cQ]at h; cases e:Nat.beq j (par+i)with
  | true=>
   have:=z16 e; subst this; rw[z42]at h; simp only[z17,z10]at h; subst h; exact⟨z53 _,by rw[RQ]; rfl⟩
  | false=>
   rw[e]at h; obtain⟨h1,h2⟩:=Gp r (i+1) j v h; refine⟨by omega, ?_⟩
   rw[show j - (par+i)=(j - (par+(i+1)))+1 by omega]; exact h2
theorem Mt.start{vs:List V}{ob:List (List T)}:Mt (.many (RY 0 vs) .nil) (.many (RZ 0 ob) .nil) (DA vs ob):=⟨fun i v h=>by
 simp only[SS.get]at h; split at h<;>try cases h
 rename_i h1; have:=(Gn vs 0 i v h1).2; show vs.getD i _=v; rw[z165]at this; rw[z80,this]; rfl,fun o cs h=>by
 simp only[SS.get]at h; split at h<;>try cases h
 rename_i h1; obtain⟨h2,h3⟩:=Gp ob 0 o cs h1; show(if par≤o then ob[o - par]? else none)=some cs
 rw[z19 (by omega)]; exact h3⟩
theorem bF{f:FuncId}{fn:Func}{c:Code}{vs:List V}{ob ob':List (List T)}{r:V}{nw:Option (List T)}(hf:P.funcs[f]? =some fn)(hb:fn.body=some c)(hq:(pE (An f) 0 vs&&rA (An f) 0 ob&& !(An f).io.isSome)=true)
  (h:Vc P τ An (An f) c (.top (FQ τ (An f) fn.results.toList ob r ob' nw)) (.many (RY 0 vs) .nil) (.many (RZ 0 ob) .nil)):Big P τ An (.fn f vs ob r none ob' nw):=by
 simp only[z7]at hq; refine Big.of hf hb hq.1.1 hq.1.2 ?_ (Ep (fun e x hh=> ?_) (h.run _ Mt.start))
 ·have:=hq.2
  revert this
  cases (An f).io<;>simp
 ·obtain⟨h0,ws,h1,h2,h3,h4⟩:=hh
  exact⟨h0,ws,h1,h2,h3,h4⟩
end
end Go.Own

namespace Go.Own
open Go.RowKit

abbrev I64(a:Int):V:= .one (.c (.int .i64 a))
abbrev U8(a:Int):V:= .one (.c (.int .u8 a))
abbrev Bo(b:Bool):V:= .one (.c (.bool b))
abbrev Li{α:Type}(f:α→List T)(l:List α):V:= .one (.c (.sl (l.map f)))
abbrev Pt(o:Nat):V:= .one (.ptr o 0)
def fOff(τ:TypeId→Option TI)(s:TypeId)(f:Nat):Option (Nat×Nat):=match tk τ s with
 | some (.struct fs)=>(match fs[f]? with | some q=>some (q.1,q.2.1) | none=>none)
 | _=>none
def ldS(τ:TypeId→Option TI)(S:SS V)(O:SS (List T))(t:TypeId)(v:Operand):Option V:=match τ t,evS S v with
 | some ti,some (.one (.ptr ob p))=>(match O.get ob with | some cells=>nV ti (cells.drop p) | none=>none)
 | some ti,some (.one (.cp xs))=>nV ti xs
 | _,_=>none
def NT:List T→List T→List T
 | [],cs=>cs
 | x::r,_::cs=>x::NT r cs
 | _::_,[]=> []
def Nj:Nat→List T→List T→List T
 | 0,xs,cs=>NT xs cs
 | p+1,xs,c::cs=>c::Nj p xs cs
 | _+1,_,[]=> []
theorem JW: ∀ {xs cs:List T},xs.length≤cs.length→NT xs cs=xs++cs.drop xs.length
 | [],cs,_=>rfl
 | x::r,c::cs,h=>by
  simp only[z43]at h; simp only[NT,JW (xs:=r) (cs:=cs) (by omega),z43,z133,z86]
 | x::r,[],h=>by simp at h
theorem Ll: ∀ {p:Nat} {xs cs:List T},p+xs.length≤cs.length→Nj p xs cs=cs.take p++xs++cs.drop (p+xs.length)
 | 0,xs,cs,h=>by simp only[Nj,JW (xs:=xs) (cs:=cs) (by omega),Pg,Ph,z32]
 | p+1,xs,c::cs,h=>by
  simp only[z43]at h; simp only[Nj,Ll (p:=p) (xs:=xs) (cs:=cs) (by omega),RX,z86,show p+1+xs.length=(p+xs.length)+1 by omega,z133]
 | p+1,xs,[],h=>by simp at h
def stS(τ:TypeId→Option TI)(F:FA)(S:SS V)(O:SS (List T))(t:TypeId)(v y:Operand):Option (Nat×List T):=match τ t,evS S v,(evS S y).bind aT with
 | some ti,some (.one (.ptr ob p)),some xs=>(match O.get ob with
  | some cells=>bif Nat.beq xs.length ti.size&&Nat.ble (p+xs.length) cells.length&&eH (Nj p xs cells) (F.obOf ob)then some (ob,Nj p xs cells)else none
  | none=>none)
 | _,_,_=>none
def zS(τ:TypeId→Option TI)(t:TypeId):Option (List T):=match τ t with
 | some ⟨_,_,_,z,_,_⟩=>some z
 | none=>none
def elS(τ:TypeId→Option TI)(t:TypeId):Option TI:=match tk τ t with
 | some (.sl e)=>τ e
 | _=>none
theorem El{τ:TypeId→Option TI}{t:TypeId}{ei:TI}(h:elS τ t=some ei): ∃e,tk τ t=some (.sl e)∧τ e=some ei:=by
 unfold elS at h; split at h
 ·rename_i e he; exact⟨e,he,h⟩
 ·cases h
def capS(S:SS V):List Operand→Option (List (Nat×Nat))
 | []=>some []
 | v::r=>match evS S v,capS S r with
  | some (.one (.ptr o off)),some l=>some ((o,off)::l)
  | _,_=>none
def Ku(S:SS V):List Operand→Option (List V)
 | []=>some []
 | v::r=>match evS S v,Ku S r with
  | some a,some l=>some (a::l)
  | _,_=>none
def inA(S:SS V)(O:SS (List T))(os:List Nat):List Operand→Option (List V)
 | []=>some []
 | v::r=>match evS S v,rdS S O v,inA S O os r with
  | some u,some a,some l=>bif fY u then some (a.to (mV os)::l)else none
  | _,_,_=>none
def LS:W→Bool
 | .junk=>false
 | .ptr _ _=>false
 | .fn _ _=>false
 | .al _ _=>false
 | .pp _ _ _ _=>false
 | _=>true
def DJ:V→Bool
 | .one w=>LS w
 | .tup ws=>ws.all LS
theorem Ge{ρ:Nat→Option Nat}{w:W}(h:LS w=true):w.to ρ=w:=by
 cases w<;>first | rfl | cases h
theorem Bj{ρ:Nat→Option Nat}{v:V}(h:DJ v=true):v.to ρ=v:=by
 cases v with
 | one w=>exact congrArg V.one (Ge h)
 | tup ws=>
  show V.tup (ws.map (W.to ρ))=_; rw[show ws.map (W.to ρ)=ws.map id from z49 fun w hw=>Ge (z15.1 h w hw),List.map_id]

theorem fI{s:V}{κ:IntKind}{a b:Int}(h:fits (.one (.c (.int κ a))) s=true):fits (.one (.c (.int κ b))) s=true:=by
 cases s with
 | tup ws=>cases h
 | one w=>cases w<;>first | (cases h; done) | (rename_i z; cases z<;>first | exact h | rfl | cases h)
theorem fB{s:V}{a b:Bool}(h:fits (.one (.c (.bool a))) s=true):fits (.one (.c (.bool b))) s=true:=by
 cases s with
 | tup ws=>cases h
 | one w=>cases w<;>first | (cases h; done) | (rename_i z; cases z<;>first | exact h | rfl | cases h)
theorem fL{s:V}{a b:List (List T)}(h:fits (.one (.c (.sl a))) s=true):fits (.one (.c (.sl b))) s=true:=by
 cases s with
 | tup ws=>cases h
 | one w=>cases w<;>first | (cases h; done) | (rename_i z; cases z<;>first | exact h | rfl | cases h)

set_option linter.unusedVariables false
section
variable {P:Program} {τ:TypeId→Option TI} {An:FuncId→FA} {F:FA} {ds:List (Option Nat)} {r:List Oper} {k:Kt} {S:SS V} {O:SS (List T)} {ty:TypeId} {pos:String} {after:Array Edge} {gd:Option (Nat×Bool)} {d:Nat}

theorem FL{x:D}(hx:Mt S O x): ∀ {l:List Operand} {vs:List V},Ku S l=some vs→l.map (ev x.sl)=vs
 | [],vs,h=>by cases h; rfl
 | v::r,vs,h=>by
  simp only[Ku]at h; split at h<;>try cases h
  rename_i a l h1 h2; simp only[z61,hx.ev h1,FL hx h2]
theorem GM{x:D}(hx:Mt S O x){os:List Nat}: ∀ {l:List Operand} {vs:List V},inA S O os l=some vs→l.map (fun v=>(evD x v).to (mV os))=vs∧l.all (fun v=>fY (ev x.sl v))=true
 | [],vs,h=>by cases h; exact⟨rfl,rfl⟩
 | v::r,vs,h=>by
  simp only[inA]at h; split at h<;>try cases h
  rename_i u a l h0 h1 h2; obtain⟨c,h⟩:=aI h; cases h; obtain⟨i1,i2⟩:=GM hx h2; simp only[z61,hx.rd h1,i1,NJ,hx.ev h0,c,i2,z94,and_self]

theorem oNl(h:nxt P τ An F k S O):Vo P τ An F ds [] k S O:=⟨fun x hx=>OG (AY h x hx)⟩
theorem oSu{os:List Oper}{e b:Bool}(t:Nat)(q:e=b)(hc:S.get t=some (.one (.c (.bool e))))(h:Vo P τ An F ds os k (.cons t (.one (.c (.bool b))) S) O):Vo P τ An F ds os k S O:=⟨fun x hx=>h.run x (hx.su hc (by rw[q]))⟩
theorem oIf{ρ:Type}{A B:Option ρ}{r0:ρ}{e:Bool}(t:Nat){os:List Oper}(h:(bif e then A else B)=some r0)(hc:S.get t=some (.one (.c (.bool e))))(h1:e=true→A=some r0→Vo P τ An F ds os k (.cons t (.one (.c (.bool true))) S) O)(h0:e=false→B=some r0→Vo P τ An F ds os k (.cons t (.one (.c (.bool false))) S) O):Vo P τ An F ds os k S O:=by
 cases e with
 | true=>exact⟨fun x hx=>(h1 rfl h).run x (hx.su hc rfl)⟩
 | false=>exact⟨fun x hx=>(h0 rfl h).run x (hx.su hc rfl)⟩
theorem oCk{β:Type}{c:Bool}{f:Unit→Option β}{r0:β}{os:List Oper}(h:(ck c).bind f=some r0)(h1:c=true→f ()=some r0→Vo P τ An F ds os k S O):Vo P τ An F ds os k S O:=by
 obtain⟨u,h2,h3⟩:=bind_some h; exact h1 (ck_of h2) h3

theorem wSk{op:Op}(hg:gS ds S gd=some false)(h:Vo P τ An F ds r k (.cons d (.tup []) S) O):Vo P τ An F ds (⟨some d,op,ty,pos,after,gd⟩::r) k S O:=
 ⟨fun x hx=>MX (hx.gd hg) rfl (h.run _ (hx.put d _))⟩
theorem wMv{y:Operand}{v:V}(hg:gS ds S gd=some true)(hv:evS S y=some v)(hq:(!(mem d F.al)&&fY v&&fits v (F.shOf d))=true)(h:Vo P τ An F ds r k (.cons d v S) O):Vo P τ An F ds (⟨some d, .move y,ty,pos,after,gd⟩::r) k S O:=
 ⟨fun x hx=>mv (hx.gd hg) (hx.ev hv) hq (h.run _ (hx.put d _))⟩
theorem wAs{y:Operand}{v:V}(hg:gS ds S gd=some true)(hv:evS S y=some v)(hq:(fY v&&fits v (F.shOf d))=true)(h:Vo P τ An F ds r k (.cons d v S) O):Vo P τ An F ds (⟨some d, .assign y,ty,pos,after,gd⟩::r) k S O:=
 ⟨fun x hx=>asg (hx.gd hg) (hx.ev hv) hq (h.run _ (hx.put d _))⟩
theorem wPk{c y z:Operand}{b:Bool}{t:T}(hg:gS ds S gd=some true)(hc:evS S c=some (.one (.c (.bool b))))(hv:evS S (bif b then y else z)=some (.one (.c t)))(hq:(scal t&&fits (.one (.c t)) (F.shOf d))=true)(h:Vo P τ An F ds r k (.cons d (.one (.c t)) S) O):Vo P τ An F ds (⟨some d, .pick c y z,ty,pos,after,gd⟩::r) k S O:=
 ⟨fun x hx=>pk (hx.gd hg) (hx.ev hc) (hx.ev hv) hq (h.run _ (hx.put d _))⟩

set_option linter.unusedVariables false
theorem wBi{op:BinOp}{t t2:TypeId}{y z:Operand}(w:T){v1 v2:V}(hg:gS ds S gd=some true)(h1:rdS S O y=some v1)(h2:rdS S O z=some v2)(hr:NN τ op t v1 v2=some w)(hf:fits (.one (.c w)) (F.shOf d)=true)(h:Vo P τ An F ds r k (.cons d (.one (.c w)) S) O):Vo P τ An F ds (⟨some d, .binOp op t y z t2,ty,pos,after,gd⟩::r) k S O:=
 ⟨fun x hx=>s_bin (hx.gd hg) (hx.rd h1) (hx.rd h2) hr hf (h.run _ (hx.put d _))⟩
section
variable {t t2:TypeId} {y z:Operand} {κ:IntKind} {a b:Int}
theorem qV{op:BinOp}{w:T}(h1:op≠ .shl)(h2:op≠ .shr)(h:NZ op κ a b=some w):NN τ op t (.one (.c (.int κ a))) (.one (.c (.int κ b)))=some w:=by
 cases op<;>first | exact absurd rfl h1 | exact absurd rfl h2 | (simp only[NN,if_true]; exact h)
theorem wAdd(hg:gS ds S gd=some true)(h1:rdS S O y=some (.one (.c (.int κ a))))(h2:rdS S O z=some (.one (.c (.int κ b))))(hf:fits (.one (.c (.int κ 0))) (F.shOf d)=true)(h:Vo P τ An F ds r k (.cons d (.one (.c (.int κ (κ.wrap (a+b))))) S) O):Vo P τ An F ds (⟨some d, .binOp .add t y z t2,ty,pos,after,gd⟩::r) k S O:=
 wBi _ hg h1 h2 (qV nofun nofun rfl) (fI hf) h
theorem wSub(hg:gS ds S gd=some true)(h1:rdS S O y=some (.one (.c (.int κ a))))(h2:rdS S O z=some (.one (.c (.int κ b))))(hf:fits (.one (.c (.int κ 0))) (F.shOf d)=true)(h:Vo P τ An F ds r k (.cons d (.one (.c (.int κ (κ.wrap (a - b))))) S) O):Vo P τ An F ds (⟨some d, .binOp .sub t y z t2,ty,pos,after,gd⟩::r) k S O:=
 wBi _ hg h1 h2 (qV nofun nofun rfl) (fI hf) h
theorem wMul(hg:gS ds S gd=some true)(h1:rdS S O y=some (.one (.c (.int κ a))))(h2:rdS S O z=some (.one (.c (.int κ b))))(hf:fits (.one (.c (.int κ 0))) (F.shOf d)=true)(h:Vo P τ An F ds r k (.cons d (.one (.c (.int κ (κ.wrap (a*b))))) S) O):Vo P τ An F ds (⟨some d, .binOp .mul t y z t2,ty,pos,after,gd⟩::r) k S O:=
 wBi _ hg h1 h2 (qV nofun nofun rfl) (fI hf) h
theorem wEq(hg:gS ds S gd=some true)(h1:rdS S O y=some (.one (.c (.int κ a))))(h2:rdS S O z=some (.one (.c (.int κ b))))(hf:fits (Bo true) (F.shOf d)=true)(h:Vo P τ An F ds r k (.cons d (Bo (decide (a=b))) S) O):Vo P τ An F ds (⟨some d, .binOp .eql t y z t2,ty,pos,after,gd⟩::r) k S O:=
 wBi _ hg h1 h2 (qV nofun nofun rfl) (fB hf) h
theorem wNe(hg:gS ds S gd=some true)(h1:rdS S O y=some (.one (.c (.int κ a))))(h2:rdS S O z=some (.one (.c (.int κ b))))(hf:fits (Bo true) (F.shOf d)=true)(h:Vo P τ An F ds r k (.cons d (Bo (!decide (a=b))) S) O):Vo P τ An F ds (⟨some d, .binOp .neq t y z t2,ty,pos,after,gd⟩::r) k S O:=
 wBi _ hg h1 h2 (qV nofun nofun rfl) (fB hf) h
theorem wLt(hg:gS ds S gd=some true)(h1:rdS S O y=some (.one (.c (.int κ a))))(h2:rdS S O z=some (.one (.c (.int κ b))))(hf:fits (Bo true) (F.shOf d)=true)(h:Vo P τ An F ds r k (.cons d (Bo (decide (a<b))) S) O):Vo P τ An F ds (⟨some d, .binOp .lss t y z t2,ty,pos,after,gd⟩::r) k S O:=
 wBi _ hg h1 h2 (qV nofun nofun rfl) (fB hf) h
theorem wLe(hg:gS ds S gd=some true)(h1:rdS S O y=some (.one (.c (.int κ a))))(h2:rdS S O z=some (.one (.c (.int κ b))))(hf:fits (Bo true) (F.shOf d)=true)(h:Vo P τ An F ds r k (.cons d (Bo (decide (a≤b))) S) O):Vo P τ An F ds (⟨some d, .binOp .leq t y z t2,ty,pos,after,gd⟩::r) k S O:=
 wBi _ hg h1 h2 (qV nofun nofun rfl) (fB hf) h
theorem wGt(hg:gS ds S gd=some true)(h1:rdS S O y=some (.one (.c (.int κ a))))(h2:rdS S O z=some (.one (.c (.int κ b))))(hf:fits (Bo true) (F.shOf d)=true)(h:Vo P τ An F ds r k (.cons d (Bo (decide (b<a))) S) O):Vo P τ An F ds (⟨some d, .binOp .gtr t y z t2,ty,pos,after,gd⟩::r) k S O:=
 wBi _ hg h1 h2 (qV nofun nofun rfl) (fB hf) h
theorem wGe(hg:gS ds S gd=some true)(h1:rdS S O y=some (.one (.c (.int κ a))))(h2:rdS S O z=some (.one (.c (.int κ b))))(hf:fits (Bo true) (F.shOf d)=true)(h:Vo P τ An F ds r k (.cons d (Bo (decide (b≤a))) S) O):Vo P τ An F ds (⟨some d, .binOp .geq t y z t2,ty,pos,after,gd⟩::r) k S O:=
 wBi _ hg h1 h2 (qV nofun nofun rfl) (fB hf) h
theorem wEs{a b:List UInt8}(hg:gS ds S gd=some true)(h1:rdS S O y=some (.one (.c (.str a))))(h2:rdS S O z=some (.one (.c (.str b))))(hf:fits (Bo true) (F.shOf d)=true)(h:Vo P τ An F ds r k (.cons d (Bo (decide (a=b))) S) O):Vo P τ An F ds (⟨some d, .binOp .eql t y z t2,ty,pos,after,gd⟩::r) k S O:=
 wBi _ hg h1 h2 rfl (fB hf) h
theorem wNs{a b:List UInt8}(hg:gS ds S gd=some true)(h1:rdS S O y=some (.one (.c (.str a))))(h2:rdS S O z=some (.one (.c (.str b))))(hf:fits (Bo true) (F.shOf d)=true)(h:Vo P τ An F ds r k (.cons d (Bo (!decide (a=b))) S) O):Vo P τ An F ds (⟨some d, .binOp .neq t y z t2,ty,pos,after,gd⟩::r) k S O:=
 wBi _ hg h1 h2 rfl (fB hf) h
theorem wRem(hc:(!decide (b=0))=true)(hg:gS ds S gd=some true)(h1:rdS S O y=some (.one (.c (.int κ a))))(h2:rdS S O z=some (.one (.c (.int κ b))))(hf:fits (.one (.c (.int κ 0))) (F.shOf d)=true)(h:Vo P τ An F ds r k (.cons d (.one (.c (.int κ (Int.tmod a b)))) S) O):Vo P τ An F ds (⟨some d, .binOp .rem t y z t2,ty,pos,after,gd⟩::r) k S O:=
 wBi (.int κ (Int.tmod a b)) hg h1 h2 (by
                      have: ¬ b=0:=by simpa using hc
                      simp [NN,NZ,this]) (fI hf) h
theorem wNot{b:Bool}(hg:gS ds S gd=some true)(h1:rdS S O y=some (.one (.c (.bool b))))(hf:fits (Bo true) (F.shOf d)=true)(h:Vo P τ An F ds r k (.cons d (Bo (!b)) S) O):Vo P τ An F ds (⟨some d, .unOp .not t y,ty,pos,after,gd⟩::r) k S O:=
 ⟨fun x hx=>rd (.bool !b) (hx.gd hg) rfl rfl (by simp only[gL,hx.rd h1]) (fB hf) (h.run _ (hx.put d _))⟩
theorem wCv{κ':IntKind}{u:TK}(hg:gS ds S gd=some true)(ht:tk τ t=some u)(ht2:tk τ t2=some (.int κ'))(h1:rdS S O y=some (.one (.c (.int κ a))))(hf:fits (.one (.c (.int κ' 0))) (F.shOf d)=true)(h:Vo P τ An F ds r k (.cons d (.one (.c (.int κ' (κ'.wrap a)))) S) O):Vo P τ An F ds (⟨some d, .convert t t2 y,ty,pos,after,gd⟩::r) k S O:=
 ⟨fun x hx=>rd (.int κ' (κ'.wrap a)) (hx.gd hg) rfl rfl (by simp only[gL,hx.rd h1,ht,ht2]) (fI hf) (h.run _ (hx.put d _))⟩
theorem wLs{s:List UInt8}(hg:gS ds S gd=some true)(ht:tk τ t=some .str)(h1:rdS S O y=some (.one (.c (.str s))))(hf:fits (I64 0) (F.shOf d)=true)(h:Vo P τ An F ds r k (.cons d (I64 s.length) S) O):Vo P τ An F ds (⟨some d, .call { callee:= .builtin .len,args:= #[y],argTypes:= #[t] },ty,pos,after,gd⟩::r) k S O:=
 ⟨fun x hx=>rd (.int .i64 s.length) (hx.gd hg) rfl rfl (by simp only[gL,hx.rd h1,ht]) (fI hf) (h.run _ (hx.put d _))⟩
theorem wLn{α:Type}{L:List α}{f:α→List T}{e:TypeId}(hg:gS ds S gd=some true)(ht:tk τ t=some (.sl e))(h1:rdS S O y=some (.one (.c (.sl (L.map f)))))(hf:fits (I64 0) (F.shOf d)=true)(h:Vo P τ An F ds r k (.cons d (I64 L.length) S) O):Vo P τ An F ds (⟨some d, .call { callee:= .builtin .len,args:= #[y],argTypes:= #[t] },ty,pos,after,gd⟩::r) k S O:=
 ⟨fun x hx=>ln (hx.gd hg) ht (hx.rd h1) hf (h.run _ (hx.put d _))⟩
theorem LE{β:Type}{f:Int→Option β}{r0:β}{s:List UInt8}(h:(ixs s a).bind f=some r0)(hg:gS ds S gd=some true)(ht:tk τ t=some .str)(h1:rdS S O y=some (.one (.c (.str s))))(h2:rdS S O z=some (.one (.c (.int κ a))))(hf:fits (U8 0) (F.shOf d)=true)(hn: ∀b,f b=some r0→Vo P τ An F ds r k (.cons d (U8 b) S) O):Vo P τ An F ds (⟨some d, .index t y z,ty,pos,after,gd⟩::r) k S O:=by
 obtain⟨b,h3,h4⟩:=bind_some h; exact⟨fun x hx=>rd (.int .u8 b) (hx.gd hg) rfl rfl (Tp h3 ht (hx.rd h1) (hx.rd h2)) (fI hf) ((hn b h4).run _ (hx.put d _))⟩
end

inductive BdS (S:SS V) (O:SS (List T)):Option Operand→Option Int→Prop
 | no:BdS S O none none
 | so {y:Operand} {k:IntKind} {n:Int} (h:rdS S O y=some (.one (.c (.int k n)))):BdS S O (some y) (some n)
theorem BdS.bd{x:D}(hx:Mt S O x){y:Option Operand}{n:Option Int}(h:BdS S O y n):Bd x y n:=by
 cases h with
 | no=>exact .none
 | so h=>exact .some (hx.rd h)
theorem wSl{α β:Type}{t e:TypeId}{ei:TI}{y:Operand}{lo hi:Option Operand}{l g:Option Int}{s:List α}{rf:α→List T}{f:List α→Option β}{r0:β}(h:(sub s l g).bind f=some r0)(hg:gS ds S gd=some true)(ht:tk τ t=some (.sl e))(he:τ e=some ei)(h1:rdS S O y=some (.one (.c (.sl (s.map rf)))))(h2:BdS S O lo l)(h3:BdS S O hi g)(hsz: ∀a,(rf a).length=ei.size)(hf:fits (.one (.c (.sl []))) (F.shOf d)=true)(hn: ∀s',f s'=some r0→Vo P τ An F ds r k (.cons d (Li rf s') S) O):Vo P τ An F ds (⟨some d, .slice t y lo hi none,ty,pos,after,gd⟩::r) k S O:=by
 obtain⟨b,h5,h4⟩:=bind_some h; refine⟨fun x hx=>rd (.sl (b.map rf)) (hx.gd hg) rfl rfl (To h5 ht he (hx.rd h1) (h2.bd hx) (h3.bd hx) hsz) (fL hf) ((hn b h4).run _ (hx.put d _))⟩

theorem wNc{v:Operand}{w:V}(hg:gS ds S gd=some true)(hv:evS S v=some w)(hp:(isP w&&fits w (F.shOf d))=true)(h:Vo P τ An F ds r k (.cons d w S) O):Vo P τ An F ds (⟨some d, .nilCheck v,ty,pos,after,gd⟩::r) k S O:=by
 simp only[z7]at hp; exact⟨fun x hx=>nlc (hx.gd hg) (hx.ev hv) hp.1 hp.2 (h.run _ (hx.put d _))⟩
theorem wFd{s:TypeId}{v:Operand}{f:Nat}{off:Nat×Nat}{w u:V}(hg:gS ds S gd=some true)(hq:fOff τ s f=some off)(hv:evS S v=some w)(hw:zB off w=some u)(hf:fits u (F.shOf d)=true)(h:Vo P τ An F ds r k (.cons d u S) O):Vo P τ An F ds (⟨some d, .fieldAddr s v f,ty,pos,after,gd⟩::r) k S O:=by
 unfold fOff at hq; split at hq<;>try cases hq
 rename_i fs hs; split at hq<;>try cases hq
 rename_i q hf2; exact⟨fun x hx=>fld (hx.gd hg) hs hf2 (hx.ev hv) hw hf (h.run _ (hx.put d _))⟩
theorem wLd{t:TypeId}{v:Operand}{w:V}(hg:gS ds S gd=some true)(hl:ldS τ S O t v=some w)(hq:(!(mem d F.al)&&fits w (F.shOf d))=true)(h:Vo P τ An F ds r k (.cons d w S) O):Vo P τ An F ds (⟨some d, .load t v,ty,pos,after,gd⟩::r) k S O:=by
 simp only[z7,z37]at hq; refine⟨fun x hx=> ?_⟩
 unfold ldS at hl; split at hl<;>try cases hl
 ·rename_i ti ob p h1 h2
  split at hl<;>try cases hl
  rename_i cells h3; exact ldo (hx.gd hg) h1 hq.1 (hx.ev h2) (hx.ob _ _ h3) hl hq.2 (h.run _ (hx.put d _))
 ·rename_i ti xs h1 h2
  exact ldc (hx.gd hg) h1 (hx.ev h2) hl hq.2 (h.run _ (hx.put d _))
theorem wSt{t:TypeId}{v y:Operand}{ob:Nat}{cs:List T}(hg:gS ds S gd=some true)(hs:stS τ F S O t v y=some (ob,cs))(h:Vo P τ An F ds r k S (.cons ob cs O)):Vo P τ An F ds (⟨none, .store t v y,ty,pos,after,gd⟩::r) k S O:=by
 refine⟨fun x hx=> ?_⟩
 unfold stS at hs; split at hs<;>try cases hs
 rename_i ti ob' p xs h1 h2 h3; split at hs<;>try cases hs
 rename_i cells h4; obtain⟨c,hs⟩:=aI hs; cases hs; have hy:aT (ev x.sl y)=some xs:=by
  obtain⟨u,h5,h6⟩:=z18.1 h3; rw[hx.ev h5]; exact h6
 have c2:=c; simp only[z7]at c2; exact sto (cs:=Nj p xs cells) (hx.gd hg) h1 (hx.ev h2) hy (hx.ob _ _ h4) c (Ll (z33 c2.1.2)).symm (h.run _ (hx.setO ob _))
theorem wAc{t:TypeId}{cs:List T}(hg:gS ds S gd=some true)(hz:zS τ t=some cs)(hc:eH cs (F.obOf d)=true)(h:Vo P τ An F ds r k (.cons d (.one (.ptr d 0)) S) (.cons d cs O)):Vo P τ An F ds (⟨some d, .alloc t,ty,pos,after,gd⟩::r) k S O:=by
 unfold zS at hz; split at hz<;>try cases hz
 rename_i h1; exact⟨fun x hx=>alc (hx.gd hg) h1 rfl hc (h.run _ ((hx.put d _).setO d _))⟩
theorem wBx{e:TypeId}{t:Nat}{xs:List T}{w:V}(hg:gS ds S gd=some true)(hv:S.get t=some w)(hw:aT w=some xs)(hc:eH xs (F.obOf d)=true)(h:Vo P τ An F ds r k (.cons d (.one (.ptr d 0)) S) (.cons d xs O)):Vo P τ An F ds (⟨some d, .box e (.tmp t),ty,pos,after,gd⟩::r) k S O:=
 ⟨fun x hx=>bx (hx.gd hg) (hx.sl _ _ hv) hw hc (h.run _ ((hx.put d _).setO d _))⟩
def TD:List (Nat×Operand)→List V→List (Nat×V)
 | p::r,v::q=>(p.1,v)::TD r q
 | _,_=> []
theorem Lg{x:D}: ∀ {l:List (Nat×Operand)} {vs:List V},(l.map (·.2)).map (ev x.sl)=vs→l.map (fun p=>(p.1,ev x.sl p.2))=TD l vs
 | [],vs,h=>by cases h; rfl
 | p::r,vs,h=>by
  cases vs with
  | nil=>cases h
  | cons v vs=>
   simp only[z61,z163]at h; simp only[z61,TD,h.1,Lg h.2]
theorem wBd{t:TypeId}{fs:List (Nat×Nat×Bool)}{parts:Array (Nat×Operand)}{vs:List V}{z:List T}(rs:List T)(hg:gS ds S gd=some true)(hk:tk τ t=some (.struct fs))(hz:zS τ t=some z)(hv:Ku S (parts.toList.map (·.2))=some vs)(hb:qQ fs z (TD parts.toList vs)=some rs)(hf:fits (.one (.ag rs)) (F.shOf d)=true)(h:Vo P τ An F ds r k (.cons d (.one (.ag rs)) S) O):Vo P τ An F ds (⟨some d, .build t parts,ty,pos,after,gd⟩::r) k S O:=by
 unfold zS at hz; split at hz<;>try cases hz
 rename_i a b c k' h1; simp only[tk,h1,z35,z10]at hk; exact⟨fun x hx=>bld (hx.gd hg) h1 hk (by rw[Lg (FL hx hv)]; exact hb) hf (h.run _ (hx.put d _))⟩
theorem wEt{j t:Nat}{ws:List W}{w:W}(hg:gS ds S gd=some true)(hv:S.get t=some (.tup ws))(hw:ws[j]? =some w)(hf:fits (.one w) (F.shOf d)=true)(h:Vo P τ An F ds r k (.cons d (.one w) S) O):Vo P τ An F ds (⟨some d, .extract (.tmp t) j,ty,pos,after,gd⟩::r) k S O:=
 ⟨fun x hx=>ext (hx.gd hg) (hx.sl _ _ hv) hw hf (h.run _ (hx.put d _))⟩
theorem wIx{α β:Type}{L:List α}{f:α→List T}{g:α→Option β}{r0:β}{t:TypeId}{ei:TI}{v i:Operand}{κ:IntKind}{n:Int}{row:α→List T}(h:(ix L n).bind g=some r0)(hg:gS ds S gd=some true)(he:elS τ t=some ei)(hv:evS S v=some (.one (.c (.sl (L.map f)))))(hi:evS S i=some (.one (.c (.int κ n))))(hrow: ∀a,f a=row a)(hq: ∀a,(Nat.beq (row a).length ei.size&&fits (.one (.cp (row a))) (F.shOf d))=true)
  (hn: ∀a,g a=some r0→Vo P τ An F ds r k (.cons d (.one (.cp (row a))) S) O):Vo P τ An F ds (⟨some d, .indexAddr t v i,ty,pos,after,gd⟩::r) k S O:=by
 obtain⟨a,h1,h2⟩:=bind_some h; obtain⟨e,q1,q2⟩:=El he; have q:=hq a; simp only[z7]at q; exact⟨fun x hx=>ixa h1 (hx.gd hg) q1 q2 (hx.ev hv) (hx.ev hi) (hrow a) (z16 q.1) q.2 ((hn a h2).run _ (hx.put d _))⟩
theorem cS{α:Type}{L:List α}{f:α→List T}{t:TypeId}{n:Nat}{parts:Array (Nat×Operand)}{ei:TI}{vs:List V}{es:List (List T)}(hg:gS ds S gd=some true)(he:elS τ t=some ei)(hv:Ku S (parts.toList.map (·.2))=some vs)(hes:sY vs=some es)(hL:L.map f=es)
  (hq:(yD 0 parts.toList&&Nat.beq n parts.toList.length&&es.all (fun e=>Nat.beq e.length ei.size)&&Nat.ble (n*ei.size) 16777216)=true)(hf:fits (.one (.c (.sl []))) (F.shOf d)=true)(h:Vo P τ An F ds r k (.cons d (Li f L) S) O):Vo P τ An F ds (⟨some d, .buildSlice t n parts,ty,pos,after,gd⟩::r) k S O:=by
 obtain⟨e,q1,q2⟩:=El he; exact⟨fun x hx=>lit (hx.gd hg) q1 q2 (by rw[FL hx hv]; exact hes) hL hq hf (h.run _ (hx.put d _))⟩
theorem wAp{α β:Type}{L1 L2:List α}{g:List α→Option β}{r0:β}{f:α→List T}{b:Nat}{t u:TypeId}{ei:TI}{v y:Operand}{vy:V}{es2:List (List T)}(h:(fE b L1 L2).bind g=some r0)(hg:gS ds S gd=some true)(he:elS τ t=some ei)(hb:Nat.beq ei.bytes b=true)(hv:evS S v=some (.one (.c (.sl (L1.map f)))))(hy:evS S y=some vy)(hes:FW vy=some es2)(hL:es2=L2.map f)(hu:elS τ u=some ei)
  (hu2:yC τ u (match tk τ t with | some (.sl e)=>e | _=>0)=true)(hsz: ∀a,(Nat.beq (f a).length ei.size&&eH (f a) ei.zero)=true)(hf:fits (.one (.c (.sl []))) (F.shOf d)=true)(hn: ∀L3,g L3=some r0→Vo P τ An F ds r k (.cons d (Li f L3) S) O):Vo P τ An F ds (⟨some d, .call { callee:= .builtin .append,args:= #[v,y],argTypes:= #[t,u] },ty,pos,after,gd⟩::r) k S O:=by
 obtain⟨a,h1,h2⟩:=bind_some h; obtain⟨e,q1,q2⟩:=El he; rw[q1]at hu2; refine⟨fun x hx=>apd h1 (hx.gd hg) q1 q2 (z16 hb) (hx.ev hv) (by rw[hx.ev hy]; exact hes) hL hu2 (fun a=> ?_) (fun a=> ?_) hf ((hn a h2).run _ (hx.put d _))⟩
 ·have:=hsz a; simp only[z7]at this; exact z16 this.1
 ·have:=hsz a; simp only[z7]at this; exact this.2
theorem wLa{t:TypeId}{v:Operand}{ti:TI}{ob p:Nat}{cells:List T}(hg:gS ds S gd=some true)(ht:τ t=some ti)(hm:mem d F.al=true)(hv:evS S v=some (.one (.ptr ob p)))(hc:O.get ob=some cells)(hq:(FU τ t&&slT (cells[p]?))=true)(hf:fits (.one (.al (.oc ob p) [])) (F.shOf d)=true)(h:Vo P τ An F ds r k (.cons d (.one (.al (.oc ob p) [])) S) O):
  Vo P τ An F ds (⟨some d, .load t v,ty,pos,after,gd⟩::r) k S O:=⟨fun x hx=>alo (hx.gd hg) ht hm (hx.ev hv) (hx.ob _ _ hc) hq hf (h.run _ (hx.put d _))⟩
end
end Go.Own

namespace Go.Own
open Go.RowKit
set_option linter.unusedVariables false

def HF:Loc→Bool
 | .s _ k j=>Nat.beq k 0&&Nat.beq j 0
 | _=>true
theorem JK{l:Loc}(h:HF l=true): ∀i k j,l= .s i k j→k=0:=fun i k j e=>by
 subst e; simp only[HF,z7]at h; exact z16 h.1
def TV(S:SS V):Loc→T→SS V
 | .s i _ _,z=> .cons i (.one (.c z)) S
 | _,_=>S
def TW(O:SS (List T)):Loc→T→SS (List T)
 | .oc o j,z=>(match O.get o with | some cs=> .cons o (cs.set j z) O | none=>O)
 | _,_=>O
def isC:SS V→Loc→Bool
 | S, .s i _ _=>(match S.get i with | some (.one (.c _))=>true | _=>false)
 | _,_=>true

section
variable {P:Program} {τ:TypeId→Option TI} {An:FuncId→FA} {F:FA} {ds:List (Option Nat)} {r:List Oper} {k:Kt} {S:SS V} {O:SS (List T)} {ty:TypeId} {pos:String} {after:Array Edge} {gd:Option (Nat×Bool)} {d:Nat}

theorem Mt.upd{x:D}(hx:Mt S O x){l:Loc}{y z:T}(hk:HF l=true)(hc:isC S l=true)(ha:atS S O l=some y):Mt (TV S l z) (TW O l z) (x.upd l z):=by
 cases l with
 | s i k j=>
  simp only[HF,z7]at hk; have e1:=z16 hk.1; have e2:=z16 hk.2; subst e1; subst e2; simp only[isC]at hc; split at hc<;>try cases hc
  rename_i w hw; rw[Nx (hx.sl i _ hw)]; exact hx.put i _
 | oc o j=>
  simp only[atS,z18]at ha; obtain⟨cs,h1,h2⟩:=ha; rw[Ny (hx.ob o _ h1)]; simp only[TV,TW,h1]; exact hx.setO o _
 | _=>cases ha
theorem wIp{α β:Type}{L:List α}{f:α→List T}{g:α→Option β}{r0:β}{t:TypeId}{ei:TI}{v i:Operand}{l:Loc}{κ:IntKind}{n:Int}(h:(ix L n).bind g=some r0)(hg:gS ds S gd=some true)(he:elS τ t=some ei)(hv:evS S v=some (.one (.al l [])))(hk:HF l=true)(hr:atS S O l=some (.sl (L.map f)))(hi:evS S i=some (.one (.c (.int κ n))))(hsz: ∀a,(f a).length=ei.size)
  (hf:fits (.one (.pp l [] 0 0)) (F.shOf d)=true)(hn: ∀a,ix L n=some a→g a=some r0→Vo P τ An F ds r k (.cons d (.one (.pp l [] n.toNat 0)) S) O):Vo P τ An F ds (⟨some d, .indexAddr t v i,ty,pos,after,gd⟩::r) k S O:=by
 obtain⟨a,h1,h2⟩:=bind_some h; obtain⟨e,q1,q2⟩:=El he; exact⟨fun x hx=>ixp h1 (hx.gd hg) q1 q2 (hx.ev hv) (hx.at (JK hk) hr) (hx.ev hi) (hsz a) hf ((hn a h1 h2).run _ (hx.put d _))⟩
theorem wSp{α:Type}{L:List α}{f:α→List T}{a v':α}{i:Int}{t:TypeId}{v y:Operand}{ti:TI}{l:Loc}{m j:Nat}{xs:List T}(hix:ix L i=some a)(hg:gS ds S gd=some true)(ht:τ t=some ti)(hv:evS S v=some (.one (.pp l [] m j)))(hm:m=i.toNat)(hk:(HF l&&isC S l)=true)(hr:atS S O l=some (.sl (L.map f)))(hy:(evS S y).bind aT=some xs)(hq:(Nat.beq xs.length ti.size&&Nat.ble (j+xs.length) (f a).length)=true)
  (hrow:(f a).take j++xs++(f a).drop (j+xs.length)=f v')(h:Vo P τ An F ds r k (TV S l (.sl ((L.set i.toNat v').map f))) (TW O l (.sl ((L.set i.toNat v').map f)))):Vo P τ An F ds (⟨none, .store t v y,ty,pos,after,gd⟩::r) k S O:=by
 subst hm; simp only[z7]at hk; refine⟨fun x hx=>dB (x1:=x.upd l (.sl ((L.set i.toNat v').map f))) (hx.gd hg) rfl ?_ (h.run _ (hx.upd hk.1 hk.2 hr))⟩
 refine Tj hix ht (hx.ev hv) (hx.at (JK hk.1) hr) ?_ hq hrow
 obtain⟨u,h5,h6⟩:=z18.1 hy; rw[hx.ev h5]; exact h6

theorem wAe{y:Operand}{v':V}(v:V)(hg:gS ds S gd=some true)(hv:evS S y=some v')(he:v'=v)(hq:(fY v&&fits v (F.shOf d))=true)(h:Vo P τ An F ds r k (.cons d v S) O):Vo P τ An F ds (⟨some d, .assign y,ty,pos,after,gd⟩::r) k S O:=by
 subst he; exact wAs hg hv hq h
def KC{α:Type}:List α→Bool
 | []=>true
 | _=>false
theorem wC0{ρ β:Type}{o:Option ρ}{g:ρ→Option β}{r0:β}{f:FuncId}{vs:List V}{rr:ρ→V}{c:Call}{v:Operand}{caps:List (Nat×Nat)}(h:o.bind g=some r0)(hB: ∀q,o=some q→Big P τ An (.fn f vs [] (rr q) none [] none))(hg:gS ds S gd=some true)(hc:cW ⟨some d, .call c,ty,pos,after,gd⟩=some (c,v))(hx:evS S v=some (.one (.fn f caps)))
  (hk:(KC (iN F c v)&&KC caps&&(pZ F (some d)).isNone)=true)(hvs:inA S O [] c.args.toList=some vs)(hf: ∀q,(DJ (rr q)&&fits (rr q) (F.shOf d))=true)(hn: ∀q,g q=some r0→Vo P τ An F ds r k (.cons d (rr q) S) O):Vo P τ An F ds (⟨some d, .call c,ty,pos,after,gd⟩::r) k S O:=by
 obtain⟨q,h1,h2⟩:=bind_some h; have hq:=hf q; simp only[z7]at hk hq; obtain⟨⟨k1,k2⟩,k3⟩:=hk; have e1:iN F c v=[]:=by revert k1; cases iN F c v<;>simp [KC]
 have e2:caps=[]:=by revert k2; cases caps<;>simp [KC]
 have e3:pZ F (some d)=none:=by revert k3; cases pZ F (some d)<;>simp
 subst e2; refine⟨fun x hm=> ?_⟩
 obtain⟨i1,i2⟩:=GM hm hvs; exact cl0 (v':=rr q) (hB q h1) (hm.gd hg) hc (hm.ev hx) i2 e1 e3 (by simp only[inV,RO,z90]; exact i1) (Bj hq.1) hq.2 ((hn q h2).run _ (hm.put d _))
theorem wC1{ρ β:Type}{o:Option ρ}{g:ρ→Option β}{r0:β}{f:FuncId}{vs:List V}{rr:ρ→V}{c:Call}{v:Operand}{caps:List (Nat×Nat)}{ob:Nat}{cs:List T}{cs':ρ→List T}(h:o.bind g=some r0)(hB: ∀q,o=some q→Big P τ An (.fn f vs [cs] (rr q) none [cs' q] none))(hg:gS ds S gd=some true)(hc:cW ⟨some d, .call c,ty,pos,after,gd⟩=some (c,v))(hx:evS S v=some (.one (.fn f caps)))
  (hk:iN F c v=[ob])(hnd:pZ F (some d)=none)(hob:O.get ob=some cs)(hvs:inA S O [ob] c.args.toList=some (vs.take c.args.size))(hcs:(vs.drop c.args.size)=caps.map (fun c=>(V.one (.ptr c.1 c.2)).to (mV [ob])))(hf: ∀q,(DJ (rr q)&&fits (rr q) (F.shOf d)&&eH (cs' q) (F.obOf ob))=true)(hn: ∀q,g q=some r0→Vo P τ An F ds r k (.cons d (rr q) S) (.cons ob (cs' q) O)):Vo P τ An F ds (⟨some d, .call c,ty,pos,after,gd⟩::r) k S O:=by
 obtain⟨q,h1,h2⟩:=bind_some h; have hq:=hf q; simp only[z7]at hq; refine⟨fun x hm=> ?_⟩
 obtain⟨i1,i2⟩:=GM hm hvs; exact cl1 (v':=rr q) (hB q h1) (hm.gd hg) hc (hm.ev hx) i2 hk hnd (hm.ob _ _ hob) (by simp only[inV]; rw[i1, ←hcs,z75]) (Bj hq.1.1) (by rw[hq.1.2,hq.2]; rfl) ((hn q h2).run _ ((hm.put d _).setO ob _))
theorem wCn{ρ β:Type}{o:Option ρ}{g:ρ→Option β}{r0:β}{f:FuncId}{vs:List V}{rr:V}{c:Call}{v:Operand}{caps:List (Nat×Nat)}{cs:ρ→List T}(h:o.bind g=some r0)(hB: ∀q,o=some q→Big P τ An (.fn f vs [] rr none [] (some (cs q))))(hg:gS ds S gd=some true)(hc:cW ⟨some d, .call c,ty,pos,after,gd⟩=some (c,v))(hx:evS S v=some (.one (.fn f caps)))
  (hk:(KC (iN F c v)&&KC caps)=true)(hnd:pZ F (some d)=some d)(hvs:inA S O [] c.args.toList=some vs)(hv':rr.to (rX [] (some d))= .one (.ptr d 0))(hf: ∀q,(fits (.one (.ptr d 0)) (F.shOf d)&&eH (cs q) (F.obOf d))=true)(hn: ∀q,g q=some r0→Vo P τ An F ds r k (.cons d (.one (.ptr d 0)) S) (.cons d (cs q) O)):Vo P τ An F ds (⟨some d, .call c,ty,pos,after,gd⟩::r) k S O:=by
 obtain⟨q,h1,h2⟩:=bind_some h; simp only[z7]at hk; obtain⟨k1,k2⟩:=hk; have e1:iN F c v=[]:=by revert k1; cases iN F c v<;>simp [KC]
 have e2:caps=[]:=by revert k2; cases caps<;>simp [KC]
 subst e2; refine⟨fun x hm=> ?_⟩
 obtain⟨i1,i2⟩:=GM hm hvs; exact cln (hB q h1) (hm.gd hg) hc (hm.ev hx) i2 e1 hnd (by simp only[inV,RO,z90]; exact i1) hv' (hf q) ((hn q h2).run _ ((hm.put d _).setO d _))
end
end Go.Own

namespace Go.Own
open Go.RowKit
set_option linter.unusedVariables false

section
variable (ds:List (Option Nat)) (F:FA) (τ:TypeId→Option TI) (S:SS V) (O:SS (List T)) (gd:Option (Nat×Bool)) (d:Nat)
def xG{α:Type}(a:Option α):Option α:=match gS ds S gd with
 | some true=>a
 | _=>none
def xMvS(y:Operand):Option V:=xG ds S gd (match evS S y with
 | some v=>bif !(mem d F.al)&&fY v&&fits v (F.shOf d)then some v else none
 | none=>none)
def xAsS(y:Operand):Option V:=xG ds S gd (match evS S y with
 | some v=>bif fY v&&fits v (F.shOf d)then some v else none
 | none=>none)
def xLdS(t:TypeId)(v:Operand):Option V:=xG ds S gd (match ldS τ S O t v with
 | some w=>bif !(mem d F.al)&&fits w (F.shOf d)then some w else none
 | none=>none)
def xFdS(s:TypeId)(v:Operand)(f:Nat):Option V:=xG ds S gd (match fOff τ s f,evS S v with
 | some off,some w=>(match zB off w with
  | some u=>bif fits u (F.shOf d)then some u else none
  | none=>none)
 | _,_=>none)
def xStS(t:TypeId)(v y:Operand):Option (Nat×List T):=xG ds S gd (stS τ F S O t v y)
def xI2(y z:Operand):Option (IntKind×Int×Int):=xG ds S gd (match rdS S O y,rdS S O z with
 | some (.one (.c (.int κ a))),some (.one (.c (.int κ' b)))=>bif decide (κ=κ')&&fits (.one (.c (.int κ 0))) (F.shOf d)then some (κ,a,b)else none
 | _,_=>none)
def xC2(y z:Operand):Option (IntKind×Int×Int):=xG ds S gd (match rdS S O y,rdS S O z with
 | some (.one (.c (.int κ a))),some (.one (.c (.int κ' b)))=>bif decide (κ=κ')&&fits (Bo true) (F.shOf d)then some (κ,a,b)else none
 | _,_=>none)
def xS2(y z:Operand):Option (List UInt8×List UInt8):=xG ds S gd (match rdS S O y,rdS S O z with
 | some (.one (.c (.str a))),some (.one (.c (.str b)))=>bif fits (Bo true) (F.shOf d)then some (a,b)else none
 | _,_=>none)
def xNo(y:Operand):Option Bool:=xG ds S gd (match rdS S O y with
 | some (.one (.c (.bool a)))=>bif fits (Bo true) (F.shOf d)then some a else none
 | _=>none)
def xPkS(c y z:Operand):Option T:=xG ds S gd (match evS S c with
 | some (.one (.c (.bool b)))=>(match evS S (bif b then y else z)with
  | some (.one (.c t))=>bif scal t&&fits (.one (.c t)) (F.shOf d)then some t else none
  | _=>none)
 | _=>none)
def xEtS(t j:Nat):Option W:=xG ds S gd (match S.get t with
 | some (.tup ws)=>(match ws[j]? with
  | some w=>bif fits (.one w) (F.shOf d)then some w else none
  | none=>none)
 | _=>none)
def xNcS(v:Operand):Option V:=xG ds S gd (match evS S v with
 | some w=>bif isP w&&fits w (F.shOf d)then some w else none
 | none=>none)
def xBxS(t:Nat):Option (List T):=xG ds S gd (match(S.get t).bind aT with
 | some xs=>bif eH xs (F.obOf d)then some xs else none
 | none=>none)
def xAcS(t:TypeId):Option (List T):=xG ds S gd (match zS τ t with
 | some cs=>bif eH cs (F.obOf d)then some cs else none
 | none=>none)
end

section
variable {P:Program} {τ:TypeId→Option TI} {An:FuncId→FA} {F:FA} {ds:List (Option Nat)} {r:List Oper} {k:Kt} {S:SS V} {O:SS (List T)} {ty:TypeId} {pos:String} {after:Array Edge} {gd:Option (Nat×Bool)} {d:Nat}
theorem sR{α:Type}{a:Option α}{b:α}(h:xG ds S gd a=some b):gS ds S gd=some true∧a=some b:=by
 unfold xG at h; split at h
 ·rename_i e; exact⟨e,h⟩
 ·cases h
theorem xMv{y:Operand}{v:V}(hq:xMvS ds F S gd d y=some v)(h:Vo P τ An F ds r k (.cons d v S) O):Vo P τ An F ds (⟨some d, .move y,ty,pos,after,gd⟩::r) k S O:=by
 obtain⟨hg,hq⟩:=sR hq; split at hq<;>try cases hq
 rename_i u e; obtain⟨c,hq⟩:=aI hq; cases hq; exact wMv hg e c h
theorem xAs{y:Operand}{v:V}(hq:xAsS ds F S gd d y=some v)(h:Vo P τ An F ds r k (.cons d v S) O):Vo P τ An F ds (⟨some d, .assign y,ty,pos,after,gd⟩::r) k S O:=by
 obtain⟨hg,hq⟩:=sR hq; split at hq<;>try cases hq
 rename_i u e; obtain⟨c,hq⟩:=aI hq; cases hq; exact wAs hg e c h
theorem xLd{t:TypeId}{v:Operand}{w:V}(hq:xLdS ds F τ S O gd d t v=some w)(h:Vo P τ An F ds r k (.cons d w S) O):Vo P τ An F ds (⟨some d, .load t v,ty,pos,after,gd⟩::r) k S O:=by
 obtain⟨hg,hq⟩:=sR hq; split at hq<;>try cases hq
 rename_i u e; obtain⟨c,hq⟩:=aI hq; cases hq; exact wLd hg e c h
theorem xFd{s:TypeId}{v:Operand}{f:Nat}{u:V}(hq:xFdS ds F τ S gd d s v f=some u)(h:Vo P τ An F ds r k (.cons d u S) O):Vo P τ An F ds (⟨some d, .fieldAddr s v f,ty,pos,after,gd⟩::r) k S O:=by
 obtain⟨hg,hq⟩:=sR hq; split at hq<;>try cases hq
 rename_i off w e1 e2; split at hq<;>try cases hq
 rename_i u' e3; obtain⟨c,hq⟩:=aI hq; cases hq; exact wFd hg e1 e2 e3 c h
theorem xSt{t:TypeId}{v y:Operand}{ob:Nat}{cs:List T}(hq:xStS ds F τ S O gd t v y=some (ob,cs))(h:Vo P τ An F ds r k S (.cons ob cs O)):Vo P τ An F ds (⟨none, .store t v y,ty,pos,after,gd⟩::r) k S O:=by
 obtain⟨hg,hq⟩:=sR hq; exact wSt hg hq h
section
variable {t t2:TypeId} {y z:Operand} {κ:IntKind} {a b:Int}
theorem LN(hq:xI2 ds F S O gd d y z=some (κ,a,b)):gS ds S gd=some true∧rdS S O y=some (.one (.c (.int κ a)))∧rdS S O z=some (.one (.c (.int κ b)))∧fits (.one (.c (.int κ 0))) (F.shOf d)=true:=by
 obtain⟨hg,hq⟩:=sR hq; split at hq<;>try cases hq
 rename_i e1 e2; obtain⟨c,hq2⟩:=aI hq; clear hq; simp only[z7,z28]at c; obtain⟨rfl,c⟩:=c; cases hq2; exact⟨hg,e1,e2,c⟩
theorem DH(hq:xC2 ds F S O gd d y z=some (κ,a,b)):gS ds S gd=some true∧rdS S O y=some (.one (.c (.int κ a)))∧rdS S O z=some (.one (.c (.int κ b)))∧fits (Bo true) (F.shOf d)=true:=by
 obtain⟨hg,hq⟩:=sR hq; split at hq<;>try cases hq
 rename_i e1 e2; obtain⟨c,hq2⟩:=aI hq; clear hq; simp only[z7,z28]at c; obtain⟨rfl,c⟩:=c; cases hq2; exact⟨hg,e1,e2,c⟩
theorem PH{a b:List UInt8}(hq:xS2 ds F S O gd d y z=some (a,b)):gS ds S gd=some true∧rdS S O y=some (.one (.c (.str a)))∧rdS S O z=some (.one (.c (.str b)))∧fits (Bo true) (F.shOf d)=true:=by
 obtain⟨hg,hq⟩:=sR hq; split at hq<;>try cases hq
 rename_i e1 e2; obtain⟨c,hq⟩:=aI hq; cases hq; exact⟨hg,e1,e2,c⟩
theorem xAdd(hq:xI2 ds F S O gd d y z=some (κ,a,b))(h:Vo P τ An F ds r k (.cons d (.one (.c (.int κ (κ.wrap (a+b))))) S) O):Vo P τ An F ds (⟨some d, .binOp .add t y z t2,ty,pos,after,gd⟩::r) k S O:=by
 obtain⟨h1,h2,h3,h4⟩:=LN hq; exact wAdd h1 h2 h3 h4 h
theorem xSub(hq:xI2 ds F S O gd d y z=some (κ,a,b))(h:Vo P τ An F ds r k (.cons d (.one (.c (.int κ (κ.wrap (a - b))))) S) O):Vo P τ An F ds (⟨some d, .binOp .sub t y z t2,ty,pos,after,gd⟩::r) k S O:=by
 obtain⟨h1,h2,h3,h4⟩:=LN hq; exact wSub h1 h2 h3 h4 h
theorem xMul(hq:xI2 ds F S O gd d y z=some (κ,a,b))(h:Vo P τ An F ds r k (.cons d (.one (.c (.int κ (κ.wrap (a*b))))) S) O):Vo P τ An F ds (⟨some d, .binOp .mul t y z t2,ty,pos,after,gd⟩::r) k S O:=by
 obtain⟨h1,h2,h3,h4⟩:=LN hq; exact wMul h1 h2 h3 h4 h
theorem xEq(hq:xC2 ds F S O gd d y z=some (κ,a,b))(h:Vo P τ An F ds r k (.cons d (Bo (decide (a=b))) S) O):Vo P τ An F ds (⟨some d, .binOp .eql t y z t2,ty,pos,after,gd⟩::r) k S O:=by
 obtain⟨h1,h2,h3,h4⟩:=DH hq; exact wEq h1 h2 h3 h4 h
theorem xNe(hq:xC2 ds F S O gd d y z=some (κ,a,b))(h:Vo P τ An F ds r k (.cons d (Bo (!decide (a=b))) S) O):Vo P τ An F ds (⟨some d, .binOp .neq t y z t2,ty,pos,after,gd⟩::r) k S O:=by
 obtain⟨h1,h2,h3,h4⟩:=DH hq; exact wNe h1 h2 h3 h4 h
theorem xLt(hq:xC2 ds F S O gd d y z=some (κ,a,b))(h:Vo P τ An F ds r k (.cons d (Bo (decide (a<b))) S) O):Vo P τ An F ds (⟨some d, .binOp .lss t y z t2,ty,pos,after,gd⟩::r) k S O:=by
 obtain⟨h1,h2,h3,h4⟩:=DH hq; exact wLt h1 h2 h3 h4 h
theorem xLe(hq:xC2 ds F S O gd d y z=some (κ,a,b))(h:Vo P τ An F ds r k (.cons d (Bo (decide (a≤b))) S) O):Vo P τ An F ds (⟨some d, .binOp .leq t y z t2,ty,pos,after,gd⟩::r) k S O:=by
 obtain⟨h1,h2,h3,h4⟩:=DH hq; exact wLe h1 h2 h3 h4 h
theorem xGt(hq:xC2 ds F S O gd d y z=some (κ,a,b))(h:Vo P τ An F ds r k (.cons d (Bo (decide (b<a))) S) O):Vo P τ An F ds (⟨some d, .binOp .gtr t y z t2,ty,pos,after,gd⟩::r) k S O:=by
 obtain⟨h1,h2,h3,h4⟩:=DH hq; exact wGt h1 h2 h3 h4 h
theorem xGe(hq:xC2 ds F S O gd d y z=some (κ,a,b))(h:Vo P τ An F ds r k (.cons d (Bo (decide (b≤a))) S) O):Vo P τ An F ds (⟨some d, .binOp .geq t y z t2,ty,pos,after,gd⟩::r) k S O:=by
 obtain⟨h1,h2,h3,h4⟩:=DH hq; exact wGe h1 h2 h3 h4 h
theorem xEs{a b:List UInt8}(hq:xS2 ds F S O gd d y z=some (a,b))(h:Vo P τ An F ds r k (.cons d (Bo (decide (a=b))) S) O):Vo P τ An F ds (⟨some d, .binOp .eql t y z t2,ty,pos,after,gd⟩::r) k S O:=by
 obtain⟨h1,h2,h3,h4⟩:=PH hq; exact wEs h1 h2 h3 h4 h
theorem xNs{a b:List UInt8}(hq:xS2 ds F S O gd d y z=some (a,b))(h:Vo P τ An F ds r k (.cons d (Bo (!decide (a=b))) S) O):Vo P τ An F ds (⟨some d, .binOp .neq t y z t2,ty,pos,after,gd⟩::r) k S O:=by
 obtain⟨h1,h2,h3,h4⟩:=PH hq; exact wNs h1 h2 h3 h4 h
theorem xNot{b:Bool}(hq:xNo ds F S O gd d y=some b)(h:Vo P τ An F ds r k (.cons d (Bo (!b)) S) O):Vo P τ An F ds (⟨some d, .unOp .not t y,ty,pos,after,gd⟩::r) k S O:=by
 obtain⟨hg,hq⟩:=sR hq; split at hq<;>try cases hq
 rename_i e1; obtain⟨c,hq⟩:=aI hq; cases hq; exact wNot hg e1 c h
end
theorem xPk{c y z:Operand}{t:T}(hq:xPkS ds F S gd d c y z=some t)(h:Vo P τ An F ds r k (.cons d (.one (.c t)) S) O):Vo P τ An F ds (⟨some d, .pick c y z,ty,pos,after,gd⟩::r) k S O:=by
 obtain⟨hg,hq⟩:=sR hq; split at hq<;>try cases hq
 rename_i b e1; split at hq<;>try cases hq
 rename_i t' e2; obtain⟨c,hq⟩:=aI hq; cases hq; exact wPk hg e1 e2 c h
theorem xEt{j t:Nat}{w:W}(hq:xEtS ds F S gd d t j=some w)(h:Vo P τ An F ds r k (.cons d (.one w) S) O):Vo P τ An F ds (⟨some d, .extract (.tmp t) j,ty,pos,after,gd⟩::r) k S O:=by
 obtain⟨hg,hq⟩:=sR hq; split at hq<;>try cases hq
 rename_i ws e1; split at hq<;>try cases hq
 rename_i w' e2; obtain⟨c,hq⟩:=aI hq; cases hq; exact wEt hg e1 e2 c h
theorem xNc{v:Operand}{w:V}(hq:xNcS ds F S gd d v=some w)(h:Vo P τ An F ds r k (.cons d w S) O):Vo P τ An F ds (⟨some d, .nilCheck v,ty,pos,after,gd⟩::r) k S O:=by
 obtain⟨hg,hq⟩:=sR hq; split at hq<;>try cases hq
 rename_i w' e1; obtain⟨c,hq⟩:=aI hq; cases hq; exact wNc hg e1 c h
theorem xBx{e:TypeId}{t:Nat}{xs:List T}(hq:xBxS ds F S gd d t=some xs)(h:Vo P τ An F ds r k (.cons d (.one (.ptr d 0)) S) (.cons d xs O)):Vo P τ An F ds (⟨some d, .box e (.tmp t),ty,pos,after,gd⟩::r) k S O:=by
 obtain⟨hg,hq⟩:=sR hq; split at hq<;>try cases hq
 rename_i xs' e1; obtain⟨u,e2,e3⟩:=z18.1 e1; obtain⟨c,hq⟩:=aI hq; cases hq; exact wBx hg e2 e3 c h
theorem xAc{t:TypeId}{cs:List T}(hq:xAcS ds F τ S gd d t=some cs)(h:Vo P τ An F ds r k (.cons d (.one (.ptr d 0)) S) (.cons d cs O)):Vo P τ An F ds (⟨some d, .alloc t,ty,pos,after,gd⟩::r) k S O:=by
 obtain⟨hg,hq⟩:=sR hq; split at hq<;>try cases hq
 rename_i cs' e1; obtain⟨c,hq⟩:=aI hq; cases hq; exact wAc hg e1 c h
theorem xAz{t:TypeId}(cs:List T)(hq:xAcS ds F τ S gd d t=some cs)(h:Vo P τ An F ds r k (.cons d (.one (.ptr d 0)) S) (.cons d cs O)):Vo P τ An F ds (⟨some d, .alloc t,ty,pos,after,gd⟩::r) k S O:=xAc hq h
theorem xLn{α:Type}{L:List α}{f:α→List T}{t:TypeId}{y:Operand}(hq:(gS ds S gd,FU τ t&&fits (I64 0) (F.shOf d),rdS S O y)=(some true,true,some (.one (.c (.sl (L.map f))))))(h:Vo P τ An F ds r k (.cons d (I64 L.length) S) O):Vo P τ An F ds (⟨some d, .call { callee:= .builtin .len,args:= #[y],argTypes:= #[t] },ty,pos,after,gd⟩::r) k S O:=by
 simp only[z48,z7]at hq; obtain⟨h1,⟨h2,h3⟩,h4⟩:=hq; unfold FU at h2; split at h2
 ·rename_i e he; exact wLn h1 he h4 h3 h
 ·cases h2
theorem xLs{s:List UInt8}{t:TypeId}{y:Operand}(hq:(gS ds S gd,tk τ t,fits (I64 0) (F.shOf d),rdS S O y)=(some true,some .str,true,some (.one (.c (.str s)))))(h:Vo P τ An F ds r k (.cons d (I64 s.length) S) O):Vo P τ An F ds (⟨some d, .call { callee:= .builtin .len,args:= #[y],argTypes:= #[t] },ty,pos,after,gd⟩::r) k S O:=by
 simp only[z48]at hq; obtain⟨h1,h2,h3,h4⟩:=hq; exact wLs h1 h2 h4 h3 h
theorem xC0{ρ β:Type}{o:Option ρ}{g:ρ→Option β}{r0:β}{f:FuncId}{vs:List V}{rr:ρ→V}{c:Call}{v:Operand}{caps:List (Nat×Nat)}(h:o.bind g=some r0)(hB: ∀ {q},o=some q→Big P τ An (.fn f vs [] (rr q) none [] none))
  (hq:(gS ds S gd,cW ⟨some d, .call c,ty,pos,after,gd⟩,evS S v,KC (iN F c v)&&KC caps&&(pZ F (some d)).isNone,inA S O [] c.args.toList)=(some true,some (c,v),some (.one (.fn f caps)),true,some vs))(hn: ∀q,g q=some r0→Vo P τ An F ds r k (.cons d (rr q) S) O)(hf: ∀q,(DJ (rr q)&&fits (rr q) (F.shOf d))=true:=by exact fun _=>rfl):Vo P τ An F ds (⟨some d, .call c,ty,pos,after,gd⟩::r) k S O:=by
 simp only[z48]at hq; obtain⟨h1,h2,h3,h4,h5⟩:=hq; exact wC0 h (fun _=>hB) h1 h2 h3 h4 h5 hf hn
theorem xC1{ρ β:Type}{o:Option ρ}{g:ρ→Option β}{r0:β}{f:FuncId}{vs:List V}{rr:ρ→V}{c:Call}{v:Operand}{caps:List (Nat×Nat)}{ob:Nat}{cs:List T}{cs':ρ→List T}(h:o.bind g=some r0)(hB: ∀ {q},o=some q→Big P τ An (.fn f vs [cs] (rr q) none [cs' q] none))
  (hq:(gS ds S gd,cW ⟨some d, .call c,ty,pos,after,gd⟩,evS S v,iN F c v,pZ F (some d),O.get ob,inA S O [ob] c.args.toList,vs.drop c.args.size)=(some true,some (c,v),some (.one (.fn f caps)),[ob],none,some cs,some (vs.take c.args.size),caps.map (fun c=>(V.one (.ptr c.1 c.2)).to (mV [ob]))))(hn: ∀q,g q=some r0→Vo P τ An F ds r k (.cons d (rr q) S) (.cons ob (cs' q) O))(hf: ∀q,(DJ (rr q)&&fits (rr q) (F.shOf d)&&eH (cs' q) (F.obOf ob))=true:=by exact fun _=>rfl):Vo P τ An F ds (⟨some d, .call c,ty,pos,after,gd⟩::r) k S O:=by
 simp only[z48]at hq; obtain⟨h1,h2,h3,h4,h5,h6,h7,h8⟩:=hq; exact wC1 h (fun _=>hB) h1 h2 h3 h4 h5 h6 h7 h8 hf hn
theorem xIx{α β:Type}{L:List α}{f:α→List T}{g:α→Option β}{r0:β}{t:TypeId}{ei:TI}{v i:Operand}{κ:IntKind}{n:Int}{row:α→List T}(h:(ix L n).bind g=some r0)(hrow: ∀a,f a=row a)(hq:(gS ds S gd,elS τ t,evS S v,evS S i)=(some true,some ei,some (.one (.c (.sl (L.map f)))),some (.one (.c (.int κ n)))))
  (hn: ∀a,g a=some r0→Vo P τ An F ds r k (.cons d (.one (.cp (row a))) S) O)(hf: ∀a,(Nat.beq (row a).length ei.size&&fits (.one (.cp (row a))) (F.shOf d))=true:=by exact fun _=>rfl):Vo P τ An F ds (⟨some d, .indexAddr t v i,ty,pos,after,gd⟩::r) k S O:=by
 simp only[z48]at hq; obtain⟨h1,h2,h3,h4⟩:=hq; exact wIx h h1 h2 h3 h4 hrow hf hn

theorem oRs{id:Nat}{ops:List Oper}{dr:Bool}{b:Code}(h:Vo P τ An F (ops.map (·.dst)) ops (.seq b k) S O)(hm:cQ id F.mks=none:=by exact rfl):Vo P τ An F ds [] (.seq (.seq (.region id ops.toArray dr) b) k) S O:=oNl (cRs h hm)
end
end Go.Own

namespace Go.Own
open Go.RowKit

def kOk(q:K)(x:T):Bool:=match q with
 | .F=>true
 | .S=>scal x
 | _=>false
theorem lf_of{w:World}{q:K}{l:Loc}{c:Value}{x:T}(hk:kOk q x=true)(h:Rd (frz G.old w) w c x):LF G.old w q l c x:=by
 cases q with
 | F=>exact h
 | S=>exact⟨hk,h.nowhere hk⟩
 | _=>cases hk
theorem rv_c{w:World}{v:Value}{x:T}{κ:Nat→Nat→K}{l:Nat→Nat→Loc}(h:CR w [v] [x])(hk:kOk (κ 0 0) x=true):RV G.old w κ l v (.one (.c x)):=by
 obtain⟨n1,n2⟩:=h.2 0 v x rfl rfl; exact⟨n1,lf_of hk n2⟩
end Go.Own

namespace Go.Own
open Go.RowKit
set_option linter.unusedVariables false
section
variable {P:Program} {τ:TypeId→Option TI} {An:FuncId→FA} {F:FA} {ds:List (Option Nat)} {r:List Oper} {k:Kt} {S:SS V} {O:SS (List T)} {ty:TypeId} {pos:String} {after:Array Edge} {gd:Option (Nat×Bool)} {d:Nat}
end
end Go.Own

namespace Go.Own
open Go.RowKit
set_option linter.unusedVariables false

section
variable {P:Program} {τ:TypeId→Option TI} {An:FuncId→FA} {F:FA} {ds:List (Option Nat)} {r:List Oper} {k:Kt} {S:SS V} {O:SS (List T)} {ty:TypeId} {pos:String} {after:Array Edge} {gd:Option (Nat×Bool)} {d:Nat}
end

section
variable {P:Program} {τ:TypeId→Option TI} {An:FuncId→FA} {F:FA} {S:SS V} {O:SS (List T)}
def FQi(τ:TypeId→Option TI)(F:FA)(rs:List ResultVar)(ob:List (List T))(r:V)(y:T)(ob':List (List T))(nw:Option (List T))(e:Ek)(x:D):Prop:=FQ τ F rs ob r ob' nw e x∧ ∃z,F.io=some z∧x.sl z= .one (.c y)
def ioS(F:FA)(S:SS V):Option V:=F.io.bind S.get
theorem eRi{rs:List ResultVar}{ob ob':List (List T)}{r:V}{y:T}{nw:Option (List T)}{ws:List W}(h1:HH τ S O rs=some ws)(h2:(Hl ws).to (sZ F.n0)=r)(h3:Nq O 0 ob=some ob')(h4:nwS O F.n0=some nw)(h5:ioS F S=some (.one (.c y))):FX (FQi τ F rs ob r y ob' nw) .r S O:=⟨fun x hx=>by
 unfold ioS at h5; obtain⟨z,e1,e2⟩:=z18.1 h5; exact⟨(eR h1 h2 h3 h4).run x hx,z,e1,hx.sl z _ e2⟩⟩
theorem eNi{rs:List ResultVar}{ob ob':List (List T)}{r:V}{y:T}{nw:Option (List T)}{ws:List W}(h1:HH τ S O rs=some ws)(h2:(Hl ws).to (sZ F.n0)=r)(h3:Nq O 0 ob=some ob')(h4:nwS O F.n0=some nw)(h5:ioS F S=some (.one (.c y))):FX (FQi τ F rs ob r y ob' nw) .n S O:=⟨fun x hx=>by
 unfold ioS at h5; obtain⟨z,e1,e2⟩:=z18.1 h5; exact⟨(eN h1 h2 h3 h4).run x hx,z,e1,hx.sl z _ e2⟩⟩
end
end Go.Own

namespace Go.Own
open Go.RowKit
set_option linter.unusedVariables false

section
variable {P:Program} {τ:TypeId→Option TI} {An:FuncId→FA} {F:FA} {S:SS V} {O:SS (List T)} {κ:Kt}
end
end Go.Own

namespace Go.Own
open Go.RowKit
set_option linter.unusedVariables false

def setOs(x:D):List Nat→List (List T)→D
 | o::os,c::cs=>(setOs x os cs).setO o c
 | _,_=>x
theorem Ev(x:D): ∀(os:List Nat) (cs:List (List T)),(setOs x os cs).sl=x.sl
 | [],_=>rfl
 | _::_,[]=>rfl
 | o::os,c::cs=>Ev x os cs
theorem Ew(x:D)(i:Nat): ∀(os:List Nat) (cs:List (List T)),os.length=cs.length→(setOs x os cs).ob i=if i∈os then cs[os.idxOf i]? else x.ob i
 | [],[],_=>by simp [setOs]
 | o::os,c::cs,h=>by
  have ih:=Ew x i os cs (by simpa using h)
  simp only[setOs,D.setO,z98]; by_cases e:i=o
  ·subst e; simp
  ·rw[z13 e,ih]
   have:(o == i)=false:=by simpa using Ne.symm e
   simp only[e,false_or,List.idxOf_cons,this,z12]; by_cases m:i∈os
   ·rw[z19 m,z19 m]; rfl
   ·rw[z13 m,z13 m]
 | [],_::_,h=>by simp at h
 | _::_,[],h=>by simp at h
def ndB:List Nat→Bool
 | []=>true
 | o::r=> !(mem o r)&&ndB r
def shO(F:FA):List Nat→List (List T)→Bool
 | [],[]=>true
 | o::os,c::cs=>eH c (F.obOf o)&&shO F os cs
 | _,_=>false
theorem Lj{F:FA}: ∀ {os:List Nat} {cs:List (List T)},shO F os cs=true→os.length=cs.length
 | [],[],_=>rfl
 | o::os,c::cs,h=>by
  simp only[shO,z7]at h; simp [Lj h.2]
 | [],_::_,h=>by cases h
 | _::_,[],h=>by cases h
theorem Lk{F:FA}: ∀ {os:List Nat} {cs:List (List T)},shO F os cs=true→ ∀i,i∈os→ ∃c,cs[os.idxOf i]? =some c∧eH c (F.obOf i)=true
 | [],_,_,i,hi=>by simp at hi
 | o::os,[],h,i,hi=>by cases h
 | o::os,c::cs,h,i,hi=>by
  simp only[shO,z7]at h; by_cases e:i=o
  ·subst e; exact⟨c,by simp,h.1⟩
  ·have hm:i∈os:=by
    rcases z98.1 hi with h | h
    ·exact absurd h e
    ·exact h
   obtain⟨c',h1,h2⟩:=Lk h.2 i hm; have:(o == i)=false:=by simpa using Ne.symm e
   refine⟨c', ?_,h2⟩
   simp only[List.idxOf_cons,this,z12]; exact h1

section
variable {P:Program} {τ:TypeId→Option TI} {An:FuncId→FA} {F:FA} {ds:List (Option Nat)} {r:List Oper} {ty:TypeId} {pos:String} {after:Array Edge} {gd:Option (Nat×Bool)} {d:Nat} {x:D} {K:D→Prop}
theorem NC{d:Nat}{os:List Nat}{y:D}{v:V}{cs:List (List T)}(hl:os.length=cs.length)(h:(y.sl 0).to (rX os none)=v)(h2: ∀k,y.ob (par+k)=cs[k]?):x.call (some d) none os y=setOs (x.put d v) os cs:=D.ext (fun i=>by
 rw[Ev]; simp only[D.call,D.put,z10,h]; by_cases e:d=i
 ·rw[z19 e,z19 e.symm]
 ·rw[z13 e,z13 (fun h=>e h.symm)]) (fun i=>by
 rw[Ew _ _ _ _ hl]; simp only[D.call,oV]; by_cases m:i∈os
 ·rw[z19 m,z19 m]; exact h2 _
 ·rw[z13 m,z13 m]
  simp [D.put])
end
section
variable {P:Program} {τ:TypeId→Option TI} {An:FuncId→FA} {F:FA} {ds:List (Option Nat)} {r:List Oper} {k:Kt} {S:SS V} {O:SS (List T)} {ty:TypeId} {pos:String} {after:Array Edge} {gd:Option (Nat×Bool)} {d:Nat}
def QD:List Nat→List (List T)→SS (List T)→SS (List T)
 | o::os,c::cs,O=> .cons o c (QD os cs O)
 | _,_,O=>O
theorem Mt.setOs{S:SS V}{O:SS (List T)}{x:D}(h:Mt S O x): ∀(os:List Nat) (cs:List (List T)),Mt S (QD os cs O) (setOs x os cs)
 | [],_=>h
 | _::_,[]=>h
 | o::os,c::cs=>(h.setOs os cs).setO o c
theorem PV{S:SS V}{O:SS (List T)}{x:D}(h:Mt S O x): ∀ {os:List Nat} {cs:List (List T)},os.map O.get=cs.map some→cs.map some=os.map x.ob
 | [],[],_=>rfl
 | o::os,c::cs,e=>by
  simp only[z61,z163]at e ⊢; exact⟨(h.ob _ _ e.1).symm,PV h e.2⟩
 | [],_::_,e=>by cases e
 | _::_,[],e=>by cases e
theorem xCk{ρ β:Type}{o:Option ρ}{g:ρ→Option β}{r0:β}{f:FuncId}{vs:List V}{rr:ρ→V}{c:Call}{v:Operand}{caps:List (Nat×Nat)}{os:List Nat}{css:List (List T)}{cs':ρ→List (List T)}(h:o.bind g=some r0)(hB: ∀ {q},o=some q→Big P τ An (.fn f vs css (rr q) none (cs' q) none))
  (hq:(gS ds S gd,cW ⟨some d, .call c,ty,pos,after,gd⟩,evS S v,iN F c v,pZ F (some d),os.map O.get,inA S O os c.args.toList,vs.drop c.args.size,ndB os)=(some true,some (c,v),some (.one (.fn f caps)),os,none,css.map some,some (vs.take c.args.size),caps.map (fun c=>(V.one (.ptr c.1 c.2)).to (mV os)),true))
  (hn: ∀q,g q=some r0→Vo P τ An F ds r k (.cons d (rr q) S) (QD os (cs' q) O))(hf: ∀q,(DJ (rr q)&&fits (rr q) (F.shOf d)&&shO F os (cs' q))=true:=by exact fun _=>rfl):Vo P τ An F ds (⟨some d, .call c,ty,pos,after,gd⟩::r) k S O:=by
 simp only[z48]at hq; obtain⟨h1,h2,h3,hk,hnd,h6,hvs,hcs,hno⟩:=hq; obtain⟨q,e1,e2⟩:=bind_some h; have hq:=hf q; simp only[z7]at hq; refine⟨fun x hm=> ?_⟩
 obtain⟨i1,i2⟩:=GM hm hvs; have hl:=Lj hq.2; have hcp:x.call (some d) none os (DR (rr q) none (cs' q) none)=setOs (x.put d (rr q)) os (cs' q):=NC hl (Bj hq.1.1) (fun k=>by simp [DR])
 have ho2:os≠[0,0]:=by rintro rfl; cases hno
 refine wX (x1:=setOs (x.put d (rr q)) os (cs' q)) (ob:=css) (hm.gd h1) h2 (Ai hk ho2) (hm.ev h3) i2 (by rw[hk]; exact PV hm h6) (by rw[hk]; simp only[inV]; rw[i1, ←hcs,z75]) (hB e1) ?_ ?_ ((hn q e2).run _ ((hm.put d _).setOs os _))
 ·show x.call (some d) (pZ F (some d)) (iN F c v) _=_
  rw[hk,hnd]; exact hcp
 ·show bJ F (setOs (x.put d (rr q)) os (cs' q)) (some d) (pZ F (some d)) (iN F c v)=true
  rw[hk,hnd]; simp only[bJ,Ev,uK,z90,z7,z15]; refine⟨by simp [D.put,hq.1.2],fun i hi=> ?_⟩
  rw[Ew _ _ _ _ hl,z19 hi]; obtain⟨c',h7,h8⟩:=Lk hq.2 i hi; rw[h7]; exact h8
end
end Go.Own

namespace Go.Own
open Go.RowKit
set_option linter.unusedVariables false

section
variable {P:Program} {τ:TypeId→Option TI} {An:FuncId→FA} {F:FA} {ds:List (Option Nat)} {r:List Oper} {k:Kt} {S:SS V} {O:SS (List T)} {ty:TypeId} {pos:String} {after:Array Edge} {gd:Option (Nat×Bool)} {d:Nat}
theorem wSpN{α β:Type}{L:List α}{f:α→List T}{a v':α}{i:Int}{t:TypeId}{v y:Operand}{ti:TI}{l:Loc}{m j:Nat}{xs:List T}{g:List α→Option β}{r0:β}(h:(some (L.set i.toNat v')).bind g=some r0)(hix:ix L i=some a)(hg:gS ds S gd=some true)(ht:τ t=some ti)(hv:evS S v=some (.one (.pp l [] m j)))(hm:m=i.toNat)(hk:(HF l&&isC S l)=true)(hr:atS S O l=some (.sl (L.map f)))(hy:(evS S y).bind aT=some xs)(hq:(Nat.beq xs.length ti.size&&Nat.ble (j+xs.length) (f a).length)=true)
  (hrow:(f a).take j++xs++(f a).drop (j+xs.length)=f v')(hn: ∀M,g M=some r0→Vo P τ An F ds r k (TV S l (.sl (M.map f))) (TW O l (.sl (M.map f)))):Vo P τ An F ds (⟨none, .store t v y,ty,pos,after,gd⟩::r) k S O:=
 wSp hix hg ht hv hm hk hr hy hq hrow (hn _ h)
end
end Go.Own

namespace Go.Own
open Go.RowKit

theorem Da{P:Program}{f:FuncId}{fn:Func}{c:Code}(hf:P.funcs[f]? =some fn)(hb:fn.body=some c)(hne:fn.name≠ "runtime.NumGoroutine")(us:Array Value)(w:World):(callFunc f us).run P w= .ok (.enter f us) w:=by
 simp [callFunc,run_program,hf,hne,hb]
theorem Ol{us:Array Value}{a b:Value}(h:us.size=2)(h0:us.getD 0 undef=a)(h1:us.getD 1 undef=b):us= #[a,b]:=by
 apply Array.ext
 ·rw[h]; rfl
 ·intro i hi hi2
  have:i=0∨i=1:=by simp at hi2; omega
  rcases this with rfl | rfl
  ·rw[←h0]; simp [Array.getD,hi]
  ·rw[←h1]; simp [Array.getD,hi]
theorem Ly{P:Program}{g g':G}{w w':World}{bi:B}{x:D}{us:Array Value}{n:Nat}(_hs:bM g w (bi.S n x) ⟨us,[]⟩ g w){κ:K}{u v2:Value}{t:T}(hfr:oO g w g' w')(hok:GOk g' w')(hβ:g'.β=g.β)(hu:mL u∧LF g' w' κ (.s 0 0 0) u t):
  bM g w (({ sl:=[(0,[[κ]])],ob:=[] }:B).S 2 (DR (.one (.c t)) none [] none)) ⟨#[u,v2],[]⟩ g' w':=by
 have _:=P; refine⟨hfr,hok,rfl,rfl,fun i=> ?_,fun o cells h=> ?_,fun i h1 h2=> ?_,fun o _=>by rw[hβ],by show 2≤par; decide⟩
 ·cases i with
  | zero=>exact hu
  | succ i=>exact trivial
 ·simp only[B.S,B.hasO,cQ]at h
  cases h
 ·exfalso
  cases i with
  | zero=>exact h1 rfl
  | succ i=>exact h1 rfl
theorem UF{P:Program}{f:FuncId}{fn:Func}{c:Code}{s:Nat}{n:Int}{ext:Bool}(hf:P.funcs[f]? =some fn)(hb:fn.body=some c)(hne:fn.name≠ "runtime.NumGoroutine")
  (hc: ∀base w,Calls P f #[.slice base 0 0, .int .i64 n] w (fun e w'=>(e= .returned (.slice base 0 0)∧w'=w)∨ ∃k arr ty,e= .returned (.slice (some ⟨w.heap.size,0,none⟩) 0 k)∧k≤maxLen∧arr.size=k*s∧w'=w.drew.alloc (.cells arr ty))):
  TC P f (NW ([[[.N]],[[.S]]],[[.A s]],ext)) [.one (.c (.sl [])), .one (.c (.int .i64 n))] [] (.one (.c (.sl []))) none [] none:=by
 intro g w us hs; have h0:RV g w (fun _ _=> .N) (fun k j=> .s 0 k j) (us.getD 0 undef) (.one (.c (.sl []))):=hs.slots 0
 have h1:RV g w (fun _ _=> .S) (fun k j=> .s 1 k j) (us.getD 1 undef) (.one (.c (.int .i64 n))):=hs.slots 1
 obtain⟨_,_,a,ha⟩:=h0; obtain⟨_,_,hi⟩:=h1; have hi:us.getD 1 undef= .int .i64 n:=by
  generalize us.getD 1 undef=z at hi; cases hi; rfl
 have hz:us.size=2:=hs.size; obtain rfl:=Ol hz ha hi; rw[Da hf hb hne]; show Calls P f _ w _; refine(hc a w).mono ?_
 rintro e w' (⟨rfl,rfl⟩ | ⟨k,arr,ty,rfl,hk,harr,rfl⟩)
 ·refine⟨_,rfl,g,Ly (P:=P) hs (oO.refl g _) hs.ok rfl ⟨⟨by simp,by simp⟩, ?_⟩⟩
  exact .nil _ _ _
 ·have hnew:(w.drew.alloc (.cells arr ty)).heap[w.heap.size]? =some (.cells arr ty (0,0)):=heap_alloc_new w.drew _
  have hold: ∀b,b<w.heap.size→(w.drew.alloc (.cells arr ty)).heap[b]? =w.heap[b]? :=fun b hb=>mO w.drew _ b hb
  have hsz:(w.drew.alloc (.cells arr ty)).heap.size=w.heap.size+1:=by
   have:(w.drew.alloc (.cells arr ty)).heap.size=w.drew.heap.size+1:=by simp
   exact this
  refine⟨_,rfl,{ β:=g.β,own:=fun b=>if b=w.heap.size then .s 0 0 0 else g.own b },Ly (P:=P) hs ⟨rfl,rfl,rfl,⟨by omega,fun b hb _=>⟨z13 (by omega),hold b hb⟩⟩⟩ ⟨fun b hb=> ?_⟩ rfl ⟨⟨by simp,by simp⟩, ?_⟩⟩
  ·by_cases e:b=w.heap.size
   ·omega
   ·have hb':(if b=w.heap.size then Loc.s 0 0 0 else g.own b)≠ .none:=hb
    rw[z13 e]at hb'; have:=hs.ok.own b hb'; omega
  ·refine .sl _ _ w.heap.size 0 k s arr ty [] (fun _=>(0,0)) (fun _ _=>undef) (fun s0 h=>by cases h; rfl) (z19 rfl) hnew rfl (LD _) hk (fun i e h=>by simp at h) harr (fun i e j x h=>by simp at h) (fun i e j x h=>by simp at h)
section
variable {P:Program} {τ:TypeId→Option TI} {An:FuncId→FA} {F:FA} {ds:List (Option Nat)} {r:List Oper} {k:Kt} {S:SS V} {O:SS (List T)} {gd:Option (Nat×Bool)} {d:Nat} {ty:TypeId} {pos:String} {after:Array Edge}
end
end Go.Own

namespace Go.Own
open Go.RowKit

end Go.Own

namespace Go.Own
open Go.RowKit
section
variable {P:Program} {τ:TypeId→Option TI} {An:FuncId→FA} {F:FA} {ds:List (Option Nat)} {r:List Oper} {k:Kt} {S:SS V} {O:SS (List T)} {gd:Option (Nat×Bool)} {d:Nat} {ty:TypeId} {pos:String} {after:Array Edge}
end
end Go.Own

namespace Go.Own
open Go.RowKit

end Go.Own

namespace Go.Own
open Go.RowKit
section
variable {P:Program} {τ:TypeId→Option TI} {An:FuncId→FA} {F:FA} {ds:List (Option Nat)} {r:List Oper} {x:D} {K:D→Prop} {ty:TypeId} {pos:String} {after:Array Edge} {gd:Option (Nat×Bool)} {d:Nat}
end
section
variable {P:Program} {τ:TypeId→Option TI} {An:FuncId→FA} {F:FA} {ds:List (Option Nat)} {r:List Oper} {k:Kt} {S:SS V} {O:SS (List T)} {ty:TypeId} {pos:String} {after:Array Edge} {gd:Option (Nat×Bool)} {d:Nat}
end
end Go.Own

namespace Go.Own
open Go Go.RowKit
set_option linter.unusedVariables false

section
variable (ds:List (Option Nat)) (F:FA) (τ:TypeId→Option TI) (S:SS V) (O:SS (List T)) (gd:Option (Nat×Bool)) (d:Nat)
def xBn(op:BinOp)(t t2:TypeId)(y z:Operand):Option V:=match op with
 | .add=>(match xI2 ds F S O gd d y z with | some (κ,a,b)=>some (.one (.c (.int κ (κ.wrap (a+b))))) | none=>none)
 | .sub=>(match xI2 ds F S O gd d y z with | some (κ,a,b)=>some (.one (.c (.int κ (κ.wrap (a - b))))) | none=>none)
 | .mul=>(match xI2 ds F S O gd d y z with | some (κ,a,b)=>some (.one (.c (.int κ (κ.wrap (a*b))))) | none=>none)
 | .eql=>(match xC2 ds F S O gd d y z with | some (κ,a,b)=>some (Bo (decide (a=b))) | none=>(match xS2 ds F S O gd d y z with | some (a,b)=>some (Bo (decide (a=b))) | none=>none))
 | .neq=>(match xC2 ds F S O gd d y z with | some (κ,a,b)=>some (Bo (!decide (a=b))) | none=>(match xS2 ds F S O gd d y z with | some (a,b)=>some (Bo (!decide (a=b))) | none=>none))
 | .lss=>(match xC2 ds F S O gd d y z with | some (κ,a,b)=>some (Bo (decide (a<b))) | none=>none)
 | .leq=>(match xC2 ds F S O gd d y z with | some (κ,a,b)=>some (Bo (decide (a≤b))) | none=>none)
 | .gtr=>(match xC2 ds F S O gd d y z with | some (κ,a,b)=>some (Bo (decide (b<a))) | none=>none)
 | .geq=>(match xC2 ds F S O gd d y z with | some (κ,a,b)=>some (Bo (decide (b≤a))) | none=>none)
 | _=>none
def xCvS(t t2:TypeId)(y:Operand):Option V:=xG ds S gd (match tk τ t,tk τ t2,rdS S O y with
 | some _,some (.int κ'),some (.one (.c (.int κ a)))=>bif fits (.one (.c (.int κ' 0))) (F.shOf d)then some (.one (.c (.int κ' (κ'.wrap a))))else none
 | _,_,_=>none)
def xOne:Op→Option (SS V×SS (List T))
 | .move y=>(match xMvS ds F S gd d y with | some v=>some (.cons d v S,O) | none=>none)
 | .assign y=>(match xAsS ds F S gd d y with | some v=>some (.cons d v S,O) | none=>none)
 | .load t y=>(match xLdS ds F τ S O gd d t y with | some v=>some (.cons d v S,O) | none=>none)
 | .fieldAddr s v f=>(match xFdS ds F τ S gd d s v f with | some v=>some (.cons d v S,O) | none=>none)
 | .binOp op t y z t2=>(match xBn ds F S O gd d op t t2 y z with | some v=>some (.cons d v S,O) | none=>none)
 | .unOp .not _ y=>(match xNo ds F S O gd d y with | some b=>some (.cons d (Bo (!b)) S,O) | none=>none)
 | .convert t t2 y=>(match xCvS ds F τ S O gd d t t2 y with | some v=>some (.cons d v S,O) | none=>none)
 | .pick c y z=>(match xPkS ds F S gd d c y z with | some t=>some (.cons d (.one (.c t)) S,O) | none=>none)
 | .extract (.tmp t) j=>(match xEtS ds F S gd d t j with | some w=>some (.cons d (.one w) S,O) | none=>none)
 | .nilCheck v=>(match xNcS ds F S gd d v with | some w=>some (.cons d w S,O) | none=>none)
 | .box _ (.tmp t)=>(match xBxS ds F S gd d t with | some xs=>some (.cons d (.one (.ptr d 0)) S, .cons d xs O) | none=>none)
 | _=>none
end

inductive Cf where
 | c (code:Code) (k:Kt) (S:SS V) (O:SS (List T))
 | o (ds:List (Option Nat)) (os:List Oper) (k:Kt) (S:SS V) (O:SS (List T))
 | f (Q:Ek→D→Prop) (e:Ek) (S:SS V) (O:SS (List T))
@[reducible] def Cf.sat (P:Program) (τ:TypeId→Option TI) (An:FuncId→FA) (F:FA):Cf→Prop
 | .c a k S O=>Vc P τ An F a k S O
 | .o ds os k S O=>Vo P τ An F ds os k S O
 | .f Q e S O=>FX Q e S O
def Pi(S:SS V)(O:SS (List T)):Kt→Cf
 | .seq b k=> .c b k S O
 | .blk _ k=>Pi S O k
 | .top Q=> .f Q .n S O
def Rc(i:Nat)(S:SS V)(O:SS (List T)):Kt→Cf
 | .seq _ k=>Rc i S O k
 | .blk id k=>bif Nat.beq i id then Pi S O k else Rc i S O k
 | .top Q=> .f Q (.e i) S O
def TX(S:SS V)(O:SS (List T)):Kt→Cf
 | .seq _ k=>TX S O k
 | .blk _ k=>TX S O k
 | .top Q=> .f Q .r S O
def isLp:Code→Bool
 | .loop _=>true
 | _=>false
def TZ(F:FA)(τ:TypeId→Option TI):Cf→Option Cf
 | .c a k S O=>(match a with
  | .seq a b=>some (.c a (.seq b k) S O)
  | .skip=>some (Pi S O k)
  | .label _=>some (Pi S O k)
  | .exit i=>some (Rc i S O k)
  | .ret=>some (TX S O k)
  | .block id c=>bif isLp c then none else some (.c c (.blk id k) S O)
  | .region id ops _=>(match cQ id F.mks with | none=>some (.o (ops.toList.map (·.dst)) ops.toList k S O) | some _=>none)
  | .cond (.tmp t) a b=>(match S.get t with
   | some (.one (.c (.bool true)))=>some (.c a k S O)
   | some (.one (.c (.bool false)))=>some (.c b k S O)
   | _=>none)
  | _=>none)
 | .o ds os k S O=>(match os with
  | []=>some (Pi S O k)
  | ⟨some d,op,_,_,_,gd⟩::r=>(match gS ds S gd with
   | some false=>some (.o ds r k (.cons d (.tup []) S) O)
   | _=>(match xOne ds F τ S O gd d op with
    | some (S1,O1)=>some (.o ds r k S1 O1)
    | none=>none))
  | ⟨none, .store t v y,_,_,_,gd⟩::r=>(match xStS ds F τ S O gd t v y with
   | some (ob,cs)=>some (.o ds r k S (.cons ob cs O))
   | none=>none)
  | _=>none)
 | .f .. =>none
def run(F:FA)(τ:TypeId→Option TI):Nat→Cf→Cf
 | 0,c=>c
 | n+1,c=>match TZ F τ c with
  | some c1=>run F τ n c1
  | none=>c

section
variable {P:Program} {τ:TypeId→Option TI} {An:FuncId→FA} {F:FA} {ds:List (Option Nat)} {r:List Oper} {k:Kt} {S:SS V} {O:SS (List T)} {ty:TypeId} {pos:String} {after:Array Edge} {gd:Option (Nat×Bool)} {d:Nat}
theorem BS: ∀ {k:Kt},(Pi S O k).sat P τ An F→nxt P τ An F k S O
 | .seq b k,h=>h
 | .blk _ k,h=>BS (k:=k) h
 | .top Q,h=>h
theorem IJ{i:Nat}: ∀ {k:Kt},(Rc i S O k).sat P τ An F→exi P τ An F k i S O
 | .seq b k,h=>IJ (k:=k) h
 | .blk id k,h=>by
  simp only[Rc,exi]at h ⊢; cases e:Nat.beq i id with
  | true=>rw[e]at h; exact BS h
  | false=>rw[e]at h; exact IJ h
 | .top Q,h=>h
theorem Hw: ∀ {k:Kt},(TX S O k).sat P τ An F→rtn k S O
 | .seq b k,h=>Hw (k:=k) h
 | .blk _ k,h=>Hw (k:=k) h
 | .top Q,h=>h
theorem Tf{op:BinOp}{t t2:TypeId}{y z:Operand}{v:V}(hq:xBn ds F S O gd d op t t2 y z=some v)(h:Vo P τ An F ds r k (.cons d v S) O):Vo P τ An F ds (⟨some d, .binOp op t y z t2,ty,pos,after,gd⟩::r) k S O:=by
 unfold xBn at hq; split at hq
 ·split at hq<;>cases hq; rename_i e; exact xAdd e h
 ·split at hq<;>cases hq; rename_i e; exact xSub e h
 ·split at hq<;>cases hq; rename_i e; exact xMul e h
 ·split at hq
  ·cases hq; rename_i e; exact xEq e h
  ·split at hq<;>cases hq; rename_i e; exact xEs e h
 ·split at hq
  ·cases hq; rename_i e; exact xNe e h
  ·split at hq<;>cases hq; rename_i e; exact xNs e h
 ·split at hq<;>cases hq; rename_i e; exact xLt e h
 ·split at hq<;>cases hq; rename_i e; exact xLe e h
 ·split at hq<;>cases hq; rename_i e; exact xGt e h
 ·split at hq<;>cases hq; rename_i e; exact xGe e h
 ·cases hq
theorem Te{t t2:TypeId}{y:Operand}{v:V}(hq:xCvS ds F τ S O gd d t t2 y=some v)(h:Vo P τ An F ds r k (.cons d v S) O):Vo P τ An F ds (⟨some d, .convert t t2 y,ty,pos,after,gd⟩::r) k S O:=by
 obtain⟨hg,hq⟩:=sR hq; split at hq<;>try cases hq
 rename_i e1 e2 e3; obtain⟨c,hq⟩:=aI hq; cases hq; exact wCv hg e1 e2 e3 c h
theorem QI{op:Op}{S1:SS V}{O1:SS (List T)}(hq:xOne ds F τ S O gd d op=some (S1,O1))(h:Vo P τ An F ds r k S1 O1):Vo P τ An F ds (⟨some d,op,ty,pos,after,gd⟩::r) k S O:=by
 unfold xOne at hq; split at hq
 ·split at hq<;>cases hq; rename_i e; exact xMv e h
 ·split at hq<;>cases hq; rename_i e; exact xAs e h
 ·split at hq<;>cases hq; rename_i e; exact xLd e h
 ·split at hq<;>cases hq; rename_i e; exact xFd e h
 ·split at hq<;>cases hq; rename_i e; exact Tf e h
 ·split at hq<;>cases hq; rename_i e; exact xNot e h
 ·split at hq<;>cases hq; rename_i e; exact Te e h
 ·split at hq<;>cases hq; rename_i e; exact xPk e h
 ·split at hq<;>cases hq; rename_i e; exact xEt e h
 ·split at hq<;>cases hq; rename_i e; exact xNc e h
 ·split at hq<;>cases hq; rename_i e; exact xBx e h
 ·cases hq
theorem QY{a b:Cf}(hq:TZ F τ a=some b)(h:b.sat P τ An F):a.sat P τ An F:=by
 unfold TZ at hq; split at hq
 ·split at hq
  ·cases hq; exact cSq h
  ·cases hq; exact cSk (BS h)
  ·cases hq; exact cLb (BS h)
  ·cases hq; exact cEx (IJ h)
  ·cases hq; exact cRt (Hw h)
  ·rename_i id c
   revert hq
   cases isLp c with
   | true=>intro hq; cases hq
   | false=>intro hq; cases hq; exact cBk h
  ·split at hq<;>cases hq
   rename_i ops _ _ e; exact cRg (ops:=ops.toList) h e
  ·split at hq<;>cases hq
   ·rename_i e; exact cT e h
   ·rename_i e; exact cF e h
  ·cases hq
 ·split at hq
  ·cases hq; exact oNl (BS h)
  ·split at hq
   ·cases hq; rename_i e; exact wSk e h
   ·split at hq<;>cases hq
    rename_i e; exact QI e h
  ·split at hq<;>cases hq
   rename_i e; exact xSt e h
  ·cases hq
 ·cases hq
theorem AX: ∀ {n:Nat} {a:Cf},(run F τ n a).sat P τ An F→a.sat P τ An F
 | 0,_,h=>h
 | n+1,a,h=>by
  simp only[run]at h; cases e:TZ F τ a with
  | none=>rw[e]at h; exact h
  | some b=>rw[e]at h; exact QY e (AX h)
variable {a:Code} {os os1:List Oper} {k1:Kt} {S1:SS V} {O1:SS (List T)} {c1:Code} {ds1:List (Option Nat)} {Q:Ek→D→Prop} {e:Ek}
theorem gcc(n:Nat)(hq:run F τ n (.c a k S O)= .c c1 k1 S1 O1)(h:Vc P τ An F c1 k1 S1 O1):Vc P τ An F a k S O:=AX (n:=n) (a:= .c a k S O) (by rw[hq]; exact h)
theorem gco(n:Nat)(hq:run F τ n (.c a k S O)= .o ds1 os1 k1 S1 O1)(h:Vo P τ An F ds1 os1 k1 S1 O1):Vc P τ An F a k S O:=AX (n:=n) (a:= .c a k S O) (by rw[hq]; exact h)
theorem gcf(n:Nat)(hq:run F τ n (.c a k S O)= .f Q e S1 O1)(h:FX Q e S1 O1):Vc P τ An F a k S O:=AX (n:=n) (a:= .c a k S O) (by rw[hq]; exact h)
theorem goc(n:Nat)(hq:run F τ n (.o ds os k S O)= .c c1 k1 S1 O1)(h:Vc P τ An F c1 k1 S1 O1):Vo P τ An F ds os k S O:=AX (n:=n) (a:= .o ds os k S O) (by rw[hq]; exact h)
theorem goo(n:Nat)(hq:run F τ n (.o ds os k S O)= .o ds1 os1 k1 S1 O1)(h:Vo P τ An F ds1 os1 k1 S1 O1):Vo P τ An F ds os k S O:=AX (n:=n) (a:= .o ds os k S O) (by rw[hq]; exact h)
theorem gof(n:Nat)(hq:run F τ n (.o ds os k S O)= .f Q e S1 O1)(h:FX Q e S1 O1):Vo P τ An F ds os k S O:=AX (n:=n) (a:= .o ds os k S O) (by rw[hq]; exact h)
end
theorem en{P:Prop}(p:P:=by
 first
  | exact eJ h rfl
  | exact eL h rfl
  | exact eX h rfl
  | exact eXr h rfl
  | (cases h; first | exact eR rfl rfl rfl rfl | exact eRi rfl rfl rfl rfl rfl | exact eN rfl rfl rfl rfl | exact eNi rfl rfl rfl rfl rfl)):P:=p
theorem gec{P:Prop}(p:P:=by exact gcf 99 rfl en):P:=p
theorem geo{P:Prop}(p:P:=by exact gof 99 rfl en):P:=p
end Go.Own

namespace Go.Own
open Go Go.RowKit
set_option linter.unusedVariables false
section
variable {P:Program} {τ:TypeId→Option TI} {An:FuncId→FA} {F:FA} {ds:List (Option Nat)} {r:List Oper} {k:Kt} {S:SS V} {O:SS (List T)} {ty:TypeId} {pos:String} {after:Array Edge} {gd:Option (Nat×Bool)} {d:Nat}
end
end Go.Own
