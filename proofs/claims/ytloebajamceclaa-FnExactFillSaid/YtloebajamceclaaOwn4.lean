/- A calculus for runs on plain data (part 5): whoever runs code on data, with its owners checked, runs the program. No conditions. -/
import Derived.Test.YtloebajamceclaaOwn3
import Derived.Below
import Derived.ChangeArms
import Derived.ChangeOld
import Derived.DataReads
import Derived.Lib.Join
import Derived.OpenShut
import Derived.ProofKit
import Derived.ShutString
import Derived.SizedLaws
import Derived.WalkKit
import Derived.WideShapes
set_option linter.unusedVariables false
set_option linter.unusedSimpArgs false
set_option linter.unnecessarySimpa false
namespace Go.Own
open Go.RowKit

def ix{α:Type}(l:List α)(i:Int):Option α:=if 0≤i then l[i.toNat]? else none
def ixs(s:List UInt8)(i:Int):Option Int:=if 0≤i then(s[i.toNat]?).map fun b=>(b.toNat:Int)else none
def wX{α:Type}(c:Nat)(a b:List α):Option (List α):=if a.length+b.length≤maxLen∧(a.length+b.length)*c≤140737488355328 then some (a++b)else none
def bnd(len:Nat)(b a:Option Int):Option (Nat×Nat):=if 0≤b.getD 0∧b.getD 0≤a.getD len∧a.getD len≤len then some ((b.getD 0).toNat,(a.getD len).toNat)else none
def sub{α:Type}(l:List α)(b a:Option Int):Option (List α):=(bnd l.length b a).map fun r=>(l.drop r.1).take (r.2 - r.1)
def loopN{σ ρ:Type}(body:σ→Option (σ⊕ρ)):Nat→σ→Option ρ
 | 0,_=>none
 | n+1,s=>match body s with
  | none=>none
  | some (.inl s')=>loopN body n s'
  | some (.inr r)=>some r

theorem bind_some{α β:Type}{o:Option α}{f:α→Option β}{r:β}(h:o.bind f=some r): ∃a,o=some a∧f a=some r:=z19.1 h

theorem RO{x:D}{d:Nat}{v:V}(h:x.sl d=v):x.put d v=x:=D.ext (fun i=>by
 simp only[D.put]; by_cases e:i=d
 ·subst e; rw[z17 rfl,h]
 ·rw[z11 e]) (fun _=>rfl)
section
variable {P:Program} {τ:TypeId→Option TI} {An:FuncId→FA} {F:FA} {ds:List (Option Nat)} {r:List Oper} {x:D} {K:D→Prop} {ty:TypeId} {pos:String} {after:Array Edge} {gd:Option (Nat×Bool)} {d:Nat} {Q:Ek→D→Prop}

theorem GE{os:List Oper}{ds:List (Option Nat)}: ∀ {x:D} {K K':D→Prop},(∀x,K x→K' x)→bD P τ An F ds os x K→bD P τ An F ds os x K':=by
 induction os with
 | nil=>exact fun a h=>a _ h
 | cons o r ih=>
  intro x K K' a h; have h:FB P τ An F ds o x (fun x1=>bD P τ An F ds r x1 K):=h
  show FB P τ An F ds o x (fun x1=>bD P τ An F ds r x1 K')
  unfold FB at h ⊢; split
  ·rename_i c
   rw[c]at h; simp only at h; unfold Km at h ⊢; split
   ·rename_i k
    rw[k]at h; rcases h with⟨h0,f,caps,ob,m,q,nw,h1,b,e,g,i,j⟩ | ⟨h0,f,q,t,xs,l,p,x0,s,es',h1,b,e,g,i,j,u,v,w⟩
    ·exact .inl ⟨h0,f,caps,ob,m,q,nw,h1,b,e,g,i,ih a j⟩
    ·exact .inr ⟨h0,f,q,t,xs,l,p,x0,s,es',h1,b,e,g,i,j,u,v,ih a w⟩
   ·rename_i k
    rw[k]at h; obtain⟨x1,h1,b⟩:=h; exact⟨x1,h1,ih a b⟩
  ·rename_i c
   rw[c]at h; exact ih a h
  ·rename_i c
   rw[c]at h; exact h.elim
theorem CW{c:Code}: ∀ {x:D} {M N:Ek→D→Prop},(∀e x,M e x→N e x)→vcC P τ An F c x M→vcC P τ An F c x N:=by
 induction c with
 | seq a b g j=>
  intro x M N f h; refine g (fun e x l=> ?_) h
  cases e with
  | n=>exact j f l
  | r=>exact f _ _ l
  | e i=>exact f _ _ l
 | cond c a b g j=>
  intro x M N f h; obtain⟨t,h0,h1,k⟩:=h; exact⟨t,h0,fun e=>g f (h1 e),fun e=>j f (k e)⟩
 | block id c o=>exact fun f h=>o (fun e x l=>f _ _ l) h
 | loop c _=>exact fun f ⟨e,x',h1,k⟩=>⟨e,x',h1,f _ _ k⟩
 | region id ops p=>
  intro x M N f h; rcases h with⟨h0,h⟩ | ⟨x1,h1,k⟩
  ·exact .inl ⟨h0,GE (fun x m=>f _ _ m) h⟩
  ·exact .inr ⟨x1,h1,f _ _ k⟩
 | skip=>exact fun f h=>f _ _ h
 | label=>exact fun f h=>f _ _ h
 | exit=>exact fun f h=>f _ _ h
 | ret=>exact fun f h=>f _ _ h
 | _=>exact fun _ h=>h.elim

theorem UT{id:Nat}{c:Code}(h:vcC P τ An F c x (blkD id Q)):vcC P τ An F (.block id c) x Q:=h

theorem Wd.loopN{σ ρ:Type}{body:σ→Option (σ⊕ρ)}{c:Code}(a:σ→D→Prop)(b:ρ→Ek→D→Prop)
  (j: ∀s o x,a s x→body s=some o→vcC P τ An F c x (fun e x'=>match o with | .inl s'=>e= .n∧a s' x' | .inr r=>e≠ .n∧b r e x')):
  ∀ {n:Nat} {s:σ} {q:ρ} {x:D},loopN body n s=some q→a s x→(∀e x',b q e x'→Q e x')→vcC P τ An F (.loop c) x Q:=by
 intro n; induction n with
 | zero=>intro s q x h; cases h
 | succ n l=>
  intro s q x h k g; unfold Own.loopN at h; cases hs:body s with
  | none=>rw[hs]at h; cases h
  | some o=>
   rw[hs]at h; obtain⟨e,x1,h1,f⟩:=BD (j s o x k hs); cases o with
   | inl s'=>
    obtain⟨rfl,f⟩:=f; obtain⟨i,t,m,p⟩:=l h f g; exact⟨i,t, .loopN h1 m,p⟩
   | inr r=>
    cases h; exact⟨e,x1, .loopX h1 f.1,g _ _ f.2⟩

theorem mv{y:Operand}{v:V}(b:bJ ds x gd=some true)(c:ev x.sl y=v)(a:(!(mem d F.al)&&gC v&&fits v (F.shOf d))=true)(h:bD P τ An F ds r (x.put d v) K):bD P τ An F ds (⟨some d, .move y,ty,pos,after,gd⟩::r) x K:=by
 simp only[z7,z35]at a; exact WW b a.1.1 c a.1.2 a.2 h
theorem asg{y:Operand}{v:V}(b:bJ ds x gd=some true)(c:ev x.sl y=v)(a:(gC v&&fits v (F.shOf d))=true)(h:bD P τ An F ds r (x.put d v) K):bD P τ An F ds (⟨some d, .assign y,ty,pos,after,gd⟩::r) x K:=by
 simp only[z7]at a; exact RK b c a.1 a.2 h
theorem pk{c y z:Operand}{b:Bool}{t:T}(f:bJ ds x gd=some true)(e:ev x.sl c= .one (.c (.bool b)))(g:ev x.sl (bif b then y else z)= .one (.c t))(a:(scal t&&fits (.one (.c t)) (F.shOf d))=true)(h:bD P τ An F ds r (x.put d (.one (.c t))) K):bD P τ An F ds (⟨some d, .pick c y z,ty,pos,after,gd⟩::r) x K:=by
 simp only[z7]at a; refine WV f e ?_ a.1 a.2 h
 cases b<;>exact g
theorem rd{op:Op}(w:T)(f:bJ ds x gd=some true)(a:dQ ⟨some d,op,ty,pos,after,gd⟩=none)(b:dOp τ F x ⟨some d,op,ty,pos,after,gd⟩=pT τ F x d op)(g:iN τ (evD x) op=some w)(e:fits (.one (.c w)) (F.shOf d)=true)(h:bD P τ An F ds r (x.put d (.one (.c w))) K):
  bD P τ An F ds (⟨some d,op,ty,pos,after,gd⟩::r) x K:=SO f a b g e h
theorem ln{α:Type}{L:List α}{f:α→List T}{y:Operand}{t e:TypeId}(b:bJ ds x gd=some true)(g:tk τ t=some (.sl e))(i:evD x y= .one (.c (.sl (L.map f))))(a:fits (.one (.c (.int .i64 0))) (F.shOf d)=true)(h:bD P τ An F ds r (x.put d (.one (.c (.int .i64 L.length)))) K):
  bD P τ An F ds (⟨some d, .call { callee:= .builtin .len,args:= #[y],argTypes:= #[t] },ty,pos,after,gd⟩::r) x K:=s_len b g i a (by simpa using h)
theorem ixa{α:Type}{L:List α}{f:α→List T}{a:α}{t e:TypeId}{l:TI}{v i:Operand}{row:List T}{k:IntKind}{n:Int}(b:ix L n=some a)(p:bJ ds x gd=some true)(s:tk τ t=some (.sl e))(m:τ e=some l)(u:ev x.sl v= .one (.c (.sl (L.map f))))(q:ev x.sl i= .one (.c (.int k n)))(g:f a=row)(j:row.length=l.size)
  (o:fits (.one (.cp row)) (F.shOf d)=true)(h:bD P τ An F ds r (x.put d (.one (.cp row))) K):bD P τ An F ds (⟨some d, .indexAddr t v i,ty,pos,after,gd⟩::r) x K:=by
 unfold ix at b; split at b<;>try cases b
 rename_i h0; exact Te p s m u q h0 (by rw[z28,b,z33,g]) j o h
theorem ldc{t:TypeId}{v:Operand}{a:TI}{xs:List T}{w:V}(c:bJ ds x gd=some true)(f:τ t=some a)(g:ev x.sl v= .one (.cp xs))(e:pF a xs=some w)(b:fits w (F.shOf d)=true)(h:bD P τ An F ds r (x.put d w) K):
  bD P τ An F ds (⟨some d, .load t v,ty,pos,after,gd⟩::r) x K:=Td c f g e b h
theorem ldo{t:TypeId}{v:Operand}{a:TI}{ob p:Nat}{cells:List T}{w:V}(e:bJ ds x gd=some true)(i:τ t=some a)(g:mem d F.al=false)(j:ev x.sl v= .one (.ptr ob p))(b:x.ob ob=some cells)(f:pF a (cells.drop p)=some w)(c:fits w (F.shOf d)=true)(h:bD P τ An F ds r (x.put d w) K):
  bD P τ An F ds (⟨some d, .load t v,ty,pos,after,gd⟩::r) x K:=Tc e i g j b f c h
theorem sto{t:TypeId}{v y:Operand}{b:TI}{ob p:Nat}{cells xs cs:List T}(e:bJ ds x gd=some true)(g:τ t=some b)(k:ev x.sl v= .one (.ptr ob p))(m:aT (ev x.sl y)=some xs)(c:x.ob ob=some cells)(f:(Nat.beq xs.length b.size&&Nat.ble (p+xs.length) cells.length&&iG cs (F.obOf ob))=true)(a:cells.take p++xs++cells.drop (p+xs.length)=cs)(h:bD P τ An F ds r (x.setO ob cs) K):
  bD P τ An F ds (⟨none, .store t v y,ty,pos,after,gd⟩::r) x K:=by
 subst a; refine cR e rfl ?_ h
 show(match τ t,ev x.sl v,aT (ev x.sl y)with
   | some i, .one (.ptr ob p),some xs=>tD F x i ob p xs
   | some i, .one (.pp l p n j),some xs=>sE F x i l p n j xs
   | _,_,_=>none)=_
 rw[g,k,m]; simp only[tD,c,f,z15]
theorem gen{o:Oper}{x1:D}(b:bJ ds x o.guard=some true)(a:dQ o=none)(h1:dOp τ F x o=some x1)(h:bD P τ An F ds r x1 K):bD P τ An F ds (o::r) x K:=cR b a h1 h
theorem lit{α:Type}{L:List α}{f:α→List T}{t e:TypeId}{n:Nat}{a:Array (Nat×Operand)}{b:TI}{g:List (List T)}(m:bJ ds x gd=some true)(p:tk τ t=some (.sl e))(k:τ e=some b)(i:vC ((a.toList.map (·.2)).map (ev x.sl))=some g)(j:L.map f=g)
  (o:(Aa 0 a.toList&&Nat.beq n a.toList.length&&g.all (fun e=>Nat.beq e.length b.size)&&Nat.ble (n*b.size) 16777216)=true)(l:fits (.one (.c (.sl []))) (F.shOf d)=true)(h:bD P τ An F ds r (x.put d (.one (.c (.sl (L.map f))))) K):
  bD P τ An F ds (⟨some d, .buildSlice t n a,ty,pos,after,gd⟩::r) x K:=by
 rw[j]at h; refine cR m rfl ?_ h
 show Nn τ F x d t n a=_; unfold Nn; simp only[p,k,i,o,z15]
 exact iI (by
  revert l
  cases F.shOf d with
  | tup q=>simp [fits]
  | one w =>
        cases w<;>simp [fits,bO]
        rename_i z; cases z<;>simp [tI])
theorem apd{α:Type}{p q s:List α}{f:α→List T}{b:Nat}{t u e:TypeId}{l:TI}{v y:Operand}{i:List (List T)}(g:wX b p q=some s)(B:bJ ds x gd=some true)(C:tk τ t=some (.sl e))(j:τ e=some l)(z:l.bytes=b)(G:ev x.sl v= .one (.c (.sl (p.map f))))(H:Hk (ev x.sl y)=some i)(w:i=q.map f)(E:AZ τ u e=true)(o: ∀a,(f a).length=l.size)(m: ∀a,iG (f a) l.zero=true)
  (A:fits (.one (.c (.sl []))) (F.shOf d)=true)(h:bD P τ An F ds r (x.put d (.one (.c (.sl (s.map f))))) K):bD P τ An F ds (⟨some d, .call { callee:= .builtin .append,args:= #[v,y],argTypes:= #[t,u] },ty,pos,after,gd⟩::r) x K:=by
 subst w; subst z; unfold wX at g; split at g<;>try cases g
 rename_i k; refine RL B C j G H E ?_ A (by simpa using h)
 simp only[Qp,z7,z18,z49,z79]; exact⟨⟨⟨fun e j=>by obtain⟨a,_,rfl⟩:=j; rw[o]; exact z42 _,fun e j=>by obtain⟨a,_,rfl⟩:=j; exact m a⟩,WC k.1⟩,WC k.2⟩
theorem mks{α:Type}{z:α}{f:α→List T}{t e:TypeId}{a:TI}{v y:Operand}{n:Int}{k o:IntKind}(hn:0≤n∧n≤maxLen∧a.bytes*n≤281474976710656)(i:bJ ds x gd=some true)(j:tk τ t=some (.sl e))(b:τ e=some a)(l:ev x.sl v= .one (.c (.int k n)))(m:ev x.sl y= .one (.c (.int o n)))(hz:f z=a.zero)(g:fits (.one (.c (.sl []))) (F.shOf d)=true)(h:bD P τ An F ds r (x.put d (.one (.c (.sl ((List.replicate n.toNat z).map f))))) K):
  bD P τ An F ds (⟨some d, .makeSlice t v y,ty,pos,after,gd⟩::r) x K:=by
 refine cR i rfl ?_ h
 show FI τ F x d t v y=_; unfold FI; simp only[j,b,l,m]; rw[z17 ⟨trivial,hn⟩,List.map_replicate,hz]
 exact iI (by
  revert g
  cases F.shOf d with
  | tup p=>simp [fits]
  | one w =>
        cases w<;>simp [fits,bO]
        rename_i z; cases z<;>simp [tI])

theorem Ry{d:Nat}{y:D}{v:V}(h:(y.sl 0).to (wW [] none)=v):x.call (some d) none [] y=x.put d v:=D.ext (fun i=>by
 simp only[D.call,D.put,z9,h]; by_cases e:d=i
 ·rw[z17 e,z17 e.symm]
 ·rw[z11 e,z11 (fun h=>e h.symm)]) (fun o=>by simp [D.call,rV])
theorem QB{d o:Nat}{y:D}{v:V}{cs:List T}(h:(y.sl 0).to (wW [o] none)=v)(a:y.ob par=some cs):x.call (some d) none [o] y=(x.put d v).setO o cs:=D.ext (fun i=>by
 simp only[D.call,D.put,D.setO,z9,h]; by_cases e:d=i
 ·rw[z17 e,z17 e.symm]
 ·rw[z11 e,z11 (fun h=>e h.symm)]) (fun i=>by
 simp only[D.call,D.put,D.setO,rV,z72]; by_cases e:i=o
 ·subst e; simp [List.idxOf,List.findIdx,List.findIdx.go,a]
 ·simp [e])
theorem cl0{caps:List (Nat×Nat)}{c:Call}{v:Operand}{f:FuncId}{vs:List V}{k v':V}(l:Big P τ An (.fn f vs [] k none [] none))(p:bJ ds x gd=some true)(m:dQ ⟨some d, .call c,ty,pos,after,gd⟩=some (c,v))(q:ev x.sl v= .one (.fn f caps))(g:c.args.toList.all (fun v=>gC (ev x.sl v))=true)(a:nP F c v=[])(b:vE F (some d)=none)
  (j:inV x c caps []=vs)(i:k.to (wW [] none)=v')(o:fits v' (F.shOf d)=true)(h:bD P τ An F ds r (x.put d v') K):bD P τ An F ds (⟨some d, .call c,ty,pos,after,gd⟩::r) x K:=by
 have e:x.call (some d) none [] (DR k none [] none)=x.put d v':=Ry i; refine Ip (x1:=x.put d v') (ob:=[]) p m (MG a (by simp)) q g (by rw[a]; rfl) (by rw[a]; exact j) l ?_ ?_ h
 ·show x.call (some d) (vE F (some d)) (nP F c v) _=_
  rw[a,b]; exact e
 ·show bQ F (x.put d v') (some d) (vE F (some d)) (nP F c v)=true
  rw[a,b]; simp [bQ,yI,D.put,o]
theorem cl1{caps:List (Nat×Nat)}{c:Call}{v:Operand}{f:FuncId}{vs:List V}{p v':V}{o:Nat}{cs a:List T}(q:Big P τ An (.fn f vs [cs] p none [a] none))(t:bJ ds x gd=some true)(s:dQ ⟨some d, .call c,ty,pos,after,gd⟩=some (c,v))(u:ev x.sl v= .one (.fn f caps))(k:c.args.toList.all (fun v=>gC (ev x.sl v))=true)(b:nP F c v=[o])(e:vE F (some d)=none)
  (j:x.ob o=some cs)(m:inV x c caps [o]=vs)(l:p.to (wW [o] none)=v')(i:(fits v' (F.shOf d)&&iG a (F.obOf o))=true)(h:bD P τ An F ds r ((x.put d v').setO o a) K):bD P τ An F ds (⟨some d, .call c,ty,pos,after,gd⟩::r) x K:=by
 simp only[z7]at i; have g:x.call (some d) none [o] (DR p none [a] none)=(x.put d v').setO o a:=QB l (by simp [DR])
 refine Ip (x1:=(x.put d v').setO o a) (ob:=[cs]) t s (MG b (by simp)) u k (by rw[b]; simp [j]) (by rw[b]; exact m) q ?_ ?_ h
 ·show x.call (some d) (vE F (some d)) (nP F c v) _=_
  rw[b,e]; exact g
 ·show bQ F ((x.put d v').setO o a) (some d) (vE F (some d)) (nP F c v)=true
  rw[b,e]; simp [bQ,yI,D.put,D.setO,i.1,i.2]
end

def ck(b:Bool):Option Unit:=bif b then some ()else none
theorem ck_of{b:Bool}{u:Unit}(h:ck b=some u):b=true:=by
 cases b with
 | true=>rfl
 | false=>cases h
section
variable {P:Program} {τ:TypeId→Option TI} {An:FuncId→FA} {F:FA} {ds:List (Option Nat)} {r:List Oper} {x:D} {K:D→Prop} {ty:TypeId} {pos:String} {after:Array Edge} {gd:Option (Nat×Bool)} {d:Nat} {Q:Ek→D→Prop}

theorem c_ct{c:Operand}{a b:Code}(e:ev x.sl c= .one (.c (.bool true)))(h:vcC P τ An F a x Q):vcC P τ An F (.cond c a b) x Q:=⟨true,e,fun _=>h,nofun⟩
theorem c_cf{c:Operand}{a b:Code}(e:ev x.sl c= .one (.c (.bool false)))(h:vcC P τ An F b x Q):vcC P τ An F (.cond c a b) x Q:=⟨false,e,nofun,fun _=>h⟩
theorem WY{t:TypeId}{y z:Operand}{s:List UInt8}{k:IntKind}{n b:Int}(h:ixs s n=some b)(f:tk τ t=some .str)(h1:evD x y= .one (.c (.str s)))(a:evD x z= .one (.c (.int k n))):iN τ (evD x) (.index t y z)=some (.int .u8 b):=by
 unfold ixs at h; split at h<;>try cases h
 rename_i h0; obtain⟨c,e,rfl⟩:=z22.1 h; simp [iN,f,h1,a,h0,e]

inductive Bd (x:D):Option Operand→Option Int→Prop
 | none:Bd x none none
 | some {y:Operand} {k:IntKind} {n:Int} (h:evD x y= .one (.c (.int k n))):Bd x (some y) (some n)
theorem Sf{len:Nat}{f e:Option Operand}{l h:Option Int}{q:Nat×Nat}(g:Bd x f l)(b:Bd x e h)(a:bnd len l h=some q):nN (evD x) len f e none=some q:=by
 unfold bnd at a; unfold nN; cases g with
 | none=>
  cases b with
  | none=>simpa using a
  | some h1=>simpa [h1,vP]using a
 | some h0=>
  cases b with
  | none=>simpa [h0,vP]using a
  | some h1=>simpa [h0,h1,vP]using a
theorem WX{α:Type}{f:α→List T}{t e:TypeId}{b:TI}{y:Operand}{m i:Option Operand}{l h:Option Int}{s o:List α}(w:sub s l h=some o)(B:tk τ t=some (.sl e))(g:τ e=some b)(h1:evD x y= .one (.c (.sl (s.map f))))(A:Bd x m l)(z:Bd x i h)(j: ∀a,(f a).length=b.size):iN τ (evD x) (.slice t y m i none)=some (.sl (o.map f)):=by
 obtain⟨q,p,rfl⟩:=z22.1 w; have u:(s.map f).all (fun x=>x.length == b.size)=true:=by
  rw[z18]; intro e g; obtain⟨a,_,rfl⟩:=z49.1 g; simpa using j a
 have v:nN (evD x) (s.map f).length m i none=some q:=by rw[z79]; exact Sf A z p
 simp only[iN,B,h1,g,z8,u,if_true,v,z33,Vp,List.map_drop]

def isP:V→Bool
 | .one (.ptr _ _)=>true
 | .one (.cp _)=>true
 | .one (.fn _ _)=>true
 | .one (.pp _ _ _ _)=>true
 | _=>false
theorem nlc{v:Operand}{w:V}(e:bJ ds x gd=some true)(f:ev x.sl v=w)(a:isP w=true)(b:fits w (F.shOf d)=true)(h:bD P τ An F ds r (x.put d w) K):bD P τ An F ds (⟨some d, .nilCheck v,ty,pos,after,gd⟩::r) x K:=by
 refine cR e rfl ?_ h
 show Mg F x d v=_; unfold Mg; rw[f]; unfold isP at a; split at a<;>first | exact iI b | cases a
theorem fld{s:TypeId}{v:Operand}{f:Nat}{fs:List (Nat×Nat×Bool)}{q:Nat×Nat×Bool}{w u:V}(b:bJ ds x gd=some true)(g:tk τ s=some (.struct fs))(e:fs[f]? =some q)(i:ev x.sl v=w)(j:BJ (q.1,q.2.1) w=some u)(a:fits u (F.shOf d)=true)(h:bD P τ An F ds r (x.put d u) K):bD P τ An F ds (⟨some d, .fieldAddr s v f,ty,pos,after,gd⟩::r) x K:=by
 refine cR b rfl ?_ h
 show vQ τ F x d s v f=_; unfold vQ; simp only[g,e,i,j]; exact iI a
theorem alc{t:TypeId}{i:TI}{cs:List T}(b:bJ ds x gd=some true)(e:τ t=some i)(hz:i.zero=cs)(a:iG cs (F.obOf d)=true)(h:bD P τ An F ds r ((x.put d (.one (.ptr d 0))).setO d cs) K):bD P τ An F ds (⟨some d, .alloc t,ty,pos,after,gd⟩::r) x K:=by
 subst hz; refine cR b rfl ?_ h
 show CT τ F x d t=_; unfold CT; simp only[e,a,z15]
theorem bx{e:TypeId}{t:Nat}{xs:List T}{w:V}(b:bJ ds x gd=some true)(f:x.sl t=w)(g:aT w=some xs)(a:iG xs (F.obOf d)=true)(h:bD P τ An F ds r ((x.put d (.one (.ptr d 0))).setO d xs) K):bD P τ An F ds (⟨some d, .box e (.tmp t),ty,pos,after,gd⟩::r) x K:=by
 refine cR b rfl ?_ h
 show RA F x d (.tmp t)=_; unfold RA; simp only[f,g,a,z15]
theorem bld{t:TypeId}{b:TI}{fs:List (Nat×Nat×Bool)}{a:Array (Nat×Operand)}{rs:List T}(g:bJ ds x gd=some true)(j:τ t=some b)(i:b.kind= .struct fs)(e:tA fs b.zero (a.toList.map fun p=>(p.1,ev x.sl p.2))=some rs)(f:fits (.one (.ag rs)) (F.shOf d)=true)(h:bD P τ An F ds r (x.put d (.one (.ag rs))) K):bD P τ An F ds (⟨some d, .build t a,ty,pos,after,gd⟩::r) x K:=by
 refine cR g rfl ?_ h
 show xZ τ F x d t a=_; unfold xZ; simp only[j,i,e]; exact iI f
theorem ext{k t:Nat}{a:List W}{w:W}(e:bJ ds x gd=some true)(f:x.sl t= .tup a)(g:a[k]? =some w)(b:fits (.one w) (F.shOf d)=true)(h:bD P τ An F ds r (x.put d (.one w)) K):bD P τ An F ds (⟨some d, .extract (.tmp t) k,ty,pos,after,gd⟩::r) x K:=by
 refine cR e rfl ?_ h
 show qM F x d k (.tmp t)=_; unfold qM; simp only[f,g]; exact iI b
end

theorem wrap_i64{n:Int}(h0: -9223372036854775808≤n)(h1:n≤9223372036854775807):IntKind.wrap .i64 n=n:=by
 rw[IntKind.wrap_i64]; omega

theorem UQ{w:World}{a:Addr}{v:Value}(h:w.cell? a=some v):a.block<w.heap.size∧a.spot=none:=by
 unfold World.cell? at h; split at h
 ·rename_i c _ _ d
  split at h
  ·cases h
  ·rename_i b
   refine⟨(z25.1 d).1, ?_⟩
   cases hsp:a.spot with
   | none=>rfl
   | some x=>rw[hsp]at b; simp at b
 ·cases h

theorem aU{P:Program}{τ:TypeId→Option TI}{An:FuncId→FA}{Sgs:FuncId→List Sg}{f:FuncId}{b sg:Sg}{a:Func}(h:fnC τ An Sgs f b a (a.body.getD .skip)=true)(g:P.funcs[f]? =some a)(d:sg∈[b]): ∀fn c,P.funcs[f]? =some fn→fn.body=some c→fnC τ An Sgs f sg fn c=true:=by
 intro fn c h1 e; rw[g]at h1; cases h1; rw[z72]at d; subst d; rw[e]at h; exact h

def CR(w:World)(cs:List Value)(xs:List T):Prop:=cs.length=xs.length∧ ∀(j:Nat) c y,cs[j]? =some c→xs[j]? =some y→nV c∧Rd (frz G.old w) w c y

theorem CR.nil{w:World}{cs:List Value}(h:cs.length=0):CR w cs []:=⟨h,fun j c y _ h=>by simp at h⟩
theorem CR.cons{w:World}{cs:List Value}{off size:Nat}{xs ys:List T}(g:xs.length=size)(h:CR w ((cs.drop off).take size) xs)(r:CR w (cs.drop (off+size)) ys):CR w (cs.drop off) (xs++ys):=by
 obtain⟨h1,d⟩:=h; obtain⟨r1,r2⟩:=r; simp only[z44,z65]at h1; rw[z65]at r1; refine⟨by rw[z65,z32]; omega,fun j c y b a=> ?_⟩
 by_cases f:j<size
 ·rw[z63 (by omega)]at a
  exact d j c y (by rw[z66,z17 f]; exact b) a
 ·rw[z55 (by omega)]at a
  refine r2 (j - size) c y ?_ (by rw[←g]; exact a)
  rw[z47]at b ⊢
  rw[show off+size+(j - size)=off+j by omega]; exact b
theorem CR.one{w:World}{c:Value}{y:T}(hn:nV c)(h:Rd (frz G.old w) w c y):CR w [c] [y]:=⟨rfl,fun j c' y' a b=>by
 cases j with
 | zero=>simp only[z20,z9]at a b; subst a; subst b; exact⟨hn,h⟩
 | succ j=>simp at a⟩

def OpF(P:Program)(n:Nat)(t:TypeId){α:Type}(f:α→List T)(g:α→Prop):Prop:= ∀ {H:Type} (enc:TypeId×Value→H) (w:World) (c:Nat) (b:Nat→Bool) (d:Bool) (cs:List Value) (x:DataW H×List MemPlace),
 DataW.trod enc P w c b d n t cs=some x→ ∃a,CR w cs (f a)∧g a

section
variable {P:Program} {t e:TypeId}

theorem OpF.zero{α:Type}{f:α→List T}{a:α→Prop}:OpF P 0 t f a:=fun _ _ _ _ _ _ _ h=>by simp [DataW.trod]at h
theorem OpF.int{n:Nat}{k:IntKind}(g:P.underlying t=some (.int k)):OpF P n t (fun a:Int=> [.int k a]) (fun a=>k.min≤a∧a≤k.max):=fun enc w d c f cs x h=>by
 obtain⟨a,rfl,_,b⟩:=DataW.trod_int g h; refine⟨a, .one ⟨nofun,nofun⟩ (.int k a), ?_⟩
 unfold Lit.wf at b; simp only[z7,z36]at b; exact b
theorem OpF.str{n:Nat}(f:P.underlying t=some .string):OpF P n t (fun a:List UInt8=> [.str a]) (fun a=>a.length≤maxLen):=fun enc w c b d cs x h=>by
 obtain⟨a,rfl,_,g⟩:=DataW.trod_string f h; exact⟨a.data.toList, .one ⟨nofun,nofun⟩ (.str a),by show a.data.toList.length≤maxLen; rw[z45]; exact g⟩
theorem OpF.slice{n s:Nat}{α:Type}{f:α→List T}{N:α→Prop}(ht:P.underlying t=some (.slice e))(hc:P.cellsOf e=s)(hs:0<s)(Q: ∀a,(f a).length=s)(h:OpF P n e f N):OpF P (n+1) t (fun l:List α=> [.sl (l.map f)]) (fun l=>l.length≤maxLen∧ ∀a∈l,N a):=fun enc w o D J cs x hx=>by
 rcases DataW.trod_slice ht hx with⟨rfl,_⟩ | ⟨a,len,cap,elems,rest,m,hm,rfl,_,p,hl,hcap,hlen,hel,_,_⟩
 ·exact⟨[], .one ⟨nofun,nofun⟩ (.nil _ _),by simp,by simp⟩
 ·have hm:m=n:=by omega
  subst hm; have F: ∀i,i<len→ ∃d g,w.cells? o (a.add (i*s)) s=some d∧CR w d (f g)∧N g:=fun i K=>by
   have h1:=hel i K; rw[hc,z16 (by omega)]at h1
   obtain⟨d,H,A⟩:=z19.1 h1; obtain⟨g,E,S⟩:=h enc w o D J d _ A; exact⟨d,g,H,E,S⟩
  have Y: ∃L:List α,L.length=len∧ ∀(i:Nat) g,L[i]? =some g→(∃d,w.cells? o (a.add (i*s)) s=some d∧CR w d (f g))∧N g:=by
   have: ∀k,k≤len→ ∃L:List α,L.length=k∧ ∀(i:Nat) g,L[i]? =some g→(∃d,w.cells? o (a.add (i*s)) s=some d∧CR w d (f g))∧N g:=by
    intro k; induction k with
    | zero=>exact fun _=>⟨[],rfl,fun i g h=>by simp at h⟩
    | succ k ih=>
     intro hk; obtain⟨L,h1,H⟩:=ih (by omega)
     obtain⟨d,g,A,E,S⟩:=F k (by omega)
     refine⟨L++[g],by simp [h1],fun i b p=> ?_⟩
     by_cases K:i<L.length
     ·rw[z63 K]at p
      exact H i b p
     ·rw[z55 (by omega)]at p
      have X:i - L.length=0:=by
       rcases Nat.eq_zero_or_pos (i - L.length)with h | h
       ·exact h
       ·rw[z67 (by simp; omega)]at p; cases p
      rw[X]at p; simp only[z20,z9]at p
      subst p; have:i=k:=by omega
      subst this; exact⟨⟨d,A,E⟩,S⟩
   exact this len (z59 _)
  obtain⟨L,U,I⟩:=Y; refine⟨L, .one ⟨nofun,nofun⟩ ?_, ?_,fun b p=> ?_⟩
  ·cases len with
   | zero=>
    have:L=[]:=z86 U; subst this; exact .nil _ _
   | succ len=>
    have r: ∀(i:Nat) b (j:Nat) y,L[i]? =some b→(f b)[j]? =some y→ ∃c,w.cell? ((a.add (i*s)).add j)=some c∧nV c∧Rd (frz G.old w) w c y:=fun i b j y p v=>by
     obtain⟨⟨d,h1,H,A⟩,_⟩:=I i b p; unfold World.cells? at h1; split at h1<;>try cases h1
     have hj:j<s:=by
      have:=(z74.1 v).1
      rw[Q]at this; exact this
     have M:j<d.length:=by rw[H,Q]; exact hj
     have E:=mapM_some_get h1 j j (by rw[Vz hj])
     rw[z16 M]at E
     exact⟨d[j],E,A j _ y (z16 M) v⟩
    have h0:(0:Nat)<L.length:=by omega
    have W:0<(f L[0]).length:=by rw[Q]; exact hs
    obtain⟨c0,R,_⟩:=r 0 L[0] 0 _ (z16 h0) (z16 W)
    obtain⟨B,C⟩:=UQ R; have e0:(a.add (0*s)).add 0=a:=by simp [Addr.add]
    rw[e0]at B C; obtain⟨b,off,sp⟩:=a; simp only at C B; subst C; have q: ∀(i:Nat) O (j:Nat) y,L[i]? =some O→(f O)[j]? =some y→ ∃c,w.cell? ⟨b,off+i*s+j,none⟩=some c∧nV c∧Rd (frz G.old w) w c y:=fun i O j y V v=>by
     have:=r i O j y V v; rwa[kW,kW]at this
    refine .sl b off (len+1) cap s _ (fun i j=>(w.cell? ⟨b,off+i*s+j,none⟩).getD undef) (by simp [U]) hl (fun i Z u=> ?_) ⟨B,rfl⟩ (fun i Z j y u v=> ?_) (fun i Z j y u v=> ?_)
    ·rw[z28,z22]at u
     obtain⟨z,_,rfl⟩:=u; exact Q z
    ·rw[z28,z22]at u
     obtain⟨z,hz,rfl⟩:=u; obtain⟨c,h1,_⟩:=q i z j y hz v; simp only[h1,z62]
    ·rw[z28,z22]at u
     obtain⟨z,hz,rfl⟩:=u; obtain⟨c,h1,_,A⟩:=q i z j y hz v; simp only[h1,z62]; exact A
  ·rw[U]; omega
  ·obtain⟨i,K,rfl⟩:=List.getElem_of_mem p
   exact(I i _ (z16 K)).2

theorem OpF.field{n m:Nat}{H:Type}{enc:TypeId×Value→H}{w:World}{c:Nat}{b:Nat→Bool}{d:Bool}{cs:List Value}{xs:List (DataW H×List MemPlace)}{fs:Array Field}{α:Type}{f:α→List T}{o:α→Prop}{i off size:Nat}{g:Field}
  (j:xs.length=fs.size)(p: ∀(i:Nat) (f:Field),fs[i]? =some f→DataW.trod enc P w c b d n f.type ((cs.drop f.offset).take (P.cellsOf f.type))=xs[i]?)(h:fs[i]? =some g)(r:n=m)(k:g.offset=off)(l:P.cellsOf g.type=size)(ho:OpF P m g.type f o): ∃a,CR w ((cs.drop off).take size) (f a)∧o a:=by
 subst r; subst k; subst l; have q:i<xs.length:=by rw[j]; exact(z25.1 h).1
 have h1:=p i g h; rw[z16 q]at h1
 exact ho enc w c b d _ _ h1
end

theorem Rd.nowhere{Q:Nat→Prop}{w:World}{v:Value}{x:T}(h:Rd Q w v x)(a:Own.scal x=true):Rd (fun _=>False) w v x:=by
 cases h with
 | int=>exact .int _ _
 | bool=>exact .bool _
 | np=>exact .np
 | str=>exact .str _
 | _=>cases a

section
variable {P:Program} {τ:TypeId→Option TI} {An:FuncId→FA} {F:FA} {ds:List (Option Nat)} {r:List Oper} {x:D} {K:D→Prop} {ty:TypeId} {pos:String} {after:Array Edge} {gd:Option (Nat×Bool)} {d:Nat}

theorem als{t:Nat}{a:List (List T)}(e:bJ ds x gd=some true)(f:mem d F.al=true)(g:x.sl t= .one (.c (.sl a)))(b:fits (.one (.al (.s t 0 0) [])) (F.shOf d)=true)(h:bD P τ An F ds r (x.put d (.one (.al (.s t 0 0) []))) K):bD P τ An F ds (⟨some d, .move (.tmp t),ty,pos,after,gd⟩::r) x K:=by
 refine cR e rfl ?_ h
 show(bif mem d F.al then uC F x d (.tmp t)else yN F x d (.tmp t))=_
 rw[f]; show uC F x d (.tmp t)=_; unfold uC; simp only[g]; exact iI b
theorem ixp{α:Type}{L:List α}{f:α→List T}{a:α}{t e:TypeId}{m:TI}{v i:Operand}{l:Loc}{k:IntKind}{n:Int}(b:ix L n=some a)(s:bJ ds x gd=some true)(z:tk τ t=some (.sl e))(p:τ e=some m)(o:ev x.sl v= .one (.al l []))(y:x.at l=some (.sl (L.map f)))(u:ev x.sl i= .one (.c (.int k n)))(j:(f a).length=m.size)
  (q:fits (.one (.pp l [] 0 0)) (F.shOf d)=true)(h:bD P τ An F ds r (x.put d (.one (.pp l [] n.toNat 0))) K):bD P τ An F ds (⟨some d, .indexAddr t v i,ty,pos,after,gd⟩::r) x K:=by
 unfold ix at b; split at b<;>try cases b
 rename_i h0; refine cR s rfl ?_ h
 show(bif fW (F.shOf d)&&qE (ev x.sl v)then qR τ F x d t v i else pD τ F x d t v i)=_
 rw[show(fW (F.shOf d)&&qE (ev x.sl v))=false by rw[o]; simp [qE],z12]
 unfold pD; have g:(L.map f)[n.toNat]? =some (f a):=by rw[z28,b]; rfl
 simp only[z,u,o,y,z8,nav,idx,p,h0,if_true,g,j,z42,z15]; refine iI ?_
 revert q
 cases F.shOf d with
 | tup A=>simp [fits]
 | one w=>cases w<;>simp [fits,bO]
theorem RC{t:Nat}{y z:T}(h:x.sl t= .one (.c y)):x.upd (.s t 0 0) z=x.put t (.one (.c z)):=D.ext (fun i=>by
 simp only[D.upd,lR,D.put]; by_cases e:i=t
 ·subst e; rw[z17 rfl,z17 rfl,h]; rfl
 ·rw[z11 e,z11 e]) (fun _=>rfl)
theorem Lk{o j:Nat}{cells:List T}{z:T}(h:x.ob o=some cells):x.upd (.oc o j) z=x.setO o (cells.set j z):=D.ext (fun _=>rfl) (fun i=>by
 simp only[D.upd,sF,D.setO]; by_cases e:i=o
 ·subst e; rw[z17 rfl,z17 rfl,h]; rfl
 ·rw[z11 e,z11 e])
theorem WR{α:Type}{L:List α}{f:α→List T}{a v':α}{i:Int}{t:TypeId}{v y:Operand}{g:TI}{l:Loc}{j:Nat}{xs:List T}(b:ix L i=some a)(m:τ t=some g)(o:ev x.sl v= .one (.pp l [] i.toNat j))(k:x.at l=some (.sl (L.map f)))(q:aT (ev x.sl y)=some xs)(h:(Nat.beq xs.length g.size&&Nat.ble (j+xs.length) (f a).length)=true)(c:(f a).take j++xs++(f a).drop (j+xs.length)=f v'):
  dOp τ F x ⟨none, .store t v y,ty,pos,after,gd⟩=some (x.upd l (.sl ((L.set i.toNat v').map f))):=by
 unfold ix at b; split at b<;>try cases b
 have e:(L.map f)[i.toNat]? =some (f a):=by rw[z28,b]; rfl
 show(match τ t,ev x.sl v,aT (ev x.sl y)with
   | some i, .one (.ptr ob p),some xs=>tD F x i ob p xs
   | some i, .one (.pp l p n j),some xs=>sE F x i l p n j xs
   | _,_,_=>none)=_
 rw[m,o,q]; simp only[sE,k,nav,e,h,z15,c,bV,List.map_set]
end

inductive SS (α:Type) where
 | nil
 | cons (i:Nat) (a:α) (r:SS α)
 | many (l:List (Nat×α)) (r:SS α)
 | drop (l:List (Nat×Nat)) (r:SS α)
def inR(i:Nat):List (Nat×Nat)→Bool
 | []=>false
 | p::r=>(Nat.ble p.1 i&&Nat.ble i p.2)||inR i r
def SS.get{α:Type}:SS α→Nat→Option α
 | .nil,_=>none
 | .cons j a r,i=>bif Nat.beq i j then some a else r.get i
 | .many l r,i=>match dL i l with | some a=>some a | none=>r.get i
 | .drop l r,i=>bif inR i l then none else r.get i

def rIn(f d:Nat):List (Nat×Nat)→Bool
 | []=>false
 | p::r=>(Nat.ble p.1 f&&Nat.ble d p.2)||rIn f d r
def NY(w:List (Nat×Nat)):List (Nat×Nat)→Bool
 | []=>true
 | q::r=>rIn q.1 q.2 w&&NY w r
def IX{α:Type}(w:List (Nat×Nat)):List (Nat×α)→Bool
 | []=>true
 | p::r=>inR p.1 w&&IX w r
def SS.strip{α:Type}(w:List (Nat×Nat)):SS α→SS α
 | .nil=> .nil
 | .cons j a r=>bif inR j w then r.strip w else .cons j a r
 | .many l r=>bif IX w l then r.strip w else .many l r
 | .drop l r=>bif NY w l then r.strip w else .drop l r

theorem SP{g f i:Nat}(h1:g≤i)(d:i≤f): ∀ {w:List (Nat×Nat)},rIn g f w=true→inR i w=true
 | [],h=>h
 | p::r,h=>by
  simp only[rIn,z48,z7]at h; simp only[inR,z48,z7]; rcases h with h | h
  ·exact .inl ⟨WC (z93 (z29 h.1) h1),WC (z93 d (z29 h.2))⟩
  ·exact .inr (SP h1 d h)
theorem JA{w:List (Nat×Nat)}{i:Nat}(d:inR i w=false): ∀ {l:List (Nat×Nat)},NY w l=true→inR i l=false
 | [],_=>rfl
 | q::r,h=>by
  simp only[NY,z7]at h; simp only[inR,JA d h.2,Bool.or_false]; cases e:(Nat.ble q.1 i&&Nat.ble i q.2)with
  | false=>rfl
  | true=>
   simp only[z7]at e; rw[SP (z29 e.1) (z29 e.2) h.1]at d; cases d
theorem EK{α:Type}{w:List (Nat×Nat)}{i:Nat}(d:inR i w=false): ∀ {l:List (Nat×α)},IX w l=true→dL i l=none
 | [],_=>rfl
 | (j,a)::r,h=>by
  simp only[IX,z7]at h; simp only[dL]; cases e:Nat.beq i j with
  | false=>exact EK d h.2
  | true=>have:=z14 e; subst this; rw[h.1]at d; cases d
theorem uT{α:Type}{w:List (Nat×Nat)}{i:Nat}(d:inR i w=false): ∀s:SS α,(s.strip w).get i=s.get i
 | .nil=>rfl
 | .cons j a r=>by
  simp only[SS.strip]; cases h:inR j w with
  | false=>rfl
  | true=>
   simp only[z15,SS.get]; rw[uT d r]; cases e:Nat.beq i j with
   | false=>rfl
   | true=>have:=z14 e; subst this; rw[h]at d; cases d
 | .many l r=>by
  simp only[SS.strip]; cases h:IX w l with
  | false=>rfl
  | true=>
   simp only[z15,SS.get]; rw[uT d r,EK d h]
 | .drop l r=>by
  simp only[SS.strip]; cases h:NY w l with
  | false=>rfl
  | true=>
   simp only[z15,SS.get]; rw[uT d r,JA d h]; rfl

structure LeS {α:Type} (t s:SS α):Prop where
 get: ∀i a,t.get i=some a→s.get i=some a
theorem lb{α:Type}{w:List (Nat×Nat)}{f s:SS α}(h:s.strip w=f.strip w):LeS (.drop w f) s:=⟨fun i a d=>by
 simp only[SS.get]at d; cases hw:inR i w with
 | true=>rw[hw]at d; cases d
 | false=>rw[hw]at d; rw[←uT hw s,h,uT hw f]; exact d⟩
theorem lm{α:Type}{s r:SS α}(h:LeS r s):LeS (.many [] r) s:=⟨fun i a d=>h.get i a d⟩
theorem lc{α:Type}{i:Nat}{a:α}{l:List (Nat×α)}{s r:SS α}(h0:s.get i=some a)(h:LeS (.many l r) s):LeS (.many ((i,a)::l) r) s:=⟨fun j b d=>by
 simp only[SS.get,dL]at d; cases e:Nat.beq j i with
 | true=>
  have:=z14 e; subst this; rw[z42]at d; simp only[z15,z9]at d; subst d; exact h0
 | false=>rw[e]at d; exact h.get j b (by simpa [SS.get]using d)⟩

def Ie{α:Type}(s:SS α):List (Nat×α)→Option (List α)
 | []=>some []
 | p::r=>match s.get p.1,Ie s r with
  | some a,some l=>some (a::l)
  | _,_=>none
def xI{α:Type}:List (Nat×α)→List α
 | []=> []
 | p::r=>p.2::xI r
theorem Bv{α:Type}{s f:SS α}{w:List (Nat×Nat)}(h:s.strip w=f.strip w): ∀ {l:List (Nat×α)},Ie s l=some (xI l)→LeS (.many l (.drop w f)) s
 | [],_=>lm (lb h)
 | (i,a)::r,d=>by
  simp only[Ie,xI]at d; split at d<;>try cases d
  rename_i b l g j; exact lc g (Bv h j)

structure Mt (S:SS V) (O:SS (List T)) (x:D):Prop where
 sl: ∀i v,S.get i=some v→x.sl i=v
 ob: ∀o cs,O.get o=some cs→x.ob o=some cs
theorem Mt.le{S f:SS V}{O d:SS (List T)}{x:D}(h:Mt S O x)(h1:LeS f S)(g:LeS d O):Mt f d x:=⟨fun i v j=>h.sl i v (h1.get i v j),fun o cs ho=>h.ob o cs (g.get o cs ho)⟩
theorem Mt.put{S:SS V}{O:SS (List T)}{x:D}(h:Mt S O x)(d:Nat)(v:V):Mt (.cons d v S) O (x.put d v):=⟨fun i u f=>by
 simp only[SS.get]at f; simp only[D.put]; cases e:Nat.beq i d with
 | true=>
  rw[e]at f; simp only[z15,z9]at f; rw[z17 (z14 e)]; exact f
 | false=>
  rw[e]at f; rw[z11 (fun g=>by subst g; rw[z42]at e; cases e)]
  exact h.sl i u f,h.ob⟩
theorem Mt.setO{S:SS V}{O:SS (List T)}{x:D}(h:Mt S O x)(o:Nat)(cs:List T):Mt S (.cons o cs O) (x.setO o cs):=⟨h.sl,fun i u d=>by
 simp only[SS.get]at d; simp only[D.setO]; cases e:Nat.beq i o with
 | true=>
  rw[e]at d; simp only[z15,z9]at d; rw[z17 (z14 e),d]
 | false=>
  rw[e]at d; rw[z11 (fun f=>by subst f; rw[z42]at e; cases e)]
  exact h.ob i u d⟩
theorem Mt.su{S:SS V}{O:SS (List T)}{x:D}(h:Mt S O x){d:Nat}{v u:V}(f:S.get d=some v)(e:v=u):Mt (.cons d u S) O x:=by
 have:=h.put d u; rwa[RO (by rw[h.sl d v f,e])]at this

def evS(S:SS V):Operand→Option V
 | .tmp t=>S.get t
 | .const v=>some (bE v)
 | .func f=>some (.one (.fn f []))
 | .global _=>none
def atS(S:SS V)(O:SS (List T)):Loc→Option T
 | .s i _ j=>(S.get i).bind (·.leaf 0 j)
 | .oc o j=>(O.get o).bind (·[j]?)
 | _=>none
def rdS(S:SS V)(O:SS (List T))(y:Operand):Option V:=match evS S y with
 | some (.one (.al (.s i 0 j) []))=>match atS S O (.s i 0 j)with | some t=>some (.one (.c t)) | none=>none
 | some (.one (.al (.oc o j) []))=>match atS S O (.oc o j)with | some t=>some (.one (.c t)) | none=>none
 | some (.one (.al _ _))=>none
 | v=>v
def gS(ds:List (Option Nat))(S:SS V):Option (Nat×Bool)→Option Bool
 | none=>some true
 | some (j,want)=>match ds[j]? with
  | some (some t)=>(match S.get t with
   | some (.one (.c (.bool true)))=>some want
   | some (.one (.c (.bool false)))=>some (!want)
   | some (.tup [])=>some false
   | _=>none)
  | _=>none

section
variable {S:SS V} {O:SS (List T)} {x:D}
theorem Mt.ev(h:Mt S O x){y:Operand}{v:V}(d:evS S y=some v):Own.ev x.sl y=v:=by
 cases y with
 | tmp t=>exact h.sl t v d
 | const c=>exact z50 d
 | func f=>exact z50 d
 | global g=>cases d
theorem Mt.at(h:Mt S O x){l:Loc}{t:T}(g: ∀i k j,l= .s i k j→k=0)(d:atS S O l=some t):x.at l=some t:=by
 cases l with
 | s i k j=>
  have:=g i k j rfl; subst this; simp only[atS,z19]at d; obtain⟨v,h1,f⟩:=d; simp only[D.at,atL,h.sl i v h1,f]
 | oc o j=>
  simp only[atS,z19]at d; obtain⟨v,h1,f⟩:=d; simp only[D.at,atL,h.ob o v h1,z8,f]
 | _=>cases d
theorem Mt.rd(h:Mt S O x){y:Operand}{v:V}(d:rdS S O y=some v):evD x y=v:=by
 unfold rdS at d; unfold evD; split at d
 ·rename_i i j f
  rw[h.ev f]; split at d
  ·rename_i t g
   have:=h.at (l:= .s i 0 j) (fun i k j e=>by cases e; rfl) g
   simp only[D.at]at this; simp only[vD,this,z8,nav]; exact z50 d
  ·cases d
 ·rename_i o j f
  rw[h.ev f]; split at d
  ·rename_i t g
   have:=h.at (l:= .oc o j) (fun i k j e=>by cases e) g
   simp only[D.at]at this; simp only[vD,this,z8,nav]; exact z50 d
  ·cases d
 ·cases d
 ·rename_i h1 q m
  cases v with
  | tup u=>rw[h.ev d]; rfl
  | one w=>
   rw[h.ev d]; cases w with
   | al l p=>exact absurd d (m l p)
   | _=>rfl
theorem Mt.gd(h:Mt S O x){ds:List (Option Nat)}{g:Option (Nat×Bool)}{b:Bool}(d:gS ds S g=some b):bJ ds x g=some b:=by
 unfold gS at d; unfold bJ; split at d
 ·exact d
 ·rename_i j f
  split at d
  ·rename_i t m
   simp only[m]; split at d<;>try cases d
   ·rename_i e; rw[h.sl t _ e]; cases b<;>rfl
   ·rename_i e; rw[h.sl t _ e]; cases f<;>rfl
   ·rename_i e; rw[h.sl t _ e]
  ·cases d
end

inductive Kt where
 | seq (b:Code) (k:Kt)
 | blk (id:Nat) (k:Kt)
 | top (Q:Ek→D→Prop)

section
variable (P:Program) (τ:TypeId→Option TI) (An:FuncId→FA) (F:FA)
def Kt.den:Kt→Ek→D→Prop
 | .seq b k=>Ur (fun x=>vcC P τ An F b x k.den) k.den
 | .blk id k=>blkD id k.den
 | .top Q=>Q

structure Vo (ds:List (Option Nat)) (os:List Oper) (k:Kt) (S:SS V) (O:SS (List T)):Prop where
 run: ∀x,Mt S O x→bD P τ An F ds os x (fun x1=>k.den P τ An F .n x1)
structure Vc (c:Code) (k:Kt) (S:SS V) (O:SS (List T)):Prop where
 run: ∀x,Mt S O x→vcC P τ An F c x (k.den P τ An F)
structure Hl (Q:Ek→D→Prop) (e:Ek) (S:SS V) (O:SS (List T)):Prop where
 run: ∀x,Mt S O x→Q e x
def nxt:Kt→SS V→SS (List T)→Prop
 | .seq b k,S,O=>Vc P τ An F b k S O
 | .blk _ k,S,O=>nxt k S O
 | .top Q,S,O=>Hl Q .n S O
def exi:Kt→Nat→SS V→SS (List T)→Prop
 | .seq _ k,i,S,O=>exi k i S O
 | .blk id k,i,S,O=>bif Nat.beq i id then nxt P τ An F k S O else exi k i S O
 | .top Q,i,S,O=>Hl Q (.e i) S O
def rtn:Kt→SS V→SS (List T)→Prop
 | .seq _ k,S,O=>rtn k S O
 | .blk _ k,S,O=>rtn k S O
 | .top Q,S,O=>Hl Q .r S O
def aft(k:Kt)(e:Ek)(S:SS V)(O:SS (List T)):Prop:=match e with
 | .n=>nxt P τ An F k S O
 | .r=>rtn k S O
 | .e i=>exi P τ An F k i S O
end

section
variable {P:Program} {τ:TypeId→Option TI} {An:FuncId→FA} {F:FA} {k:Kt} {S:SS V} {O:SS (List T)}
theorem CQ: ∀ {k:Kt},nxt P τ An F k S O→ ∀x,Mt S O x→k.den P τ An F .n x
 | .seq b k,h,x,d=>h.run x d
 | .blk id k,h,x,d=>by
  show k.den P τ An F (qF id .n) x; have:qF id .n= .n:=rfl; rw[this]; exact CQ (k:=k) h x d
 | .top Q,h,x,d=>h.run x d
theorem Kj{i:Nat}: ∀ {k:Kt},exi P τ An F k i S O→ ∀x,Mt S O x→k.den P τ An F (.e i) x
 | .seq b k,h,x,d=>Kj (k:=k) h x d
 | .blk id k,h,x,d=>by
  show k.den P τ An F (qF id (.e i)) x; simp only[exi]at h; cases e:Nat.beq i id with
  | true=>
   have:=z14 e; subst this; rw[e]at h; have:qF i (.e i)= .n:=by simp [qF]
   rw[this]; exact CQ h x d
  | false=>
   rw[e]at h; have:qF id (.e i)= .e i:=by
    unfold qF; rw[z11]; intro f; cases f; rw[z42]at e; cases e
   rw[this]; exact Kj (k:=k) h x d
 | .top Q,h,x,d=>h.run x d
theorem Kc: ∀ {k:Kt},rtn k S O→ ∀x,Mt S O x→k.den P τ An F .r x
 | .seq b k,h,x,d=>Kc (k:=k) h x d
 | .blk id k,h,x,d=>by
  show k.den P τ An F (qF id .r) x; have:qF id .r= .r:=rfl; rw[this]; exact Kc (k:=k) h x d
 | .top Q,h,x,d=>h.run x d
theorem Sh{e:Ek}(h:aft P τ An F k e S O): ∀x,Mt S O x→k.den P τ An F e x:=by
 cases e with
 | n=>exact CQ h
 | r=>exact Kc h
 | e i=>exact Kj h

theorem cSq{a b:Code}(h:Vc P τ An F a (.seq b k) S O):Vc P τ An F (.seq a b) k S O:=⟨fun x d=>h.run x d⟩
theorem cSk(h:nxt P τ An F k S O):Vc P τ An F .skip k S O:=⟨fun x d=>CQ h x d⟩
theorem cLb{l:Nat}(h:nxt P τ An F k S O):Vc P τ An F (.label l) k S O:=⟨fun x d=>CQ h x d⟩
theorem cEx{i:Nat}(h:exi P τ An F k i S O):Vc P τ An F (.exit i) k S O:=⟨fun x d=>Kj h x d⟩
theorem cRt(h:rtn k S O):Vc P τ An F .ret k S O:=⟨fun x d=>Kc h x d⟩
theorem cBk{id:Nat}{c:Code}(h:Vc P τ An F c (.blk id k) S O):Vc P τ An F (.block id c) k S O:=⟨fun x d=>h.run x d⟩
theorem cRg{id:Nat}{ops:List Oper}{d:Bool}(h:Vo P τ An F (ops.map (·.dst)) ops k S O)(f:dL id F.mks=none:=by exact rfl):Vc P τ An F (.region id ops.toArray d) k S O:=⟨fun x g=> .inl ⟨f,h.run x g⟩⟩
theorem cRs{id:Nat}{ops:List Oper}{d:Bool}{b:Code}(h:Vo P τ An F (ops.map (·.dst)) ops (.seq b k) S O)(f:dL id F.mks=none:=by exact rfl):Vc P τ An F (.seq (.region id ops.toArray d) b) k S O:=⟨fun x g=> .inl ⟨f,h.run x g⟩⟩
theorem cT{t:Nat}{a b:Code}(f:S.get t=some (.one (.c (.bool true))))(h:Vc P τ An F a k S O):Vc P τ An F (.cond (.tmp t) a b) k S O:=⟨fun x d=>c_ct (d.sl t _ f) (h.run x d)⟩
theorem cF{t:Nat}{a b:Code}(f:S.get t=some (.one (.c (.bool false))))(h:Vc P τ An F b k S O):Vc P τ An F (.cond (.tmp t) a b) k S O:=⟨fun x d=>c_cf (d.sl t _ f) (h.run x d)⟩
theorem cIf{ρ:Type}{A B:Option ρ}{r:ρ}{e:Bool}{t:Nat}{a b:Code}(h:(bif e then A else B)=some r)(f:S.get t=some (.one (.c (.bool e))))(h1:e=true→A=some r→Vc P τ An F a k (.cons t (.one (.c (.bool true))) S) O)(h0:e=false→B=some r→Vc P τ An F b k (.cons t (.one (.c (.bool false))) S) O):Vc P τ An F (.cond (.tmp t) a b) k S O:=by
 cases e with
 | true=>exact⟨fun x d=>c_ct (d.sl t _ f) ((h1 rfl h).run x (d.su f rfl))⟩
 | false=>exact⟨fun x d=>c_cf (d.sl t _ f) ((h0 rfl h).run x (d.su f rfl))⟩
abbrev Up:=List (Nat×V)
abbrev Uo:=List (Nat×List T)
def JQ{ρ:Type}(X:ρ→Ek×Up×Uo)(w d:List (Nat×Nat))(S:SS V)(O:SS (List T))(q:ρ)(e:Ek)(x:D):Prop:=e=(X q).1∧Mt (.many (X q).2.1 (.drop w S)) (.many (X q).2.2 (.drop d O)) x
theorem eJ{ρ:Type}{X:ρ→Ek×Up×Uo}{w f:List (Nat×Nat)}{j:SS V}{g:SS (List T)}{d q:ρ}{e:Ek}(h:some d=some q)(m:(e,Ie S (X d).2.1,Ie O (X d).2.2,S.strip w,O.strip f)=((X d).1,some (xI (X d).2.1),some (xI (X d).2.2),j.strip w,g.strip f)):Hl (JQ X w f j g q) e S O:=by
 cases h; simp only[z38]at m; obtain⟨z,h1,p,u,y⟩:=m; exact⟨fun x A=>⟨z,A.le (Bv u h1) (Bv y p)⟩⟩
theorem cJn{ρ β:Type}{o:Option ρ}{f:ρ→Option β}{r:β}{c:Code}(h:o.bind f=some r)(w d:List (Nat×Nat))(X:ρ→Ek×Up×Uo)(h1: ∀q,o=some q→Vc P τ An F c (.top (JQ X w d S O q)) S O)
  (g: ∀q,f q=some r→aft P τ An F k (X q).1 (.many (X q).2.1 (.drop w S)) (.many (X q).2.2 (.drop d O))):Vc P τ An F c k S O:=by
 obtain⟨q,u,j⟩:=bind_some h; refine⟨fun x y=>CW (fun e x1 m=> ?_) ((h1 q u).run x y)⟩
 obtain⟨rfl,p⟩:=m; exact Sh (g q j) x1 p
theorem oJn{ρ β:Type}{o:Option ρ}{f:ρ→Option β}{r:β}{ds:List (Option Nat)}{os:List Oper}(h:o.bind f=some r)(w g:List (Nat×Nat))(X:ρ→Ek×Up×Uo)(h1: ∀q,o=some q→Vo P τ An F ds os (.top (JQ X w g S O q)) S O)
  (j: ∀q,f q=some r→aft P τ An F k (X q).1 (.many (X q).2.1 (.drop w S)) (.many (X q).2.2 (.drop g O)))(hn: ∀q,(X q).1= .n:=by intro; rfl):Vo P τ An F ds os k S O:=by
 obtain⟨q,y,m⟩:=bind_some h; refine⟨fun x z=>GE (fun x1 p=> ?_) ((h1 q y).run x z)⟩
 obtain⟨A,u⟩:=p; have d:=j q m; rw[hn q]at d; exact CQ d x1 u

def LQ{σ ρ:Type}(u:σ→Up×Uo)(X:ρ→Ek×Up×Uo)(w d:List (Nat×Nat))(S:SS V)(O:SS (List T))(o:σ⊕ρ)(e:Ek)(x:D):Prop:=match o with
 | .inl s=>e= .n∧Mt (.many (u s).1 (.drop w S)) (.many (u s).2 (.drop d O)) x
 | .inr q=>e≠ .n∧e=(X q).1∧Mt (.many (X q).2.1 (.drop w S)) (.many (X q).2.2 (.drop d O)) x
theorem eL{σ ρ:Type}{u:σ→Up×Uo}{X:ρ→Ek×Up×Uo}{w d:List (Nat×Nat)}{g:SS V}{f:SS (List T)}{s:σ}{o:σ⊕ρ}(h:some (.inl s)=some o)(j:(Ie S (u s).1,Ie O (u s).2,S.strip w,O.strip d)=(some (xI (u s).1),some (xI (u s).2),g.strip w,f.strip d)):Hl (LQ u X w d g f o) .n S O:=by
 cases h; simp only[z38]at j; obtain⟨h1,m,p,q⟩:=j; exact⟨fun x y=>⟨rfl,y.le (Bv p h1) (Bv q m)⟩⟩
theorem eX{σ ρ:Type}{u:σ→Up×Uo}{X:ρ→Ek×Up×Uo}{w d:List (Nat×Nat)}{g:SS V}{f:SS (List T)}{q:ρ}{o:σ⊕ρ}{i:Nat}(h:some (.inr q)=some o)(j:(Ek.e i,Ie S (X q).2.1,Ie O (X q).2.2,S.strip w,O.strip d)=((X q).1,some (xI (X q).2.1),some (xI (X q).2.2),g.strip w,f.strip d)):Hl (LQ u X w d g f o) (.e i) S O:=by
 cases h; simp only[z38]at j; obtain⟨z,h1,m,p,y⟩:=j; exact⟨fun x A=>⟨nofun,z,A.le (Bv p h1) (Bv y m)⟩⟩
theorem eXr{σ ρ:Type}{u:σ→Up×Uo}{X:ρ→Ek×Up×Uo}{w d:List (Nat×Nat)}{g:SS V}{f:SS (List T)}{q:ρ}{o:σ⊕ρ}(h:some (.inr q)=some o)(j:(.r,Ie S (X q).2.1,Ie O (X q).2.2,S.strip w,O.strip d)=((X q).1,some (xI (X q).2.1),some (xI (X q).2.2),g.strip w,f.strip d)):Hl (LQ u X w d g f o) .r S O:=by
 cases h; simp only[z38]at j; obtain⟨z,h1,m,p,y⟩:=j; exact⟨fun x A=>⟨nofun,z,A.le (Bv p h1) (Bv y m)⟩⟩
theorem cLp{σ ρ β:Type}{body:σ→Option (σ⊕ρ)}{n:Nat}{d:σ}{f:ρ→Option β}{r:β}{c:Code}{id:Nat}(h:(loopN body n d).bind f=some r)(w g:List (Nat×Nat))(u:σ→Up×Uo)(X:ρ→Ek×Up×Uo)(m:(Ie S (u d).1,Ie O (u d).2)=(some (xI (u d).1),some (xI (u d).2)))
  (z: ∀s o,body s=some o→Vc P τ An F c (.top (LQ u X w g S O o)) (.many (u s).1 (.drop w S)) (.many (u s).2 (.drop g O)))
  (I: ∀q,f q=some r→aft P τ An F (.blk id k) (X q).1 (.many (X q).2.1 (.drop w S)) (.many (X q).2.2 (.drop g O))):Vc P τ An F (.block id (.loop c)) k S O:=by
 obtain⟨q,G,B⟩:=bind_some h; simp only[z38]at m; have C:LeS (.many (u d).1 (.drop w S)) S:=Bv rfl m.1; have j:LeS (.many (u d).2 (.drop g O)) O:=Bv rfl m.2; refine⟨fun x p=>UT ?_⟩
 refine Wd.loopN (fun s x=>Mt (.many (u s).1 (.drop w S)) (.many (u s).2 (.drop g O)) x) (fun q e x=>e=(X q).1∧Mt (.many (X q).2.1 (.drop w S)) (.many (X q).2.2 (.drop g O)) x) ?_ G (p.le C j) ?_
 ·intro s o x H ho
  refine CW (fun e x1 y=> ?_) ((z s o ho).run x H)
  cases o with
  | inl s'=>exact y
  | inr q=>exact y
 ·intro e x1 ⟨A,E⟩
  subst A; exact Sh (k:= .blk id k) (I q B) x1 E

def WG(τ:TypeId→Option TI)(S:SS V)(O:SS (List T)):ResultVar→Option W
 | .tmp t=>(match S.get t with | some (.one w)=>some w | _=>none)
 | .cell t ty=>(match τ ty,S.get t with
  | some i,some (.one (.ptr o p))=>(match O.get o with
   | some cells=>(match pF i (cells.drop p)with | some (.one w)=>some w | _=>none)
   | none=>none)
  | _,_=>none)
def JZ(τ:TypeId→Option TI)(S:SS V)(O:SS (List T)):List ResultVar→Option (List W)
 | []=>some []
 | r::rs=>match WG τ S O r,JZ τ S O rs with
  | some w,some ws=>some (w::ws)
  | _,_=>none
theorem Tg{x:D}(d:Mt S O x){r:ResultVar}{w:W}(h:WG τ S O r=some w):Qv τ x r=some w:=by
 cases r with
 | tmp t=>
  simp only[WG]at h; split at h<;>try cases h
  rename_i e; simp only[Qv,d.sl t _ e]
 | cell t ty=>
  simp only[WG]at h; split at h<;>try cases h
  rename_i i o p h1 f; split at h<;>try cases h
  rename_i cells g; simp only[Qv,h1,d.sl t _ f,d.ob o _ g]; exact h
theorem Lp{x:D}(f:Mt S O x): ∀ {rs:List ResultVar} {d:List W},JZ τ S O rs=some d→DV τ x rs=some d
 | [],d,h=>h
 | r::rs,d,h=>by
  simp only[JZ]at h; split at h<;>try cases h
  rename_i w j h1 g; simp only[DV,Tg f h1,Lp f g]
def Qy(O:SS (List T)):Nat→List (List T)→Option (List (List T))
 | _,[]=>some []
 | i,_::r=>match O.get (par+i),Qy O (i+1) r with
  | some cs,some css=>some (cs::css)
  | _,_=>none
theorem OZ{x:D}(d:Mt S O x): ∀ {l:List (List T)} {i:Nat} {l':List (List T)},Qy O i l=some l'→xU x i l=some l'
 | [],i,l',h=>h
 | a::r,i,l',h=>by
  simp only[Qy]at h; split at h<;>try cases h
  rename_i cs f h1 g; simp only[xU,d.ob _ _ h1,OZ d g]
def nwS(O:SS (List T)):Option Nat→Option (Option (List T))
 | none=>some none
 | some o=>match O.get o with | some cs=>some (some cs) | none=>none
def FQ(τ:TypeId→Option TI)(F:FA)(rs:List ResultVar)(ob:List (List T))(r:V)(d:List (List T))(nw:Option (List T))(e:Ek)(x:D):Prop:=(e= .n∨e= .r)∧ ∃f,DV τ x rs=some f∧(Ib f).to (uO F.n0)=r∧xU x 0 ob=some d∧F.n0.bind x.ob=nw
theorem eN{rs:List ResultVar}{ob f:List (List T)}{r:V}{nw:Option (List T)}{h:List W}(h1:JZ τ S O rs=some h)(j:(Ib h).to (uO F.n0)=r)(m:Qy O 0 ob=some f)(d:nwS O F.n0=some nw):Hl (FQ τ F rs ob r f nw) .n S O:=⟨fun x g=>⟨.inl rfl,h,Lp g h1,j,OZ g m,by
 revert d
 cases F.n0 with
 | none=>intro d; exact z50 d
 | some o=>
  intro d; simp only[nwS]at d; split at d<;>try cases d
  rename_i e; exact g.ob _ _ e⟩⟩
theorem eR{rs:List ResultVar}{ob d:List (List T)}{r:V}{nw:Option (List T)}{f:List W}(h1:JZ τ S O rs=some f)(g:(Ib f).to (uO F.n0)=r)(j:Qy O 0 ob=some d)(m:nwS O F.n0=some nw):Hl (FQ τ F rs ob r d nw) .r S O:=⟨fun x p=>by
 obtain⟨_,h⟩:=(eN (F:=F) h1 g j m).run x p; exact⟨.inr rfl,h⟩⟩

def Sm:Nat→List V→List (Nat×V)
 | _,[]=> []
 | i,v::r=>(i,v)::Sm (i+1) r
def Sn:Nat→List (List T)→List (Nat×List T)
 | _,[]=> []
 | i,v::r=>(par+i,v)::Sn (i+1) r
theorem JE: ∀(vs:List V) (i j:Nat) (v:V),dL j (Sm i vs)=some v→i≤j∧vs[j - i]? =some v
 | [],i,j,v,h=>by cases h
 | u::r,i,j,v,h=>by
  simp only[Sm,dL]at h; cases e:Nat.beq j i with
  | true=>
   have:=z14 e; subst this; rw[e]at h; simp only[z15,z9]at h; subst h; exact⟨z59 _,by rw[z99]; rfl⟩
  | false=>
   rw[e]at h; obtain⟨h1,d⟩:=JE r (i+1) j v h; refine⟨by omega, ?_⟩
   rw[show j - i=(j - (i+1))+1 by omega]; exact d
theorem JF: ∀(vs:List (List T)) (i j:Nat) (v:List T),dL j (Sn i vs)=some v→par+i≤j∧vs[j - (par+i)]? =some v
 | [],i,j,v,h=>by cases h
 | u::r,i,j,v,h=>by
  simp only[Sn,dL]at h; cases e:Nat.beq j (par+i)with
  | true=>
   have:=z14 e; subst this; rw[z42]at h; simp only[z15,z9]at h; subst h; exact⟨z59 _,by rw[z99]; rfl⟩
  | false=>
   rw[e]at h; obtain⟨h1,d⟩:=JF r (i+1) j v h; refine⟨by omega, ?_⟩
   rw[show j - (par+i)=(j - (par+(i+1)))+1 by omega]; exact d
theorem Mt.start{vs:List V}{ob:List (List T)}:Mt (.many (Sm 0 vs) .nil) (.many (Sn 0 ob) .nil) (DA vs ob):=⟨fun i v h=>by
 simp only[SS.get]at h; split at h<;>try cases h
 rename_i h1; have:=(JE vs 0 i v h1).2; show vs.getD i _=v; rw[Vm]at this; rw[z81,this]; rfl,fun o cs h=>by
 simp only[SS.get]at h; split at h<;>try cases h
 rename_i h1; obtain⟨f,d⟩:=JF ob 0 o cs h1; show(if par≤o then ob[o - par]? else none)=some cs
 rw[z17 (by omega)]; exact d⟩
theorem bF{f:FuncId}{fn:Func}{c:Code}{vs:List V}{ob d:List (List T)}{r:V}{nw:Option (List T)}(u:P.funcs[f]? =some fn)(q:fn.body=some c)(g:(pG (An f) 0 vs&&qK (An f) 0 ob&& !(An f).io.isSome)=true)
  (h:Vc P τ An (An f) c (.top (FQ τ (An f) fn.results.toList ob r d nw)) (.many (Sm 0 vs) .nil) (.many (Sn 0 ob) .nil)):Big P τ An (.fn f vs ob r none d nw):=by
 simp only[z7]at g; refine Big.of u q g.1.1 g.1.2 ?_ (CW (fun e x w=> ?_) (h.run _ Mt.start))
 ·have:=g.2
  revert this
  cases (An f).io<;>simp
 ·obtain⟨h0,y,h1,j,m,p⟩:=w
  exact⟨h0,y,h1,j,m,p⟩
end

abbrev I64(a:Int):V:= .one (.c (.int .i64 a))
abbrev U8(a:Int):V:= .one (.c (.int .u8 a))
abbrev Bo(b:Bool):V:= .one (.c (.bool b))
abbrev St'(s:List UInt8):V:= .one (.c (.str s))
abbrev Li{α:Type}(f:α→List T)(l:List α):V:= .one (.c (.sl (l.map f)))
abbrev Pt(o:Nat):V:= .one (.ptr o 0)
def fOff(τ:TypeId→Option TI)(s:TypeId)(f:Nat):Option (Nat×Nat):=match tk τ s with
 | some (.struct fs)=>(match fs[f]? with | some q=>some (q.1,q.2.1) | none=>none)
 | _=>none
def ldS(τ:TypeId→Option TI)(S:SS V)(O:SS (List T))(t:TypeId)(v:Operand):Option V:=match τ t,evS S v with
 | some ti,some (.one (.ptr ob p))=>(match O.get ob with | some cells=>pF ti (cells.drop p) | none=>none)
 | some ti,some (.one (.cp xs))=>pF ti xs
 | _,_=>none
def Qc:List T→List T→List T
 | [],cs=>cs
 | x::r,_::cs=>x::Qc r cs
 | _::_,[]=> []
def Qs:Nat→List T→List T→List T
 | 0,xs,cs=>Qc xs cs
 | p+1,xs,c::cs=>c::Qs p xs cs
 | _+1,_,[]=> []
theorem Ls: ∀ {xs cs:List T},xs.length≤cs.length→Qc xs cs=xs++cs.drop xs.length
 | [],cs,_=>rfl
 | x::r,c::cs,h=>by
  simp only[z34]at h; simp only[Qc,Ls (xs:=r) (cs:=cs) (by omega),z34,List.drop_succ_cons,z89]
 | x::r,[],h=>by simp at h
theorem OU: ∀ {p:Nat} {xs cs:List T},p+xs.length≤cs.length→Qs p xs cs=cs.take p++xs++cs.drop (p+xs.length)
 | 0,xs,cs,h=>by simp only[Qs,Ls (xs:=xs) (cs:=cs) (by omega),z164,z70,z30]
 | p+1,xs,c::cs,h=>by
  simp only[z34]at h; simp only[Qs,OU (p:=p) (xs:=xs) (cs:=cs) (by omega),List.take_succ_cons,z89,show p+1+xs.length=(p+xs.length)+1 by omega,List.drop_succ_cons]
 | p+1,xs,[],h=>by simp at h
def stS(τ:TypeId→Option TI)(F:FA)(S:SS V)(O:SS (List T))(t:TypeId)(v y:Operand):Option (Nat×List T):=match τ t,evS S v,(evS S y).bind aT with
 | some ti,some (.one (.ptr ob p)),some xs=>(match O.get ob with
  | some cells=>bif Nat.beq xs.length ti.size&&Nat.ble (p+xs.length) cells.length&&iG (Qs p xs cells) (F.obOf ob)then some (ob,Qs p xs cells)else none
  | none=>none)
 | _,_,_=>none
def zS(τ:TypeId→Option TI)(t:TypeId):Option (List T):=match τ t with
 | some ⟨_,_,_,z,_,_⟩=>some z
 | none=>none
def elS(τ:TypeId→Option TI)(t:TypeId):Option TI:=match tk τ t with
 | some (.sl e)=>τ e
 | _=>none
theorem Ad{τ:TypeId→Option TI}{t:TypeId}{f:TI}(h:elS τ t=some f): ∃e,tk τ t=some (.sl e)∧τ e=some f:=by
 unfold elS at h; split at h
 ·rename_i e g; exact⟨e,g,h⟩
 ·cases h
def capS(S:SS V):List Operand→Option (List (Nat×Nat))
 | []=>some []
 | v::r=>match evS S v,capS S r with
  | some (.one (.ptr o off)),some l=>some ((o,off)::l)
  | _,_=>none
def NV(S:SS V):List Operand→Option (List V)
 | []=>some []
 | v::r=>match evS S v,NV S r with
  | some a,some l=>some (a::l)
  | _,_=>none
def inA(S:SS V)(O:SS (List T))(os:List Nat):List Operand→Option (List V)
 | []=>some []
 | v::r=>match evS S v,rdS S O v,inA S O os r with
  | some u,some a,some l=>bif gC u then some (a.to (qC os)::l)else none
  | _,_,_=>none
def Ns:W→Bool
 | .junk=>false
 | .ptr _ _=>false
 | .fn _ _=>false
 | .al _ _=>false
 | .pp _ _ _ _=>false
 | _=>true
def CP:V→Bool
 | .one w=>Ns w
 | .tup e=>e.all Ns
theorem It{ρ:Nat→Option Nat}{w:W}(h:Ns w=true):w.to ρ=w:=by
 cases w<;>first | rfl | cases h
theorem Df{ρ:Nat→Option Nat}{v:V}(h:CP v=true):v.to ρ=v:=by
 cases v with
 | one w=>exact congrArg V.one (It h)
 | tup e=>
  show V.tup (e.map (W.to ρ))=_; rw[show e.map (W.to ρ)=e.map id from z52 fun w f=>It (z18.1 h w f),List.map_id]

theorem fI{s:V}{κ:IntKind}{a b:Int}(h:fits (.one (.c (.int κ a))) s=true):fits (.one (.c (.int κ b))) s=true:=by
 cases s with
 | tup e=>cases h
 | one w=>cases w<;>first | (cases h; done) | (rename_i z; cases z<;>first | exact h | rfl | cases h)
theorem fB{s:V}{a b:Bool}(h:fits (.one (.c (.bool a))) s=true):fits (.one (.c (.bool b))) s=true:=by
 cases s with
 | tup e=>cases h
 | one w=>cases w<;>first | (cases h; done) | (rename_i z; cases z<;>first | exact h | rfl | cases h)
theorem fS{s:V}{a b:List UInt8}(h:fits (.one (.c (.str a))) s=true):fits (.one (.c (.str b))) s=true:=by
 cases s with
 | tup e=>cases h
 | one w=>cases w<;>first | (cases h; done) | (rename_i z; cases z<;>first | exact h | rfl | cases h)
theorem fL{s:V}{a b:List (List T)}(h:fits (.one (.c (.sl a))) s=true):fits (.one (.c (.sl b))) s=true:=by
 cases s with
 | tup e=>cases h
 | one w=>cases w<;>first | (cases h; done) | (rename_i z; cases z<;>first | exact h | rfl | cases h)

set_option linter.unusedVariables false
section
variable {P:Program} {τ:TypeId→Option TI} {An:FuncId→FA} {F:FA} {ds:List (Option Nat)} {r:List Oper} {k:Kt} {S:SS V} {O:SS (List T)} {ty:TypeId} {pos:String} {after:Array Edge} {gd:Option (Nat×Bool)} {d:Nat}

theorem Hc{x:D}(e:Mt S O x): ∀ {l:List Operand} {vs:List V},NV S l=some vs→l.map (ev x.sl)=vs
 | [],vs,h=>by cases h; rfl
 | v::r,vs,h=>by
  simp only[NV]at h; split at h<;>try cases h
  rename_i a l h1 f; simp only[z54,e.ev h1,Hc e f]
theorem Kh{x:D}(e:Mt S O x){os:List Nat}: ∀ {l:List Operand} {vs:List V},inA S O os l=some vs→l.map (fun v=>(evD x v).to (qC os))=vs∧l.all (fun v=>gC (ev x.sl v))=true
 | [],vs,h=>by cases h; exact⟨rfl,rfl⟩
 | v::r,vs,h=>by
  simp only[inA]at h; split at h<;>try cases h
  rename_i u a l h0 h1 f; obtain⟨c,h⟩:=aK h; cases h; obtain⟨g,i⟩:=Kh e f; simp only[z54,e.rd h1,g,z91,e.ev h0,c,i,z95,and_self]

theorem oNl(h:nxt P τ An F k S O):Vo P τ An F ds [] k S O:=⟨fun x e=>RJ (CQ h x e)⟩
theorem oIf{ρ:Type}{A B:Option ρ}{g:ρ}{e:Bool}(t:Nat){os:List Oper}(h:(bif e then A else B)=some g)(i:S.get t=some (.one (.c (.bool e))))(h1:e=true→A=some g→Vo P τ An F ds os k (.cons t (.one (.c (.bool true))) S) O)(h0:e=false→B=some g→Vo P τ An F ds os k (.cons t (.one (.c (.bool false))) S) O):Vo P τ An F ds os k S O:=by
 cases e with
 | true=>exact⟨fun x f=>(h1 rfl h).run x (f.su i rfl)⟩
 | false=>exact⟨fun x f=>(h0 rfl h).run x (f.su i rfl)⟩
theorem oCk{β:Type}{c:Bool}{f:Unit→Option β}{e:β}{os:List Oper}(h:(ck c).bind f=some e)(h1:c=true→f ()=some e→Vo P τ An F ds os k S O):Vo P τ An F ds os k S O:=by
 obtain⟨u,g,i⟩:=bind_some h; exact h1 (ck_of g) i

theorem wSk{op:Op}(f:gS ds S gd=some false)(h:Vo P τ An F ds r k (.cons d (.tup []) S) O):Vo P τ An F ds (⟨some d,op,ty,pos,after,gd⟩::r) k S O:=
 ⟨fun x e=>PT (e.gd f) rfl (h.run _ (e.put d _))⟩
theorem wMv{y:Operand}{v:V}(f:gS ds S gd=some true)(i:evS S y=some v)(g:(!(mem d F.al)&&gC v&&fits v (F.shOf d))=true)(h:Vo P τ An F ds r k (.cons d v S) O):Vo P τ An F ds (⟨some d, .move y,ty,pos,after,gd⟩::r) k S O:=
 ⟨fun x e=>mv (e.gd f) (e.ev i) g (h.run _ (e.put d _))⟩
theorem wAs{y:Operand}{v:V}(f:gS ds S gd=some true)(i:evS S y=some v)(g:(gC v&&fits v (F.shOf d))=true)(h:Vo P τ An F ds r k (.cons d v S) O):Vo P τ An F ds (⟨some d, .assign y,ty,pos,after,gd⟩::r) k S O:=
 ⟨fun x e=>asg (e.gd f) (e.ev i) g (h.run _ (e.put d _))⟩
theorem wAl{t:Nat}{f:List (List T)}(i:gS ds S gd=some true)(j:mem d F.al=true)(l:S.get t=some (.one (.c (.sl f))))(g:fits (.one (.al (.s t 0 0) [])) (F.shOf d)=true)(h:Vo P τ An F ds r k (.cons d (.one (.al (.s t 0 0) [])) S) O):Vo P τ An F ds (⟨some d, .move (.tmp t),ty,pos,after,gd⟩::r) k S O:=
 ⟨fun x e=>als (e.gd i) j (e.sl t _ l) g (h.run _ (e.put d _))⟩
theorem wPk{c y z:Operand}{b:Bool}{t:T}(g:gS ds S gd=some true)(f:evS S c=some (.one (.c (.bool b))))(j:evS S (bif b then y else z)=some (.one (.c t)))(i:(scal t&&fits (.one (.c t)) (F.shOf d))=true)(h:Vo P τ An F ds r k (.cons d (.one (.c t)) S) O):Vo P τ An F ds (⟨some d, .pick c y z,ty,pos,after,gd⟩::r) k S O:=
 ⟨fun x e=>pk (e.gd g) (e.ev f) (e.ev j) i (h.run _ (e.put d _))⟩

set_option linter.unusedVariables false
theorem wBi{op:BinOp}{t t2:TypeId}{y z:Operand}(w:T){f g:V}(l:gS ds S gd=some true)(h1:rdS S O y=some f)(i:rdS S O z=some g)(m:QX τ op t f g=some w)(j:fits (.one (.c w)) (F.shOf d)=true)(h:Vo P τ An F ds r k (.cons d (.one (.c w)) S) O):Vo P τ An F ds (⟨some d, .binOp op t y z t2,ty,pos,after,gd⟩::r) k S O:=
 ⟨fun x e=>s_bin (e.gd l) (e.rd h1) (e.rd i) m j (h.run _ (e.put d _))⟩
section
variable {t t2:TypeId} {y z:Operand} {κ:IntKind} {a b:Int}
theorem tF{op:BinOp}{w:T}(h1:op≠ .shl)(e:op≠ .shr)(h:TL op κ a b=some w):QX τ op t (.one (.c (.int κ a))) (.one (.c (.int κ b)))=some w:=by
 cases op<;>first | exact absurd rfl h1 | exact absurd rfl e | (simp only[QX,if_true]; exact h)
theorem wAdd(g:gS ds S gd=some true)(h1:rdS S O y=some (.one (.c (.int κ a))))(e:rdS S O z=some (.one (.c (.int κ b))))(f:fits (.one (.c (.int κ 0))) (F.shOf d)=true)(h:Vo P τ An F ds r k (.cons d (.one (.c (.int κ (κ.wrap (a+b))))) S) O):Vo P τ An F ds (⟨some d, .binOp .add t y z t2,ty,pos,after,gd⟩::r) k S O:=
 wBi _ g h1 e (tF nofun nofun rfl) (fI f) h
theorem wSub(g:gS ds S gd=some true)(h1:rdS S O y=some (.one (.c (.int κ a))))(e:rdS S O z=some (.one (.c (.int κ b))))(f:fits (.one (.c (.int κ 0))) (F.shOf d)=true)(h:Vo P τ An F ds r k (.cons d (.one (.c (.int κ (κ.wrap (a - b))))) S) O):Vo P τ An F ds (⟨some d, .binOp .sub t y z t2,ty,pos,after,gd⟩::r) k S O:=
 wBi _ g h1 e (tF nofun nofun rfl) (fI f) h
theorem wMul(g:gS ds S gd=some true)(h1:rdS S O y=some (.one (.c (.int κ a))))(e:rdS S O z=some (.one (.c (.int κ b))))(f:fits (.one (.c (.int κ 0))) (F.shOf d)=true)(h:Vo P τ An F ds r k (.cons d (.one (.c (.int κ (κ.wrap (a*b))))) S) O):Vo P τ An F ds (⟨some d, .binOp .mul t y z t2,ty,pos,after,gd⟩::r) k S O:=
 wBi _ g h1 e (tF nofun nofun rfl) (fI f) h
theorem wEq(g:gS ds S gd=some true)(h1:rdS S O y=some (.one (.c (.int κ a))))(e:rdS S O z=some (.one (.c (.int κ b))))(f:fits (Bo true) (F.shOf d)=true)(h:Vo P τ An F ds r k (.cons d (Bo (decide (a=b))) S) O):Vo P τ An F ds (⟨some d, .binOp .eql t y z t2,ty,pos,after,gd⟩::r) k S O:=
 wBi _ g h1 e (tF nofun nofun rfl) (fB f) h
theorem wNe(g:gS ds S gd=some true)(h1:rdS S O y=some (.one (.c (.int κ a))))(e:rdS S O z=some (.one (.c (.int κ b))))(f:fits (Bo true) (F.shOf d)=true)(h:Vo P τ An F ds r k (.cons d (Bo (!decide (a=b))) S) O):Vo P τ An F ds (⟨some d, .binOp .neq t y z t2,ty,pos,after,gd⟩::r) k S O:=
 wBi _ g h1 e (tF nofun nofun rfl) (fB f) h
theorem wLt(g:gS ds S gd=some true)(h1:rdS S O y=some (.one (.c (.int κ a))))(e:rdS S O z=some (.one (.c (.int κ b))))(f:fits (Bo true) (F.shOf d)=true)(h:Vo P τ An F ds r k (.cons d (Bo (decide (a<b))) S) O):Vo P τ An F ds (⟨some d, .binOp .lss t y z t2,ty,pos,after,gd⟩::r) k S O:=
 wBi _ g h1 e (tF nofun nofun rfl) (fB f) h
theorem wLe(g:gS ds S gd=some true)(h1:rdS S O y=some (.one (.c (.int κ a))))(e:rdS S O z=some (.one (.c (.int κ b))))(f:fits (Bo true) (F.shOf d)=true)(h:Vo P τ An F ds r k (.cons d (Bo (decide (a≤b))) S) O):Vo P τ An F ds (⟨some d, .binOp .leq t y z t2,ty,pos,after,gd⟩::r) k S O:=
 wBi _ g h1 e (tF nofun nofun rfl) (fB f) h
theorem wGt(g:gS ds S gd=some true)(h1:rdS S O y=some (.one (.c (.int κ a))))(e:rdS S O z=some (.one (.c (.int κ b))))(f:fits (Bo true) (F.shOf d)=true)(h:Vo P τ An F ds r k (.cons d (Bo (decide (b<a))) S) O):Vo P τ An F ds (⟨some d, .binOp .gtr t y z t2,ty,pos,after,gd⟩::r) k S O:=
 wBi _ g h1 e (tF nofun nofun rfl) (fB f) h
theorem wGe(g:gS ds S gd=some true)(h1:rdS S O y=some (.one (.c (.int κ a))))(e:rdS S O z=some (.one (.c (.int κ b))))(f:fits (Bo true) (F.shOf d)=true)(h:Vo P τ An F ds r k (.cons d (Bo (decide (b≤a))) S) O):Vo P τ An F ds (⟨some d, .binOp .geq t y z t2,ty,pos,after,gd⟩::r) k S O:=
 wBi _ g h1 e (tF nofun nofun rfl) (fB f) h
theorem wEs{a b:List UInt8}(g:gS ds S gd=some true)(h1:rdS S O y=some (.one (.c (.str a))))(e:rdS S O z=some (.one (.c (.str b))))(f:fits (Bo true) (F.shOf d)=true)(h:Vo P τ An F ds r k (.cons d (Bo (decide (a=b))) S) O):Vo P τ An F ds (⟨some d, .binOp .eql t y z t2,ty,pos,after,gd⟩::r) k S O:=
 wBi _ g h1 e rfl (fB f) h
theorem wNs{a b:List UInt8}(g:gS ds S gd=some true)(h1:rdS S O y=some (.one (.c (.str a))))(e:rdS S O z=some (.one (.c (.str b))))(f:fits (Bo true) (F.shOf d)=true)(h:Vo P τ An F ds r k (.cons d (Bo (!decide (a=b))) S) O):Vo P τ An F ds (⟨some d, .binOp .neq t y z t2,ty,pos,after,gd⟩::r) k S O:=
 wBi _ g h1 e rfl (fB f) h
theorem wCat{a b:List UInt8}(f:decide (a.length+b.length≤9223372036854775807)=true)(i:gS ds S gd=some true)(h1:rdS S O y=some (.one (.c (.str a))))(e:rdS S O z=some (.one (.c (.str b))))(g:fits (St' []) (F.shOf d)=true)(h:Vo P τ An F ds r k (.cons d (St' (a++b)) S) O):Vo P τ An F ds (⟨some d, .binOp .add t y z t2,ty,pos,after,gd⟩::r) k S O:=
 wBi (.str (a++b)) i h1 e (by have:=of_decide_eq_true f; simp [QX,Sx,this]) (fS g) h
theorem wNot{b:Bool}(g:gS ds S gd=some true)(h1:rdS S O y=some (.one (.c (.bool b))))(f:fits (Bo true) (F.shOf d)=true)(h:Vo P τ An F ds r k (.cons d (Bo (!b)) S) O):Vo P τ An F ds (⟨some d, .unOp .not t y,ty,pos,after,gd⟩::r) k S O:=
 ⟨fun x e=>rd (.bool !b) (e.gd g) rfl rfl (by simp only[iN,e.rd h1]) (fB f) (h.run _ (e.put d _))⟩
theorem wCv{κ':IntKind}{u:TK}(i:gS ds S gd=some true)(j:tk τ t=some u)(e:tk τ t2=some (.int κ'))(h1:rdS S O y=some (.one (.c (.int κ a))))(g:fits (.one (.c (.int κ' 0))) (F.shOf d)=true)(h:Vo P τ An F ds r k (.cons d (.one (.c (.int κ' (κ'.wrap a)))) S) O):Vo P τ An F ds (⟨some d, .convert t t2 y,ty,pos,after,gd⟩::r) k S O:=
 ⟨fun x f=>rd (.int κ' (κ'.wrap a)) (f.gd i) rfl rfl (by simp only[iN,f.rd h1,j,e]) (fI g) (h.run _ (f.put d _))⟩
theorem wLs{s:List UInt8}(g:gS ds S gd=some true)(i:tk τ t=some .str)(h1:rdS S O y=some (.one (.c (.str s))))(f:fits (I64 0) (F.shOf d)=true)(h:Vo P τ An F ds r k (.cons d (I64 s.length) S) O):Vo P τ An F ds (⟨some d, .call { callee:= .builtin .len,args:= #[y],argTypes:= #[t] },ty,pos,after,gd⟩::r) k S O:=
 ⟨fun x e=>rd (.int .i64 s.length) (e.gd g) rfl rfl (by simp only[iN,e.rd h1,i]) (fI f) (h.run _ (e.put d _))⟩
theorem wLn{α:Type}{L:List α}{f:α→List T}{e:TypeId}(j:gS ds S gd=some true)(l:tk τ t=some (.sl e))(h1:rdS S O y=some (.one (.c (.sl (L.map f)))))(i:fits (I64 0) (F.shOf d)=true)(h:Vo P τ An F ds r k (.cons d (I64 L.length) S) O):Vo P τ An F ds (⟨some d, .call { callee:= .builtin .len,args:= #[y],argTypes:= #[t] },ty,pos,after,gd⟩::r) k S O:=
 ⟨fun x g=>ln (g.gd j) l (g.rd h1) i (h.run _ (g.put d _))⟩
theorem Nf{β:Type}{f:Int→Option β}{g:β}{s:List UInt8}(h:(ixs s a).bind f=some g)(o:gS ds S gd=some true)(p:tk τ t=some .str)(h1:rdS S O y=some (.one (.c (.str s))))(i:rdS S O z=some (.one (.c (.int κ a))))(m:fits (U8 0) (F.shOf d)=true)(hn: ∀b,f b=some g→Vo P τ An F ds r k (.cons d (U8 b) S) O):Vo P τ An F ds (⟨some d, .index t y z,ty,pos,after,gd⟩::r) k S O:=by
 obtain⟨b,j,l⟩:=bind_some h; exact⟨fun x e=>rd (.int .u8 b) (e.gd o) rfl rfl (WY j p (e.rd h1) (e.rd i)) (fI m) ((hn b l).run _ (e.put d _))⟩
end

inductive BdS (S:SS V) (O:SS (List T)):Option Operand→Option Int→Prop
 | no:BdS S O none none
 | so {y:Operand} {k:IntKind} {n:Int} (h:rdS S O y=some (.one (.c (.int k n)))):BdS S O (some y) (some n)
theorem BdS.bd{x:D}(e:Mt S O x){y:Option Operand}{n:Option Int}(h:BdS S O y n):Bd x y n:=by
 cases h with
 | no=>exact .none
 | so h=>exact .some (e.rd h)
theorem wSl{α β:Type}{t e:TypeId}{m:TI}{y:Operand}{p o:Option Operand}{l g:Option Int}{s:List α}{rf:α→List T}{f:List α→Option β}{q:β}(h:(sub s l g).bind f=some q)(E:gS ds S gd=some true)(G:tk τ t=some (.sl e))(C:τ e=some m)(h1:rdS S O y=some (.one (.c (.sl (s.map rf)))))(v:BdS S O p l)(w:BdS S O o g)(j: ∀a,(rf a).length=m.size)(D:fits (.one (.c (.sl []))) (F.shOf d)=true)(hn: ∀u,f u=some q→Vo P τ An F ds r k (.cons d (Li rf u) S) O):Vo P τ An F ds (⟨some d, .slice t y p o none,ty,pos,after,gd⟩::r) k S O:=by
 obtain⟨b,B,A⟩:=bind_some h; refine⟨fun x i=>rd (.sl (b.map rf)) (i.gd E) rfl rfl (WX B G C (i.rd h1) (v.bd i) (w.bd i) j) (fL D) ((hn b A).run _ (i.put d _))⟩

theorem wNc{v:Operand}{w:V}(g:gS ds S gd=some true)(i:evS S v=some w)(e:(isP w&&fits w (F.shOf d))=true)(h:Vo P τ An F ds r k (.cons d w S) O):Vo P τ An F ds (⟨some d, .nilCheck v,ty,pos,after,gd⟩::r) k S O:=by
 simp only[z7]at e; exact⟨fun x f=>nlc (f.gd g) (f.ev i) e.1 e.2 (h.run _ (f.put d _))⟩
theorem wFd{s:TypeId}{v:Operand}{f:Nat}{off:Nat×Nat}{w u:V}(l:gS ds S gd=some true)(e:fOff τ s f=some off)(o:evS S v=some w)(p:BJ off w=some u)(j:fits u (F.shOf d)=true)(h:Vo P τ An F ds r k (.cons d u S) O):Vo P τ An F ds (⟨some d, .fieldAddr s v f,ty,pos,after,gd⟩::r) k S O:=by
 unfold fOff at e; split at e<;>try cases e
 rename_i fs m; split at e<;>try cases e
 rename_i q g; exact⟨fun x i=>fld (i.gd l) m g (i.ev o) p j (h.run _ (i.put d _))⟩
theorem wLd{t:TypeId}{v:Operand}{w:V}(j:gS ds S gd=some true)(e:ldS τ S O t v=some w)(g:(!(mem d F.al)&&fits w (F.shOf d))=true)(h:Vo P τ An F ds r k (.cons d w S) O):Vo P τ An F ds (⟨some d, .load t v,ty,pos,after,gd⟩::r) k S O:=by
 simp only[z7,z35]at g; refine⟨fun x f=> ?_⟩
 unfold ldS at e; split at e<;>try cases e
 ·rename_i m ob p h1 i
  split at e<;>try cases e
  rename_i cells l; exact ldo (f.gd j) h1 g.1 (f.ev i) (f.ob _ _ l) e g.2 (h.run _ (f.put d _))
 ·rename_i m xs h1 i
  exact ldc (f.gd j) h1 (f.ev i) e g.2 (h.run _ (f.put d _))
theorem wSt{t:TypeId}{v y:Operand}{ob:Nat}{cs:List T}(q:gS ds S gd=some true)(e:stS τ F S O t v y=some (ob,cs))(h:Vo P τ An F ds r k S (.cons ob cs O)):Vo P τ An F ds (⟨none, .store t v y,ty,pos,after,gd⟩::r) k S O:=by
 refine⟨fun x f=> ?_⟩
 unfold stS at e; split at e<;>try cases e
 rename_i A w p xs h1 i j; split at e<;>try cases e
 rename_i cells l; obtain⟨c,e⟩:=aK e; cases e; have s:aT (ev x.sl y)=some xs:=by
  obtain⟨u,m,o⟩:=z19.1 j; rw[f.ev m]; exact o
 have g:=c; simp only[z7]at g; exact sto (cs:=Qs p xs cells) (f.gd q) h1 (f.ev i) s (f.ob _ _ l) c (OU (z29 g.1.2)).symm (h.run _ (f.setO ob _))
theorem wAc{t:TypeId}{cs:List T}(g:gS ds S gd=some true)(hz:zS τ t=some cs)(f:iG cs (F.obOf d)=true)(h:Vo P τ An F ds r k (.cons d (.one (.ptr d 0)) S) (.cons d cs O)):Vo P τ An F ds (⟨some d, .alloc t,ty,pos,after,gd⟩::r) k S O:=by
 unfold zS at hz; split at hz<;>try cases hz
 rename_i h1; exact⟨fun x e=>alc (e.gd g) h1 rfl f (h.run _ ((e.put d _).setO d _))⟩
theorem wBx{e:TypeId}{t:Nat}{xs:List T}{w:V}(i:gS ds S gd=some true)(j:S.get t=some w)(l:aT w=some xs)(g:iG xs (F.obOf d)=true)(h:Vo P τ An F ds r k (.cons d (.one (.ptr d 0)) S) (.cons d xs O)):Vo P τ An F ds (⟨some d, .box e (.tmp t),ty,pos,after,gd⟩::r) k S O:=
 ⟨fun x f=>bx (f.gd i) (f.sl _ _ j) l g (h.run _ ((f.put d _).setO d _))⟩
def Vk:List (Nat×Operand)→List V→List (Nat×V)
 | p::r,v::q=>(p.1,v)::Vk r q
 | _,_=> []
theorem ON{x:D}: ∀ {l:List (Nat×Operand)} {vs:List V},(l.map (·.2)).map (ev x.sl)=vs→l.map (fun p=>(p.1,ev x.sl p.2))=Vk l vs
 | [],vs,h=>by cases h; rfl
 | p::r,vs,h=>by
  cases vs with
  | nil=>cases h
  | cons v vs=>
   simp only[z54,List.cons.injEq]at h; simp only[z54,Vk,h.1,ON h.2]
theorem wBd{t:TypeId}{fs:List (Nat×Nat×Bool)}{e:Array (Nat×Operand)}{vs:List V}{z:List T}(rs:List T)(l:gS ds S gd=some true)(g:tk τ t=some (.struct fs))(hz:zS τ t=some z)(m:NV S (e.toList.map (·.2))=some vs)(i:tA fs z (Vk e.toList vs)=some rs)(j:fits (.one (.ag rs)) (F.shOf d)=true)(h:Vo P τ An F ds r k (.cons d (.one (.ag rs)) S) O):Vo P τ An F ds (⟨some d, .build t e,ty,pos,after,gd⟩::r) k S O:=by
 unfold zS at hz; split at hz<;>try cases hz
 rename_i a b c o h1; simp only[tk,h1,z33,z9]at g; exact⟨fun x f=>bld (f.gd l) h1 g (by rw[ON (Hc f m)]; exact i) j (h.run _ (f.put d _))⟩
theorem wEt{j t:Nat}{f:List W}{w:W}(i:gS ds S gd=some true)(l:S.get t=some (.tup f))(m:f[j]? =some w)(g:fits (.one w) (F.shOf d)=true)(h:Vo P τ An F ds r k (.cons d (.one w) S) O):Vo P τ An F ds (⟨some d, .extract (.tmp t) j,ty,pos,after,gd⟩::r) k S O:=
 ⟨fun x e=>ext (e.gd i) (e.sl _ _ l) m g (h.run _ (e.put d _))⟩
theorem wIx{α β:Type}{L:List α}{f:α→List T}{g:α→Option β}{o:β}{t:TypeId}{m:TI}{v i:Operand}{κ:IntKind}{n:Int}{row:α→List T}(h:(ix L n).bind g=some o)(u:gS ds S gd=some true)(s:elS τ t=some m)(B:evS S v=some (.one (.c (.sl (L.map f)))))(w:evS S i=some (.one (.c (.int κ n))))(j: ∀a,f a=row a)(A: ∀a,(Nat.beq (row a).length m.size&&fits (.one (.cp (row a))) (F.shOf d))=true)
  (hn: ∀a,g a=some o→Vo P τ An F ds r k (.cons d (.one (.cp (row a))) S) O):Vo P τ An F ds (⟨some d, .indexAddr t v i,ty,pos,after,gd⟩::r) k S O:=by
 obtain⟨a,h1,p⟩:=bind_some h; obtain⟨e,C,D⟩:=Ad s; have q:=A a; simp only[z7]at q; exact⟨fun x l=>ixa h1 (l.gd u) C D (l.ev B) (l.ev w) (j a) (z14 q.1) q.2 ((hn a p).run _ (l.put d _))⟩
theorem LW{α:Type}{L:List α}{f:α→List T}{t:TypeId}{n:Nat}{g:Array (Nat×Operand)}{i:TI}{vs:List V}{j:List (List T)}(s:gS ds S gd=some true)(p:elS τ t=some i)(v:NV S (g.toList.map (·.2))=some vs)(l:vC vs=some j)(o:L.map f=j)
  (u:(Aa 0 g.toList&&Nat.beq n g.toList.length&&j.all (fun e=>Nat.beq e.length i.size)&&Nat.ble (n*i.size) 16777216)=true)(q:fits (.one (.c (.sl []))) (F.shOf d)=true)(h:Vo P τ An F ds r k (.cons d (Li f L) S) O):Vo P τ An F ds (⟨some d, .buildSlice t n g,ty,pos,after,gd⟩::r) k S O:=by
 obtain⟨e,w,A⟩:=Ad p; exact⟨fun x m=>lit (m.gd s) w A (by rw[Hc m v]; exact l) o u q (h.run _ (m.put d _))⟩
theorem wAp{α β:Type}{q s:List α}{g:List α→Option β}{B:β}{f:α→List T}{b:Nat}{t u:TypeId}{i:TI}{v y:Operand}{vy:V}{j:List (List T)}(h:(wX b q s).bind g=some B)(I:gS ds S gd=some true)(G:elS τ t=some i)(E:Nat.beq i.bytes b=true)(J:evS S v=some (.one (.c (.sl (q.map f)))))(K:evS S y=some vy)(p:Hk vy=some j)(D:j=s.map f)(M:elS τ u=some i)
  (m:AZ τ u (match tk τ t with | some (.sl e)=>e | _=>0)=true)(l: ∀a,(Nat.beq (f a).length i.size&&iG (f a) i.zero)=true)(H:fits (.one (.c (.sl []))) (F.shOf d)=true)(hn: ∀w,g w=some B→Vo P τ An F ds r k (.cons d (Li f w) S) O):Vo P τ An F ds (⟨some d, .call { callee:= .builtin .append,args:= #[v,y],argTypes:= #[t,u] },ty,pos,after,gd⟩::r) k S O:=by
 obtain⟨a,h1,C⟩:=bind_some h; obtain⟨e,A,L⟩:=Ad G; rw[A]at m; refine⟨fun x o=>apd h1 (o.gd I) A L (z14 E) (o.ev J) (by rw[o.ev K]; exact p) D m (fun a=> ?_) (fun a=> ?_) H ((hn a C).run _ (o.put d _))⟩
 ·have:=l a; simp only[z7]at this; exact z14 this.1
 ·have:=l a; simp only[z7]at this; exact this.2
theorem wMk{α:Type}{z:α}{f:α→List T}{t:TypeId}{i:TI}{v y:Operand}{n:Int}{κ κ':IntKind}{b:Nat}(l:decide (0≤n∧n≤maxLen∧b*n≤281474976710656)=true)(p:gS ds S gd=some true)(m:elS τ t=some i)(j:i.bytes=b)(q:evS S v=some (.one (.c (.int κ n))))(s:evS S y=some (.one (.c (.int κ' n))))(hz:f z=i.zero)(o:fits (.one (.c (.sl []))) (F.shOf d)=true)
  (h:Vo P τ An F ds r k (.cons d (Li f (List.replicate n.toNat z)) S) O):Vo P τ An F ds (⟨some d, .makeSlice t v y,ty,pos,after,gd⟩::r) k S O:=by
 subst j; obtain⟨e,u,w⟩:=Ad m; exact⟨fun x g=>mks (of_decide_eq_true l) (g.gd p) u w (g.ev q) (g.ev s) hz o (h.run _ (g.put d _))⟩

end
set_option linter.unusedVariables false

def yE:Loc→Bool
 | .s _ k j=>Nat.beq k 0&&Nat.beq j 0
 | _=>true
theorem qI{l:Loc}(h:yE l=true): ∀i k j,l= .s i k j→k=0:=fun i k j e=>by
 subst e; simp only[yE,z7]at h; exact z14 h.1
def QR(S:SS V):Loc→T→SS V
 | .s i _ _,z=> .cons i (.one (.c z)) S
 | _,_=>S
def QS(O:SS (List T)):Loc→T→SS (List T)
 | .oc o j,z=>(match O.get o with | some cs=> .cons o (cs.set j z) O | none=>O)
 | _,_=>O
def isC:SS V→Loc→Bool
 | S, .s i _ _=>(match S.get i with | some (.one (.c _))=>true | _=>false)
 | _,_=>true

def JY:List Int→Option (List UInt8)
 | []=>some []
 | n::r=>if 0≤n∧n<256 then(JY r).map (UInt8.ofNat n.toNat:: ·)else none

section
variable {P:Program} {τ:TypeId→Option TI} {An:FuncId→FA} {F:FA} {ds:List (Option Nat)} {r:List Oper} {k:Kt} {S:SS V} {O:SS (List T)} {ty:TypeId} {pos:String} {after:Array Edge} {gd:Option (Nat×Bool)} {d:Nat}

theorem Mt.upd{x:D}(a:Mt S O x){l:Loc}{y z:T}(e:yE l=true)(c:isC S l=true)(b:atS S O l=some y):Mt (QR S l z) (QS O l z) (x.upd l z):=by
 cases l with
 | s i k j=>
  simp only[yE,z7]at e; have f:=z14 e.1; have g:=z14 e.2; subst f; subst g; simp only[isC]at c; split at c<;>try cases c
  rename_i w h; rw[RC (a.sl i _ h)]; exact a.put i _
 | oc o j=>
  simp only[atS,z19]at b; obtain⟨cs,h1,m⟩:=b; rw[Lk (a.ob o _ h1)]; simp only[QR,QS,h1]; exact a.setO o _
 | _=>cases b
theorem wIp{α β:Type}{L:List α}{f:α→List T}{g:α→Option β}{o:β}{t:TypeId}{m:TI}{v i:Operand}{l:Loc}{κ:IntKind}{n:Int}(h:(ix L n).bind g=some o)(u:gS ds S gd=some true)(q:elS τ t=some m)(A:evS S v=some (.one (.al l [])))(y:yE l=true)(z:atS S O l=some (.sl (L.map f)))(w:evS S i=some (.one (.c (.int κ n))))(j: ∀a,(f a).length=m.size)
  (s:fits (.one (.pp l [] 0 0)) (F.shOf d)=true)(hn: ∀a,ix L n=some a→g a=some o→Vo P τ An F ds r k (.cons d (.one (.pp l [] n.toNat 0)) S) O):Vo P τ An F ds (⟨some d, .indexAddr t v i,ty,pos,after,gd⟩::r) k S O:=by
 obtain⟨a,h1,p⟩:=bind_some h; obtain⟨e,B,C⟩:=Ad q; exact⟨fun x b=>ixp h1 (b.gd u) B C (b.ev A) (b.at (qI y) z) (b.ev w) (j a) s ((hn a h1 p).run _ (b.put d _))⟩
theorem wSp{α:Type}{L:List α}{f:α→List T}{a v':α}{i:Int}{t:TypeId}{v y:Operand}{p:TI}{l:Loc}{m j:Nat}{xs:List T}(g:ix L i=some a)(w:gS ds S gd=some true)(B:τ t=some p)(C:evS S v=some (.one (.pp l [] m j)))(z:m=i.toNat)(e:(yE l&&isC S l)=true)(o:atS S O l=some (.sl (L.map f)))(D:(evS S y).bind aT=some xs)(A:(Nat.beq xs.length p.size&&Nat.ble (j+xs.length) (f a).length)=true)
  (b:(f a).take j++xs++(f a).drop (j+xs.length)=f v')(h:Vo P τ An F ds r k (QR S l (.sl ((L.set i.toNat v').map f))) (QS O l (.sl ((L.set i.toNat v').map f)))):Vo P τ An F ds (⟨none, .store t v y,ty,pos,after,gd⟩::r) k S O:=by
 subst z; simp only[z7]at e; refine⟨fun x c=>cR (x1:=x.upd l (.sl ((L.set i.toNat v').map f))) (c.gd w) rfl ?_ (h.run _ (c.upd e.1 e.2 o))⟩
 refine WR g B (c.ev C) (c.at (qI e.1) o) ?_ A b
 obtain⟨u,q,s⟩:=z19.1 D; rw[c.ev q]; exact s

theorem wAe{y:Operand}{v':V}(v:V)(b:gS ds S gd=some true)(e:evS S y=some v')(a:v'=v)(c:(gC v&&fits v (F.shOf d))=true)(h:Vo P τ An F ds r k (.cons d v S) O):Vo P τ An F ds (⟨some d, .assign y,ty,pos,after,gd⟩::r) k S O:=by
 subst a; exact wAs b e c h
theorem AU: ∀l:List Int,xH (l.map fun a=> [T.int .u8 a])=JY l
 | []=>rfl
 | n::r=>by simp only[z54,xH,JY,AU r]
theorem wTs{β:Type}{t u e:TypeId}{y:Operand}{L:List Int}{f:Int→List T}{g:List UInt8→Option β}{m:β}(h:(JY L).bind g=some m)(v:gS ds S gd=some true)(z:tk τ t=some (.sl e))(l:(tk τ u=some .str)∧tk τ e=some (.int .u8))(h1:rdS S O y=some (.one (.c (.sl (L.map f)))))(w: ∀a,f a=[.int .u8 a])(s:fits (St' []) (F.shOf d)=true)(hn: ∀o,g o=some m→Vo P τ An F ds r k (.cons d (St' o) S) O):Vo P τ An F ds (⟨some d, .convert t u y,ty,pos,after,gd⟩::r) k S O:=by
 obtain⟨b,q,p⟩:=bind_some h; have i:f=fun a=> [.int .u8 a]:=funext w
 subst i; exact⟨fun x j=>rd (.str b) (j.gd v) rfl rfl (by simp only[iN,z,l.1,l.2,j.rd h1,AU,q,z33]) (fS s) ((hn b p).run _ (j.put d _))⟩

def Sp{α:Type}:List α→Bool
 | []=>true
 | _=>false
theorem wC0{ρ β:Type}{o:Option ρ}{g:ρ→Option β}{l:β}{f:FuncId}{vs:List V}{a:ρ→V}{c:Call}{v:Operand}{caps:List (Nat×Nat)}(h:o.bind g=some l)(u: ∀q,o=some q→Big P τ An (.fn f vs [] (a q) none [] none))(z:gS ds S gd=some true)(w:dQ ⟨some d, .call c,ty,pos,after,gd⟩=some (c,v))(A:evS S v=some (.one (.fn f caps)))
  (j:(Sp (nP F c v)&&Sp caps&&(vE F (some d)).isNone)=true)(i:inA S O [] c.args.toList=some vs)(y: ∀q,(CP (a q)&&fits (a q) (F.shOf d))=true)(hn: ∀q,g q=some l→Vo P τ An F ds r k (.cons d (a q) S) O):Vo P τ An F ds (⟨some d, .call c,ty,pos,after,gd⟩::r) k S O:=by
 obtain⟨q,h1,t⟩:=bind_some h; have e:=y q; simp only[z7]at j e; obtain⟨⟨D,E⟩,G⟩:=j; have m:nP F c v=[]:=by revert D; cases nP F c v<;>simp [Sp]
 have p:caps=[]:=by revert E; cases caps<;>simp [Sp]
 have s:vE F (some d)=none:=by revert G; cases vE F (some d)<;>simp
 subst p; refine⟨fun x b=> ?_⟩
 obtain⟨B,C⟩:=Kh b i; exact cl0 (v':=a q) (u q h1) (b.gd z) w (b.ev A) C m s (by simp only[inV,Uc,Ue]; exact B) (Df e.1) e.2 ((hn q t).run _ (b.put d _))
theorem wC1{ρ β:Type}{o:Option ρ}{g:ρ→Option β}{s:β}{f:FuncId}{vs:List V}{e:ρ→V}{c:Call}{v:Operand}{caps:List (Nat×Nat)}{ob:Nat}{cs:List T}{a:ρ→List T}(h:o.bind g=some s)(u: ∀q,o=some q→Big P τ An (.fn f vs [cs] (e q) none [a q] none))(z:gS ds S gd=some true)(w:dQ ⟨some d, .call c,ty,pos,after,gd⟩=some (c,v))(B:evS S v=some (.one (.fn f caps)))
  (A:nP F c v=[ob])(l:vE F (some d)=none)(m:O.get ob=some cs)(p:inA S O [ob] c.args.toList=some (vs.take c.args.size))(j:(vs.drop c.args.size)=caps.map (fun c=>(V.one (.ptr c.1 c.2)).to (qC [ob])))(y: ∀q,(CP (e q)&&fits (e q) (F.shOf d)&&iG (a q) (F.obOf ob))=true)(hn: ∀q,g q=some s→Vo P τ An F ds r k (.cons d (e q) S) (.cons ob (a q) O)):Vo P τ An F ds (⟨some d, .call c,ty,pos,after,gd⟩::r) k S O:=by
 obtain⟨q,h1,t⟩:=bind_some h; have i:=y q; simp only[z7]at i; refine⟨fun x b=> ?_⟩
 obtain⟨C,D⟩:=Kh b p; exact cl1 (v':=e q) (u q h1) (b.gd z) w (b.ev B) D A l (b.ob _ _ m) (by simp only[inV]; rw[C, ←j,z160]) (Df i.1.1) (by rw[i.1.2,i.2]; rfl) ((hn q t).run _ ((b.put d _).setO ob _))
end
set_option linter.unusedVariables false

section
variable (ds:List (Option Nat)) (F:FA) (τ:TypeId→Option TI) (S:SS V) (O:SS (List T)) (gd:Option (Nat×Bool)) (d:Nat)
def xG{α:Type}(a:Option α):Option α:=match gS ds S gd with
 | some true=>a
 | _=>none
def xMvS(y:Operand):Option V:=xG ds S gd (match evS S y with
 | some v=>bif !(mem d F.al)&&gC v&&fits v (F.shOf d)then some v else none
 | none=>none)
def xAsS(y:Operand):Option V:=xG ds S gd (match evS S y with
 | some v=>bif gC v&&fits v (F.shOf d)then some v else none
 | none=>none)
def xLdS(t:TypeId)(v:Operand):Option V:=xG ds S gd (match ldS τ S O t v with
 | some w=>bif !(mem d F.al)&&fits w (F.shOf d)then some w else none
 | none=>none)
def xFdS(s:TypeId)(v:Operand)(f:Nat):Option V:=xG ds S gd (match fOff τ s f,evS S v with
 | some off,some w=>(match BJ off w with
  | some u=>bif fits u (F.shOf d)then some u else none
  | none=>none)
 | _,_=>none)
def xStS(t:TypeId)(v y:Operand):Option (Nat×List T):=xG ds S gd (stS τ F S O t v y)
def xI2(y z:Operand):Option (IntKind×Int×Int):=xG ds S gd (match rdS S O y,rdS S O z with
 | some (.one (.c (.int κ a))),some (.one (.c (.int κ' b)))=>bif decide (κ=κ')&&fits (.one (.c (.int κ 0))) (F.shOf d)then some (κ,a,b)else none
 | _,_=>none)
def xC2(y z:Operand):Option (IntKind×Int×Int):=xG ds S gd (match rdS S O y,rdS S O z with
 | some (.one (.c (.int κ a))),some (.one (.c (.int κ' b)))=>bif decide (κ=κ')&&fits (Bo true) (F.shOf d)then some (κ,a,b)else none
 | _,_=>none)
def xS2(y z:Operand):Option (List UInt8×List UInt8):=xG ds S gd (match rdS S O y,rdS S O z with
 | some (.one (.c (.str a))),some (.one (.c (.str b)))=>bif fits (Bo true) (F.shOf d)then some (a,b)else none
 | _,_=>none)
def xNo(y:Operand):Option Bool:=xG ds S gd (match rdS S O y with
 | some (.one (.c (.bool a)))=>bif fits (Bo true) (F.shOf d)then some a else none
 | _=>none)
def xPkS(c y z:Operand):Option T:=xG ds S gd (match evS S c with
 | some (.one (.c (.bool b)))=>(match evS S (bif b then y else z)with
  | some (.one (.c t))=>bif scal t&&fits (.one (.c t)) (F.shOf d)then some t else none
  | _=>none)
 | _=>none)
def xEtS(t j:Nat):Option W:=xG ds S gd (match S.get t with
 | some (.tup ws)=>(match ws[j]? with
  | some w=>bif fits (.one w) (F.shOf d)then some w else none
  | none=>none)
 | _=>none)
def xNcS(v:Operand):Option V:=xG ds S gd (match evS S v with
 | some w=>bif isP w&&fits w (F.shOf d)then some w else none
 | none=>none)
def xBxS(t:Nat):Option (List T):=xG ds S gd (match(S.get t).bind aT with
 | some xs=>bif iG xs (F.obOf d)then some xs else none
 | none=>none)
def xAcS(t:TypeId):Option (List T):=xG ds S gd (match zS τ t with
 | some cs=>bif iG cs (F.obOf d)then some cs else none
 | none=>none)
end

section
variable {P:Program} {τ:TypeId→Option TI} {An:FuncId→FA} {F:FA} {ds:List (Option Nat)} {r:List Oper} {k:Kt} {S:SS V} {O:SS (List T)} {ty:TypeId} {pos:String} {after:Array Edge} {gd:Option (Nat×Bool)} {d:Nat}
theorem uW{α:Type}{a:Option α}{b:α}(h:xG ds S gd a=some b):gS ds S gd=some true∧a=some b:=by
 unfold xG at h; split at h
 ·rename_i e; exact⟨e,h⟩
 ·cases h
theorem xMv{y:Operand}{v:V}(f:xMvS ds F S gd d y=some v)(h:Vo P τ An F ds r k (.cons d v S) O):Vo P τ An F ds (⟨some d, .move y,ty,pos,after,gd⟩::r) k S O:=by
 obtain⟨g,f⟩:=uW f; split at f<;>try cases f
 rename_i u e; obtain⟨c,f⟩:=aK f; cases f; exact wMv g e c h
theorem xAs{y:Operand}{v:V}(f:xAsS ds F S gd d y=some v)(h:Vo P τ An F ds r k (.cons d v S) O):Vo P τ An F ds (⟨some d, .assign y,ty,pos,after,gd⟩::r) k S O:=by
 obtain⟨g,f⟩:=uW f; split at f<;>try cases f
 rename_i u e; obtain⟨c,f⟩:=aK f; cases f; exact wAs g e c h
theorem xLd{t:TypeId}{v:Operand}{w:V}(f:xLdS ds F τ S O gd d t v=some w)(h:Vo P τ An F ds r k (.cons d w S) O):Vo P τ An F ds (⟨some d, .load t v,ty,pos,after,gd⟩::r) k S O:=by
 obtain⟨g,f⟩:=uW f; split at f<;>try cases f
 rename_i u e; obtain⟨c,f⟩:=aK f; cases f; exact wLd g e c h
theorem xFd{s:TypeId}{v:Operand}{f:Nat}{u:V}(e:xFdS ds F τ S gd d s v f=some u)(h:Vo P τ An F ds r k (.cons d u S) O):Vo P τ An F ds (⟨some d, .fieldAddr s v f,ty,pos,after,gd⟩::r) k S O:=by
 obtain⟨l,e⟩:=uW e; split at e<;>try cases e
 rename_i off w g i; split at e<;>try cases e
 rename_i m j; obtain⟨c,e⟩:=aK e; cases e; exact wFd l g i j c h
theorem xSt{t:TypeId}{v y:Operand}{ob:Nat}{cs:List T}(c:xStS ds F τ S O gd t v y=some (ob,cs))(h:Vo P τ An F ds r k S (.cons ob cs O)):Vo P τ An F ds (⟨none, .store t v y,ty,pos,after,gd⟩::r) k S O:=by
 obtain⟨e,c⟩:=uW c; exact wSt e c h
section
variable {t t2:TypeId} {y z:Operand} {κ:IntKind} {a b:Int}
theorem Np(e:xI2 ds F S O gd d y z=some (κ,a,b)):gS ds S gd=some true∧rdS S O y=some (.one (.c (.int κ a)))∧rdS S O z=some (.one (.c (.int κ b)))∧fits (.one (.c (.int κ 0))) (F.shOf d)=true:=by
 obtain⟨i,e⟩:=uW e; split at e<;>try cases e
 rename_i g h; obtain⟨c,f⟩:=aK e; clear e; simp only[z7,z36]at c; obtain⟨rfl,c⟩:=c; cases f; exact⟨i,g,h,c⟩
theorem FM(e:xC2 ds F S O gd d y z=some (κ,a,b)):gS ds S gd=some true∧rdS S O y=some (.one (.c (.int κ a)))∧rdS S O z=some (.one (.c (.int κ b)))∧fits (Bo true) (F.shOf d)=true:=by
 obtain⟨i,e⟩:=uW e; split at e<;>try cases e
 rename_i g h; obtain⟨c,f⟩:=aK e; clear e; simp only[z7,z36]at c; obtain⟨rfl,c⟩:=c; cases f; exact⟨i,g,h,c⟩
theorem SI{a b:List UInt8}(e:xS2 ds F S O gd d y z=some (a,b)):gS ds S gd=some true∧rdS S O y=some (.one (.c (.str a)))∧rdS S O z=some (.one (.c (.str b)))∧fits (Bo true) (F.shOf d)=true:=by
 obtain⟨h,e⟩:=uW e; split at e<;>try cases e
 rename_i f g; obtain⟨c,e⟩:=aK e; cases e; exact⟨h,f,g,c⟩
theorem xAdd(i:xI2 ds F S O gd d y z=some (κ,a,b))(h:Vo P τ An F ds r k (.cons d (.one (.c (.int κ (κ.wrap (a+b))))) S) O):Vo P τ An F ds (⟨some d, .binOp .add t y z t2,ty,pos,after,gd⟩::r) k S O:=by
 obtain⟨h1,e,f,g⟩:=Np i; exact wAdd h1 e f g h
theorem xSub(i:xI2 ds F S O gd d y z=some (κ,a,b))(h:Vo P τ An F ds r k (.cons d (.one (.c (.int κ (κ.wrap (a - b))))) S) O):Vo P τ An F ds (⟨some d, .binOp .sub t y z t2,ty,pos,after,gd⟩::r) k S O:=by
 obtain⟨h1,e,f,g⟩:=Np i; exact wSub h1 e f g h
theorem xMul(i:xI2 ds F S O gd d y z=some (κ,a,b))(h:Vo P τ An F ds r k (.cons d (.one (.c (.int κ (κ.wrap (a*b))))) S) O):Vo P τ An F ds (⟨some d, .binOp .mul t y z t2,ty,pos,after,gd⟩::r) k S O:=by
 obtain⟨h1,e,f,g⟩:=Np i; exact wMul h1 e f g h
theorem xEq(g:xC2 ds F S O gd d y z=some (κ,a,b))(h:Vo P τ An F ds r k (.cons d (Bo (decide (a=b))) S) O):Vo P τ An F ds (⟨some d, .binOp .eql t y z t2,ty,pos,after,gd⟩::r) k S O:=by
 obtain⟨h1,c,e,f⟩:=FM g; exact wEq h1 c e f h
theorem xNe(g:xC2 ds F S O gd d y z=some (κ,a,b))(h:Vo P τ An F ds r k (.cons d (Bo (!decide (a=b))) S) O):Vo P τ An F ds (⟨some d, .binOp .neq t y z t2,ty,pos,after,gd⟩::r) k S O:=by
 obtain⟨h1,c,e,f⟩:=FM g; exact wNe h1 c e f h
theorem xLt(g:xC2 ds F S O gd d y z=some (κ,a,b))(h:Vo P τ An F ds r k (.cons d (Bo (decide (a<b))) S) O):Vo P τ An F ds (⟨some d, .binOp .lss t y z t2,ty,pos,after,gd⟩::r) k S O:=by
 obtain⟨h1,c,e,f⟩:=FM g; exact wLt h1 c e f h
theorem xLe(g:xC2 ds F S O gd d y z=some (κ,a,b))(h:Vo P τ An F ds r k (.cons d (Bo (decide (a≤b))) S) O):Vo P τ An F ds (⟨some d, .binOp .leq t y z t2,ty,pos,after,gd⟩::r) k S O:=by
 obtain⟨h1,c,e,f⟩:=FM g; exact wLe h1 c e f h
theorem xGt(g:xC2 ds F S O gd d y z=some (κ,a,b))(h:Vo P τ An F ds r k (.cons d (Bo (decide (b<a))) S) O):Vo P τ An F ds (⟨some d, .binOp .gtr t y z t2,ty,pos,after,gd⟩::r) k S O:=by
 obtain⟨h1,c,e,f⟩:=FM g; exact wGt h1 c e f h
theorem xGe(g:xC2 ds F S O gd d y z=some (κ,a,b))(h:Vo P τ An F ds r k (.cons d (Bo (decide (b≤a))) S) O):Vo P τ An F ds (⟨some d, .binOp .geq t y z t2,ty,pos,after,gd⟩::r) k S O:=by
 obtain⟨h1,c,e,f⟩:=FM g; exact wGe h1 c e f h
theorem xEs{a b:List UInt8}(g:xS2 ds F S O gd d y z=some (a,b))(h:Vo P τ An F ds r k (.cons d (Bo (decide (a=b))) S) O):Vo P τ An F ds (⟨some d, .binOp .eql t y z t2,ty,pos,after,gd⟩::r) k S O:=by
 obtain⟨h1,c,e,f⟩:=SI g; exact wEs h1 c e f h
theorem xNs{a b:List UInt8}(g:xS2 ds F S O gd d y z=some (a,b))(h:Vo P τ An F ds r k (.cons d (Bo (!decide (a=b))) S) O):Vo P τ An F ds (⟨some d, .binOp .neq t y z t2,ty,pos,after,gd⟩::r) k S O:=by
 obtain⟨h1,c,e,f⟩:=SI g; exact wNs h1 c e f h
theorem xNot{b:Bool}(e:xNo ds F S O gd d y=some b)(h:Vo P τ An F ds r k (.cons d (Bo (!b)) S) O):Vo P τ An F ds (⟨some d, .unOp .not t y,ty,pos,after,gd⟩::r) k S O:=by
 obtain⟨g,e⟩:=uW e; split at e<;>try cases e
 rename_i f; obtain⟨c,e⟩:=aK e; cases e; exact wNot g f c h
end
theorem xPk{c y z:Operand}{t:T}(e:xPkS ds F S gd d c y z=some t)(h:Vo P τ An F ds r k (.cons d (.one (.c t)) S) O):Vo P τ An F ds (⟨some d, .pick c y z,ty,pos,after,gd⟩::r) k S O:=by
 obtain⟨i,e⟩:=uW e; split at e<;>try cases e
 rename_i b f; split at e<;>try cases e
 rename_i j g; obtain⟨c,e⟩:=aK e; cases e; exact wPk i f g c h
theorem xEt{j t:Nat}{w:W}(e:xEtS ds F S gd d t j=some w)(h:Vo P τ An F ds r k (.cons d (.one w) S) O):Vo P τ An F ds (⟨some d, .extract (.tmp t) j,ty,pos,after,gd⟩::r) k S O:=by
 obtain⟨i,e⟩:=uW e; split at e<;>try cases e
 rename_i l f; split at e<;>try cases e
 rename_i w' g; obtain⟨c,e⟩:=aK e; cases e; exact wEt i f g c h
theorem xNc{v:Operand}{w:V}(e:xNcS ds F S gd d v=some w)(h:Vo P τ An F ds r k (.cons d w S) O):Vo P τ An F ds (⟨some d, .nilCheck v,ty,pos,after,gd⟩::r) k S O:=by
 obtain⟨g,e⟩:=uW e; split at e<;>try cases e
 rename_i w' f; obtain⟨c,e⟩:=aK e; cases e; exact wNc g f c h
theorem xBx{e:TypeId}{t:Nat}{xs:List T}(f:xBxS ds F S gd d t=some xs)(h:Vo P τ An F ds r k (.cons d (.one (.ptr d 0)) S) (.cons d xs O)):Vo P τ An F ds (⟨some d, .box e (.tmp t),ty,pos,after,gd⟩::r) k S O:=by
 obtain⟨l,f⟩:=uW f; split at f<;>try cases f
 rename_i xs' g; obtain⟨u,i,j⟩:=z19.1 g; obtain⟨c,f⟩:=aK f; cases f; exact wBx l i j c h
theorem xAc{t:TypeId}{cs:List T}(e:xAcS ds F τ S gd d t=some cs)(h:Vo P τ An F ds r k (.cons d (.one (.ptr d 0)) S) (.cons d cs O)):Vo P τ An F ds (⟨some d, .alloc t,ty,pos,after,gd⟩::r) k S O:=by
 obtain⟨i,e⟩:=uW e; split at e<;>try cases e
 rename_i f g; obtain⟨c,e⟩:=aK e; cases e; exact wAc i g c h
theorem xAz{t:TypeId}(cs:List T)(c:xAcS ds F τ S gd d t=some cs)(h:Vo P τ An F ds r k (.cons d (.one (.ptr d 0)) S) (.cons d cs O)):Vo P τ An F ds (⟨some d, .alloc t,ty,pos,after,gd⟩::r) k S O:=xAc c h
theorem xLn{α:Type}{L:List α}{f:α→List T}{t:TypeId}{y:Operand}(i:(gS ds S gd,Hi τ t&&fits (I64 0) (F.shOf d),rdS S O y)=(some true,true,some (.one (.c (.sl (L.map f))))))(h:Vo P τ An F ds r k (.cons d (I64 L.length) S) O):Vo P τ An F ds (⟨some d, .call { callee:= .builtin .len,args:= #[y],argTypes:= #[t] },ty,pos,after,gd⟩::r) k S O:=by
 simp only[z38,z7]at i; obtain⟨h1,⟨g,j⟩,l⟩:=i; unfold Hi at g; split at g
 ·rename_i e m; exact wLn h1 m l j h
 ·cases g
theorem xLs{s:List UInt8}{t:TypeId}{y:Operand}(e:(gS ds S gd,tk τ t,fits (I64 0) (F.shOf d),rdS S O y)=(some true,some .str,true,some (.one (.c (.str s)))))(h:Vo P τ An F ds r k (.cons d (I64 s.length) S) O):Vo P τ An F ds (⟨some d, .call { callee:= .builtin .len,args:= #[y],argTypes:= #[t] },ty,pos,after,gd⟩::r) k S O:=by
 simp only[z38]at e; obtain⟨h1,f,g,i⟩:=e; exact wLs h1 f i g h
theorem xC0{ρ β:Type}{o:Option ρ}{g:ρ→Option β}{j:β}{f:FuncId}{vs:List V}{e:ρ→V}{c:Call}{v:Operand}{caps:List (Nat×Nat)}(h:o.bind g=some j)(u: ∀ {q},o=some q→Big P τ An (.fn f vs [] (e q) none [] none))
  (i:(gS ds S gd,dQ ⟨some d, .call c,ty,pos,after,gd⟩,evS S v,Sp (nP F c v)&&Sp caps&&(vE F (some d)).isNone,inA S O [] c.args.toList)=(some true,some (c,v),some (.one (.fn f caps)),true,some vs))(hn: ∀q,g q=some j→Vo P τ An F ds r k (.cons d (e q) S) O)(w: ∀q,(CP (e q)&&fits (e q) (F.shOf d))=true:=by exact fun _=>rfl):Vo P τ An F ds (⟨some d, .call c,ty,pos,after,gd⟩::r) k S O:=by
 simp only[z38]at i; obtain⟨h1,l,m,p,s⟩:=i; exact wC0 h (fun _=>u) h1 l m p s w hn
theorem xC1{ρ β:Type}{o:Option ρ}{g:ρ→Option β}{l:β}{f:FuncId}{vs:List V}{i:ρ→V}{c:Call}{v:Operand}{caps:List (Nat×Nat)}{ob:Nat}{cs:List T}{e:ρ→List T}(h:o.bind g=some l)(B: ∀ {q},o=some q→Big P τ An (.fn f vs [cs] (i q) none [e q] none))
  (j:(gS ds S gd,dQ ⟨some d, .call c,ty,pos,after,gd⟩,evS S v,nP F c v,vE F (some d),O.get ob,inA S O [ob] c.args.toList,vs.drop c.args.size)=(some true,some (c,v),some (.one (.fn f caps)),[ob],none,some cs,some (vs.take c.args.size),caps.map (fun c=>(V.one (.ptr c.1 c.2)).to (qC [ob]))))(hn: ∀q,g q=some l→Vo P τ An F ds r k (.cons d (i q) S) (.cons ob (e q) O))(C: ∀q,(CP (i q)&&fits (i q) (F.shOf d)&&iG (e q) (F.obOf ob))=true:=by exact fun _=>rfl):Vo P τ An F ds (⟨some d, .call c,ty,pos,after,gd⟩::r) k S O:=by
 simp only[z38]at j; obtain⟨h1,m,p,s,u,w,x,A⟩:=j; exact wC1 h (fun _=>B) h1 m p s u w x A C hn
theorem xIx{α β:Type}{L:List α}{f:α→List T}{g:α→Option β}{m:β}{t:TypeId}{j:TI}{v i:Operand}{κ:IntKind}{n:Int}{row:α→List T}(h:(ix L n).bind g=some m)(e: ∀a,f a=row a)(l:(gS ds S gd,elS τ t,evS S v,evS S i)=(some true,some j,some (.one (.c (.sl (L.map f)))),some (.one (.c (.int κ n)))))
  (hn: ∀a,g a=some m→Vo P τ An F ds r k (.cons d (.one (.cp (row a))) S) O)(s: ∀a,(Nat.beq (row a).length j.size&&fits (.one (.cp (row a))) (F.shOf d))=true:=by exact fun _=>rfl):Vo P τ An F ds (⟨some d, .indexAddr t v i,ty,pos,after,gd⟩::r) k S O:=by
 simp only[z38]at l; obtain⟨h1,o,p,q⟩:=l; exact wIx h h1 o p q e s hn

theorem oRs{id:Nat}{ops:List Oper}{c:Bool}{b:Code}(h:Vo P τ An F (ops.map (·.dst)) ops (.seq b k) S O)(e:dL id F.mks=none:=by exact rfl):Vo P τ An F ds [] (.seq (.seq (.region id ops.toArray c) b) k) S O:=oNl (cRs h e)
end

def kOk(q:K)(x:T):Bool:=match q with
 | .F=>true
 | .S=>scal x
 | _=>false
def Uk(f:Nat→K):Nat→List T→Bool
 | _,[]=>true
 | j,x::r=>kOk (f j) x&&Uk f (j+1) r
theorem Ol{f:Nat→K}: ∀ {l:List T} {a:Nat},Uk f a l=true→ ∀ {j:Nat} {x:T},l[j]? =some x→kOk (f (a+j)) x=true
 | [],_,_,j,x,h=>by simp at h
 | p::r,a,h,0,x,b=>by
  simp only[Uk,z7]at h; simp only[z20,z9]at b
  subst b; exact h.1
 | p::r,a,h,j+1,x,b=>by
  simp only[Uk,z7]at h; simp only[z21]at b
  have:=Ol h.2 b; rwa[show a+1+j=a+(j+1)by omega]at this
theorem Vb{w:World}{q:K}{l:Loc}{c:Value}{x:T}(a:kOk q x=true)(h:Rd (frz G.old w) w c x):LF G.old w q l c x:=by
 cases q with
 | F=>exact h
 | S=>exact⟨a,h.nowhere a⟩
 | _=>cases a
theorem rv_ag{w:World}{cs:Array Value}{xs:List T}{κ:Nat→Nat→K}{l:Nat→Nat→Loc}(h:CR w cs.toList xs)(d:Uk (κ 0) 0 xs=true):RV G.old w κ l (.agg cs) (.one (.ag xs)):=by
 obtain⟨h1,c⟩:=h; refine⟨cs,rfl,by simpa using h1,fun j x a=> ?_⟩
 have b:j<cs.toList.length:=by rw[h1]; exact(z74.1 a).1
 obtain⟨n1,e⟩:=c j _ x (z16 b) a
 refine⟨cs.toList[j],by simp at b ⊢,n1,Vb ?_ e⟩
 have:=Ol d a; rwa[z30]at this
theorem rv_c{w:World}{v:Value}{x:T}{κ:Nat→Nat→K}{l:Nat→Nat→Loc}(h:CR w [v] [x])(a:kOk (κ 0 0) x=true):RV G.old w κ l v (.one (.c x)):=by
 obtain⟨n1,b⟩:=h.2 0 v x rfl rfl; exact⟨n1,Vb a b⟩
set_option linter.unusedVariables false
section
variable {P:Program} {τ:TypeId→Option TI} {An:FuncId→FA} {F:FA} {ds:List (Option Nat)} {r:List Oper} {k:Kt} {S:SS V} {O:SS (List T)} {ty:TypeId} {pos:String} {after:Array Edge} {gd:Option (Nat×Bool)} {d:Nat}
end
set_option linter.unusedVariables false

theorem QU{α:Type}{L:List α}{f:α→List T}{a:α}{i:Int}{j:Nat}{y:T}(h:ix L i=some a)(c:(f a)[j]? =some y):nav (.sl (L.map f)) [(i.toNat,j)]=some y:=by
 unfold ix at h; split at h<;>try cases h
 have b:(L.map f)[i.toNat]? =some (f a):=by rw[z28,h]; rfl
 have e: ∀z:T,nav z []=some z:=fun z=>by cases z<;>rfl
 simp only[nav,b,z8,c,e]
theorem BF{α:Type}{L:List α}{f:α→List T}{a c:α}{i:Int}{j:Nat}{y0 y:T}(h:ix L i=some a)(l:(f a)[j]? =some y0)(g:(f a).set j y=f c):bV (.sl (L.map f)) [(i.toNat,j)] y= .sl ((L.set i.toNat c).map f):=by
 unfold ix at h; split at h<;>try cases h
 have b:(L.map f)[i.toNat]? =some (f a):=by rw[z28,h]; rfl
 have e: ∀z:T,bV z [] y=y:=fun z=>by cases z<;>rfl
 rw[sY b l,e,g,List.map_set]
theorem nav0(z:T):nav z []=some z:=by cases z<;>rfl
theorem WT(z y:T):bV z [] y=y:=by cases z<;>rfl

section
variable {P:Program} {τ:TypeId→Option TI} {An:FuncId→FA} {F:FA} {ds:List (Option Nat)} {r:List Oper} {k:Kt} {S:SS V} {O:SS (List T)} {ty:TypeId} {pos:String} {after:Array Edge} {gd:Option (Nat×Bool)} {d:Nat}
theorem wLq{α:Type}{L:List α}{f:α→List T}{a:α}{i:Int}{t:TypeId}{v:Operand}{D:TI}{l:Loc}{m j:Nat}{cs:List T}(b:ix L i=some a)(q:gS ds S gd=some true)(B:τ t=some D)(C:evS S v=some (.one (.pp l [] m j)))(y:m=i.toNat)(s:yE l=true)(z:atS S O l=some (.sl (L.map f)))(c:mem d F.al=true)(o:f a=cs)(u:(Hi τ t&&slT (cs[j]?))=true)(p:fits (.one (.al l [(0,0)])) (F.shOf d)=true)
  (h:Vo P τ An F ds r k (.cons d (.one (.al l [(i.toNat,j)])) S) O):Vo P τ An F ds (⟨some d, .load t v,ty,pos,after,gd⟩::r) k S O:=by
 subst y o; unfold ix at b; split at b<;>try cases b
 have g:(L.map f)[i.toNat]? =some (f a):=by rw[z28,b]; rfl
 refine⟨fun x e=>cR (x1:=x.put d (.one (.al l [(i.toNat,j)]))) (e.gd q) rfl ?_ (h.run _ (e.put d _))⟩
 show(bif mem d F.tk&&(!(mem d F.al)&&fW (ev x.sl v))then uB τ F x d t v else nS τ F x d t v (mem d F.al))=_
 rw[show(mem d F.tk&&(!(mem d F.al)&&fW (ev x.sl v)))=false by rw[c]; simp,z12]
 unfold nS; simp only[B,e.ev C,c,e.at (qI s) z,z8,nav,g,z15,u,z70]; refine iI ?_
 revert p
 cases F.shOf d with
 | tup E=>simp [fits]
 | one w=>cases w<;>simp [fits,bO]

theorem xIo{ρ β:Type}{o:Option ρ}{g:ρ→Option β}{M:β}{f:FuncId}{u:List V}{b:ρ→V}{es':ρ→List (List T)}{c:Call}{v:Operand}{t:Nat}{xs:List Operand}{l:Loc}{p:List (Nat×Nat)}{x0:T}{E:List (List T)}(z:ρ→T)(h:o.bind g=some M)(Q: ∀ {q},o=some q→Big P τ An (.fn f (.one (.c (.sl E))::u) [] (b q) (some (.sl (es' q))) [] none))
  (K:(gS ds S gd,dQ ⟨some d, .call c,ty,pos,after,gd⟩,evS S v,uX F c,c.args.toList,S.get t,atS S O l,inA S O [] xs)=(some true,some (c,v),some (.one (.fn f [])),true, .tmp t::xs,some (.one (.al l p)),some x0,some u))(j:nav x0 p=some (.sl E))(hz: ∀q,bV x0 p (.sl (es' q))=z q)
  (hn: ∀q,g q=some M→Vo P τ An F ds r k (QR (.cons d (b q) S) l (z q)) (QS O l (z q)))(R: ∀q,(CP (b q)&&fits (b q) (F.shOf d))=true:=by exact fun _=>rfl)(U: ∀q,(yE l&&isC (.cons d (b q) S) l,atS (.cons d (b q) S) O l)=(true,some x0):=by exact fun _=>rfl):Vo P τ An F ds (⟨some d, .call c,ty,pos,after,gd⟩::r) k S O:=by
 obtain⟨q,h1,N⟩:=bind_some h; simp only[z38]at K; obtain⟨Y,Z,k3,k4,J,k6,k7,k8⟩:=K; have m:=R q; simp only[z7]at m; have C:=U q; simp only[z38,z7]at C; obtain⟨⟨L,m2⟩,m3⟩:=C; have H:(b q).to (wW [] none)=b q:=Df m.1; refine⟨fun x w=> ?_⟩
 obtain⟨W,X⟩:=Kh w k8; have s:x.sl t= .one (.al l p):=w.sl t _ k6; have y:x.at l=some x0:=w.at (qI L) k7; have a:x.call (some d) none [] (DR (b q) (some (.sl (es' q))) [] none)=x.put d (b q):=D.ext (fun i=>by
  simp only[D.call,D.put,z9]; by_cases e:d=i
  ·rw[z17 e,z17 e.symm]; exact H
  ·rw[z11 e,z11 (fun h=>e h.symm)]) (fun o=>by simp [D.call,D.put,rV])
 have G:c.args.toList.all (fun v=>gC (ev x.sl v))=true:=by
  rw[J,z91,X,Sj]; show gC (x.sl t)=true; rw[s]; rfl
 have I:inV x c [] []= .one (.c (.sl E))::u:=by
  simp only[inV,J,z54,Uc,Ue,W]; congr 1
  show(vD x.sl x.ob (x.sl t)).to _=_; have B:atL x.sl x.ob l=some x0:=y; rw[s]; simp only[vD,B,z8,j]; rfl
 refine TZ (w.gd Y) Z k4 (w.ev k3) G J s y j I (Q h1) ?_ ?_
 ·show bQ F (x.call (some d) none [] _) (some d) none []=true
  rw[a]; simp [bQ,yI,D.put,m.2]
 ·show bD P τ An F ds r ((x.call (some d) none [] _).upd l _) _
  rw[a,hz q]; exact(hn q N).run _ ((w.put d _).upd L m2 m3)
end

section
variable {P:Program} {τ:TypeId→Option TI} {An:FuncId→FA} {F:FA} {S:SS V} {O:SS (List T)}
def FQi(τ:TypeId→Option TI)(F:FA)(rs:List ResultVar)(ob:List (List T))(r:V)(y:T)(a:List (List T))(nw:Option (List T))(e:Ek)(x:D):Prop:=FQ τ F rs ob r a nw e x∧ ∃z,F.io=some z∧x.sl z= .one (.c y)
def ioS(F:FA)(S:SS V):Option V:=F.io.bind S.get
theorem eRi{rs:List ResultVar}{ob a:List (List T)}{r:V}{y:T}{nw:Option (List T)}{f:List W}(h1:JZ τ S O rs=some f)(i:(Ib f).to (uO F.n0)=r)(j:Qy O 0 ob=some a)(l:nwS O F.n0=some nw)(b:ioS F S=some (.one (.c y))):Hl (FQi τ F rs ob r y a nw) .r S O:=⟨fun x e=>by
 unfold ioS at b; obtain⟨z,g,h⟩:=z19.1 b; exact⟨(eR h1 i j l).run x e,z,g,e.sl z _ h⟩⟩
theorem eNi{rs:List ResultVar}{ob a:List (List T)}{r:V}{y:T}{nw:Option (List T)}{f:List W}(h1:JZ τ S O rs=some f)(i:(Ib f).to (uO F.n0)=r)(j:Qy O 0 ob=some a)(l:nwS O F.n0=some nw)(b:ioS F S=some (.one (.c y))):Hl (FQi τ F rs ob r y a nw) .n S O:=⟨fun x e=>by
 unfold ioS at b; obtain⟨z,g,h⟩:=z19.1 b; exact⟨(eN h1 i j l).run x e,z,g,e.sl z _ h⟩⟩
theorem bFi{f:FuncId}{fn:Func}{c:Code}{vs:List V}{ob a:List (List T)}{r:V}{y:T}{nw:Option (List T)}(p:P.funcs[f]? =some fn)(o:fn.body=some c)(b:(pG (An f) 0 vs&&qK (An f) 0 ob&&(An f).io.isSome)=true)
  (h:Vc P τ An (An f) c (.top (FQi τ (An f) fn.results.toList ob r y a nw)) (.many (Sm 0 vs) .nil) (.many (Sn 0 ob) .nil)):Big P τ An (.fn f vs ob r (some y) a nw):=by
 simp only[z7]at b; obtain⟨z,hz⟩:=z114.1 b.2; refine Big.ofIo p o b.1.1 b.1.2 hz (CW (fun e x q=> ?_) (h.run _ Mt.start))
 obtain⟨⟨h0,s,h1,j,l,m⟩,t,g,i⟩:=q; rw[hz]at g; cases g; exact⟨h0,s,h1,j,l,m,i⟩
end
set_option linter.unusedVariables false

theorem PW(x:D)(o:Nat)(b a:List T):(x.setO o b).setO o a=x.setO o a:=D.ext (fun _=>rfl) (fun i=>by
 simp only[D.setO]; by_cases e:i=o
 ·rw[z17 e,z17 e]
 ·rw[z11 e,z11 e,z11 e])
theorem OQ{o c:Nat}{a:List T}{f:Int}: ∀ {rs:List MR} {x:D} {cells:List T} {k:Int},x.ob o=some cells→BK c rs cells k a f→D.updM o c rs x=x.setO o a
 | [],x,cells,k,h,b=>by
  obtain⟨rfl,_⟩:=b; refine D.ext (fun _=>rfl) (fun i=> ?_)
  simp only[D.updM,D.setO]; by_cases e:i=o
  ·rw[z17 e,e,h]
  ·rw[z11 e]
 | m::r,x,cells,k,h,b=>by
  obtain⟨h1,g,d⟩:=b; simp only[D.updM]; rw[Lk h,OQ (x:=x.setO o _) (by simp [D.setO]) d,PW]
section
variable {P:Program} {τ:TypeId→Option TI} {An:FuncId→FA} {F:FA} {S:SS V} {O:SS (List T)} {κ:Kt}
def allB(P:Program)(τ:TypeId→Option TI)(An:FuncId→FA):List MR→Prop
 | []=>True
 | m::r=>Big P τ An (.fn m.g [.one (.c (.sl m.es)), .one (.c (.int .i64 m.k))] [] (.one (.c (.int .i64 m.k1))) (some (.sl m.es')) [] none)∧allB P τ An r
theorem PF: ∀ {rs:List MR},allB P τ An rs→ ∀m∈rs,Big P τ An (.fn m.g [.one (.c (.sl m.es)), .one (.c (.int .i64 m.k))] [] (.one (.c (.int .i64 m.k1))) (some (.sl m.es')) [] none)
 | m::r,h,x,a=>by
  rcases Qq.1 a with rfl | a
  ·exact h.1
  ·exact PF h.2 x a
theorem cMk{id:Nat}{s:TypeId}{i:TI}{f:FuncId}{c:Call}{o p z tk t y r q r2:Nat}{cells a:List T}{k v:Int}{R U W X:TypeId}{E G H I:String}{f1 f2 A B:Array Edge}{b:Code}(rs:List MR)(D:tT P f i.agg i.size (rs.map fun m=>(m.off,m.g)))(C:allB P τ An rs)
  (u:(dL id F.mks,τ s,S.get z,S.get tk,O.get o,c.callee,c.args)=(some (rs.map fun m=>(m.off,m.g)),some i,some (.one (.ptr o p)),some (vI k),some cells, .value (.func f), #[.tmp t, .tmp y]))(l:(Nat.ble (p+i.size) cells.length&&(i.agg||Nat.beq i.size 1)&&Nat.beq r2 r)=true)(d:BK p rs cells k a v)
  (h:Vc P τ An F b κ (.cons q (vI v) S) (.cons o a O)):Vc P τ An F (.seq (.region id #[⟨some t, .load s (.tmp z),R,E,f1,none⟩,⟨some y, .move (.tmp tk),U,G,f2,none⟩,⟨some r, .call c,W,H,A,none⟩,⟨some q, .assign (.tmp r2),X,I,B,none⟩] false) b) κ S O:=by
 simp only[z38]at u; obtain⟨J,K,L,M,w,N,Q⟩:=u; simp only[z7,z48]at l; refine⟨fun x j=> .inr ⟨_, .regionM J K (fun e=> ?_) D (z29 l.1.1) N Q (z14 l.2) (j.sl _ _ L) (j.sl _ _ M) (j.ob _ _ w) d (PF C), ?_⟩⟩
 ·rcases l.1.2 with h1 | h1
  ·rw[h1]at e; cases e
  ·exact z14 h1
 ·rw[OQ (j.ob _ _ w) d]
  exact h.run _ ((j.setO o a).put q _)
end
set_option linter.unusedVariables false

section
variable {P:Program} {τ:TypeId→Option TI} {An:FuncId→FA} {F:FA} {ds:List (Option Nat)} {r:List Oper} {ty:TypeId} {pos:String} {after:Array Edge} {gd:Option (Nat×Bool)} {d:Nat} {x:D} {K:D→Prop}
end
section
variable {P:Program} {τ:TypeId→Option TI} {An:FuncId→FA} {F:FA} {ds:List (Option Nat)} {r:List Oper} {k:Kt} {S:SS V} {O:SS (List T)} {ty:TypeId} {pos:String} {after:Array Edge} {gd:Option (Nat×Bool)} {d:Nat}
end
set_option linter.unusedVariables false

section
variable {P:Program} {τ:TypeId→Option TI} {An:FuncId→FA} {F:FA} {ds:List (Option Nat)} {r:List Oper} {k:Kt} {S:SS V} {O:SS (List T)} {ty:TypeId} {pos:String} {after:Array Edge} {gd:Option (Nat×Bool)} {d:Nat}
theorem Bc{α β:Type}{L:List α}{f:α→List T}{a v':α}{i:Int}{t:TypeId}{v y:Operand}{o:TI}{l:Loc}{m j:Nat}{xs:List T}{g:List α→Option β}{e:β}(h:(some (L.set i.toNat v')).bind g=some e)(c:ix L i=some a)(p:gS ds S gd=some true)(x:τ t=some o)(z:evS S v=some (.one (.pp l [] m j)))(s:m=i.toNat)(q:(yE l&&isC S l)=true)(w:atS S O l=some (.sl (L.map f)))(A:(evS S y).bind aT=some xs)(u:(Nat.beq xs.length o.size&&Nat.ble (j+xs.length) (f a).length)=true)
  (b:(f a).take j++xs++(f a).drop (j+xs.length)=f v')(hn: ∀M,g M=some e→Vo P τ An F ds r k (QR S l (.sl (M.map f))) (QS O l (.sl (M.map f)))):Vo P τ An F ds (⟨none, .store t v y,ty,pos,after,gd⟩::r) k S O:=
 wSp c p x z s q w A u b (hn _ h)
theorem QQ{ρ β α:Type}{o:Option ρ}{g:ρ→List α→Option β}{m:β}{f:FuncId}{i:List V}{a:ρ→V}{es':ρ→List (List T)}{c:Call}{v:Operand}{t:Nat}{xs:List Operand}{l:Loc}{p:List (Nat×Nat)}{x0:T}{j:List (List T)}(rf:α→List T)(Z:ρ→List α)(h:(o.bind fun q=>(some (Z q)).bind (g q))=some m)(s: ∀ {q},o=some q→Big P τ An (.fn f (.one (.c (.sl j))::i) [] (a q) (some (.sl (es' q))) [] none))
  (x:(gS ds S gd,dQ ⟨some d, .call c,ty,pos,after,gd⟩,evS S v,uX F c,c.args.toList,S.get t,atS S O l,inA S O [] xs)=(some true,some (c,v),some (.one (.fn f [])),true, .tmp t::xs,some (.one (.al l p)),some x0,some i))(b:nav x0 p=some (.sl j))(hz: ∀q,bV x0 p (.sl (es' q))= .sl ((Z q).map rf))
  (hn: ∀q M,g q M=some m→Vo P τ An F ds r k (QR (.cons d (a q) S) l (.sl (M.map rf))) (QS O l (.sl (M.map rf))))(u: ∀q,(CP (a q)&&fits (a q) (F.shOf d))=true:=by exact fun _=>rfl)(w: ∀q,(yE l&&isC (.cons d (a q) S) l,atS (.cons d (a q) S) O l)=(true,some x0):=by exact fun _=>rfl):Vo P τ An F ds (⟨some d, .call c,ty,pos,after,gd⟩::r) k S O:=
 xIo (fun q=> .sl ((Z q).map rf)) h s x b hz (fun q e=>hn q _ e) u w
end

theorem Fd{P:Program}{f:FuncId}{fn:Func}{c:Code}(e:P.funcs[f]? =some fn)(b:fn.body=some c)(a:fn.name≠ "runtime.NumGoroutine")(us:Array Value)(w:World):(callFunc f us).run P w= .ok (.enter f us) w:=by
 simp [callFunc,run_program,e,a,b]
theorem Ro{us:Array Value}{a b:Value}(h:us.size=2)(h0:us.getD 0 undef=a)(h1:us.getD 1 undef=b):us= #[a,b]:=by
 apply Array.ext
 ·rw[h]; rfl
 ·intro i e c
  have:i=0∨i=1:=by simp at c; omega
  rcases this with rfl | rfl
  ·rw[←h0]; simp [Array.getD,e]
  ·rw[←h1]; simp [Array.getD,e]
theorem Oh{P:Program}{g g':G}{w w':World}{f:B}{x:D}{us:Array Value}{n:Nat}(e:bP g w (f.S n x) ⟨us,[]⟩ g w){κ:K}{u m:Value}{t:T}(a:pO g w g' w')(b:GOk g' w')(l:g'.β=g.β)(j:nV u∧LF g' w' κ (.s 0 0 0) u t):
  bP g w (({ sl:=[(0,[[κ]])],ob:=[] }:B).S 2 (DR (.one (.c t)) none [] none)) ⟨#[u,m],[]⟩ g' w':=by
 have _:=P; refine⟨a,b,rfl,rfl,fun i=> ?_,fun o cells h=> ?_,fun i h1 p=> ?_,fun o _=>by rw[l],by show 2≤par; decide⟩
 ·cases i with
  | zero=>exact j
  | succ i=>exact trivial
 ·simp only[B.S,B.hasO,dL]at h
  cases h
 ·exfalso
  cases i with
  | zero=>exact h1 rfl
  | succ i=>exact h1 rfl
theorem Wp{P:Program}{f:FuncId}{fn:Func}{c:Code}{s:Nat}{n:Int}{ext:Bool}(hf:P.funcs[f]? =some fn)(hb:fn.body=some c)(hne:fn.name≠ "runtime.NumGoroutine")
  (hc: ∀base w,Calls P f #[.slice base 0 0, .int .i64 n] w (fun e w'=>(e= .returned (.slice base 0 0)∧w'=w)∨ ∃k arr ty,e= .returned (.slice (some ⟨w.heap.size,0,none⟩) 0 k)∧k≤maxLen∧arr.size=k*s∧w'=w.drew.alloc (.cells arr ty))){κ:K}(hκ:κ= .A s∨κ= .U s:=by first | exact .inl rfl | exact .inr rfl):
  TC P f (Qg ([[[.N]],[[.S]]],[[κ]],ext)) [.one (.c (.sl [])), .one (.c (.int .i64 n))] [] (.one (.c (.sl []))) none [] none:=by
 intro g w us hs; have h0:RV g w (fun _ _=> .N) (fun k j=> .s 0 k j) (us.getD 0 undef) (.one (.c (.sl []))):=hs.slots 0
 have h1:RV g w (fun _ _=> .S) (fun k j=> .s 1 k j) (us.getD 1 undef) (.one (.c (.int .i64 n))):=hs.slots 1
 obtain⟨_,_,a,ha⟩:=h0; obtain⟨_,_,hi⟩:=h1; have hi:us.getD 1 undef= .int .i64 n:=by
  generalize us.getD 1 undef=z at hi; cases hi; rfl
 have hz:us.size=2:=hs.size; obtain rfl:=Ro hz ha hi; rw[Fd hf hb hne]; show Calls P f _ w _; refine(hc a w).mono ?_
 rintro e w' (⟨rfl,rfl⟩ | ⟨k,arr,ty,rfl,hk,harr,rfl⟩)
 ·refine⟨_,rfl,g,Oh (P:=P) hs (pO.refl g _ hs.framed.tab) hs.ok rfl ⟨⟨by simp,by simp⟩, ?_⟩⟩
  rcases hκ with rfl | rfl<;>exact .nil _ _ _
 ·have hnew:(w.drew.alloc (.cells arr ty)).heap[w.heap.size]? =some (.cells arr ty (0,0)):=heap_alloc_new w.drew _
  have hold: ∀b,b<w.heap.size→(w.drew.alloc (.cells arr ty)).heap[b]? =w.heap[b]? :=fun b hb=>pH w.drew _ b hb
  have hsz:(w.drew.alloc (.cells arr ty)).heap.size=w.heap.size+1:=by
   have:(w.drew.alloc (.cells arr ty)).heap.size=w.drew.heap.size+1:=by simp
   exact this
  refine⟨_,rfl,{ β:=g.β,own:=fun b=>if b=w.heap.size then .s 0 0 0 else g.own b },Oh (P:=P) hs ⟨hs.framed.tab,rfl,rfl,rfl,⟨by omega,fun b hb _=>⟨z11 (by omega),hold b hb⟩⟩⟩ ⟨fun b hb=> ?_⟩ rfl ⟨⟨by simp,by simp⟩, ?_⟩⟩
  ·by_cases e:b=w.heap.size
   ·omega
   ·have hb':(if b=w.heap.size then Loc.s 0 0 0 else g.own b)≠ .none:=hb
    rw[z11 e]at hb'; have:=hs.ok.own b hb'; omega
  ·rcases hκ with rfl | rfl
   ·refine .sl _ _ w.heap.size 0 k s arr ty [] (fun _=>(0,0)) (fun _ _=>undef) (fun s0 h=>by cases h; rfl) (z17 rfl) hnew rfl (Si _) hk (fun i e h=>by simp at h) harr (fun i e j x h=>by simp at h) (fun i e j x h=>by simp at h)
   ·refine .sl _ _ w.heap.size 0 k s arr ty [] (fun _=>(0,0)) (fun _ _=>undef) (fun s0 h=>by unfold gQ at h; split at h<;>cases h; rfl) (z17 rfl) hnew rfl (Si _) hk (fun i e h=>by simp at h) harr (fun i e j x h=>by simp at h) (fun i e j x h=>by simp at h)
section
variable {P:Program} {τ:TypeId→Option TI} {An:FuncId→FA} {F:FA} {ds:List (Option Nat)} {r:List Oper} {k:Kt} {S:SS V} {O:SS (List T)} {gd:Option (Nat×Bool)} {d:Nat} {ty:TypeId} {pos:String} {after:Array Edge}
end

section
variable {P:Program} {τ:TypeId→Option TI} {An:FuncId→FA} {F:FA} {ds:List (Option Nat)} {r:List Oper} {k:Kt} {S:SS V} {O:SS (List T)} {gd:Option (Nat×Bool)} {d:Nat} {ty:TypeId} {pos:String} {after:Array Edge}
end

section
variable {P:Program} {τ:TypeId→Option TI} {An:FuncId→FA} {F:FA} {ds:List (Option Nat)} {r:List Oper} {x:D} {K:D→Prop} {ty:TypeId} {pos:String} {after:Array Edge} {gd:Option (Nat×Bool)} {d:Nat}
end
section
variable {P:Program} {τ:TypeId→Option TI} {An:FuncId→FA} {F:FA} {ds:List (Option Nat)} {r:List Oper} {k:Kt} {S:SS V} {O:SS (List T)} {ty:TypeId} {pos:String} {after:Array Edge} {gd:Option (Nat×Bool)} {d:Nat}
end
end Go.Own

namespace Go.Own
open Go Go.RowKit
set_option linter.unusedVariables false

section
variable (ds:List (Option Nat)) (F:FA) (τ:TypeId→Option TI) (S:SS V) (O:SS (List T)) (gd:Option (Nat×Bool)) (d:Nat)
def xBn(op:BinOp)(t g:TypeId)(y z:Operand):Option V:=match op with
 | .add=>(match xI2 ds F S O gd d y z with | some (κ,a,b)=>some (.one (.c (.int κ (κ.wrap (a+b))))) | none=>none)
 | .sub=>(match xI2 ds F S O gd d y z with | some (κ,a,b)=>some (.one (.c (.int κ (κ.wrap (a - b))))) | none=>none)
 | .mul=>(match xI2 ds F S O gd d y z with | some (κ,a,b)=>some (.one (.c (.int κ (κ.wrap (a*b))))) | none=>none)
 | .eql=>(match xC2 ds F S O gd d y z with | some (κ,a,b)=>some (Bo (decide (a=b))) | none=>(match xS2 ds F S O gd d y z with | some (a,b)=>some (Bo (decide (a=b))) | none=>none))
 | .neq=>(match xC2 ds F S O gd d y z with | some (κ,a,b)=>some (Bo (!decide (a=b))) | none=>(match xS2 ds F S O gd d y z with | some (a,b)=>some (Bo (!decide (a=b))) | none=>none))
 | .lss=>(match xC2 ds F S O gd d y z with | some (κ,a,b)=>some (Bo (decide (a<b))) | none=>none)
 | .leq=>(match xC2 ds F S O gd d y z with | some (κ,a,b)=>some (Bo (decide (a≤b))) | none=>none)
 | .gtr=>(match xC2 ds F S O gd d y z with | some (κ,a,b)=>some (Bo (decide (b<a))) | none=>none)
 | .geq=>(match xC2 ds F S O gd d y z with | some (κ,a,b)=>some (Bo (decide (b≤a))) | none=>none)
 | _=>none
def xCvS(t b:TypeId)(y:Operand):Option V:=xG ds S gd (match tk τ t,tk τ b,rdS S O y with
 | some _,some (.int κ'),some (.one (.c (.int κ a)))=>bif fits (.one (.c (.int κ' 0))) (F.shOf d)then some (.one (.c (.int κ' (κ'.wrap a))))else none
 | _,_,_=>none)
def xOne:Op→Option (SS V×SS (List T))
 | .move y=>(match xMvS ds F S gd d y with | some v=>some (.cons d v S,O) | none=>none)
 | .assign y=>(match xAsS ds F S gd d y with | some v=>some (.cons d v S,O) | none=>none)
 | .load t y=>(match xLdS ds F τ S O gd d t y with | some v=>some (.cons d v S,O) | none=>none)
 | .fieldAddr s v f=>(match xFdS ds F τ S gd d s v f with | some v=>some (.cons d v S,O) | none=>none)
 | .binOp op t y z g=>(match xBn ds F S O gd d op t g y z with | some v=>some (.cons d v S,O) | none=>none)
 | .unOp .not _ y=>(match xNo ds F S O gd d y with | some b=>some (.cons d (Bo (!b)) S,O) | none=>none)
 | .convert t g y=>(match xCvS ds F τ S O gd d t g y with | some v=>some (.cons d v S,O) | none=>none)
 | .pick c y z=>(match xPkS ds F S gd d c y z with | some t=>some (.cons d (.one (.c t)) S,O) | none=>none)
 | .extract (.tmp t) j=>(match xEtS ds F S gd d t j with | some w=>some (.cons d (.one w) S,O) | none=>none)
 | .nilCheck v=>(match xNcS ds F S gd d v with | some w=>some (.cons d w S,O) | none=>none)
 | .box _ (.tmp t)=>(match xBxS ds F S gd d t with | some xs=>some (.cons d (.one (.ptr d 0)) S, .cons d xs O) | none=>none)
 | _=>none
end

inductive Cf where
 | c (code:Code) (k:Kt) (S:SS V) (O:SS (List T))
 | o (ds:List (Option Nat)) (os:List Oper) (k:Kt) (S:SS V) (O:SS (List T))
 | f (Q:Ek→D→Prop) (e:Ek) (S:SS V) (O:SS (List T))
@[reducible] def Cf.sat (P:Program) (τ:TypeId→Option TI) (An:FuncId→FA) (F:FA):Cf→Prop
 | .c a k S O=>Vc P τ An F a k S O
 | .o ds os k S O=>Vo P τ An F ds os k S O
 | .f Q e S O=>Hl Q e S O
def So(S:SS V)(O:SS (List T)):Kt→Cf
 | .seq b k=> .c b k S O
 | .blk _ k=>So S O k
 | .top Q=> .f Q .n S O
def Ul(i:Nat)(S:SS V)(O:SS (List T)):Kt→Cf
 | .seq _ k=>Ul i S O k
 | .blk id k=>bif Nat.beq i id then So S O k else Ul i S O k
 | .top Q=> .f Q (.e i) S O
def WF(S:SS V)(O:SS (List T)):Kt→Cf
 | .seq _ k=>WF S O k
 | .blk _ k=>WF S O k
 | .top Q=> .f Q .r S O
def isLp:Code→Bool
 | .loop _=>true
 | _=>false
def WH(F:FA)(τ:TypeId→Option TI):Cf→Option Cf
 | .c a k S O=>(match a with
  | .seq a b=>some (.c a (.seq b k) S O)
  | .skip=>some (So S O k)
  | .label _=>some (So S O k)
  | .exit i=>some (Ul i S O k)
  | .ret=>some (WF S O k)
  | .block id c=>bif isLp c then none else some (.c c (.blk id k) S O)
  | .region id ops _=>(match dL id F.mks with | none=>some (.o (ops.toList.map (·.dst)) ops.toList k S O) | some _=>none)
  | .cond (.tmp t) a b=>(match S.get t with
   | some (.one (.c (.bool true)))=>some (.c a k S O)
   | some (.one (.c (.bool false)))=>some (.c b k S O)
   | _=>none)
  | _=>none)
 | .o ds os k S O=>(match os with
  | []=>some (So S O k)
  | ⟨some d,op,_,_,_,gd⟩::r=>(match gS ds S gd with
   | some false=>some (.o ds r k (.cons d (.tup []) S) O)
   | _=>(match xOne ds F τ S O gd d op with
    | some (S1,O1)=>some (.o ds r k S1 O1)
    | none=>none))
  | ⟨none, .store t v y,_,_,_,gd⟩::r=>(match xStS ds F τ S O gd t v y with
   | some (ob,cs)=>some (.o ds r k S (.cons ob cs O))
   | none=>none)
  | _=>none)
 | .f .. =>none
def run(F:FA)(τ:TypeId→Option TI):Nat→Cf→Cf
 | 0,c=>c
 | n+1,c=>match WH F τ c with
  | some c1=>run F τ n c1
  | none=>c

section
variable {P:Program} {τ:TypeId→Option TI} {An:FuncId→FA} {F:FA} {ds:List (Option Nat)} {r:List Oper} {k:Kt} {S:SS V} {O:SS (List T)} {ty:TypeId} {pos:String} {after:Array Edge} {gd:Option (Nat×Bool)} {d:Nat}
theorem DM: ∀ {k:Kt},(So S O k).sat P τ An F→nxt P τ An F k S O
 | .seq b k,h=>h
 | .blk _ k,h=>DM (k:=k) h
 | .top Q,h=>h
theorem KW{i:Nat}: ∀ {k:Kt},(Ul i S O k).sat P τ An F→exi P τ An F k i S O
 | .seq b k,h=>KW (k:=k) h
 | .blk id k,h=>by
  simp only[Ul,exi]at h ⊢; cases e:Nat.beq i id with
  | true=>rw[e]at h; exact DM h
  | false=>rw[e]at h; exact KW h
 | .top Q,h=>h
theorem KH: ∀ {k:Kt},(WF S O k).sat P τ An F→rtn k S O
 | .seq b k,h=>KH (k:=k) h
 | .blk _ k,h=>KH (k:=k) h
 | .top Q,h=>h
theorem WM{op:BinOp}{t g:TypeId}{y z:Operand}{v:V}(b:xBn ds F S O gd d op t g y z=some v)(h:Vo P τ An F ds r k (.cons d v S) O):Vo P τ An F ds (⟨some d, .binOp op t y z g,ty,pos,after,gd⟩::r) k S O:=by
 unfold xBn at b; split at b
 ·split at b<;>cases b; rename_i e; exact xAdd e h
 ·split at b<;>cases b; rename_i e; exact xSub e h
 ·split at b<;>cases b; rename_i e; exact xMul e h
 ·split at b
  ·cases b; rename_i e; exact xEq e h
  ·split at b<;>cases b; rename_i e; exact xEs e h
 ·split at b
  ·cases b; rename_i e; exact xNe e h
  ·split at b<;>cases b; rename_i e; exact xNs e h
 ·split at b<;>cases b; rename_i e; exact xLt e h
 ·split at b<;>cases b; rename_i e; exact xLe e h
 ·split at b<;>cases b; rename_i e; exact xGt e h
 ·split at b<;>cases b; rename_i e; exact xGe e h
 ·cases b
theorem WL{t g:TypeId}{y:Operand}{v:V}(b:xCvS ds F τ S O gd d t g y=some v)(h:Vo P τ An F ds r k (.cons d v S) O):Vo P τ An F ds (⟨some d, .convert t g y,ty,pos,after,gd⟩::r) k S O:=by
 obtain⟨m,b⟩:=uW b; split at b<;>try cases b
 rename_i i j l; obtain⟨c,b⟩:=aK b; cases b; exact wCv m i j l c h
theorem TR{op:Op}{S1:SS V}{O1:SS (List T)}(b:xOne ds F τ S O gd d op=some (S1,O1))(h:Vo P τ An F ds r k S1 O1):Vo P τ An F ds (⟨some d,op,ty,pos,after,gd⟩::r) k S O:=by
 unfold xOne at b; split at b
 ·split at b<;>cases b; rename_i e; exact xMv e h
 ·split at b<;>cases b; rename_i e; exact xAs e h
 ·split at b<;>cases b; rename_i e; exact xLd e h
 ·split at b<;>cases b; rename_i e; exact xFd e h
 ·split at b<;>cases b; rename_i e; exact WM e h
 ·split at b<;>cases b; rename_i e; exact xNot e h
 ·split at b<;>cases b; rename_i e; exact WL e h
 ·split at b<;>cases b; rename_i e; exact xPk e h
 ·split at b<;>cases b; rename_i e; exact xEt e h
 ·split at b<;>cases b; rename_i e; exact xNc e h
 ·split at b<;>cases b; rename_i e; exact xBx e h
 ·cases b
theorem Tk{a b:Cf}(hq:WH F τ a=some b)(h:b.sat P τ An F):a.sat P τ An F:=by
 unfold WH at hq; split at hq
 ·split at hq
  ·cases hq; exact cSq h
  ·cases hq; exact cSk (DM h)
  ·cases hq; exact cLb (DM h)
  ·cases hq; exact cEx (KW h)
  ·cases hq; exact cRt (KH h)
  ·rename_i id c
   revert hq
   cases isLp c with
   | true=>intro hq; cases hq
   | false=>intro hq; cases hq; exact cBk h
  ·split at hq<;>cases hq
   rename_i ops _ _ e; exact cRg (ops:=ops.toList) h e
  ·split at hq<;>cases hq
   ·rename_i e; exact cT e h
   ·rename_i e; exact cF e h
  ·cases hq
 ·split at hq
  ·cases hq; exact oNl (DM h)
  ·split at hq
   ·cases hq; rename_i e; exact wSk e h
   ·split at hq<;>cases hq
    rename_i e; exact TR e h
  ·split at hq<;>cases hq
   rename_i e; exact xSt e h
  ·cases hq
 ·cases hq
theorem CO: ∀ {n:Nat} {a:Cf},(run F τ n a).sat P τ An F→a.sat P τ An F
 | 0,_,h=>h
 | n+1,a,h=>by
  simp only[run]at h; cases e:WH F τ a with
  | none=>rw[e]at h; exact h
  | some b=>rw[e]at h; exact Tk e (CO h)
variable {a:Code} {os os1:List Oper} {k1:Kt} {S1:SS V} {O1:SS (List T)} {c1:Code} {ds1:List (Option Nat)} {Q:Ek→D→Prop} {e:Ek}
theorem gcc(n:Nat)(b:run F τ n (.c a k S O)= .c c1 k1 S1 O1)(h:Vc P τ An F c1 k1 S1 O1):Vc P τ An F a k S O:=CO (n:=n) (a:= .c a k S O) (by rw[b]; exact h)
theorem gco(n:Nat)(b:run F τ n (.c a k S O)= .o ds1 os1 k1 S1 O1)(h:Vo P τ An F ds1 os1 k1 S1 O1):Vc P τ An F a k S O:=CO (n:=n) (a:= .c a k S O) (by rw[b]; exact h)
theorem gcf(n:Nat)(b:run F τ n (.c a k S O)= .f Q e S1 O1)(h:Hl Q e S1 O1):Vc P τ An F a k S O:=CO (n:=n) (a:= .c a k S O) (by rw[b]; exact h)
theorem goc(n:Nat)(b:run F τ n (.o ds os k S O)= .c c1 k1 S1 O1)(h:Vc P τ An F c1 k1 S1 O1):Vo P τ An F ds os k S O:=CO (n:=n) (a:= .o ds os k S O) (by rw[b]; exact h)
theorem goo(n:Nat)(b:run F τ n (.o ds os k S O)= .o ds1 os1 k1 S1 O1)(h:Vo P τ An F ds1 os1 k1 S1 O1):Vo P τ An F ds os k S O:=CO (n:=n) (a:= .o ds os k S O) (by rw[b]; exact h)
theorem gof(n:Nat)(b:run F τ n (.o ds os k S O)= .f Q e S1 O1)(h:Hl Q e S1 O1):Vo P τ An F ds os k S O:=CO (n:=n) (a:= .o ds os k S O) (by rw[b]; exact h)
end
theorem en{P:Prop}(p:P:=by
 first
  | exact eJ h rfl
  | exact eL h rfl
  | exact eX h rfl
  | exact eXr h rfl
  | (cases h; first | exact eR rfl rfl rfl rfl | exact eRi rfl rfl rfl rfl rfl | exact eN rfl rfl rfl rfl | exact eNi rfl rfl rfl rfl rfl)):P:=p
theorem gec{P:Prop}(p:P:=by exact gcf 99 rfl en):P:=p
theorem geo{P:Prop}(p:P:=by exact gof 99 rfl en):P:=p
set_option linter.unusedVariables false
section
variable {P:Program} {τ:TypeId→Option TI} {An:FuncId→FA} {F:FA} {ds:List (Option Nat)} {r:List Oper} {k:Kt} {S:SS V} {O:SS (List T)} {ty:TypeId} {pos:String} {after:Array Edge} {gd:Option (Nat×Bool)} {d:Nat}
theorem Wl{α:Type}{L:List α}{f:α→List T}{n:Int}{a:α}(h:ix L n=some a):(L.map f)[n.toNat]? =some (f a)∧0≤n:=by
 unfold ix at h; split at h<;>try cases h
 rename_i h0; exact⟨by rw[z28,h]; rfl,h0⟩
end
end Go.Own

namespace Go.Own
open Go.RowKit


end Go.Own

namespace Go.Own
open Go Go.RowKit
set_option linter.unusedVariables false
section
variable {P:Program} {τ:TypeId→Option TI} {An:FuncId→FA} {F:FA} {ds:List (Option Nat)} {r:List Oper} {k:Kt} {S:SS V} {O:SS (List T)} {ty:TypeId} {pos:String} {after:Array Edge} {gd:Option (Nat×Bool)} {d:Nat}
end
set_option linter.unusedVariables false
section
variable {P:Program} {τ:TypeId→Option TI} {An:FuncId→FA} {F:FA} {ds:List (Option Nat)} {r:List Oper} {k:Kt} {S:SS V} {O:SS (List T)} {ty:TypeId} {pos:String} {after:Array Edge} {gd:Option (Nat×Bool)} {d:Nat}
theorem wLtk1{α:Type}{L:List α}{f:α→List T}{a:α}{i:Int}{t:TypeId}{v:Operand}{ti:TI}{l:Loc}{m j c1:Nat}{cs ys:List T}{y1:T}(hix:ix L i=some a)(hg:gS ds S gd=some true)(ht:τ t=some ti)(hv:evS S v=some (.one (.pp l [] m j)))(hm:m=i.toNat)(hk:yE l=true)(hr:atS S O l=some (.sl (L.map f)))(hal:(mem d F.al,mem d F.tk,tkM F d)=(false,true,[c1]))(hc:f a=cs)(hy:cs[j+c1]? =some y1)(hl:pF ti (cs.drop j)=some (.one (.ag ys)))(hf:fits (.one (.ag ys)) (F.shOf d)=true)(hr2:(isC (.cons d (.one (.ag ys)) S) l,atS (.cons d (.one (.ag ys)) S) O l)=(true,some (.sl (L.map f))))
  (h:Vo P τ An F ds r k (QR (.cons d (.one (.ag ys)) S) l (.sl ((L.map f).set i.toNat (cs.set (j+c1) .hole)))) (QS O l (.sl ((L.map f).set i.toNat (cs.set (j+c1) .hole))))):Vo P τ An F ds (⟨some d, .load t v,ty,pos,after,gd⟩::r) k S O:=by
 subst hm hc; obtain⟨hrw,_⟩:=Wl (f:=f) hix; simp only[z38]at hal hr2; obtain⟨a1,a2,a3⟩:=hal; have hlt:i.toNat<(L.map f).length:=cK hrw; refine⟨fun x hx=> ?_⟩
 have hx1:=hx.put d (.one (.ag ys)); have hat1:=hx1.at (qI hk) hr2.2; have hx2:=hx1.upd (z:= .sl ((L.map f).set i.toNat ((f a).set (j+c1) .hole))) hk hr2.1 hr2.2; refine cR (x1:=(x.put d (.one (.ag ys))).upd l (.sl ((L.map f).set i.toNat ((f a).set (j+c1) .hole)))) (hx.gd hg) rfl ?_ (h.run _ hx2)
 show(bif mem d F.tk&&(!(mem d F.al)&&fW (ev x.sl v))then uB τ F x d t v else nS τ F x d t v (mem d F.al))=_
 rw[show(mem d F.tk&&(!(mem d F.al)&&fW (ev x.sl v)))=true by rw[a1,a2,hx.ev hv]; rfl,z15]
 unfold uB; have e0: ∀z:T,bV z [] .hole= .hole:=fun z=>by cases z<;>rfl
 simp only[ht,hx.ev hv,hx.at (qI hk) hr,z8,nav,hrw,hl,hf,z15,a3,D.takes,hat1,z62,z70,sY hrw hy,e0]
theorem xLnH{α:Type}{L:List α}{f:α→List T}{m:Nat}{row:List T}{t:TypeId}{y:Operand}(hq:(gS ds S gd,Hi τ t&&fits (I64 0) (F.shOf d),rdS S O y)=(some true,true,some (.one (.c (.sl ((L.map f).set m row))))))(h:Vo P τ An F ds r k (.cons d (I64 L.length) S) O):Vo P τ An F ds (⟨some d, .call { callee:= .builtin .len,args:= #[y],argTypes:= #[t] },ty,pos,after,gd⟩::r) k S O:=
 xLn (L:=(L.map f).set m row) (f:=id) (by rw[List.map_id]; exact hq) (by rw[z88,z79]; exact h)
theorem Tj{x:D}{es:List (List T)}{t e:TypeId}{ei:TI}{y:Operand}{lo hi:Option Operand}{l h:Option Int}{q:Nat×Nat}(hb:bnd es.length l h=some q)(ht:tk τ t=some (.sl e))(he:τ e=some ei)(h1:evD x y= .one (.c (.sl es)))(hl:Bd x lo l)(hh:Bd x hi h)(hsz: ∀a∈es,a.length=ei.size):iN τ (evD x) (.slice t y lo hi none)=some (.sl ((es.drop q.1).take (q.2 - q.1))):=by
 have h3:es.all (fun x=>x.length == ei.size)=true:=by
  rw[z18]; intro e he; simpa using hsz e he
 have h4:nN (evD x) es.length lo hi none=some q:=Sf hl hh hb; simp only[iN,ht,h1,he,z8,h3,if_true,h4,z33]
theorem wSlH{α β:Type}{t e:TypeId}{ei:TI}{y:Operand}{hi:Option Operand}{n:Int}{s:List α}{rf:α→List T}{m:Nat}{row:List T}{f:List α→Option β}{r0:β}(h:(sub s none (some n)).bind f=some r0)(hg:gS ds S gd=some true)(ht:tk τ t=some (.sl e))(he:τ e=some ei)(h1:rdS S O y=some (.one (.c (.sl ((s.map rf).set m row)))))(hm:m=n.toNat)(h3:BdS S O hi (some n))(hsz: ∀a,(rf a).length=ei.size)(hrw:row.length=ei.size)(hf:fits (.one (.c (.sl []))) (F.shOf d)=true)(hn: ∀s',f s'=some r0→Vo P τ An F ds r k (.cons d (Li rf s') S) O):Vo P τ An F ds (⟨some d, .slice t y none hi none,ty,pos,after,gd⟩::r) k S O:=by
 obtain⟨b,h5,h4⟩:=bind_some h; obtain⟨q,hq,rfl⟩:=z22.1 h5; have hq':bnd ((s.map rf).set m row).length none (some n)=some q:=by rw[z88,z79]; exact hq
 have hq2:q.1=0∧q.2=n.toNat:=by
  unfold bnd at hq; split at hq<;>try cases hq
  exact⟨rfl,rfl⟩
 have e:((((s.map rf).set m row).drop q.1).take (q.2 - q.1))=((s.drop q.1).take (q.2 - q.1)).map rf:=by
  rw[hq2.1,hq2.2,hm]; simp only[z165,Vm,Vp]; exact List.take_set_of_le (z59 _)
 have hall: ∀a∈(s.map rf).set m row,a.length=ei.size:=fun a ha=>by
  rcases List.mem_or_eq_of_mem_set ha with ha | rfl
  ·obtain⟨c,_,rfl⟩:=z49.1 ha
   exact hsz c
  ·exact hrw
 exact⟨fun x hx=>rd (.sl (((s.drop q.1).take (q.2 - q.1)).map rf)) (hx.gd hg) rfl rfl ((Tj hq' ht he (hx.rd h1) .none (h3.bd hx) hall).trans (by rw[e])) (fL hf) ((hn _ h4).run _ (hx.put d _))⟩
def hol{α:Type}(f:α→List T):Nat→List α→List (List T)
 | 0,L=>L.map f
 | _+1,[]=> []
 | k+1,_::r=> [.hole]::hol f k r
theorem KT{α:Type}{f:α→List T}: ∀ {k:Nat} {L:List α} {a:α},L[k]? =some a→(hol f k L)[k]? =some (f a)
 | 0,L,a,h=>by simp only[hol,z28,h,z33]
 | k+1,[],a,h=>by simp at h
 | k+1,b::r,a,h=>by
  simp only[hol,z21]
  exact KT (by simpa using h)
theorem On{α:Type}{f:α→List T}: ∀ {k:Nat} {L:List α} {a:α},L[k]? =some a→(hol f k L).set k [.hole]=hol f (k+1) L
 | 0,[],a,h=>by simp at h
 | 0,b::r,a,h=>rfl
 | k+1,[],a,h=>by simp at h
 | k+1,b::r,a,h=>by
  simp only[hol,z135]; congr 1
  exact On (by simpa using h)
theorem wIpC{α β:Type}{L:List α}{f:α→List T}{g:α→Option β}{r0:β}{j:Nat}{t:TypeId}{ei:TI}{v i:Operand}{l:Loc}{κ:IntKind}(h:(ix L (j:Int)).bind g=some r0)(hg:gS ds S gd=some true)(he:elS τ t=some ei)(hv:evS S v=some (.one (.al l [])))(hk:yE l=true)(hr:atS S O l=some (.sl (hol f j L)))(hi:evS S i=some (.one (.c (.int κ (j:Int)))))(hsz: ∀a,(f a).length=ei.size)
  (hf:fits (.one (.pp l [] 0 0)) (F.shOf d)=true)(hn: ∀a,L[j]? =some a→g a=some r0→Vo P τ An F ds r k (.cons d (.one (.pp l [] j 0)) S) O):Vo P τ An F ds (⟨some d, .indexAddr t v i,ty,pos,after,gd⟩::r) k S O:=by
 obtain⟨a,h1,h2⟩:=bind_some h; obtain⟨e,q1,q2⟩:=Ad he; have h1':L[j]? =some a:=by
  unfold ix at h1; rw[z17 (by omega)]at h1
  simpa using h1
 refine⟨fun x hx=> ?_⟩
 have hq:=KT (f:=f) h1'; refine cR (x1:=x.put d (.one (.pp l [] j 0))) (hx.gd hg) rfl ?_ ((hn a h1' h2).run _ (hx.put d _))
 show(bif fW (F.shOf d)&&qE (ev x.sl v)then qR τ F x d t v i else pD τ F x d t v i)=_
 rw[show(fW (F.shOf d)&&qE (ev x.sl v))=false by rw[hx.ev hv]; simp [qE],z12]
 unfold pD; have h0:(0:Int)≤(j:Int):=by omega
 simp only[q1,hx.ev hi,hx.ev hv,hx.at (qI hk) hr,z8,nav,idx,q2,h0,if_true,z53,hq,hsz,z42,z15]; refine iI ?_
 revert hf
 cases F.shOf d with
 | tup ws=>simp [fits]
 | one w=>cases w<;>simp [fits,bO]
theorem wLtkC{α:Type}{L:List α}{f:α→List T}{a:α}{t:TypeId}{v:Operand}{ti:TI}{l:Loc}{j:Nat}{y:T}(hix:L[j]? =some a)(hc:f a=[y])(hg:gS ds S gd=some true)(ht:τ t=some ti)(hv:evS S v=some (.one (.pp l [] j 0)))(hk:yE l=true)(hr:atS S O l=some (.sl (hol f j L)))(hal:(mem d F.al,mem d F.tk,tkM F d)=(false,true,[0]))(hl:pF ti [y]=some (.one (.c y)))(hf:fits (.one (.c y)) (F.shOf d)=true)(hr2:(isC (.cons d (.one (.c y)) S) l,atS (.cons d (.one (.c y)) S) O l)=(true,some (.sl (hol f j L))))
  (h:Vo P τ An F ds r k (QR (.cons d (.one (.c y)) S) l (.sl (hol f (j+1) L))) (QS O l (.sl (hol f (j+1) L)))):Vo P τ An F ds (⟨some d, .load t v,ty,pos,after,gd⟩::r) k S O:=by
 have hrw:=KT (f:=f) hix; rw[hc]at hrw; simp only[z38]at hal hr2; obtain⟨a1,a2,a3⟩:=hal; refine⟨fun x hx=> ?_⟩
 have hx1:=hx.put d (.one (.c y)); have hat1:=hx1.at (qI hk) hr2.2; have hx2:=hx1.upd (z:= .sl (hol f (j+1) L)) hk hr2.1 hr2.2; refine cR (x1:=(x.put d (.one (.c y))).upd l (.sl (hol f (j+1) L))) (hx.gd hg) rfl ?_ (h.run _ hx2)
 show(bif mem d F.tk&&(!(mem d F.al)&&fW (ev x.sl v))then uB τ F x d t v else nS τ F x d t v (mem d F.al))=_
 rw[show(mem d F.tk&&(!(mem d F.al)&&fW (ev x.sl v)))=true by rw[a1,a2,hx.ev hv]; rfl,z15]
 unfold uB; have e0: ∀z:T,bV z [] .hole= .hole:=fun z=>by cases z<;>rfl
 have e1:bV (.sl (hol f j L)) [(j,0)] .hole= .sl (hol f (j+1) L):=by
  rw[sY hrw (show([y]:List T)[0]? =some y from rfl),e0]; exact congrArg T.sl (On hix)
 simp only[ht,hx.ev hv,hx.at (qI hk) hr,z8,nav,hrw,z165,hl,hf,z15,a3,D.takes,hat1,z62,z70,z69,e1]
end
end Go.Own
