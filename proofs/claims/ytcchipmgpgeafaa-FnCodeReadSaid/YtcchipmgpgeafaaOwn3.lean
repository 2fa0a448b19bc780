/- A calculus for runs on plain data (part 4): whoever runs code on data, with its owners checked, runs the program. No conditions. -/
import Derived.Test.YtcchipmgpgeafaaOwn2
set_option linter.unusedVariables false
set_option linter.unusedSimpArgs false
set_option linter.unnecessarySimpa false
namespace Go.Own
open Go.RowKit

section
variable {P:Program} {τ:TypeId→Option TI} {An:FuncId→FA} {F:FA} {ds:List (Option Nat)} {r:List Oper} {x:D} {K:D→Prop} {ty:TypeId} {pos:String} {after:Array Edge} {gd:Option (Nat×Bool)} {d:Nat}

theorem TF{op:Op}{w:T}(f:bN ds x gd=some true)(a:dI ⟨some d,op,ty,pos,after,gd⟩=none)(b:dOp τ F x ⟨some d,op,ty,pos,after,gd⟩=oO τ F x d op)(g:iA τ (evD x) op=some w)(e:fits (.one (.c w)) (F.shOf d)=true)(h:bG P τ An F ds r (x.put d (.one (.c w))) K):
  bG P τ An F ds (⟨some d,op,ty,pos,after,gd⟩::r) x K:=by
 refine dF f a ?_ h
 rw[b]; unfold oO; rw[g]; exact gO e
theorem s_len{y:Operand}{t e:TypeId}{a:List (List T)}(f:bN ds x gd=some true)(g:tk τ t=some (.sl e))(i:evD x y= .one (.c (.sl a)))(b:fits (.one (.c (.int .i64 0))) (F.shOf d)=true)(h:bG P τ An F ds r (x.put d (.one (.c (.int .i64 a.length)))) K):
  bG P τ An F ds (⟨some d, .call { callee:= .builtin .len,args:= #[y],argTypes:= #[t] },ty,pos,after,gd⟩::r) x K:=by
 refine TF f rfl rfl ?_ (by
  revert b
  cases F.shOf d with
  | tup j=>simp [fits]
  | one w =>
        cases w<;>simp [fits,bY]
        rename_i z; cases z<;>simp [tJ]) h
 show(match tk τ t,evD x y with
   | some .str, .one (.c (.str s))=>some (T.int .i64 s.length)
   | some (.sl _), .one (.c (.sl a))=>some (.int .i64 a.length)
   | _,_=>none)=_
 rw[g,i]
theorem UX{t e:TypeId}{g:TI}{v i:Operand}{m:List (List T)}{row:List T}{k:IntKind}{n:Int}(q:bN ds x gd=some true)(u:tk τ t=some (.sl e))(o:τ e=some g)(w:ev x.sl v= .one (.c (.sl m)))(s:ev x.sl i= .one (.c (.int k n)))(h0:0≤n)(a:m[n.toNat]? =some row)(f:row.length=g.size)
  (b:fits (.one (.cp row)) (F.shOf d)=true)(h:bG P τ An F ds r (x.put d (.one (.cp row))) K):bG P τ An F ds (⟨some d, .indexAddr t v i,ty,pos,after,gd⟩::r) x K:=by
 refine dF q rfl ?_ h
 show(bif iL (F.shOf d)&&qD (ev x.sl v)then oS τ F x d t v i else oK τ F x d t v i)=_
 rw[show(iL (F.shOf d)&&qD (ev x.sl v))=false by
  cases hq:iL (F.shOf d)with
  | false=>rfl
  | true=>
   obtain⟨l,p,n,j,e⟩:=HJ hq; rw[e]at b; simp [fits,bY]at b,z12]
 unfold oK; simp only[u,s,w,idx,o,h0,if_true,a,f,z44,z16]; exact gO b
theorem UW{t:TypeId}{v:Operand}{b:TI}{xs:List T}{w:V}(e:bN ds x gd=some true)(g:τ t=some b)(a:ev x.sl v= .one (.cp xs))(f:qC b xs=some w)(c:fits w (F.shOf d)=true)(h:bG P τ An F ds r (x.put d w) K):
  bG P τ An F ds (⟨some d, .load t v,ty,pos,after,gd⟩::r) x K:=by
 refine dF e rfl ?_ h
 show(bif mem d F.tk&&(!(mem d F.al)&&iL (ev x.sl v))then FK τ F x d t v else rV τ F x d t v (mem d F.al))=_
 rw[show(mem d F.tk&&(!(mem d F.al)&&iL (ev x.sl v)))=false by rw[a]; simp [iL],z12]
 unfold rV; simp only[g,a,f]; exact gO c
theorem UV{t:TypeId}{v:Operand}{b:TI}{ob p:Nat}{cells:List T}{w:V}(f:bN ds x gd=some true)(j:τ t=some b)(i:mem d F.al=false)(a:ev x.sl v= .one (.ptr ob p))(c:x.ob ob=some cells)(g:qC b (cells.drop p)=some w)(e:fits w (F.shOf d)=true)(h:bG P τ An F ds r (x.put d w) K):
  bG P τ An F ds (⟨some d, .load t v,ty,pos,after,gd⟩::r) x K:=by
 refine dF f rfl ?_ h
 show(bif mem d F.tk&&(!(mem d F.al)&&iL (ev x.sl v))then FK τ F x d t v else rV τ F x d t v (mem d F.al))=_
 rw[show(mem d F.tk&&(!(mem d F.al)&&iL (ev x.sl v)))=false by rw[a]; simp [iL],z12]
 unfold rV; simp only[j,a,c,i,z12,g]; exact gO e
theorem Rp{t u e:TypeId}{g:TI}{v y:Operand}{a b:List (List T)}(k:bN ds x gd=some true)(l:tk τ t=some (.sl e))(i:τ e=some g)(o:ev x.sl v= .one (.c (.sl a)))(p:Ha (ev x.sl y)=some b)(m:wV τ u e=true)(f:RF g a b=true)
  (j:fits (.one (.c (.sl []))) (F.shOf d)=true)(h:bG P τ An F ds r (x.put d (.one (.c (.sl (a++b))))) K):bG P τ An F ds (⟨some d, .call { callee:= .builtin .append,args:= #[v,y],argTypes:= #[t,u] },ty,pos,after,gd⟩::r) x K:=by
 refine dF k rfl ?_ h
 show tF τ F x d t u v y=_; unfold tF; simp only[l,i,o,p,m,f,z86,z16]
 exact gO (by
  revert j
  cases F.shOf d with
  | tup q=>simp [fits]
  | one w =>
        cases w<;>simp [fits,bY]
        rename_i z; cases z<;>simp [tJ])
end
end Go.Own
