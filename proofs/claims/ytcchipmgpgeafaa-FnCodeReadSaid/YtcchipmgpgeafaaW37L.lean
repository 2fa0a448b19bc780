/- The row FnCodeRead. No conditions. -/
import Derived.Test.YtcchipmgpgeafaaW37Q1
import Derived.Test.YtcchipmgpgeafaaW37C
import Derived.Test.YtcchipmgpgeafaaRows
import Derived.Test.YtcchipmgpgeafaaOwn4
set_option linter.unusedVariables false
set_option linter.unusedSimpArgs false
set_option linter.unnecessarySimpa false
namespace Go.Own
open Go Go.Proofs Go.RowKit
theorem mixed:Try.prog.follows .mixedOrders=true:=by kernel_rfl
theorem op5(n:Nat):OpF Try.prog n 5 (fun a:Int=> [T.int .u8 a]) (fun a:Int=>IntKind.u8.min≤a∧a≤IntKind.u8.max):=OpF.int Try.underlying5
theorem op22(n:Nat):OpF Try.prog n 22 (fun l:List Int=> [T.sl (l.map rI_u8)]) (fun l:List Int=>l.length≤maxLen∧ ∀a∈l,(fun a:Int=>IntKind.u8.min≤a∧a≤IntKind.u8.max) a):=by
  cases n with
  | zero=>exact OpF.zero
  | succ n=>exact OpF.slice (s:=1) Try.underlying22 (by kernel_rfl) (by decide) (fun a=>rfl) (op5 n)
set_option maxRecDepth 100000 in
theorem tc(a0:List Int)(o0:(fun l:List Int=>l.length≤maxLen∧ ∀a∈l,(fun a:Int=>IntKind.u8.min≤a∧a≤IntKind.u8.max) a) a0):TC Try.prog 3 sg3 [.one (.c (.sl (a0.map rI_u8)))] [] (.one (.c (.bool true))) none [] none:=by
  obtain⟨n,h⟩:=Q.law a0 o0; exact TC.of mixed XA checked (yT h) (by unfold Sgs; simp) rfl rfl
set_option maxRecDepth 100000 in
theorem row(a0:List Int)(o0:(fun l:List Int=>l.length≤maxLen∧ ∀a∈l,(fun a:Int=>IntKind.u8.min≤a∧a≤IntKind.u8.max) a) a0)(W:World)(v0:Value)(h0:CR W [v0] [.sl (a0.map rI_u8)]):Calls Try.prog 3 #[v0] W fun e w'=>e= .returned (.bool true)∧Below W.heap.size W w':=by
  refine(tc a0 o0).row rfl rfl rfl (by decide) Try.func3 rfl (by decide) W #[v0] rfl (fun i=> ?_) (fun i hi=> ?_)
  · match i with
    | 0=>rfl
    | _+1=>rfl
  · match i,hi with
    | 0,_=>exact rv_c h0 rfl
    | _+1,hi=>cases hi
end Go.Own
namespace Go.Proofs.Ytcchipmgpgeafaa.fnCodeRead
open Go.ChangeShapes Go.WideShapes Go.ChangeAt Go.RowKit
open Go.ChangeMaps (open_string shut_string)
set_option linter.unusedVariables false
theorem own:ownKnob Try.prog.godebug=none:=by kernel_rfl
theorem Uv:laidOutB Try.prog=true:=by kernel_rfl
set_option maxRecDepth 100000 in
theorem XT(os:Os)(started:os.Started)(H:Type)(enc:TypeId×Value→H):
    ReturnsInHanded {} Try.checked os 3 .any (Rows.fnCodeReadSpec.pre6 enc Try.prog Try.f3 Rows.fnCodeReadRow.domain false) (Rows.fnCodeReadSpec.post enc Try.prog Try.f3 false true false false):=by
  refine returnsInHanded_of_change_sized (C:=Try.checked) own started (by kernel_rfl) Try.func3
    (ChangeSpec.witness6 (enc:=enc) (C:=Try.checked) false ⟨#[], #[.slice none 0 0],[]⟩ 8 (by kernel_rfl) (by kernel_rfl) (by kernel_rfl) (by kernel_rfl)) ?_
  intro W base args ds gs before hval0 hW hcnd hsz0 _; have hsz:(DataW.weightsEach Try.prog (Try.f3.params.toList++Rows.fnCodeReadSpec.plain.varTypes Try.prog) (ds++gs)).all (· ≤reachBytes)=true:=hsz0
  have hval: ∀(j:Nat) t v,Try.f3.params[j]? =some t→args[j]? =some v→Value.okWide Try.prog W .any base t v:=hval0; have hW':=hW; obtain⟨p,q,hA0,hV,rfl,hfz,hnd⟩:=hW; have hA:DataW.TrodAll enc Try.prog W 0 (fun _=>true) true Try.f3.params.toList args.toList ds p:=hA0
  rw[Try.params3]at hA hval hsz; obtain⟨v0,vs0,d0,ds0,p0,q0,hargs0,rfl,rfl,h0,r0⟩:=trodAll_cons hA; obtain⟨rfl,rfl,rfl⟩:=trodAll_nil r0; obtain rfl:args= #[v0]:=by cases args; simp_all
  obtain⟨rfl,rfl⟩:=trodVars_none hV; obtain⟨x0,y0,z0,rfl⟩:=okWide_slice Try.underlying22 (hval 0 22 v0 rfl rfl); have k0:=h0; have lt0: ∀x∈p0,x.block<W.heap.size:=by obtain⟨m,hm⟩:=k0; exact DataW.trod_lt m _ _ _ hm
  obtain⟨a0,e0,o0⟩: ∃a,Own.CR W _ ((fun l:List Int=> [Own.T.sl (l.map Own.rI_u8)]) a)∧(fun l:List Int=>l.length≤maxLen∧ ∀a∈l,(fun a:Int=>IntKind.u8.min≤a∧a≤IntKind.u8.max) a) a:=by
    obtain⟨fuel,hf⟩:=h0; exact Own.op22 fuel enc W _ _ _ _ _ hf
  clear hA0 hval0 hsz0 hsz; refine(Own.row a0 o0 W _ e0).mono fun e W' ⟨he,bel⟩=> ?_
  subst he; exact⟨_,rfl,_,_,_,[],_,[],hW',trodAll_mk1 (shut_bool Try.underlying4 _),(trodAll_cons_mk (Below.trod Uv (by kernel_rfl) (of_decide_eq_true (by kernel_rfl)) k0 bel lt0) trodAll_mk0),rfl,bel.frame _,fun h=>by cases h⟩
set_option maxHeartbeats 4000000 in
theorem Xe:joinedFacts Try.pinned.checked.prog 3 Try.f3 Rows.fnCodeReadSpec Rows.fnCodeReadRow=true:=by
  unfold joinedFacts; simp only[Bool.and_eq_true]; repeat' refine And.intro ?_ ?_
  all_goals as_aux_lemma=>kernel_rfl
theorem over:Rows.fnCodeReadRow.holds Try.pinned (OpenSpec.ofChange Rows.fnCodeReadSpec):=
  OpenClaim.holds_of_wide 3 Try.f3 rfl rfl rfl rfl rfl rfl rfl ⟨rfl,rfl,rfl,rfl,rfl⟩ rfl rfl rfl rfl rfl (by kernel_rfl) Try.func3 Xe
    (of_decide_eq_true (by kernel_rfl)) (by unfold Func.isWrapper; first | (rw[if_pos (by decide+kernel)]; kernel_rfl) | (rw[if_neg (by decide+kernel)]; exact⟨rfl,rfl⟩))
    (fun os started H enc _=>XT os started H enc)
theorem proved:Rows.FnCodeReadSaid:=over
#print axioms proved
end Go.Proofs.Ytcchipmgpgeafaa.fnCodeRead
namespace Go.Proofs.Ytcchipmgpgeafaa
theorem fnCodeRead_holds:Rows.FnCodeReadSaid:=fnCodeRead.proved
end Go.Proofs.Ytcchipmgpgeafaa
