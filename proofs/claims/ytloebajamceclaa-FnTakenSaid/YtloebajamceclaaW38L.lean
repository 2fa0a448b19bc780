/- The row FnTaken. No conditions. -/
import Derived.Test.YtloebajamceclaaW38Q0
import Derived.Test.YtloebajamceclaaW38C
import Derived.Test.YtloebajamceclaaRows
import Derived.Test.YtloebajamceclaaOwn4
set_option linter.unusedVariables false
set_option linter.unusedSimpArgs false
set_option linter.unnecessarySimpa false
namespace Go.Own
open Go Go.Proofs Go.RowKit
theorem RO:Try.prog.follows .mixedOrders=true:=by kernel_rfl
theorem op5(n:Nat):OpF Try.prog n 5 (fun a:Int=> [T.int .u8 a]) (fun a:Int=>IntKind.u8.min≤a∧a≤IntKind.u8.max):=OpF.int Try.underlying5
theorem op47(n:Nat):OpF Try.prog n 47 (fun l:List Int=> [T.sl (l.map rI_u8)]) (fun l:List Int=>l.length≤maxLen∧ ∀a∈l,(fun a:Int=>IntKind.u8.min≤a∧a≤IntKind.u8.max) a):=by
  cases n with
  | zero=>exact OpF.zero
  | succ n=>exact OpF.slice (s:=1) Try.underlying47 (by kernel_rfl) (by decide) (fun a=>rfl) (op5 n)
set_option maxRecDepth 100000 in
theorem tc(a0:List Int)(o0:(fun l:List Int=>l.length≤maxLen∧ ∀a∈l,(fun a:Int=>IntKind.u8.min≤a∧a≤IntKind.u8.max) a) a0):TC Try.prog 4 sg4 [.one (.c (.sl (a0.map rI_u8)))] [] (.one (.c (.bool true))) none [] none:=by
  obtain⟨n,h⟩:=Q.law a0 o0; exact TC.of RO OB checked (Aa h) (by unfold Sgs; simp) rfl rfl
set_option maxRecDepth 100000 in
theorem row(a0:List Int)(o0:(fun l:List Int=>l.length≤maxLen∧ ∀a∈l,(fun a:Int=>IntKind.u8.min≤a∧a≤IntKind.u8.max) a) a0)(W:World)(v0:Value)(h0:CR W [v0] [.sl (a0.map rI_u8)]):Calls Try.prog 4 #[v0] W fun e w'=>e= .returned (.bool true)∧Below W.heap.size W w':=by
  refine(tc a0 o0).row rfl rfl rfl (by decide) Try.func4 rfl (by decide) W (fun _ _ h=>by cases h) #[v0] rfl (fun i=> ?_) (fun i hi=> ?_)
  · match i with
    | 0=>rfl
    | _+1=>rfl
  · match i,hi with
    | 0,_=>exact rv_c h0 rfl
    | _+1,hi=>cases hi
end Go.Own
namespace Go.Proofs.Ytloebajamceclaa.fnTaken
open Go.ChangeShapes Go.WideShapes Go.ChangeAt Go.RowKit
open Go.ChangeMaps (open_string shut_string)
set_option linter.unusedVariables false
theorem own:ownKnob Try.prog.godebug=none:=by kernel_rfl
theorem Pf:laidOutB Try.prog=true:=by kernel_rfl
set_option maxRecDepth 100000 in
theorem SV(os:Os)(started:os.Started)(H:Type)(enc:TypeId×Value→H):
    ReturnsInHanded {} Try.checked os 4 .any (Rows.fnTakenSpec.pre6 enc Try.prog Try.f4 Rows.fnTakenRow.domain false) (Rows.fnTakenSpec.post enc Try.prog Try.f4 false true false false):=by
  refine returnsInHanded_of_change_sized (C:=Try.checked) own started (by kernel_rfl) Try.func4
    (ChangeSpec.witness6 (enc:=enc) (C:=Try.checked) false ⟨#[], #[.slice none 0 0],[]⟩ 8 (by kernel_rfl) (by kernel_rfl) (by kernel_rfl) (by kernel_rfl)) ?_
  intro W base args ds gs before hval0 hW hcnd hsz0 _; have hsz:(DataW.weightsEach Try.prog (Try.f4.params.toList++Rows.fnTakenSpec.plain.varTypes Try.prog) (ds++gs)).all (· ≤reachBytes)=true:=hsz0
  have hval: ∀(j:Nat) t v,Try.f4.params[j]? =some t→args[j]? =some v→Value.okWide Try.prog W .any base t v:=hval0; have hW':=hW; obtain⟨p,q,hA0,hV,rfl,hfz,hnd⟩:=hW; have hA:DataW.TrodAll enc Try.prog W 0 (fun _=>true) true Try.f4.params.toList args.toList ds p:=hA0
  rw[Try.params4]at hA hval hsz; obtain⟨v0,vs0,d0,ds0,p0,q0,hargs0,rfl,rfl,h0,r0⟩:=trodAll_cons hA; obtain⟨rfl,rfl,rfl⟩:=trodAll_nil r0; obtain rfl:args= #[v0]:=by cases args; simp_all
  obtain⟨rfl,rfl⟩:=trodVars_none hV; obtain⟨x0,y0,z0,rfl⟩:=okWide_slice Try.underlying47 (hval 0 47 v0 rfl rfl); have k0:=h0; have lt0: ∀x∈p0,x.block<W.heap.size:=by obtain⟨m,hm⟩:=k0; exact DataW.trod_lt m _ _ _ hm
  obtain⟨a0,e0,o0⟩: ∃a,Own.CR W _ ((fun l:List Int=> [Own.T.sl (l.map Own.rI_u8)]) a)∧(fun l:List Int=>l.length≤maxLen∧ ∀a∈l,(fun a:Int=>IntKind.u8.min≤a∧a≤IntKind.u8.max) a) a:=by
    obtain⟨fuel,hf⟩:=h0; exact Own.op47 fuel enc W _ _ _ _ _ hf
  clear hA0 hval0 hsz0 hsz; refine(Own.row a0 o0 W _ e0).mono fun e W' ⟨he,bel⟩=> ?_
  subst he; exact⟨_,rfl,_,_,_,[],_,[],hW',trodAll_mk1 (shut_bool Try.underlying4 _),(trodAll_cons_mk (Below.trod Pf (by kernel_rfl) (of_decide_eq_true (by kernel_rfl)) k0 bel lt0) trodAll_mk0),rfl,bel.frame _,fun h=>by cases h⟩
set_option maxHeartbeats 4000000 in
theorem Sf:joinedFacts Try.pinned.checked.prog 4 Try.f4 Rows.fnTakenSpec Rows.fnTakenRow=true:=by
  unfold joinedFacts; simp only[Bool.and_eq_true]; repeat' refine And.intro ?_ ?_
  all_goals as_aux_lemma=>kernel_rfl
theorem over:Rows.fnTakenRow.holds Try.pinned (OpenSpec.ofChange Rows.fnTakenSpec):=
  OpenClaim.holds_of_wide 4 Try.f4 rfl rfl rfl rfl rfl rfl rfl ⟨rfl,rfl,rfl,rfl,rfl⟩ rfl rfl rfl rfl rfl (by kernel_rfl) Try.func4 Sf
    (of_decide_eq_true (by kernel_rfl)) (by unfold Func.isWrapper; first | (rw[if_pos (by decide+kernel)]; kernel_rfl) | (rw[if_neg (by decide+kernel)]; exact⟨rfl,rfl⟩))
    (fun os started H enc _=>SV os started H enc)
theorem proved:Rows.FnTakenSaid:=over
#print axioms proved
end Go.Proofs.Ytloebajamceclaa.fnTaken
namespace Go.Proofs.Ytloebajamceclaa
theorem fnTaken_holds:Rows.FnTakenSaid:=fnTaken.proved
end Go.Proofs.Ytloebajamceclaa
