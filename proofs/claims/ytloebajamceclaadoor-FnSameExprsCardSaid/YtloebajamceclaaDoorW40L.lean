/- The row FnSameExprsCard. No conditions. -/
import Derived.Test.YtloebajamceclaaDoorW40Q0
import Derived.Test.YtloebajamceclaaDoorW40C
import Derived.Test.YtloebajamceclaaDoorRows
import Derived.Test.YtloebajamceclaaDoorOwn4
import Derived.ProofKit
import Derived.LaidMore
import Derived.OpenShut
import Derived.Stop.Joined
import Derived.SevenTiedAt
import Derived.Lib.LaidTab
import Derived.Test.YtloebajamceclaaDoorTie
import Derived.Test.YtloebajamceclaaDoorCards
set_option linter.unusedVariables false
set_option linter.unusedSimpArgs false
set_option linter.unnecessarySimpa false
namespace Go.Own
open Go Go.Proofs Go.RowKit
theorem mixed:Tryd.prog.follows .mixedOrders=true:=by kernel_rfl
theorem op5(n:Nat):OpF Tryd.prog n 5 (fun a:Int=> [T.int .u8 a]) (fun a:Int=>IntKind.u8.min≤a∧a≤IntKind.u8.max):=OpF.int Tryd.underlying5
theorem op35(n:Nat):OpF Tryd.prog n 35 (fun l:List Int=> [T.sl (l.map rI_u8)]) (fun l:List Int=>l.length≤maxLen∧ ∀a∈l,(fun a:Int=>IntKind.u8.min≤a∧a≤IntKind.u8.max) a):=by
  cases n with
  | zero=>exact OpF.zero
  | succ n=>exact OpF.slice (s:=1) Tryd.underlying35 (by kernel_rfl) (by decide) (fun a=>rfl) (op5 n)
set_option maxRecDepth 100000 in
theorem tc(a0:List Int)(o0:(fun l:List Int=>l.length≤maxLen∧ ∀a∈l,(fun a:Int=>IntKind.u8.min≤a∧a≤IntKind.u8.max) a) a0):TC Tryd.prog 4 sg4 [.one (.c (.sl (a0.map rI_u8)))] [] (.one (.c (.bool true))) none [] none:=by
  obtain⟨n,h⟩:=Q.law a0 o0; exact TC.of mixed PJ checked (rF h) (by unfold Sgs; simp) rfl rfl
set_option maxRecDepth 100000 in
theorem row(a0:List Int)(o0:(fun l:List Int=>l.length≤maxLen∧ ∀a∈l,(fun a:Int=>IntKind.u8.min≤a∧a≤IntKind.u8.max) a) a0)(W:World)(ht:Tab G.old W)(v0:Value)(h0:CR W [v0] [.sl (a0.map rI_u8)]):Calls Tryd.prog 4 #[v0] W fun e w'=>e= .returned (.bool true)∧Below W.heap.size W w':=by
  refine(tc a0 o0).row rfl rfl rfl (by decide) Tryd.func4 rfl (by decide) W ht #[v0] rfl (fun i=> ?_) (fun i hi=> ?_)
  · match i with
    | 0=>rfl
    | _+1=>rfl
  · match i,hi with
    | 0,_=>exact rv_c h0 rfl
    | _+1,hi=>cases hi
end Go.Own
namespace Go.Proofs.YtloebajamceclaaDoor.fnSameExprs
open Go.ChangeShapes Go.WideShapes Go.ChangeAt Go.RowKit
open Go.ChangeMaps (open_string shut_string)
set_option linter.unusedVariables false
theorem own:ownKnob Tryd.prog.godebug=none:=by kernel_rfl
theorem NO:laidOutB Tryd.prog=true:=by kernel_rfl
theorem LR(os:Os)(args:Array Value):laidMetH Tryd.prog Rows.fnSameExprsRow.laid ((World.doorLaid Tryd.prog 400 os).forCall (fun _ _=>0) ⟨#[],args,[]⟩).memory:=
  laidMetH_of_parts3 (fuel:=8) (laidMet_of_run' 8 (by kernel_rfl) (by kernel_rfl)) (by kernel_rfl) (by kernel_rfl)
set_option maxRecDepth 100000 in
theorem OV:Tryd.prog.globalNamed "internal/strconv.uint64pow10" =some Own.tabB:=by kernel_rfl
theorem gType:(Tryd.prog.globals[Own.tabB]?).map (·.type)=some 141:=by kernel_rfl
theorem Pu:Tryd.prog.cellsOf 134=1:=by kernel_rfl
theorem Pt:Tryd.prog.cellsOf 141=20:=by kernel_rfl
set_option maxRecDepth 100000 in
theorem NC{W:World}(h:laidMetH Tryd.prog Rows.fnSameExprsRow.laid W):Own.Tab Own.G.old W:=by
  rw[MakeChecks.laidMetH_plain _ _ _ (by kernel_rfl)]at h
  obtain⟨ps,⟨g0,t0,cs0,f0,p0,q0,hg0,ht0,hv0,hd0,⟨g1,t1,cs1,f1,p1,q1,hg1,ht1,hv1,hd1,⟨g2,t2,cs2,f2,p2,q2,hg2,ht2,hv2,hd2,_,_⟩,_⟩,_⟩,_,_⟩:=h; obtain rfl:=Option.some.inj (OV.symm.trans hg2); obtain rfl:=Option.some.inj (gType.symm.trans ht2); have hc:=Lib.cells_of_tab (zs:=Lib.pow10Tab) (k:= .u64) Tryd.underlying141 Tryd.underlying134 Pu Pt hd2; intro b arr hb; unfold Own.TB at hb; split at hb
  · rename_i e
    subst e; cases hb; refine⟨rfl, ?_⟩
    unfold World.var? at hv2; rw[OV,Option.bind_some]at hv2; split at hv2
    · rename_i cs ty fz hh
      cases hv2; exact⟨ty,fz,by rw[hh]; exact congrArg (fun q=>some (Obj.cells q ty fz)) (by rw[←hc])⟩
    · cases hv2
  · cases hb
set_option maxRecDepth 100000 in
theorem Pc(os:Os)(started:os.Started)(H:Type)(enc:TypeId×Value→H):
    ReturnsInHanded {} Tryd.checked os 4 .any (fun w args=>(Rows.fnSameExprsSpec.pre enc Tryd.prog Tryd.f4 [] false w args∧laidMetH Tryd.prog Rows.fnSameExprsRow.laid w)∧sizedMet enc Tryd.prog Tryd.f4 (OpenSpec.ofChange Rows.fnSameExprsSpec) false w args) (Rows.fnSameExprsSpec.post enc Tryd.prog Tryd.f4 false true false false):=by
  refine returnsInHanded_of_change_and (C:=Tryd.checked) (X:=fun w _=>laidMetH Tryd.prog Rows.fnSameExprsRow.laid w) (fun _ _ _ hh h=>h.of_heap hh) own started (by kernel_rfl) Tryd.func4
    (ChangeSpec.witness_shaped (enc:=enc) (C:=Tryd.checked) (os:=os) (X:=fun w _=>laidMetH Tryd.prog Rows.fnSameExprsRow.laid w) false (World.doorLaid Tryd.prog 400 os) #[.slice none 0 0] 8 rfl (World.shaped_of_RefB (by kernel_rfl) (by kernel_rfl)) (by kernel_rfl) (by kernel_rfl) (by kernel_rfl) (LR os _)) ?_
  intro W base args ds gs before hval0 hW _ _ hL _; have hval: ∀(j:Nat) t v,Tryd.f4.params[j]? =some t→args[j]? =some v→Value.okWide Tryd.prog W .any base t v:=hval0; have hW':=hW; obtain⟨p,q,hA0,hV,rfl,hfz,hnd⟩:=hW; have hA:DataW.TrodAll enc Tryd.prog W 0 (fun _=>true) true Tryd.f4.params.toList args.toList ds p:=hA0
  rw[Tryd.params4]at hA hval; obtain⟨v0,vs0,d0,ds0,p0,q0,hargs0,rfl,rfl,h0,r0⟩:=trodAll_cons hA; obtain⟨rfl,rfl,rfl⟩:=trodAll_nil r0; obtain rfl:args= #[v0]:=by cases args; simp_all
  obtain⟨rfl,rfl⟩:=trodVars_none hV; obtain⟨x0,y0,z0,rfl⟩:=okWide_slice Tryd.underlying35 (hval 0 35 v0 rfl rfl); have k0:=h0; have lt0: ∀x∈p0,x.block<W.heap.size:=by obtain⟨m,hm⟩:=k0; exact DataW.trod_lt m _ _ _ hm
  obtain⟨a0,e0,o0⟩: ∃a,Own.CR W _ ((fun l:List Int=> [Own.T.sl (l.map Own.rI_u8)]) a)∧(fun l:List Int=>l.length≤maxLen∧ ∀a∈l,(fun a:Int=>IntKind.u8.min≤a∧a≤IntKind.u8.max) a) a:=by
    obtain⟨fuel,hf⟩:=h0; exact Own.op35 fuel enc W _ _ _ _ _ hf
  clear hA0 hval0; refine(Own.row a0 o0 W (NC hL) _ e0).mono fun e W' ⟨he,bel⟩=> ?_
  subst he; exact⟨_,rfl,_,_,_,[],_,[],hW',trodAll_mk1 (shut_bool Tryd.underlying4 _),(trodAll_cons_mk (Below.trod NO (by kernel_rfl) (of_decide_eq_true (by kernel_rfl)) k0 bel lt0) trodAll_mk0),rfl,bel.frame _,fun h=>by cases h⟩
set_option maxHeartbeats 4000000 in
theorem Po:joinedFacts Tryd.pinned.checked.prog 4 Tryd.f4 Rows.fnSameExprsSpec Rows.fnSameExprsRow=true:=by
  unfold joinedFacts; simp only[Bool.and_eq_true]; repeat' refine And.intro ?_ ?_
  all_goals as_aux_lemma=>kernel_rfl
theorem over:Rows.fnSameExprsRow.holds Tryd.pinned (OpenSpec.ofChange Rows.fnSameExprsSpec):=
  OpenClaim.holds_of_wide 4 Tryd.f4 rfl rfl rfl rfl rfl rfl rfl ⟨rfl,rfl,rfl,rfl,rfl⟩ rfl rfl rfl rfl rfl (by kernel_rfl) Tryd.func4 Po
    (of_decide_eq_true (by kernel_rfl)) (by unfold Func.isWrapper; first | (rw[if_pos (by decide+kernel)]; kernel_rfl) | (rw[if_neg (by decide+kernel)]; exact⟨rfl,rfl⟩))
    (fun os started H enc _=>Pc os started H enc)
theorem proved:Rows.FnSameExprsCardSaid:=
  Claim7.holds_tied_plain_at .later [] [.data, .data, .data] true (true, "18b1d734f8cb4c919339ce245015333d2514eb13e0e22e545ebd2e9a966925e9") false
    over (fun _ h=>by cases h) (by kernel_rfl) (fun _ h=>by cases h) fnSameExprs_row_tie rfl ⟨rfl,rfl⟩ (by kernel_rfl) rfl
    (fun f fn hf hfn=>by
      obtain rfl:f=4:=Option.some.inj ((show Tryd.prog.funcNamed "loop.example/g00236/laws.FnSameExprs" =some 4 by kernel_rfl).symm.trans hf) |>.symm
      obtain rfl:fn=Tryd.f4:=(Option.some.inj (Tryd.func4.symm.trans hfn)).symm; exact⟨by kernel_rfl,fun j t ht=>by
        rw[Tryd.params4]at ht; have hm:t∈[35]:=by simpa using Array.mem_of_getElem? ht
        have hall:([35].all fun u=> !Tryd.prog.wantsStandIn u)=true:=by kernel_rfl
        exact(show Tryd.prog.wantsStandIn t=false by simpa using List.all_eq_true.1 hall t hm)⟩)
    (by kernel_rfl)
#print axioms proved
end Go.Proofs.YtloebajamceclaaDoor.fnSameExprs
namespace Go.Proofs.YtloebajamceclaaDoor
theorem fnSameExprsCard_holds:Rows.FnSameExprsCardSaid:=fnSameExprs.proved
end Go.Proofs.YtloebajamceclaaDoor
