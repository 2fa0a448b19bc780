/- The row FnExactExprTextCard. No conditions. -/
import Derived.Test.YtloebajamceclaaDoorW39Q0
import Derived.Test.YtloebajamceclaaDoorW39C
import Derived.Test.YtloebajamceclaaDoorRows
import Derived.Test.YtloebajamceclaaDoorOwn4
import Derived.ProofKit
import Derived.LaidMore
import Derived.OpenShut
import Derived.Stop.Joined
import Derived.SevenTiedAt
import Derived.Lib.LaidTab
import Derived.Test.YtloebajamceclaaDoorTie
import Derived.Test.YtloebajamceclaaDoorCards
set_option linter.unusedVariables false
set_option linter.unusedSimpArgs false
set_option linter.unnecessarySimpa false
namespace Go.Own
open Go Go.Proofs Go.RowKit
theorem mixed:Tryd.prog.follows .mixedOrders=true:=by kernel_rfl
theorem op3(n:Nat):OpF Tryd.prog n 3 (fun a:Int=> [T.int .i64 a]) (fun a:Int=>IntKind.i64.min≤a∧a≤IntKind.i64.max):=OpF.int Tryd.underlying3
theorem op9(n:Nat):OpF Tryd.prog n 9 (fun a:List UInt8=> [T.str a]) (fun a:List UInt8=>a.length≤maxLen):=OpF.str Tryd.underlying9
theorem Jl: ∀n:Nat,OpF Tryd.prog n 25 rS_laws_Expr Q.okExpr∧OpF Tryd.prog n 22 (fun l:List aD=> [T.sl (l.map rS_laws_Expr)]) (fun l:List aD=>l.length≤maxLen∧ ∀a∈l,Q.okExpr a)∧OpF Tryd.prog n 23 (fun l:List aC=> [T.sl (l.map aJ)]) (fun l:List aC=>l.length≤maxLen∧ ∀a∈l,Q.okClause a)∧OpF Tryd.prog n 87 aJ Q.okClause:=by
  intro n; induction n with
  | zero=>exact⟨OpF.zero,OpF.zero,OpF.zero,OpF.zero⟩
  | succ n ih=>
    refine⟨?_, ?_, ?_, ?_⟩
    · intro H enc w base spare held cs x h
      obtain⟨xs,m,hn,_,hl,hlen,hf⟩:=DataW.trod_struct Tryd.underlying25 h; obtain rfl:n=m:=by omega
      obtain⟨a0,c0,o0⟩:=OpF.field hlen hf (i:=0) (off:=0) (size:=1) rfl rfl rfl (by kernel_rfl) (op3 n)
      obtain⟨a1,c1,o1⟩:=OpF.field hlen hf (i:=1) (off:=1) (size:=1) rfl rfl rfl (by kernel_rfl) (op3 n)
      obtain⟨a2,c2,o2⟩:=OpF.field hlen hf (i:=2) (off:=2) (size:=1) rfl rfl rfl (by kernel_rfl) (op9 n)
      obtain⟨a3,c3,o3⟩:=OpF.field hlen hf (i:=3) (off:=3) (size:=1) rfl rfl rfl (by kernel_rfl) (ih.2.1)
      obtain⟨a4,c4,o4⟩:=OpF.field hlen hf (i:=4) (off:=4) (size:=1) rfl rfl rfl (by kernel_rfl) (ih.2.2.1)
      have hnil:(cs.drop 5).length=0:=by
        have e:Tryd.prog.cellsOf 25=5:=by kernel_rfl
        rw[List.length_drop,hl,e]
      have key:=(CR.cons (off:=0) (size:=1) rfl c0 (CR.cons (off:=1) (size:=1) rfl c1 (CR.cons (off:=2) (size:=1) rfl c2 (CR.cons (off:=3) (size:=1) rfl c3 (CR.cons (off:=4) (size:=1) rfl c4 (CR.nil (w:=w) (cs:=cs.drop 5) (hnil))))))); refine⟨.mk a0 a1 a2 a3 a4, ?_, ?_⟩
      · rw[bZ]; exact key
      · simp only[Q.okExpr]; exact⟨o0,o1,o2,⟨o3.1,(Q.okExprs_iff _).2 o3.2⟩,⟨o4.1,(Q.okClauses_iff _).2 o4.2⟩⟩
    · exact OpF.slice (s:=5) Tryd.underlying22 (by kernel_rfl) (by decide) (fun a=>by rw[bZ]; rfl) (ih.1)
    · exact OpF.slice (s:=10) Tryd.underlying23 (by kernel_rfl) (by decide) (fun a=>by rw[fK]; rfl) (ih.2.2.2)
    · intro H enc w base spare held cs x h
      obtain⟨xs,m,hn,_,hl,hlen,hf⟩:=DataW.trod_struct Tryd.underlying87 h; obtain rfl:n=m:=by omega
      obtain⟨a0,c0,o0⟩:=OpF.field hlen hf (i:=0) (off:=0) (size:=5) rfl rfl rfl (by kernel_rfl) (ih.1)
      rw[bZ]at c0; obtain⟨a1,c1,o1⟩:=OpF.field hlen hf (i:=1) (off:=5) (size:=5) rfl rfl rfl (by kernel_rfl) (ih.1)
      rw[bZ]at c1; have hnil:(cs.drop 10).length=0:=by
        have e:Tryd.prog.cellsOf 87=10:=by kernel_rfl
        rw[List.length_drop,hl,e]
      have key:=(CR.cons (off:=0) (size:=5) rfl c0 (CR.cons (off:=5) (size:=5) rfl c1 (CR.nil (w:=w) (cs:=cs.drop 10) (hnil)))); refine⟨.two a0 a1, ?_, ?_⟩
      · rw[fK]; exact key
      · simp only[Q.okClause]; exact⟨o0,o1⟩
theorem op25(n:Nat):OpF Tryd.prog n 25 rS_laws_Expr Q.okExpr:=(Jl n).1
theorem op22(n:Nat):OpF Tryd.prog n 22 (fun l:List aD=> [T.sl (l.map rS_laws_Expr)]) (fun l:List aD=>l.length≤maxLen∧ ∀a∈l,Q.okExpr a):=(Jl n).2.1
theorem op23(n:Nat):OpF Tryd.prog n 23 (fun l:List aC=> [T.sl (l.map aJ)]) (fun l:List aC=>l.length≤maxLen∧ ∀a∈l,Q.okClause a):=(Jl n).2.2.1
theorem op87(n:Nat):OpF Tryd.prog n 87 aJ Q.okClause:=(Jl n).2.2.2
set_option maxRecDepth 100000 in
theorem tc(a0:aD)(o0:Q.okExpr a0):TC Tryd.prog 3 sg3 [.one (.ag (rS_laws_Expr a0))] [] (.one (.c (.bool true))) none [] none:=by
  obtain⟨n,h⟩:=Q.law a0 o0; rw[bZ]; exact TC.of mixed Ok checked (oO h) (by unfold Sgs; simp) rfl rfl
set_option maxRecDepth 100000 in
theorem row(a0:aD)(o0:Q.okExpr a0)(W:World)(ht:Tab G.old W)(cs0:Array Value)(h0:CR W cs0.toList (rS_laws_Expr a0)):Calls Tryd.prog 3 #[.agg cs0] W fun e w'=>e= .returned (.bool true)∧Below W.heap.size W w':=by
  refine(tc a0 o0).row rfl rfl rfl (by decide) Tryd.func3 rfl (by decide) W ht #[.agg cs0] rfl (fun i=> ?_) (fun i hi=> ?_)
  · match i with
    | 0=>rfl
    | _+1=>rfl
  · match i,hi with
    | 0,_=>exact rv_ag h0 (by rw[bZ]; rfl)
    | _+1,hi=>cases hi
end Go.Own
namespace Go.Proofs.YtloebajamceclaaDoor.fnExactExprText
open Go.ChangeShapes Go.WideShapes Go.ChangeAt Go.RowKit
open Go.ChangeMaps (open_string shut_string)
set_option linter.unusedVariables false
theorem own:ownKnob Tryd.prog.godebug=none:=by kernel_rfl
theorem Mw:laidOutB Tryd.prog=true:=by kernel_rfl
theorem LB(os:Os)(args:Array Value):laidMetH Tryd.prog Rows.fnExactExprTextRow.laid ((World.doorLaid Tryd.prog 400 os).forCall (fun _ _=>0) ⟨#[],args,[]⟩).memory:=
  laidMetH_of_parts3 (fuel:=8) (laidMet_of_run' 8 (by kernel_rfl) (by kernel_rfl)) (by kernel_rfl) (by kernel_rfl)
set_option maxRecDepth 100000 in
theorem Nx:Tryd.prog.globalNamed "internal/strconv.uint64pow10" =some Own.tabB:=by kernel_rfl
theorem gType:(Tryd.prog.globals[Own.tabB]?).map (·.type)=some 141:=by kernel_rfl
theorem PX:Tryd.prog.cellsOf 134=1:=by kernel_rfl
theorem PW:Tryd.prog.cellsOf 141=20:=by kernel_rfl
set_option maxRecDepth 100000 in
theorem Mj{W:World}(h:laidMetH Tryd.prog Rows.fnExactExprTextRow.laid W):Own.Tab Own.G.old W:=by
  rw[MakeChecks.laidMetH_plain _ _ _ (by kernel_rfl)]at h
  obtain⟨ps,⟨g0,t0,cs0,f0,p0,q0,hg0,ht0,hv0,hd0,⟨g1,t1,cs1,f1,p1,q1,hg1,ht1,hv1,hd1,⟨g2,t2,cs2,f2,p2,q2,hg2,ht2,hv2,hd2,_,_⟩,_⟩,_⟩,_,_⟩:=h; obtain rfl:=Option.some.inj (Nx.symm.trans hg2); obtain rfl:=Option.some.inj (gType.symm.trans ht2); have hc:=Lib.cells_of_tab (zs:=Lib.pow10Tab) (k:= .u64) Tryd.underlying141 Tryd.underlying134 PX PW hd2; intro b arr hb; unfold Own.TB at hb; split at hb
  · rename_i e
    subst e; cases hb; refine⟨rfl, ?_⟩
    unfold World.var? at hv2; rw[Nx,Option.bind_some]at hv2; split at hv2
    · rename_i cs ty fz hh
      cases hv2; exact⟨ty,fz,by rw[hh]; exact congrArg (fun q=>some (Obj.cells q ty fz)) (by rw[←hc])⟩
    · cases hv2
  · cases hb
set_option maxRecDepth 100000 in
theorem PH(os:Os)(started:os.Started)(H:Type)(enc:TypeId×Value→H):
    ReturnsInHanded {} Tryd.checked os 3 .any (fun w args=>(Rows.fnExactExprTextSpec.pre enc Tryd.prog Tryd.f3 [] false w args∧laidMetH Tryd.prog Rows.fnExactExprTextRow.laid w)∧sizedMet enc Tryd.prog Tryd.f3 (OpenSpec.ofChange Rows.fnExactExprTextSpec) false w args) (Rows.fnExactExprTextSpec.post enc Tryd.prog Tryd.f3 false true false false):=by
  refine returnsInHanded_of_change_and (C:=Tryd.checked) (X:=fun w _=>laidMetH Tryd.prog Rows.fnExactExprTextRow.laid w) (fun _ _ _ hh h=>h.of_heap hh) own started (by kernel_rfl) Tryd.func3
    (ChangeSpec.witness_shaped (enc:=enc) (C:=Tryd.checked) (os:=os) (X:=fun w _=>laidMetH Tryd.prog Rows.fnExactExprTextRow.laid w) false (World.doorLaid Tryd.prog 400 os) #[.agg #[.int .i64 0, .int .i64 0, .string ⟨#[]⟩, .slice none 0 0, .slice none 0 0]] 8 rfl (World.shaped_of_RefB (by kernel_rfl) (by kernel_rfl)) (by kernel_rfl) (by kernel_rfl) (by kernel_rfl) (LB os _)) ?_
  intro W base args ds gs before hval0 hW _ _ hL _; have hval: ∀(j:Nat) t v,Tryd.f3.params[j]? =some t→args[j]? =some v→Value.okWide Tryd.prog W .any base t v:=hval0; have hW':=hW; obtain⟨p,q,hA0,hV,rfl,hfz,hnd⟩:=hW; have hA:DataW.TrodAll enc Tryd.prog W 0 (fun _=>true) true Tryd.f3.params.toList args.toList ds p:=hA0
  rw[Tryd.params3]at hA hval; obtain⟨v0,vs0,d0,ds0,p0,q0,hargs0,rfl,rfl,h0,r0⟩:=trodAll_cons hA; obtain⟨rfl,rfl,rfl⟩:=trodAll_nil r0; obtain rfl:args= #[v0]:=by cases args; simp_all
  obtain⟨rfl,rfl⟩:=trodVars_none hV; obtain⟨cs0,rfl,_⟩:=okWide_struct Tryd.underlying25 (hval 0 25 v0 rfl rfl); have k0:=h0; have lt0: ∀x∈p0,x.block<W.heap.size:=by obtain⟨m,hm⟩:=k0; exact DataW.trod_lt m _ _ _ hm
  obtain⟨a0,e0,o0⟩: ∃a,Own.CR W _ (Own.rS_laws_Expr a)∧Own.Q.okExpr a:=by
    obtain⟨fuel,hf⟩:=h0; exact Own.op25 fuel enc W _ _ _ _ _ hf
  clear hA0 hval0; refine(Own.row a0 o0 W (Mj hL) cs0 e0).mono fun e W' ⟨he,bel⟩=> ?_
  subst he; exact⟨_,rfl,_,_,_,[],_,[],hW',trodAll_mk1 (shut_bool Tryd.underlying4 _),(trodAll_cons_mk (Below.trod Mw (by kernel_rfl) (of_decide_eq_true (by kernel_rfl)) k0 bel lt0) trodAll_mk0),rfl,bel.frame _,fun h=>by cases h⟩
set_option maxHeartbeats 4000000 in
theorem PR:joinedFacts Tryd.pinned.checked.prog 3 Tryd.f3 Rows.fnExactExprTextSpec Rows.fnExactExprTextRow=true:=by
  unfold joinedFacts; simp only[Bool.and_eq_true]; repeat' refine And.intro ?_ ?_
  all_goals as_aux_lemma=>kernel_rfl
theorem over:Rows.fnExactExprTextRow.holds Tryd.pinned (OpenSpec.ofChange Rows.fnExactExprTextSpec):=
  OpenClaim.holds_of_wide 3 Tryd.f3 rfl rfl rfl rfl rfl rfl rfl ⟨rfl,rfl,rfl,rfl,rfl⟩ rfl rfl rfl rfl rfl (by kernel_rfl) Tryd.func3 PR
    (of_decide_eq_true (by kernel_rfl)) (by unfold Func.isWrapper; first | (rw[if_pos (by decide+kernel)]; kernel_rfl) | (rw[if_neg (by decide+kernel)]; exact⟨rfl,rfl⟩))
    (fun os started H enc _=>PH os started H enc)
theorem proved:Rows.FnExactExprTextCardSaid:=
  Claim7.holds_tied_plain_at .later [] [.data, .data, .data] true (true, "18b1d734f8cb4c919339ce245015333d2514eb13e0e22e545ebd2e9a966925e9") false
    over (fun _ h=>by cases h) (by kernel_rfl) (fun _ h=>by cases h) fnExactExprText_row_tie rfl ⟨rfl,rfl⟩ (by kernel_rfl) rfl
    (fun f fn hf hfn=>by
      obtain rfl:f=3:=Option.some.inj ((show Tryd.prog.funcNamed "loop.example/g00236/laws.FnExactExprText" =some 3 by kernel_rfl).symm.trans hf) |>.symm
      obtain rfl:fn=Tryd.f3:=(Option.some.inj (Tryd.func3.symm.trans hfn)).symm; exact⟨by kernel_rfl,fun j t ht=>by
        rw[Tryd.params3]at ht; have hm:t∈[25]:=by simpa using Array.mem_of_getElem? ht
        have hall:([25].all fun u=> !Tryd.prog.wantsStandIn u)=true:=by kernel_rfl
        exact(show Tryd.prog.wantsStandIn t=false by simpa using List.all_eq_true.1 hall t hm)⟩)
    (by kernel_rfl)
#print axioms proved
end Go.Proofs.YtloebajamceclaaDoor.fnExactExprText
namespace Go.Proofs.YtloebajamceclaaDoor
theorem fnExactExprTextCard_holds:Rows.FnExactExprTextCardSaid:=fnExactExprText.proved
end Go.Proofs.YtloebajamceclaaDoor
