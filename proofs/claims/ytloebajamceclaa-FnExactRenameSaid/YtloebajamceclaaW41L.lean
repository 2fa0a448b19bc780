/- The row FnExactRename. No conditions. -/
import Derived.Test.YtloebajamceclaaW41Q0
import Derived.Test.YtloebajamceclaaW41C
import Derived.Test.YtloebajamceclaaRows
import Derived.Test.YtloebajamceclaaOwn4
set_option linter.unusedVariables false
set_option linter.unusedSimpArgs false
set_option linter.unnecessarySimpa false
namespace Go.Own
open Go Go.Proofs Go.RowKit
theorem mixed:Try.prog.follows .mixedOrders=true:=by kernel_rfl
theorem op9(n:Nat):OpF Try.prog n 9 (fun a:List UInt8=> [T.str a]) (fun a:List UInt8=>a.length≤maxLen):=OpF.str Try.underlying9
theorem op115(n:Nat):OpF Try.prog n 115 (fun l:List (List UInt8)=> [T.sl (l.map bZ)]) (fun l:List (List UInt8)=>l.length≤maxLen∧ ∀a∈l,(fun a:List UInt8=>a.length≤maxLen) a):=by
  cases n with
  | zero=>exact OpF.zero
  | succ n=>exact OpF.slice (s:=1) Try.underlying115 (by kernel_rfl) (by decide) (fun a=>rfl) (op9 n)
theorem op3(n:Nat):OpF Try.prog n 3 (fun a:Int=> [T.int .i64 a]) (fun a:Int=>IntKind.i64.min≤a∧a≤IntKind.i64.max):=OpF.int Try.underlying3
theorem Rv: ∀n:Nat,OpF Try.prog n 25 aV Q.okExpr∧OpF Try.prog n 22 (fun l:List aI=> [T.sl (l.map aV)]) (fun l:List aI=>l.length≤maxLen∧ ∀a∈l,Q.okExpr a)∧OpF Try.prog n 23 (fun l:List aF=> [T.sl (l.map aP)]) (fun l:List aF=>l.length≤maxLen∧ ∀a∈l,Q.okClause a)∧OpF Try.prog n 124 aP Q.okClause:=by
  intro n; induction n with
  | zero=>exact⟨OpF.zero,OpF.zero,OpF.zero,OpF.zero⟩
  | succ n ih=>
    refine⟨?_, ?_, ?_, ?_⟩
    · intro H enc w base spare held cs x h
      obtain⟨xs,m,hn,_,hl,hlen,hf⟩:=DataW.trod_struct Try.underlying25 h; obtain rfl:n=m:=by omega
      obtain⟨a0,c0,o0⟩:=OpF.field hlen hf (i:=0) (off:=0) (size:=1) rfl rfl rfl (by kernel_rfl) (op3 n)
      obtain⟨a1,c1,o1⟩:=OpF.field hlen hf (i:=1) (off:=1) (size:=1) rfl rfl rfl (by kernel_rfl) (op3 n)
      obtain⟨a2,c2,o2⟩:=OpF.field hlen hf (i:=2) (off:=2) (size:=1) rfl rfl rfl (by kernel_rfl) (op9 n)
      obtain⟨a3,c3,o3⟩:=OpF.field hlen hf (i:=3) (off:=3) (size:=1) rfl rfl rfl (by kernel_rfl) (ih.2.1)
      obtain⟨a4,c4,o4⟩:=OpF.field hlen hf (i:=4) (off:=4) (size:=1) rfl rfl rfl (by kernel_rfl) (ih.2.2.1)
      have hnil:(cs.drop 5).length=0:=by
        have e:Try.prog.cellsOf 25=5:=by kernel_rfl
        rw[List.length_drop,hl,e]
      have key:=(CR.cons (off:=0) (size:=1) rfl c0 (CR.cons (off:=1) (size:=1) rfl c1 (CR.cons (off:=2) (size:=1) rfl c2 (CR.cons (off:=3) (size:=1) rfl c3 (CR.cons (off:=4) (size:=1) rfl c4 (CR.nil (w:=w) (cs:=cs.drop 5) (hnil))))))); refine⟨.mk a0 a1 a2 a3 a4, ?_, ?_⟩
      · rw[eC]; exact key
      · simp only[Q.okExpr]; exact⟨o0,o1,o2,⟨o3.1,(Q.okExprs_iff _).2 o3.2⟩,⟨o4.1,(Q.okClauses_iff _).2 o4.2⟩⟩
    · exact OpF.slice (s:=5) Try.underlying22 (by kernel_rfl) (by decide) (fun a=>by rw[eC]; rfl) (ih.1)
    · exact OpF.slice (s:=10) Try.underlying23 (by kernel_rfl) (by decide) (fun a=>by rw[jU]; rfl) (ih.2.2.2)
    · intro H enc w base spare held cs x h
      obtain⟨xs,m,hn,_,hl,hlen,hf⟩:=DataW.trod_struct Try.underlying124 h; obtain rfl:n=m:=by omega
      obtain⟨a0,c0,o0⟩:=OpF.field hlen hf (i:=0) (off:=0) (size:=5) rfl rfl rfl (by kernel_rfl) (ih.1)
      rw[eC]at c0; obtain⟨a1,c1,o1⟩:=OpF.field hlen hf (i:=1) (off:=5) (size:=5) rfl rfl rfl (by kernel_rfl) (ih.1)
      rw[eC]at c1; have hnil:(cs.drop 10).length=0:=by
        have e:Try.prog.cellsOf 124=10:=by kernel_rfl
        rw[List.length_drop,hl,e]
      have key:=(CR.cons (off:=0) (size:=5) rfl c0 (CR.cons (off:=5) (size:=5) rfl c1 (CR.nil (w:=w) (cs:=cs.drop 10) (hnil)))); refine⟨.two a0 a1, ?_, ?_⟩
      · rw[jU]; exact key
      · simp only[Q.okClause]; exact⟨o0,o1⟩
theorem op25(n:Nat):OpF Try.prog n 25 aV Q.okExpr:=(Rv n).1
theorem op22(n:Nat):OpF Try.prog n 22 (fun l:List aI=> [T.sl (l.map aV)]) (fun l:List aI=>l.length≤maxLen∧ ∀a∈l,Q.okExpr a):=(Rv n).2.1
theorem op23(n:Nat):OpF Try.prog n 23 (fun l:List aF=> [T.sl (l.map aP)]) (fun l:List aF=>l.length≤maxLen∧ ∀a∈l,Q.okClause a):=(Rv n).2.2.1
theorem op124(n:Nat):OpF Try.prog n 124 aP Q.okClause:=(Rv n).2.2.2
theorem op155(n:Nat):OpF Try.prog n 155 iR Q.okFun:=by
  intro H enc w base spare held cs x h; obtain⟨xs,m,hn,_,hl,hlen,hf⟩:=DataW.trod_struct Try.underlying155 h; obtain⟨a0,c0,o0⟩:=OpF.field hlen hf (i:=0) (off:=0) (size:=1) rfl rfl rfl (by kernel_rfl) (op9 m)
  obtain⟨a1,c1,o1⟩:=OpF.field hlen hf (i:=1) (off:=1) (size:=1) rfl rfl rfl (by kernel_rfl) (op115 m)
  obtain⟨a2,c2,o2⟩:=OpF.field hlen hf (i:=2) (off:=2) (size:=5) rfl rfl rfl (by kernel_rfl) (op25 m)
  rw[eC]at c2; have hnil:(cs.drop 7).length=0:=by
    have e:Try.prog.cellsOf 155=7:=by kernel_rfl
    rw[List.length_drop,hl,e]
  have key:=(CR.cons (off:=0) (size:=1) rfl c0 (CR.cons (off:=1) (size:=1) rfl c1 (CR.cons (off:=2) (size:=5) rfl c2 (CR.nil (w:=w) (cs:=cs.drop 7) (hnil))))); exact⟨⟨a0,a1,a2.f0,a2.f1,a2.f2,a2.f3,a2.f4⟩,key,⟨o0,o1,(by rw[Q.S_laws_Expr_eta]; exact o2)⟩⟩
theorem op62(n:Nat):OpF Try.prog n 62 (fun l:List aW=> [T.sl (l.map iR)]) (fun l:List aW=>l.length≤maxLen∧ ∀a∈l,Q.okFun a):=by
  cases n with
  | zero=>exact OpF.zero
  | succ n=>exact OpF.slice (s:=7) Try.underlying62 (by kernel_rfl) (by decide) (fun a=>rfl) (op155 n)
def rS_laws_Module(a:S_laws_Module):List T:=[.sl (a.f0.map iR)]
theorem PD(a:S_laws_Module):rS_laws_Module a=[.sl (a.f0.map iR)]:=rfl
theorem op64(n:Nat):OpF Try.prog n 64 rS_laws_Module Q.okModule:=by
  intro H enc w base spare held cs x h; obtain⟨xs,m,hn,_,hl,hlen,hf⟩:=DataW.trod_struct Try.underlying64 h; obtain⟨a0,c0,o0⟩:=OpF.field hlen hf (i:=0) (off:=0) (size:=1) rfl rfl rfl (by kernel_rfl) (op62 m)
  have hnil:(cs.drop 1).length=0:=by
    have e:Try.prog.cellsOf 64=1:=by kernel_rfl
    rw[List.length_drop,hl,e]
  have key:=(CR.cons (off:=0) (size:=1) rfl c0 (CR.nil (w:=w) (cs:=cs.drop 1) (hnil))); exact⟨⟨a0⟩,key,o0⟩
set_option maxRecDepth 100000 in
theorem tc(a0:S_laws_Module)(a1:List UInt8)(a2:List UInt8)(o0:Q.okModule a0)(o1:(fun a:List UInt8=>a.length≤maxLen) a1)(o2:(fun a:List UInt8=>a.length≤maxLen) a2):TC Try.prog 6 sg6 [.one (.ag (rS_laws_Module a0)), .one (.c (.str a1)), .one (.c (.str a2))] [] (.one (.c (.bool true))) none [] none:=by
  obtain⟨n,h⟩:=Q.law a0 a1 a2 o0 o1 o2; exact TC.of mixed Te checked (wQ h) (by unfold Sgs; simp) rfl rfl
set_option maxRecDepth 100000 in
theorem row(a0:S_laws_Module)(a1:List UInt8)(a2:List UInt8)(o0:Q.okModule a0)(o1:(fun a:List UInt8=>a.length≤maxLen) a1)(o2:(fun a:List UInt8=>a.length≤maxLen) a2)(W:World)(cs0:Array Value)(h0:CR W cs0.toList (rS_laws_Module a0))(v1:Value)(h1:CR W [v1] [.str a1])(v2:Value)(h2:CR W [v2] [.str a2]):Calls Try.prog 6 #[.agg cs0,v1,v2] W fun e w'=>e= .returned (.bool true)∧Below W.heap.size W w':=by
  refine(tc a0 a1 a2 o0 o1 o2).row rfl rfl rfl (by decide) Try.func6 rfl (by decide) W (fun _ _ h=>by cases h) #[.agg cs0,v1,v2] rfl (fun i=> ?_) (fun i hi=> ?_)
  · match i with
    | 0=>rfl
    | 1=>rfl
    | 2=>rfl
    | _+3=>rfl
  · match i,hi with
    | 0,_=>exact rv_ag h0 rfl
    | 1,_=>exact rv_c h1 rfl
    | 2,_=>exact rv_c h2 rfl
    | _+3,hi=>cases hi
end Go.Own
namespace Go.Proofs.Ytloebajamceclaa.fnExactRename
open Go.ChangeShapes Go.WideShapes Go.ChangeAt Go.RowKit
open Go.ChangeMaps (open_string shut_string)
set_option linter.unusedVariables false
theorem own:ownKnob Try.prog.godebug=none:=by kernel_rfl
theorem MY:laidOutB Try.prog=true:=by kernel_rfl
set_option maxRecDepth 100000 in
theorem YV(os:Os)(started:os.Started)(H:Type)(enc:TypeId×Value→H):
    ReturnsInHanded {} Try.checked os 6 .any (Rows.fnExactRenameSpec.pre6 enc Try.prog Try.f6 Rows.fnExactRenameRow.domain false) (Rows.fnExactRenameSpec.post enc Try.prog Try.f6 false true false false):=by
  refine returnsInHanded_of_change_sized (C:=Try.checked) own started (by kernel_rfl) Try.func6
    (ChangeSpec.witness6 (enc:=enc) (C:=Try.checked) false ⟨#[], #[.agg #[.slice none 0 0], .string ⟨#[]⟩, .string ⟨#[]⟩],[]⟩ 8 (by kernel_rfl) (by kernel_rfl) (by kernel_rfl) (by kernel_rfl)) ?_
  intro W base args ds gs before hval0 hW hcnd hsz0 _; have hsz:(DataW.weightsEach Try.prog (Try.f6.params.toList++Rows.fnExactRenameSpec.plain.varTypes Try.prog) (ds++gs)).all (· ≤reachBytes)=true:=hsz0
  have hval: ∀(j:Nat) t v,Try.f6.params[j]? =some t→args[j]? =some v→Value.okWide Try.prog W .any base t v:=hval0; have hW':=hW; obtain⟨p,q,hA0,hV,rfl,hfz,hnd⟩:=hW; have hA:DataW.TrodAll enc Try.prog W 0 (fun _=>true) true Try.f6.params.toList args.toList ds p:=hA0
  rw[Try.params6]at hA hval hsz; obtain⟨v0,vs0,d0,ds0,p0,q0,hargs0,rfl,rfl,h0,r0⟩:=trodAll_cons hA; obtain⟨v1,vs1,d1,ds1,p1,q1,hargs1,rfl,rfl,h1,r1⟩:=trodAll_cons r0; obtain⟨v2,vs2,d2,ds2,p2,q2,hargs2,rfl,rfl,h2,r2⟩:=trodAll_cons r1; obtain⟨rfl,rfl,rfl⟩:=trodAll_nil r2; obtain rfl:args= #[v0,v1,v2]:=by cases args; simp_all
  obtain⟨rfl,rfl⟩:=trodVars_none hV; obtain⟨cs0,rfl,_⟩:=okWide_struct Try.underlying64 (hval 0 64 v0 rfl rfl); have k0:=h0; have lt0: ∀x∈p0,x.block<W.heap.size:=by obtain⟨m,hm⟩:=k0; exact DataW.trod_lt m _ _ _ hm
  obtain⟨a0,e0,o0⟩: ∃a,Own.CR W _ (Own.rS_laws_Module a)∧Own.Q.okModule a:=by
    obtain⟨fuel,hf⟩:=h0; exact Own.op64 fuel enc W _ _ _ _ _ hf
  obtain⟨x1,rfl⟩:=okWide_string Try.underlying9 (hval 1 9 v1 rfl rfl); have k1:=h1; have lt1: ∀x∈p1,x.block<W.heap.size:=by obtain⟨m,hm⟩:=k1; exact DataW.trod_lt m _ _ _ hm
  obtain⟨a1,e1,o1⟩: ∃a,Own.CR W _ ((fun a:List UInt8=> [Own.T.str a]) a)∧(fun a:List UInt8=>a.length≤maxLen) a:=by
    obtain⟨fuel,hf⟩:=h1; exact Own.op9 fuel enc W _ _ _ _ _ hf
  obtain⟨x2,rfl⟩:=okWide_string Try.underlying9 (hval 2 9 v2 rfl rfl); have k2:=h2; have lt2: ∀x∈p2,x.block<W.heap.size:=by obtain⟨m,hm⟩:=k2; exact DataW.trod_lt m _ _ _ hm
  obtain⟨a2,e2,o2⟩: ∃a,Own.CR W _ ((fun a:List UInt8=> [Own.T.str a]) a)∧(fun a:List UInt8=>a.length≤maxLen) a:=by
    obtain⟨fuel,hf⟩:=h2; exact Own.op9 fuel enc W _ _ _ _ _ hf
  clear hA0 hval0 hsz0 hsz; refine(Own.row a0 a1 a2 o0 o1 o2 W cs0 e0 _ e1 _ e2).mono fun e W' ⟨he,bel⟩=> ?_
  subst he; exact⟨_,rfl,_,_,_,[],_,[],hW',trodAll_mk1 (shut_bool Try.underlying4 _),(trodAll_cons_mk (Below.trod MY (by kernel_rfl) (of_decide_eq_true (by kernel_rfl)) k0 bel lt0) (trodAll_cons_mk (Below.trod MY (by kernel_rfl) (of_decide_eq_true (by kernel_rfl)) k1 bel lt1) (trodAll_cons_mk (Below.trod MY (by kernel_rfl) (of_decide_eq_true (by kernel_rfl)) k2 bel lt2) trodAll_mk0))),rfl,bel.frame _,fun h=>by cases h⟩
set_option maxHeartbeats 4000000 in
theorem Ye:joinedFacts Try.pinned.checked.prog 6 Try.f6 Rows.fnExactRenameSpec Rows.fnExactRenameRow=true:=by
  unfold joinedFacts; simp only[Bool.and_eq_true]; repeat' refine And.intro ?_ ?_
  all_goals as_aux_lemma=>kernel_rfl
theorem over:Rows.fnExactRenameRow.holds Try.pinned (OpenSpec.ofChange Rows.fnExactRenameSpec):=
  OpenClaim.holds_of_wide 6 Try.f6 rfl rfl rfl rfl rfl rfl rfl ⟨rfl,rfl,rfl,rfl,rfl⟩ rfl rfl rfl rfl rfl (by kernel_rfl) Try.func6 Ye
    (of_decide_eq_true (by kernel_rfl)) (by unfold Func.isWrapper; first | (rw[if_pos (by decide+kernel)]; kernel_rfl) | (rw[if_neg (by decide+kernel)]; exact⟨rfl,rfl⟩))
    (fun os started H enc _=>YV os started H enc)
theorem proved:Rows.FnExactRenameSaid:=over
#print axioms proved
end Go.Proofs.Ytloebajamceclaa.fnExactRename
namespace Go.Proofs.Ytloebajamceclaa
theorem fnExactRename_holds:Rows.FnExactRenameSaid:=fnExactRename.proved
end Go.Proofs.Ytloebajamceclaa
