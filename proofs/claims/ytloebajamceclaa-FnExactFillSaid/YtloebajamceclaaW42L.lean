/- The row FnExactFill. No conditions. -/
import Derived.Test.YtloebajamceclaaW42Q0
import Derived.Test.YtloebajamceclaaW42C
import Derived.Test.YtloebajamceclaaRows
import Derived.Test.YtloebajamceclaaOwn4
set_option linter.unusedVariables false
set_option linter.unusedSimpArgs false
set_option linter.unnecessarySimpa false
namespace Go.Own
open Go Go.Proofs Go.RowKit
theorem mixed:Try.prog.follows .mixedOrders=true:=by kernel_rfl
theorem op3(n:Nat):OpF Try.prog n 3 (fun a:Int=> [T.int .i64 a]) (fun a:Int=>IntKind.i64.min≤a∧a≤IntKind.i64.max):=OpF.int Try.underlying3
theorem op9(n:Nat):OpF Try.prog n 9 (fun a:List UInt8=> [T.str a]) (fun a:List UInt8=>a.length≤maxLen):=OpF.str Try.underlying9
theorem Qd: ∀n:Nat,OpF Try.prog n 25 rS_laws_Expr Q.okExpr∧OpF Try.prog n 22 (fun l:List aH=> [T.sl (l.map rS_laws_Expr)]) (fun l:List aH=>l.length≤maxLen∧ ∀a∈l,Q.okExpr a)∧OpF Try.prog n 23 (fun l:List aE=> [T.sl (l.map aR)]) (fun l:List aE=>l.length≤maxLen∧ ∀a∈l,Q.okClause a)∧OpF Try.prog n 124 aR Q.okClause:=by
  intro n; induction n with
  | zero=>exact⟨OpF.zero,OpF.zero,OpF.zero,OpF.zero⟩
  | succ n ih=>
    refine⟨?_, ?_, ?_, ?_⟩
    · intro H enc w base spare held cs x h
      obtain⟨xs,m,hn,_,hl,hlen,hf⟩:=DataW.trod_struct Try.underlying25 h; obtain rfl:n=m:=by omega
      obtain⟨a0,c0,o0⟩:=OpF.field hlen hf (i:=0) (off:=0) (size:=1) rfl rfl rfl (by kernel_rfl) (op3 n)
      obtain⟨a1,c1,o1⟩:=OpF.field hlen hf (i:=1) (off:=1) (size:=1) rfl rfl rfl (by kernel_rfl) (op3 n)
      obtain⟨a2,c2,o2⟩:=OpF.field hlen hf (i:=2) (off:=2) (size:=1) rfl rfl rfl (by kernel_rfl) (op9 n)
      obtain⟨a3,c3,o3⟩:=OpF.field hlen hf (i:=3) (off:=3) (size:=1) rfl rfl rfl (by kernel_rfl) (ih.2.1)
      obtain⟨a4,c4,o4⟩:=OpF.field hlen hf (i:=4) (off:=4) (size:=1) rfl rfl rfl (by kernel_rfl) (ih.2.2.1)
      have hnil:(cs.drop 5).length=0:=by
        have e:Try.prog.cellsOf 25=5:=by kernel_rfl
        rw[List.length_drop,hl,e]
      have key:=(CR.cons (off:=0) (size:=1) rfl c0 (CR.cons (off:=1) (size:=1) rfl c1 (CR.cons (off:=2) (size:=1) rfl c2 (CR.cons (off:=3) (size:=1) rfl c3 (CR.cons (off:=4) (size:=1) rfl c4 (CR.nil (w:=w) (cs:=cs.drop 5) (hnil))))))); refine⟨.mk a0 a1 a2 a3 a4, ?_, ?_⟩
      · rw[cY]; exact key
      · simp only[Q.okExpr]; exact⟨o0,o1,o2,⟨o3.1,(Q.okExprs_iff _).2 o3.2⟩,⟨o4.1,(Q.okClauses_iff _).2 o4.2⟩⟩
    · exact OpF.slice (s:=5) Try.underlying22 (by kernel_rfl) (by decide) (fun a=>by rw[cY]; rfl) (ih.1)
    · exact OpF.slice (s:=10) Try.underlying23 (by kernel_rfl) (by decide) (fun a=>by rw[jA]; rfl) (ih.2.2.2)
    · intro H enc w base spare held cs x h
      obtain⟨xs,m,hn,_,hl,hlen,hf⟩:=DataW.trod_struct Try.underlying124 h; obtain rfl:n=m:=by omega
      obtain⟨a0,c0,o0⟩:=OpF.field hlen hf (i:=0) (off:=0) (size:=5) rfl rfl rfl (by kernel_rfl) (ih.1)
      rw[cY]at c0; obtain⟨a1,c1,o1⟩:=OpF.field hlen hf (i:=1) (off:=5) (size:=5) rfl rfl rfl (by kernel_rfl) (ih.1)
      rw[cY]at c1; have hnil:(cs.drop 10).length=0:=by
        have e:Try.prog.cellsOf 124=10:=by kernel_rfl
        rw[List.length_drop,hl,e]
      have key:=(CR.cons (off:=0) (size:=5) rfl c0 (CR.cons (off:=5) (size:=5) rfl c1 (CR.nil (w:=w) (cs:=cs.drop 10) (hnil)))); refine⟨.two a0 a1, ?_, ?_⟩
      · rw[jA]; exact key
      · simp only[Q.okClause]; exact⟨o0,o1⟩
theorem op25(n:Nat):OpF Try.prog n 25 rS_laws_Expr Q.okExpr:=(Qd n).1
theorem op22(n:Nat):OpF Try.prog n 22 (fun l:List aH=> [T.sl (l.map rS_laws_Expr)]) (fun l:List aH=>l.length≤maxLen∧ ∀a∈l,Q.okExpr a):=(Qd n).2.1
theorem op23(n:Nat):OpF Try.prog n 23 (fun l:List aE=> [T.sl (l.map aR)]) (fun l:List aE=>l.length≤maxLen∧ ∀a∈l,Q.okClause a):=(Qd n).2.2.1
theorem op124(n:Nat):OpF Try.prog n 124 aR Q.okClause:=(Qd n).2.2.2
theorem VZ: ∀n:Nat,OpF Try.prog n 79 bG Q.okTerm∧OpF Try.prog n 26 (fun l:List aM=> [T.sl (l.map bG)]) (fun l:List aM=>l.length≤maxLen∧ ∀a∈l,Q.okTerm a):=by
  intro n; induction n with
  | zero=>exact⟨OpF.zero,OpF.zero⟩
  | succ n ih=>
    refine⟨?_, ?_⟩
    · intro H enc w base spare held cs x h
      obtain⟨xs,m,hn,_,hl,hlen,hf⟩:=DataW.trod_struct Try.underlying79 h; obtain rfl:n=m:=by omega
      obtain⟨a0,c0,o0⟩:=OpF.field hlen hf (i:=0) (off:=0) (size:=1) rfl rfl rfl (by kernel_rfl) (op3 n)
      obtain⟨a1,c1,o1⟩:=OpF.field hlen hf (i:=1) (off:=1) (size:=1) rfl rfl rfl (by kernel_rfl) (op3 n)
      obtain⟨a2,c2,o2⟩:=OpF.field hlen hf (i:=2) (off:=2) (size:=1) rfl rfl rfl (by kernel_rfl) (op9 n)
      obtain⟨a3,c3,o3⟩:=OpF.field hlen hf (i:=3) (off:=3) (size:=1) rfl rfl rfl (by kernel_rfl) (ih.2)
      have hnil:(cs.drop 4).length=0:=by
        have e:Try.prog.cellsOf 79=4:=by kernel_rfl
        rw[List.length_drop,hl,e]
      have key:=(CR.cons (off:=0) (size:=1) rfl c0 (CR.cons (off:=1) (size:=1) rfl c1 (CR.cons (off:=2) (size:=1) rfl c2 (CR.cons (off:=3) (size:=1) rfl c3 (CR.nil (w:=w) (cs:=cs.drop 4) (hnil)))))); refine⟨.mk a0 a1 a2 a3, ?_, ?_⟩
      · rw[lB]; exact key
      · simp only[Q.okTerm]; exact⟨o0,o1,o2,⟨o3.1,(Q.okTerms_iff _).2 o3.2⟩⟩
    · exact OpF.slice (s:=4) Try.underlying26 (by kernel_rfl) (by decide) (fun a=>by rw[lB]; rfl) (ih.1)
theorem op79(n:Nat):OpF Try.prog n 79 bG Q.okTerm:=(VZ n).1
theorem op26(n:Nat):OpF Try.prog n 26 (fun l:List aM=> [T.sl (l.map bG)]) (fun l:List aM=>l.length≤maxLen∧ ∀a∈l,Q.okTerm a):=(VZ n).2
theorem op105(n:Nat):OpF Try.prog n 105 rS_laws_Bind Q.okBind:=by
  intro H enc w base spare held cs x h; obtain⟨xs,m,hn,_,hl,hlen,hf⟩:=DataW.trod_struct Try.underlying105 h; obtain⟨a0,c0,o0⟩:=OpF.field hlen hf (i:=0) (off:=0) (size:=1) rfl rfl rfl (by kernel_rfl) (op9 m)
  obtain⟨a1,c1,o1⟩:=OpF.field hlen hf (i:=1) (off:=1) (size:=4) rfl rfl rfl (by kernel_rfl) (op79 m)
  rw[lB]at c1; have hnil:(cs.drop 5).length=0:=by
    have e:Try.prog.cellsOf 105=5:=by kernel_rfl
    rw[List.length_drop,hl,e]
  have key:=(CR.cons (off:=0) (size:=1) rfl c0 (CR.cons (off:=1) (size:=4) rfl c1 (CR.nil (w:=w) (cs:=cs.drop 5) (hnil)))); exact⟨⟨a0,a1.f0,a1.f1,a1.f2,a1.f3⟩,key,⟨o0,(by rw[Q.S_laws_Term_eta]; exact o1)⟩⟩
theorem op54(n:Nat):OpF Try.prog n 54 (fun l:List S_laws_Bind=> [T.sl (l.map rS_laws_Bind)]) (fun l:List S_laws_Bind=>l.length≤maxLen∧ ∀a∈l,Q.okBind a):=by
  cases n with
  | zero=>exact OpF.zero
  | succ n=>exact OpF.slice (s:=5) Try.underlying54 (by kernel_rfl) (by decide) (fun a=>rfl) (op105 n)
set_option maxRecDepth 100000 in
theorem tc(a0:aH)(a1:List S_laws_Bind)(o0:Q.okExpr a0)(o1:(fun l:List S_laws_Bind=>l.length≤maxLen∧ ∀a∈l,Q.okBind a) a1):TC Try.prog 5 sg5 [.one (.ag (rS_laws_Expr a0)), .one (.c (.sl (a1.map rS_laws_Bind)))] [] (.one (.c (.bool true))) none [] none:=by
  obtain⟨n,h⟩:=Q.law a0 a1 o0 o1; rw[cY]; exact TC.of mixed IN checked (xP h) (by unfold Sgs; simp) rfl rfl
set_option maxRecDepth 100000 in
theorem row(a0:aH)(a1:List S_laws_Bind)(o0:Q.okExpr a0)(o1:(fun l:List S_laws_Bind=>l.length≤maxLen∧ ∀a∈l,Q.okBind a) a1)(W:World)(cs0:Array Value)(h0:CR W cs0.toList (rS_laws_Expr a0))(v1:Value)(h1:CR W [v1] [.sl (a1.map rS_laws_Bind)]):Calls Try.prog 5 #[.agg cs0,v1] W fun e w'=>e= .returned (.bool true)∧Below W.heap.size W w':=by
  refine(tc a0 a1 o0 o1).row rfl rfl rfl (by decide) Try.func5 rfl (by decide) W (fun _ _ h=>by cases h) #[.agg cs0,v1] rfl (fun i=> ?_) (fun i hi=> ?_)
  · match i with
    | 0=>rfl
    | 1=>rfl
    | _+2=>rfl
  · match i,hi with
    | 0,_=>exact rv_ag h0 (by rw[cY]; rfl)
    | 1,_=>exact rv_c h1 rfl
    | _+2,hi=>cases hi
end Go.Own
namespace Go.Proofs.Ytloebajamceclaa.fnExactFill
open Go.ChangeShapes Go.WideShapes Go.ChangeAt Go.RowKit
open Go.ChangeMaps (open_string shut_string)
set_option linter.unusedVariables false
theorem own:ownKnob Try.prog.godebug=none:=by kernel_rfl
theorem Ok:laidOutB Try.prog=true:=by kernel_rfl
set_option maxRecDepth 100000 in
theorem Wk(os:Os)(started:os.Started)(H:Type)(enc:TypeId×Value→H):
    ReturnsInHanded {} Try.checked os 5 .any (Rows.fnExactFillSpec.pre6 enc Try.prog Try.f5 Rows.fnExactFillRow.domain false) (Rows.fnExactFillSpec.post enc Try.prog Try.f5 false true false false):=by
  refine returnsInHanded_of_change_sized (C:=Try.checked) own started (by kernel_rfl) Try.func5
    (ChangeSpec.witness6 (enc:=enc) (C:=Try.checked) false ⟨#[], #[.agg #[.int .i64 0, .int .i64 0, .string ⟨#[]⟩, .slice none 0 0, .slice none 0 0], .slice none 0 0],[]⟩ 8 (by kernel_rfl) (by kernel_rfl) (by kernel_rfl) (by kernel_rfl)) ?_
  intro W base args ds gs before hval0 hW hcnd hsz0 _; have hsz:(DataW.weightsEach Try.prog (Try.f5.params.toList++Rows.fnExactFillSpec.plain.varTypes Try.prog) (ds++gs)).all (· ≤reachBytes)=true:=hsz0
  have hval: ∀(j:Nat) t v,Try.f5.params[j]? =some t→args[j]? =some v→Value.okWide Try.prog W .any base t v:=hval0; have hW':=hW; obtain⟨p,q,hA0,hV,rfl,hfz,hnd⟩:=hW; have hA:DataW.TrodAll enc Try.prog W 0 (fun _=>true) true Try.f5.params.toList args.toList ds p:=hA0
  rw[Try.params5]at hA hval hsz; obtain⟨v0,vs0,d0,ds0,p0,q0,hargs0,rfl,rfl,h0,r0⟩:=trodAll_cons hA; obtain⟨v1,vs1,d1,ds1,p1,q1,hargs1,rfl,rfl,h1,r1⟩:=trodAll_cons r0; obtain⟨rfl,rfl,rfl⟩:=trodAll_nil r1; obtain rfl:args= #[v0,v1]:=by cases args; simp_all
  obtain⟨rfl,rfl⟩:=trodVars_none hV; obtain⟨cs0,rfl,_⟩:=okWide_struct Try.underlying25 (hval 0 25 v0 rfl rfl); have k0:=h0; have lt0: ∀x∈p0,x.block<W.heap.size:=by obtain⟨m,hm⟩:=k0; exact DataW.trod_lt m _ _ _ hm
  obtain⟨a0,e0,o0⟩: ∃a,Own.CR W _ (Own.rS_laws_Expr a)∧Own.Q.okExpr a:=by
    obtain⟨fuel,hf⟩:=h0; exact Own.op25 fuel enc W _ _ _ _ _ hf
  obtain⟨x1,y1,z1,rfl⟩:=okWide_slice Try.underlying54 (hval 1 54 v1 rfl rfl); have k1:=h1; have lt1: ∀x∈p1,x.block<W.heap.size:=by obtain⟨m,hm⟩:=k1; exact DataW.trod_lt m _ _ _ hm
  obtain⟨a1,e1,o1⟩: ∃a,Own.CR W _ ((fun l:List Own.S_laws_Bind=> [Own.T.sl (l.map Own.rS_laws_Bind)]) a)∧(fun l:List Own.S_laws_Bind=>l.length≤maxLen∧ ∀a∈l,Own.Q.okBind a) a:=by
    obtain⟨fuel,hf⟩:=h1; exact Own.op54 fuel enc W _ _ _ _ _ hf
  clear hA0 hval0 hsz0 hsz; refine(Own.row a0 a1 o0 o1 W cs0 e0 _ e1).mono fun e W' ⟨he,bel⟩=> ?_
  subst he; exact⟨_,rfl,_,_,_,[],_,[],hW',trodAll_mk1 (shut_bool Try.underlying4 _),(trodAll_cons_mk (Below.trod Ok (by kernel_rfl) (of_decide_eq_true (by kernel_rfl)) k0 bel lt0) (trodAll_cons_mk (Below.trod Ok (by kernel_rfl) (of_decide_eq_true (by kernel_rfl)) k1 bel lt1) trodAll_mk0)),rfl,bel.frame _,fun h=>by cases h⟩
set_option maxHeartbeats 4000000 in
theorem Wv:joinedFacts Try.pinned.checked.prog 5 Try.f5 Rows.fnExactFillSpec Rows.fnExactFillRow=true:=by
  unfold joinedFacts; simp only[Bool.and_eq_true]; repeat' refine And.intro ?_ ?_
  all_goals as_aux_lemma=>kernel_rfl
theorem over:Rows.fnExactFillRow.holds Try.pinned (OpenSpec.ofChange Rows.fnExactFillSpec):=
  OpenClaim.holds_of_wide 5 Try.f5 rfl rfl rfl rfl rfl rfl rfl ⟨rfl,rfl,rfl,rfl,rfl⟩ rfl rfl rfl rfl rfl (by kernel_rfl) Try.func5 Wv
    (of_decide_eq_true (by kernel_rfl)) (by unfold Func.isWrapper; first | (rw[if_pos (by decide+kernel)]; kernel_rfl) | (rw[if_neg (by decide+kernel)]; exact⟨rfl,rfl⟩))
    (fun os started H enc _=>Wk os started H enc)
theorem proved:Rows.FnExactFillSaid:=over
#print axioms proved
end Go.Proofs.Ytloebajamceclaa.fnExactFill
namespace Go.Proofs.Ytloebajamceclaa
theorem fnExactFill_holds:Rows.FnExactFillSaid:=fnExactFill.proved
end Go.Proofs.Ytloebajamceclaa
