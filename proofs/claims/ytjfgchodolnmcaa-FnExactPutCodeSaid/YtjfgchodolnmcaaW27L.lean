/- The row FnExactPutCode. No conditions. -/
import Derived.Test.YtjfgchodolnmcaaW27LPutCode
import Derived.Test.YtjfgchodolnmcaaW27C
import Derived.Test.YtjfgchodolnmcaaRows
import Derived.Test.YtjfgchodolnmcaaOwn3
set_option linter.unusedVariables false
set_option linter.unusedSimpArgs false
set_option linter.unnecessarySimpa false
namespace Go.Own
open Go Go.Proofs Go.RowKit
theorem mixed:Try.prog.follows .mixedOrders=true:=by kernel_rfl
theorem op9(n:Nat):OpF Try.prog n 9 (fun a:List UInt8=> [T.str a]) (fun a:List UInt8=>a.length≤maxLen):=OpF.str Try.underlying9
theorem op3(n:Nat):OpF Try.prog n 3 (fun a:Int=> [T.int .i64 a]) (fun a:Int=>IntKind.i64.min≤a∧a≤IntKind.i64.max):=OpF.int Try.underlying3
theorem op321(n:Nat):OpF Try.prog n 321 rS_impl_Ins Q.okIns:=by
  intro H enc w base spare held cs x h
  obtain⟨xs,m,hn,_,hl,hlen,hf⟩:=DataW.trod_struct Try.underlying321 h
  obtain⟨a0,c0,o0⟩:=OpF.field hlen hf (i:=0) (off:=0) (size:=1) rfl rfl rfl (by kernel_rfl) (op3 m)
  obtain⟨a1,c1,o1⟩:=OpF.field hlen hf (i:=1) (off:=1) (size:=1) rfl rfl rfl (by kernel_rfl) (op3 m)
  obtain⟨a2,c2,o2⟩:=OpF.field hlen hf (i:=2) (off:=2) (size:=1) rfl rfl rfl (by kernel_rfl) (op9 m)
  obtain⟨a3,c3,o3⟩:=OpF.field hlen hf (i:=3) (off:=3) (size:=1) rfl rfl rfl (by kernel_rfl) (op3 m)
  have hnil:(cs.drop 4).length=0:=by
    have e:Try.prog.cellsOf 321=4:=by kernel_rfl
    rw[List.length_drop,hl,e]
  have key:=(CR.cons (off:=0) (size:=1) rfl c0 (CR.cons (off:=1) (size:=1) rfl c1 (CR.cons (off:=2) (size:=1) rfl c2 (CR.cons (off:=3) (size:=1) rfl c3 (CR.nil (w:=w) (cs:=cs.drop 4) (hnil))))))
  exact⟨⟨a0,a1,a2,a3⟩,key,⟨o0,o1,o2,o3⟩⟩
theorem op238(n:Nat):OpF Try.prog n 238 (fun l:List S_impl_Ins=> [T.sl (l.map rS_impl_Ins)]) (fun l:List S_impl_Ins=>l.length≤maxLen∧ ∀a∈l,Q.okIns a):=by
  cases n with
  | zero=>exact OpF.zero
  | succ n=>exact OpF.slice (s:=4) Try.underlying238 (by kernel_rfl) (by decide) (fun a=>rfl) (op321 n)
theorem op240(n:Nat):OpF Try.prog n 240 rS_laws_Fn Q.okFn:=by
  intro H enc w base spare held cs x h
  obtain⟨xs,m,hn,_,hl,hlen,hf⟩:=DataW.trod_struct Try.underlying240 h
  obtain⟨a0,c0,o0⟩:=OpF.field hlen hf (i:=0) (off:=0) (size:=1) rfl rfl rfl (by kernel_rfl) (op9 m)
  obtain⟨a1,c1,o1⟩:=OpF.field hlen hf (i:=1) (off:=1) (size:=1) rfl rfl rfl (by kernel_rfl) (op3 m)
  obtain⟨a2,c2,o2⟩:=OpF.field hlen hf (i:=2) (off:=2) (size:=1) rfl rfl rfl (by kernel_rfl) (op3 m)
  obtain⟨a3,c3,o3⟩:=OpF.field hlen hf (i:=3) (off:=3) (size:=1) rfl rfl rfl (by kernel_rfl) (op238 m)
  have hnil:(cs.drop 4).length=0:=by
    have e:Try.prog.cellsOf 240=4:=by kernel_rfl
    rw[List.length_drop,hl,e]
  have key:=(CR.cons (off:=0) (size:=1) rfl c0 (CR.cons (off:=1) (size:=1) rfl c1 (CR.cons (off:=2) (size:=1) rfl c2 (CR.cons (off:=3) (size:=1) rfl c3 (CR.nil (w:=w) (cs:=cs.drop 4) (hnil))))))
  exact⟨⟨a0,a1,a2,a3⟩,key,⟨o0,o1,o2,o3⟩⟩
theorem op58(n:Nat):OpF Try.prog n 58 (fun l:List S_laws_Fn=> [T.sl (l.map rS_laws_Fn)]) (fun l:List S_laws_Fn=>l.length≤maxLen∧ ∀a∈l,Q.okFn a):=by
  cases n with
  | zero=>exact OpF.zero
  | succ n=>exact OpF.slice (s:=4) Try.underlying58 (by kernel_rfl) (by decide) (fun a=>rfl) (op240 n)
theorem ops243: ∀n:Nat,OpF Try.prog n 243 rS_laws_Pat Q.okPat∧OpF Try.prog n 59 (fun l:List S_laws_Pat=> [T.sl (l.map rS_laws_Pat)]) (fun l:List S_laws_Pat=>l.length≤maxLen∧ ∀a∈l,Q.okPat a):=by
  intro n
  induction n with
  | zero=>exact⟨OpF.zero,OpF.zero⟩
  | succ n ih=>
    refine⟨?_, ?_⟩
    · intro H enc w base spare held cs x h
      obtain⟨xs,m,hn,_,hl,hlen,hf⟩:=DataW.trod_struct Try.underlying243 h
      obtain rfl:n=m:=by omega
      obtain⟨a0,c0,o0⟩:=OpF.field hlen hf (i:=0) (off:=0) (size:=1) rfl rfl rfl (by kernel_rfl) (op3 n)
      obtain⟨a1,c1,o1⟩:=OpF.field hlen hf (i:=1) (off:=1) (size:=1) rfl rfl rfl (by kernel_rfl) (op3 n)
      obtain⟨a2,c2,o2⟩:=OpF.field hlen hf (i:=2) (off:=2) (size:=1) rfl rfl rfl (by kernel_rfl) (op9 n)
      obtain⟨a3,c3,o3⟩:=OpF.field hlen hf (i:=3) (off:=3) (size:=1) rfl rfl rfl (by kernel_rfl) (ih.2)
      have hnil:(cs.drop 4).length=0:=by
        have e:Try.prog.cellsOf 243=4:=by kernel_rfl
        rw[List.length_drop,hl,e]
      have key:=(CR.cons (off:=0) (size:=1) rfl c0 (CR.cons (off:=1) (size:=1) rfl c1 (CR.cons (off:=2) (size:=1) rfl c2 (CR.cons (off:=3) (size:=1) rfl c3 (CR.nil (w:=w) (cs:=cs.drop 4) (hnil))))))
      refine⟨.mk a0 a1 a2 a3, ?_, ?_⟩
      · rw[rS_laws_Pat_eq]; exact key
      · simp only[Q.okPat]; exact⟨o0,o1,o2,⟨o3.1,(Q.okPats_iff _).2 o3.2⟩⟩
    · exact OpF.slice (s:=4) Try.underlying59 (by kernel_rfl) (by decide) (fun a=>by rw[rS_laws_Pat_eq]; rfl) (ih.1)
theorem op243(n:Nat):OpF Try.prog n 243 rS_laws_Pat Q.okPat:=(ops243 n).1
theorem op59(n:Nat):OpF Try.prog n 59 (fun l:List S_laws_Pat=> [T.sl (l.map rS_laws_Pat)]) (fun l:List S_laws_Pat=>l.length≤maxLen∧ ∀a∈l,Q.okPat a):=(ops243 n).2
def rS_laws_Code(a:S_laws_Code):List T:=[.sl (a.f0.map rS_laws_Fn), .sl (a.f1.map rS_laws_Pat)]
theorem rS_laws_Code_eq(a:S_laws_Code):rS_laws_Code a=[.sl (a.f0.map rS_laws_Fn), .sl (a.f1.map rS_laws_Pat)]:=rfl
theorem op61(n:Nat):OpF Try.prog n 61 rS_laws_Code Q.okCode:=by
  intro H enc w base spare held cs x h
  obtain⟨xs,m,hn,_,hl,hlen,hf⟩:=DataW.trod_struct Try.underlying61 h
  obtain⟨a0,c0,o0⟩:=OpF.field hlen hf (i:=0) (off:=0) (size:=1) rfl rfl rfl (by kernel_rfl) (op58 m)
  obtain⟨a1,c1,o1⟩:=OpF.field hlen hf (i:=1) (off:=1) (size:=1) rfl rfl rfl (by kernel_rfl) (op59 m)
  have hnil:(cs.drop 2).length=0:=by
    have e:Try.prog.cellsOf 61=2:=by kernel_rfl
    rw[List.length_drop,hl,e]
  have key:=(CR.cons (off:=0) (size:=1) rfl c0 (CR.cons (off:=1) (size:=1) rfl c1 (CR.nil (w:=w) (cs:=cs.drop 2) (hnil))))
  exact⟨⟨a0,a1⟩,key,⟨o0,o1⟩⟩
set_option maxRecDepth 100000 in
theorem tc(a0:S_laws_Code)(o0:Q.okCode a0):TC Try.prog 5 sg5 [.one (.ag (rS_laws_Code a0))] [] (.one (.c (.bool true))) none [] none:=by
  obtain⟨n,h⟩:=Q.law a0 o0
  exact TC.of mixed tables checked (big_laws_FnExactPutCode h) (by unfold Sgs; simp) rfl rfl
set_option maxRecDepth 100000 in
theorem row(a0:S_laws_Code)(o0:Q.okCode a0)(W:World)(cs0:Array Value)(h0:CR W cs0.toList (rS_laws_Code a0)):Calls Try.prog 5 #[.agg cs0] W fun e w'=>e= .returned (.bool true)∧Below W.heap.size W w':=by
  refine(tc a0 o0).row rfl rfl rfl (by decide) Try.func5 rfl (by decide) W #[.agg cs0] rfl (fun i=> ?_) (fun i hi=> ?_)
  · match i with
    | 0=>rfl
    | _+1=>rfl
  · match i,hi with
    | 0,_=>exact rv_ag h0 rfl
    | _+1,hi=>cases hi
end Go.Own
namespace Go.Proofs.Ytjfgchodolnmcaa.fnExactPutCode
open Go.ChangeShapes Go.WideShapes Go.ChangeAt Go.RowKit
open Go.ChangeMaps (open_string shut_string)
set_option linter.unusedVariables false
theorem own:ownKnob Try.prog.godebug=none:=by kernel_rfl
theorem laidOut:laidOutB Try.prog=true:=by kernel_rfl
set_option maxRecDepth 100000 in
theorem lifted(os:Os)(started:os.Started)(H:Type)(enc:TypeId×Value→H):
    ReturnsInHanded {} Try.checked os 5 .any (Rows.fnExactPutCodeSpec.pre6 enc Try.prog Try.f5 Rows.fnExactPutCodeRow.domain false) (Rows.fnExactPutCodeSpec.post enc Try.prog Try.f5 false true false false):=by
  refine returnsInHanded_of_change_sized (C:=Try.checked) own started (by kernel_rfl) Try.func5
    (ChangeSpec.witness6 (enc:=enc) (C:=Try.checked) false ⟨#[], #[.agg #[.slice none 0 0, .slice none 0 0]],[]⟩ 8 (by kernel_rfl) (by kernel_rfl) (by kernel_rfl) (by kernel_rfl)) ?_
  intro W base args ds gs before hval0 hW hcnd hsz0 _
  have hsz:(DataW.weightsEach Try.prog (Try.f5.params.toList++Rows.fnExactPutCodeSpec.plain.varTypes Try.prog) (ds++gs)).all (· ≤reachBytes)=true:=hsz0
  have hval: ∀(j:Nat) t v,Try.f5.params[j]? =some t→args[j]? =some v→Value.okWide Try.prog W .any base t v:=hval0
  have hW':=hW
  obtain⟨p,q,hA0,hV,rfl,hfz,hnd⟩:=hW
  have hA:DataW.TrodAll enc Try.prog W 0 (fun _=>true) true Try.f5.params.toList args.toList ds p:=hA0
  rw[Try.params5]at hA hval hsz
  obtain⟨v0,vs0,d0,ds0,p0,q0,hargs0,rfl,rfl,h0,r0⟩:=trodAll_cons hA
  obtain⟨rfl,rfl,rfl⟩:=trodAll_nil r0
  obtain rfl:args= #[v0]:=by cases args; simp_all
  obtain⟨rfl,rfl⟩:=trodVars_none hV
  obtain⟨cs0,rfl,_⟩:=okWide_struct Try.underlying61 (hval 0 61 v0 rfl rfl)
  have k0:=h0
  have lt0: ∀x∈p0,x.block<W.heap.size:=by obtain⟨m,hm⟩:=k0; exact DataW.trod_lt m _ _ _ hm
  obtain⟨a0,e0,o0⟩: ∃a,Own.CR W _ (Own.rS_laws_Code a)∧Own.Q.okCode a:=by
    obtain⟨fuel,hf⟩:=h0
    exact Own.op61 fuel enc W _ _ _ _ _ hf
  clear hA0 hval0 hsz0 hsz
  refine(Own.row a0 o0 W cs0 e0).mono fun e W' ⟨he,bel⟩=> ?_
  subst he
  exact⟨_,rfl,_,_,_,[],_,[],hW',trodAll_mk1 (shut_bool Try.underlying4 _),(trodAll_cons_mk (Below.trod laidOut (by kernel_rfl) (of_decide_eq_true (by kernel_rfl)) k0 bel lt0) trodAll_mk0),rfl,bel.frame _,fun h=>by cases h⟩
set_option maxHeartbeats 4000000 in
theorem closed:joinedFacts Try.pinned.checked.prog 5 Try.f5 Rows.fnExactPutCodeSpec Rows.fnExactPutCodeRow=true:=by
  unfold joinedFacts
  simp only[Bool.and_eq_true]
  repeat' refine And.intro ?_ ?_
  all_goals as_aux_lemma=>kernel_rfl
theorem over:Rows.fnExactPutCodeRow.holds Try.pinned (OpenSpec.ofChange Rows.fnExactPutCodeSpec):=
  OpenClaim.holds_of_wide 5 Try.f5 rfl rfl rfl rfl rfl rfl rfl ⟨rfl,rfl,rfl,rfl,rfl⟩ rfl rfl rfl rfl rfl (by kernel_rfl) Try.func5 closed
    (of_decide_eq_true (by kernel_rfl)) (by unfold Func.isWrapper; first | (rw[if_pos (by decide+kernel)]; kernel_rfl) | (rw[if_neg (by decide+kernel)]; exact⟨rfl,rfl⟩))
    (fun os started H enc _=>lifted os started H enc)
theorem proved:Rows.FnExactPutCodeSaid:=over
#print axioms proved
end Go.Proofs.Ytjfgchodolnmcaa.fnExactPutCode
namespace Go.Proofs.Ytjfgchodolnmcaa
/-- The row, under a short name, for the claim. -/
theorem fnExactPutCode_holds:Rows.FnExactPutCodeSaid:=fnExactPutCode.proved
end Go.Proofs.Ytjfgchodolnmcaa
