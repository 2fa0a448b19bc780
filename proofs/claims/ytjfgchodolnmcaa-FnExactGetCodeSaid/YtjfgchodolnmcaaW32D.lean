/- A part of the proof. No conditions. -/
import Derived.Test.YtjfgchodolnmcaaW32A
import Derived.Test.YtjfgchodolnmcaaOwn3
set_option linter.unusedVariables false
set_option linter.unusedSimpArgs false
set_option linter.unnecessarySimpa false
namespace Go.Own
open Go Go.Proofs
abbrev IY:Nat×B×B:=(7,(⟨[(5,[[.S]]),(25,[[.S]]),(24,[[.S]]),(23,[[.F]]),(3,[[.U 1]]),(1,[[.S]])],[(5,[.S, .S, .S, .F]),(1,[.F, .F])]⟩:B),(⟨[(3,[[.U 1]]),(42,[[.V]]),(41,[[.S]]),(40,[[.F]]),(39,[[.S]]),(38,[[.D]]),(37,[[.S]]),(36,[[.S]]),(35,[[.D]]),(34,[[.S]]),(33,[[.S]]),(32,[[.D]]),(31,[[.S]]),(30,[[.S]]),(29,[[.D]]),(5,[[.S]]),(25,[[.S]]),(24,[[.S]]),(23,[[.F]]),(1,[[.S]])],[(5,[.S, .S, .S, .F]),(1,[.F, .F])]⟩:B))
theorem Hk:oO τ Sgs (An 34) IY (Try.f34.body.getD .skip)=true:=by decide+kernel
abbrev Fh:Nat×B×B:=(11,(⟨[(7,[[.S]]),(46,[[.S]]),(45,[[.S]]),(44,[[.F]]),(3,[[.U 1]]),(25,[[.S]]),(24,[[.S]]),(23,[[.F]]),(1,[[.S]])],[(7,[.S, .S, .S, .S]),(5,[.S, .S, .S, .F]),(1,[.F, .F])]⟩:B),(⟨[(3,[[.U 1]]),(62,[[.V]]),(61,[[.S]]),(60,[[.S]]),(59,[[.D]]),(58,[[.S]]),(57,[[.S]]),(56,[[.D]]),(55,[[.S]]),(54,[[.S]]),(53,[[.D]]),(52,[[.S]]),(51,[[.S]]),(50,[[.D]]),(7,[[.S]]),(46,[[.S]]),(45,[[.S]]),(44,[[.F]]),(25,[[.S]]),(24,[[.S]]),(23,[[.F]]),(1,[[.S]])],[(7,[.S, .S, .S, .S]),(5,[.S, .S, .S, .F]),(1,[.F, .F])]⟩:B))
theorem Gh:oO τ Sgs (An 34) Fh (Try.f34.body.getD .skip)=true:=by decide+kernel
theorem chk34:fnC τ An Sgs 34 sg34 Try.f34 (Try.f34.body.getD .skip)=true:=by
  refine TV [IY,Fh] (fun p hp=> ?_) (by decide+kernel)
  simp only[List.mem_cons,List.not_mem_nil,or_false]at hp
  rcases hp with rfl | rfl
  · exact Hk
  · exact Gh
end Go.Own
