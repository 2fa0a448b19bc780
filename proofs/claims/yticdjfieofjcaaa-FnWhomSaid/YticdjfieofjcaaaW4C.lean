/- Each function is checked. No conditions. -/
import Derived.Test.YticdjfieofjcaaaW4A
set_option linter.unusedVariables false
set_option linter.unusedSimpArgs false
set_option linter.unnecessarySimpa false
namespace Go.Own
open Go Go.Proofs
theorem chk4 : fnC τ An Sgs 4 { bi := ⟨[(0, [[.F]])], []⟩, bo := ⟨[(0, [[.S]])], []⟩, np := 1, ext := false } Try.f4 (Try.f4.body.getD .skip) = true := by decide +kernel
theorem chk13 : fnC τ An Sgs 13 { bi := ⟨[(0, [[.S]]), (1, [[.S]]), (2, [[.S]])], []⟩, bo := ⟨[(0, [[.U 1]])], []⟩, np := 3, ext := false } Try.f13 (Try.f13.body.getD .skip) = true := by decide +kernel
theorem chk14 : fnC τ An Sgs 14 { bi := ⟨[(0, [[.S]]), (1, [[.S]]), (2, [[.S]])], []⟩, bo := ⟨[(0, [[.U 1]])], []⟩, np := 3, ext := false } Try.f14 (Try.f14.body.getD .skip) = true := by decide +kernel
theorem chk18 : fnC τ An Sgs 18 { bi := ⟨[(0, [[.F]])], []⟩, bo := ⟨[(0, [[.S]])], []⟩, np := 1, ext := false } Try.f18 (Try.f18.body.getD .skip) = true := by decide +kernel
theorem chk19 : fnC τ An Sgs 19 { bi := ⟨[(0, [[.F]])], []⟩, bo := ⟨[(0, [[.S], [.S], [.S]])], []⟩, np := 1, ext := false } Try.f19 (Try.f19.body.getD .skip) = true := by decide +kernel
theorem chk56 : fnC τ An Sgs 56 { bi := ⟨[(0, [[.S]]), (1, [[.S]]), (2, [[.S]])], []⟩, bo := ⟨[(0, [[.S]])], []⟩, np := 3, ext := false } Try.f56 (Try.f56.body.getD .skip) = true := by decide +kernel
theorem chk57 : fnC τ An Sgs 57 { bi := ⟨[(0, [[.S]]), (1, [[.S]]), (2, [[.S]])], []⟩, bo := ⟨[(0, [[.S]])], []⟩, np := 3, ext := false } Try.f57 (Try.f57.body.getD .skip) = true := by decide +kernel
theorem chk58 : fnC τ An Sgs 58 { bi := ⟨[(0, [[.F]])], []⟩, bo := ⟨[(0, [[.S]])], [(0, [.F, .S, .S])]⟩, np := 1 } Try.f58 (Try.f58.body.getD .skip) = true := by decide +kernel
theorem chk59 : fnC τ An Sgs 59 { bi := ⟨[(0, [[.S]]), (1, [[.S]])], [(1000000, [.F, .S, .S])]⟩, bo := ⟨[(0, [[.S]])], [(1000000, [.F, .S, .S])]⟩, np := 2, no := 1 } Try.f59 (Try.f59.body.getD .skip) = true := by decide +kernel
theorem chk60 : fnC τ An Sgs 60 { bi := ⟨[(0, [[.S]]), (1, [[.F]])], [(1000000, [.F, .S, .S])]⟩, bo := ⟨[(0, [[.S]])], [(1000000, [.F, .S, .S])]⟩, np := 2, no := 1 } Try.f60 (Try.f60.body.getD .skip) = true := by decide +kernel
theorem chk104 : fnC τ An Sgs 104 { bi := ⟨[(0, [[.S]])], [(1000000, [.F, .S, .S])]⟩, bo := ⟨[(0, [[.S]])], [(1000000, [.F, .S, .S])]⟩, np := 1, no := 1 } Try.f104 (Try.f104.body.getD .skip) = true := by decide +kernel
theorem checked : ∀ f sg, sg ∈ Sgs f → ∀ fn c, Try.prog.funcs[f]? = some fn → fn.body = some c → fnC τ An Sgs f sg fn c = true := by
  intro f sg hs
  unfold Sgs at hs
  split at hs
  · exact one_sg chk4 Try.func4 hs
  · exact one_sg chk13 Try.func13 hs
  · exact one_sg chk14 Try.func14 hs
  · exact one_sg chk18 Try.func18 hs
  · exact one_sg chk19 Try.func19 hs
  · exact one_sg chk56 Try.func56 hs
  · exact one_sg chk57 Try.func57 hs
  · exact one_sg chk58 Try.func58 hs
  · exact one_sg chk59 Try.func59 hs
  · exact one_sg chk60 Try.func60 hs
  · exact one_sg chk104 Try.func104 hs
  · cases hs
end Go.Own
