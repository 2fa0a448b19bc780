/- Each function is checked. No conditions. -/
import Derived.Test.YticdjfieofjcaaaW5A
set_option linter.unusedVariables false
set_option linter.unusedSimpArgs false
set_option linter.unnecessarySimpa false
namespace Go.Own
open Go Go.Proofs
theorem chk5 : fnC τ An Sgs 5 { bi := ⟨[(0, [[.F]])], []⟩, bo := ⟨[(0, [[.S]])], []⟩, np := 1, ext := false } Try.f5 (Try.f5.body.getD .skip) = true := by decide +kernel
theorem chk18 : fnC τ An Sgs 18 { bi := ⟨[(0, [[.F]])], []⟩, bo := ⟨[(0, [[.S]])], []⟩, np := 1, ext := false } Try.f18 (Try.f18.body.getD .skip) = true := by decide +kernel
theorem chk20 : fnC τ An Sgs 20 { bi := ⟨[(0, [[.F]])], []⟩, bo := ⟨[(0, [[.S, .S, .S, .U 4]])], []⟩, np := 1, ext := false } Try.f20 (Try.f20.body.getD .skip) = true := by decide +kernel
theorem chk21 : fnC τ An Sgs 21 { bi := ⟨[(0, [[.S, .S, .S, .F]])], []⟩, bo := ⟨[(0, [[.U 8], [.S]])], []⟩, np := 1, ext := false } Try.f21 (Try.f21.body.getD .skip) = true := by decide +kernel
theorem chk22 : fnC τ An Sgs 22 { bi := ⟨[(0, [[.S, .S, .S, .F]])], []⟩, bo := ⟨[(0, [[.U 8], [.S]])], []⟩, np := 1, ext := false } Try.f22 (Try.f22.body.getD .skip) = true := by decide +kernel
theorem chk23 : fnC τ An Sgs 23 { bi := ⟨[(0, [[.S, .S, .S, .F]]), (1, [[.S, .S, .S, .F]])], []⟩, bo := ⟨[(0, [[.S]])], []⟩, np := 2, ext := false } Try.f23 (Try.f23.body.getD .skip) = true := by decide +kernel
theorem chk58 : fnC τ An Sgs 58 { bi := ⟨[(0, [[.F]])], []⟩, bo := ⟨[(0, [[.S]])], [(0, [.F, .S, .S])]⟩, np := 1 } Try.f58 (Try.f58.body.getD .skip) = true := by decide +kernel
theorem chk59 : fnC τ An Sgs 59 { bi := ⟨[(0, [[.S]]), (1, [[.S]])], [(1000000, [.F, .S, .S])]⟩, bo := ⟨[(0, [[.S]])], [(1000000, [.F, .S, .S])]⟩, np := 2, no := 1 } Try.f59 (Try.f59.body.getD .skip) = true := by decide +kernel
theorem chk60 : fnC τ An Sgs 60 { bi := ⟨[(0, [[.S]]), (1, [[.F]])], [(1000000, [.F, .S, .S])]⟩, bo := ⟨[(0, [[.S]])], [(1000000, [.F, .S, .S])]⟩, np := 2, no := 1 } Try.f60 (Try.f60.body.getD .skip) = true := by decide +kernel
theorem chk61 : fnC τ An Sgs 61 { bi := ⟨[(0, [[.S]])], []⟩, bo := ⟨[(0, [[.S, .S, .S, .N]])], []⟩, np := 1, ext := false } Try.f61 (Try.f61.body.getD .skip) = true := by decide +kernel
theorem chk62 : fnC τ An Sgs 62 { bi := ⟨[(0, [[.S]]), (1, [[.S]])], [(1000000, [.F, .S, .S])]⟩, bo := ⟨[(0, [[.S]])], [(1000000, [.F, .S, .S])]⟩, np := 2, no := 1 } Try.f62 (Try.f62.body.getD .skip) = true := by decide +kernel
theorem chk63 : fnC τ An Sgs 63 { bi := ⟨[(0, [[.S]]), (1, [[.S]])], [(1000000, [.F, .S, .S])]⟩, bo := ⟨[(0, [[.S, .S, .S, .U 4]])], [(1000000, [.F, .S, .S])]⟩, np := 2, no := 1 } Try.f63 (Try.f63.body.getD .skip) = true := by decide +kernel
theorem chk64 : fnC τ An Sgs 64 { bi := ⟨[(0, [[.S, .S, .S, .F]])], []⟩, bo := ⟨[(0, [[.S]])], []⟩, np := 1, ext := false } Try.f64 (Try.f64.body.getD .skip) = true := by decide +kernel
theorem chk65 : fnC τ An Sgs 65 { bi := ⟨[(0, [[.S, .S, .S, .F]])], []⟩, bo := ⟨[(0, [[.S, .S, .S, .U 4]])], []⟩, np := 1, ext := false } Try.f65 (Try.f65.body.getD .skip) = true := by decide +kernel
theorem chk66 : fnC τ An Sgs 66 { bi := ⟨[(0, [[.S, .S, .S, .F]])], []⟩, bo := ⟨[(0, [[.S, .S, .S, .U 4]])], []⟩, np := 1, ext := false } Try.f66 (Try.f66.body.getD .skip) = true := by decide +kernel
theorem chk67 : fnC τ An Sgs 67 { bi := ⟨[(0, [[.F]]), (1, [[.F]]), (2, [[.S]])], []⟩, bo := ⟨[(0, [[.S]])], []⟩, np := 3, ext := false } Try.f67 (Try.f67.body.getD .skip) = true := by decide +kernel
theorem chk104 : fnC τ An Sgs 104 { bi := ⟨[(0, [[.S]])], [(1000000, [.F, .S, .S])]⟩, bo := ⟨[(0, [[.S]])], [(1000000, [.F, .S, .S])]⟩, np := 1, no := 1 } Try.f104 (Try.f104.body.getD .skip) = true := by decide +kernel
theorem chk105 : fnC τ An Sgs 105 { bi := ⟨[(0, [[.S]]), (1, [[.F]])], [(1000000, [.F, .S, .S])]⟩, bo := ⟨[(0, [[.S]])], [(1000000, [.F, .S, .S])]⟩, np := 2, no := 1 } Try.f105 (Try.f105.body.getD .skip) = true := by decide +kernel
theorem chk106 : fnC τ An Sgs 106 { bi := ⟨[(0, [[.F]])], []⟩, bo := ⟨[(0, [[.U 4]])], []⟩, np := 1, ext := false } Try.f106 (Try.f106.body.getD .skip) = true := by decide +kernel
theorem checked : ∀ f sg, sg ∈ Sgs f → ∀ fn c, Try.prog.funcs[f]? = some fn → fn.body = some c → fnC τ An Sgs f sg fn c = true := by
  intro f sg hs
  unfold Sgs at hs
  split at hs
  · exact one_sg chk5 Try.func5 hs
  · exact one_sg chk18 Try.func18 hs
  · exact one_sg chk20 Try.func20 hs
  · exact one_sg chk21 Try.func21 hs
  · exact one_sg chk22 Try.func22 hs
  · exact one_sg chk23 Try.func23 hs
  · exact one_sg chk58 Try.func58 hs
  · exact one_sg chk59 Try.func59 hs
  · exact one_sg chk60 Try.func60 hs
  · exact one_sg chk61 Try.func61 hs
  · exact one_sg chk62 Try.func62 hs
  · exact one_sg chk63 Try.func63 hs
  · exact one_sg chk64 Try.func64 hs
  · exact one_sg chk65 Try.func65 hs
  · exact one_sg chk66 Try.func66 hs
  · exact one_sg chk67 Try.func67 hs
  · exact one_sg chk104 Try.func104 hs
  · exact one_sg chk105 Try.func105 hs
  · exact one_sg chk106 Try.func106 hs
  · cases hs
end Go.Own
