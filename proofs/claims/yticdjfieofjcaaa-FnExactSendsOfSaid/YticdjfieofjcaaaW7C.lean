/- Each function is checked. No conditions. -/
import Derived.Test.YticdjfieofjcaaaW7A
set_option linter.unusedVariables false
set_option linter.unusedSimpArgs false
set_option linter.unnecessarySimpa false
namespace Go.Own
open Go Go.Proofs
theorem chk7 : fnC τ An Sgs 7 { bi := ⟨[(0, [[.S, .S, .S, .F]])], []⟩, bo := ⟨[(0, [[.S]])], []⟩, np := 1, ext := false } Try.f7 (Try.f7.body.getD .skip) = true := by decide +kernel
theorem chk21 : fnC τ An Sgs 21 { bi := ⟨[(0, [[.S, .S, .S, .F]])], []⟩, bo := ⟨[(0, [[.U 8], [.S]])], []⟩, np := 1, ext := false } Try.f21 (Try.f21.body.getD .skip) = true := by decide +kernel
theorem chk22 : fnC τ An Sgs 22 { bi := ⟨[(0, [[.S, .S, .S, .F]])], []⟩, bo := ⟨[(0, [[.U 8], [.S]])], []⟩, np := 1, ext := false } Try.f22 (Try.f22.body.getD .skip) = true := by decide +kernel
theorem chk29 : fnC τ An Sgs 29 { bi := ⟨[(0, [[.S, .S, .S, .F]]), (1, [[.S]])], []⟩, bo := ⟨[(0, [[.S]])], []⟩, np := 2, ext := false } Try.f29 (Try.f29.body.getD .skip) = true := by decide +kernel
theorem chk30 : fnC τ An Sgs 30 { bi := ⟨[(0, [[.S, .S, .S, .F]])], []⟩, bo := ⟨[(0, [[.S, .S, .S, .U 4]])], []⟩, np := 1, ext := false } Try.f30 (Try.f30.body.getD .skip) = true := by decide +kernel
theorem chk31 : fnC τ An Sgs 31 { bi := ⟨[(0, [[.F]]), (1, [[.F]])], []⟩, bo := ⟨[(0, [[.S]])], []⟩, np := 2, ext := false } Try.f31 (Try.f31.body.getD .skip) = true := by decide +kernel
theorem chk32 : fnC τ An Sgs 32 { bi := ⟨[(0, [[.S, .S, .S, .F]]), (1, [[.S, .S, .S, .F]])], []⟩, bo := ⟨[(0, [[.S]])], []⟩, np := 2, ext := false } Try.f32 (Try.f32.body.getD .skip) = true := by decide +kernel
theorem chk33 : fnC τ An Sgs 33 { bi := ⟨[(0, [[.S, .S, .S, .U 4]]), (1, [[.S]])], []⟩, bo := ⟨[(0, [[.S]])], []⟩, np := 2 } Try.f33 (Try.f33.body.getD .skip) = true := by decide +kernel
theorem chk34 : fnC τ An Sgs 34 { bi := ⟨[(0, [[.U 0]]), (1, [[.S]])], []⟩, bo := ⟨[(0, [[.S]]), (1, [[.U 0]])], []⟩, np := 2, io := some 0 } Try.f34 (Try.f34.body.getD .skip) = true := by decide +kernel
theorem chk35 : fnC τ An Sgs 35 { bi := ⟨[(0, [[.F]]), (1, [[.S]])], []⟩, bo := ⟨[(0, [[.S]])], []⟩, np := 2, ext := false } Try.f35 (Try.f35.body.getD .skip) = true := by decide +kernel
theorem chk64 : fnC τ An Sgs 64 { bi := ⟨[(0, [[.S, .S, .S, .F]])], []⟩, bo := ⟨[(0, [[.S]])], []⟩, np := 1, ext := false } Try.f64 (Try.f64.body.getD .skip) = true := by decide +kernel
theorem chk65 : fnC τ An Sgs 65 { bi := ⟨[(0, [[.S, .S, .S, .F]])], []⟩, bo := ⟨[(0, [[.S, .S, .S, .U 4]])], []⟩, np := 1, ext := false } Try.f65 (Try.f65.body.getD .skip) = true := by decide +kernel
theorem chk66 : fnC τ An Sgs 66 { bi := ⟨[(0, [[.S, .S, .S, .F]])], []⟩, bo := ⟨[(0, [[.S, .S, .S, .U 4]])], []⟩, np := 1, ext := false } Try.f66 (Try.f66.body.getD .skip) = true := by decide +kernel
theorem chk68 : fnC τ An Sgs 68 { bi := ⟨[(0, [[.F]]), (1, [[.S]])], []⟩, bo := ⟨[(0, [[.S]])], []⟩, np := 2, ext := false } Try.f68 (Try.f68.body.getD .skip) = true := by decide +kernel
theorem chk71 : fnC τ An Sgs 71 { bi := ⟨[(0, [[.F]])], []⟩, bo := ⟨[(0, [[.U 4]])], []⟩, np := 1, ext := false } Try.f71 (Try.f71.body.getD .skip) = true := by decide +kernel
theorem chk75 : fnC τ An Sgs 75 { bi := ⟨[(0, [[.F]]), (1, [[.F]])], []⟩, bo := ⟨[(0, [[.S]])], []⟩, np := 2, ext := false } Try.f75 (Try.f75.body.getD .skip) = true := by decide +kernel
theorem chk76 : fnC τ An Sgs 76 { bi := ⟨[(0, [[.S, .S, .S, .F, .S, .S, .S, .F]]), (1, [[.S, .S, .S, .F, .S, .S, .S, .F]])], []⟩, bo := ⟨[(0, [[.S]])], []⟩, np := 2, ext := false } Try.f76 (Try.f76.body.getD .skip) = true := by decide +kernel
theorem chk77 : fnC τ An Sgs 77 { bi := ⟨[(0, [[.U 0]]), (1, [[.S]])], []⟩, bo := ⟨[(0, [[.S]]), (1, [[.U 0]])], []⟩, np := 2, io := some 0 } Try.f77 (Try.f77.body.getD .skip) = true := by decide +kernel
theorem chk78 : fnC τ An Sgs 78 { bi := ⟨[(0, [[.S]])], []⟩, bo := ⟨[(0, [[.S]])], []⟩, np := 1, ext := false } Try.f78 (Try.f78.body.getD .skip) = true := by decide +kernel
theorem chk79 : fnC τ An Sgs 79 { bi := ⟨[(0, [[.F]]), (1, [[.S]])], []⟩, bo := ⟨[(0, [[.S]])], []⟩, np := 2, ext := false } Try.f79 (Try.f79.body.getD .skip) = true := by decide +kernel
theorem chk106 : fnC τ An Sgs 106 { bi := ⟨[(0, [[.F]])], []⟩, bo := ⟨[(0, [[.U 4]])], []⟩, np := 1, ext := false } Try.f106 (Try.f106.body.getD .skip) = true := by decide +kernel
theorem checked : ∀ f sg, sg ∈ Sgs f → ∀ fn c, Try.prog.funcs[f]? = some fn → fn.body = some c → fnC τ An Sgs f sg fn c = true := by
  intro f sg hs
  unfold Sgs at hs
  split at hs
  · exact one_sg chk7 Try.func7 hs
  · exact one_sg chk21 Try.func21 hs
  · exact one_sg chk22 Try.func22 hs
  · exact one_sg chk29 Try.func29 hs
  · exact one_sg chk30 Try.func30 hs
  · exact one_sg chk31 Try.func31 hs
  · exact one_sg chk32 Try.func32 hs
  · exact one_sg chk33 Try.func33 hs
  · exact one_sg chk34 Try.func34 hs
  · exact one_sg chk35 Try.func35 hs
  · exact one_sg chk64 Try.func64 hs
  · exact one_sg chk65 Try.func65 hs
  · exact one_sg chk66 Try.func66 hs
  · exact one_sg chk68 Try.func68 hs
  · exact one_sg chk71 Try.func71 hs
  · exact one_sg chk75 Try.func75 hs
  · exact one_sg chk76 Try.func76 hs
  · exact one_sg chk77 Try.func77 hs
  · exact one_sg chk78 Try.func78 hs
  · exact one_sg chk79 Try.func79 hs
  · exact one_sg chk106 Try.func106 hs
  · cases hs
end Go.Own
