/- Each function is checked. No conditions. -/
import Derived.Test.YticdjfieofjcaaaW9pA
set_option linter.unusedVariables false
set_option linter.unusedSimpArgs false
set_option linter.unnecessarySimpa false
namespace Go.Own
open Go Go.Proofs
theorem chk9 : fnC τ An Sgs 9 { bi := ⟨[(0, [[.S, .S, .S, .S, .S, .S, .S, .F, .F]]), (1, [[.S, .S, .S, .F]])], []⟩, bo := ⟨[(0, [[.S]])], []⟩, np := 2, ext := false } Try.f9 (Try.f9.body.getD .skip) = true := by decide +kernel
theorem chk24 : fnC τ An Sgs 24 { bi := ⟨[(0, [[.S, .S, .S, .S, .S, .S, .S, .F, .F]]), (1, [[.S]])], []⟩, bo := ⟨[(0, [[.S]])], []⟩, np := 2, ext := false } Try.f24 (Try.f24.body.getD .skip) = true := by decide +kernel
theorem chk25 : fnC τ An Sgs 25 { bi := ⟨[(0, [[.S, .S, .S, .S, .S, .S, .S, .F, .F]])], []⟩, bo := ⟨[(0, [[.S]])], []⟩, np := 1, ext := false } Try.f25 (Try.f25.body.getD .skip) = true := by decide +kernel
theorem chk26 : fnC τ An Sgs 26 { bi := ⟨[(0, [[.S, .S, .S, .S, .S, .S, .S, .F, .F]])], []⟩, bo := ⟨[(0, [[.S, .S, .S, .S, .S, .S, .S, .U 4, .U 4]])], []⟩, np := 1, ext := false } Try.f26 (Try.f26.body.getD .skip) = true := by decide +kernel
theorem chk27 : fnC τ An Sgs 27 { bi := ⟨[(0, [[.S, .S, .S, .S, .S, .S, .S, .F, .F]])], []⟩, bo := ⟨[(0, [[.S]])], []⟩, np := 1, ext := false } Try.f27 (Try.f27.body.getD .skip) = true := by decide +kernel
theorem chk28 : fnC τ An Sgs 28 { bi := ⟨[(0, [[.S, .S, .S, .S, .S, .S, .S, .F, .F]]), (1, [[.S, .S, .S, .S, .S, .S, .S, .F, .F]])], []⟩, bo := ⟨[(0, [[.S]])], []⟩, np := 2, ext := false } Try.f28 (Try.f28.body.getD .skip) = true := by decide +kernel
theorem chk29 : fnC τ An Sgs 29 { bi := ⟨[(0, [[.S, .S, .S, .F]]), (1, [[.S]])], []⟩, bo := ⟨[(0, [[.S]])], []⟩, np := 2, ext := false } Try.f29 (Try.f29.body.getD .skip) = true := by decide +kernel
theorem chk30 : fnC τ An Sgs 30 { bi := ⟨[(0, [[.S, .S, .S, .F]])], []⟩, bo := ⟨[(0, [[.S, .S, .S, .U 4]])], []⟩, np := 1, ext := false } Try.f30 (Try.f30.body.getD .skip) = true := by decide +kernel
theorem chk32 : fnC τ An Sgs 32 { bi := ⟨[(0, [[.S, .S, .S, .F]]), (1, [[.S, .S, .S, .F]])], []⟩, bo := ⟨[(0, [[.S]])], []⟩, np := 2, ext := false } Try.f32 (Try.f32.body.getD .skip) = true := by decide +kernel
theorem chk41 : fnC τ An Sgs 41 { bi := ⟨[(0, [[.S, .S, .S, .S, .S, .S, .S, .F, .F]]), (1, [[.S, .S, .S, .F]])], []⟩, bo := ⟨[(0, [[.S, .S, .S, .S, .S, .S, .S, .U 4, .U 4], [.S]])], []⟩, np := 2, ext := false } Try.f41 (Try.f41.body.getD .skip) = true := by decide +kernel
theorem chk42 : fnC τ An Sgs 42 { bi := ⟨[(0, [[.S, .S, .S, .S, .S, .S, .S, .F, .F]]), (1, [[.S, .S, .S, .F]])], []⟩, bo := ⟨[(0, [[.S, .S, .S, .S, .S, .S, .S, .U 4, .U 4], [.S]])], []⟩, np := 2, ext := false } Try.f42 (Try.f42.body.getD .skip) = true := by decide +kernel
theorem chk44 : fnC τ An Sgs 44 { bi := ⟨[(0, [[.S, .S, .S, .S, .S, .S, .S, .F, .F]]), (1, [[.S]])], []⟩, bo := ⟨[(0, [[.S]])], []⟩, np := 2, ext := false } Try.f44 (Try.f44.body.getD .skip) = true := by decide +kernel
theorem chk56 : fnC τ An Sgs 56 { bi := ⟨[(0, [[.S]]), (1, [[.S]]), (2, [[.S]])], []⟩, bo := ⟨[(0, [[.S]])], []⟩, np := 3, ext := false } Try.f56 (Try.f56.body.getD .skip) = true := by decide +kernel
theorem chk57 : fnC τ An Sgs 57 { bi := ⟨[(0, [[.S]]), (1, [[.S]]), (2, [[.S]])], []⟩, bo := ⟨[(0, [[.S]])], []⟩, np := 3, ext := false } Try.f57 (Try.f57.body.getD .skip) = true := by decide +kernel
theorem chk65 : fnC τ An Sgs 65 { bi := ⟨[(0, [[.S, .S, .S, .F]])], []⟩, bo := ⟨[(0, [[.S, .S, .S, .U 4]])], []⟩, np := 1, ext := false } Try.f65 (Try.f65.body.getD .skip) = true := by decide +kernel
theorem chk66 : fnC τ An Sgs 66 { bi := ⟨[(0, [[.S, .S, .S, .F]])], []⟩, bo := ⟨[(0, [[.S, .S, .S, .U 4]])], []⟩, np := 1, ext := false } Try.f66 (Try.f66.body.getD .skip) = true := by decide +kernel
theorem chk68 : fnC τ An Sgs 68 { bi := ⟨[(0, [[.F]]), (1, [[.S]])], []⟩, bo := ⟨[(0, [[.S]])], []⟩, np := 2, ext := false } Try.f68 (Try.f68.body.getD .skip) = true := by decide +kernel
theorem chk69 : fnC τ An Sgs 69 { bi := ⟨[(0, [[.S, .S, .S, .F]])], []⟩, bo := ⟨[(0, [[.S]])], []⟩, np := 1, ext := false } Try.f69 (Try.f69.body.getD .skip) = true := by decide +kernel
theorem chk70 : fnC τ An Sgs 70 { bi := ⟨[(0, [[.S]])], []⟩, bo := ⟨[(0, [[.S]])], []⟩, np := 1, ext := false } Try.f70 (Try.f70.body.getD .skip) = true := by decide +kernel
theorem chk71 : fnC τ An Sgs 71 { bi := ⟨[(0, [[.F]])], []⟩, bo := ⟨[(0, [[.U 4]])], []⟩, np := 1, ext := false } Try.f71 (Try.f71.body.getD .skip) = true := by decide +kernel
theorem chk72 : fnC τ An Sgs 72 { bi := ⟨[(0, [[.S]])], []⟩, bo := ⟨[(0, [[.S]])], []⟩, np := 1, ext := false } Try.f72 (Try.f72.body.getD .skip) = true := by decide +kernel
theorem chk73 : fnC τ An Sgs 73 { bi := ⟨[(0, [[.S, .S, .S, .F]])], []⟩, bo := ⟨[(0, [[.S]])], []⟩, np := 1, ext := false } Try.f73 (Try.f73.body.getD .skip) = true := by decide +kernel
theorem chk74 : fnC τ An Sgs 74 { bi := ⟨[(0, [[.F]])], []⟩, bo := ⟨[(0, [[.S]])], []⟩, np := 1, ext := false } Try.f74 (Try.f74.body.getD .skip) = true := by decide +kernel
theorem chk75 : fnC τ An Sgs 75 { bi := ⟨[(0, [[.F]]), (1, [[.F]])], []⟩, bo := ⟨[(0, [[.S]])], []⟩, np := 2, ext := false } Try.f75 (Try.f75.body.getD .skip) = true := by decide +kernel
theorem chk77 : fnC τ An Sgs 77 { bi := ⟨[(0, [[.U 0]]), (1, [[.S]])], []⟩, bo := ⟨[(0, [[.S]]), (1, [[.U 0]])], []⟩, np := 2, io := some 0 } Try.f77 (Try.f77.body.getD .skip) = true := by decide +kernel
theorem chk78 : fnC τ An Sgs 78 { bi := ⟨[(0, [[.S]])], []⟩, bo := ⟨[(0, [[.S]])], []⟩, np := 1, ext := false } Try.f78 (Try.f78.body.getD .skip) = true := by decide +kernel
theorem chk79 : fnC τ An Sgs 79 { bi := ⟨[(0, [[.F]]), (1, [[.S]])], []⟩, bo := ⟨[(0, [[.S]])], []⟩, np := 2, ext := false } Try.f79 (Try.f79.body.getD .skip) = true := by decide +kernel
theorem chk85 : fnC τ An Sgs 85 { bi := ⟨[(0, [[.S, .S, .S, .S, .S, .S, .S, .F, .F]])], []⟩, bo := ⟨[(0, [[.S, .S, .S, .S, .S, .S, .S, .U 4, .U 4]])], []⟩, np := 1, ext := false } Try.f85 (Try.f85.body.getD .skip) = true := by decide +kernel
theorem chk86 : fnC τ An Sgs 86 { bi := ⟨[(0, [[.S, .S, .S, .S, .S, .S, .S, .F, .F]])], []⟩, bo := ⟨[(0, [[.S, .S, .S, .S, .S, .S, .S, .U 4, .U 4]])], []⟩, np := 1, ext := false } Try.f86 (Try.f86.body.getD .skip) = true := by decide +kernel
theorem chk87 : fnC τ An Sgs 87 { bi := ⟨[(0, [[.S, .S, .S, .F]]), (1, [[.S]])], []⟩, bo := ⟨[(0, [[.S]])], []⟩, np := 2, ext := false } Try.f87 (Try.f87.body.getD .skip) = true := by decide +kernel
theorem chk106 : fnC τ An Sgs 106 { bi := ⟨[(0, [[.F]])], []⟩, bo := ⟨[(0, [[.U 4]])], []⟩, np := 1, ext := false } Try.f106 (Try.f106.body.getD .skip) = true := by decide +kernel
theorem chk107 : fnC τ An Sgs 107 { bi := ⟨[(0, [[.S, .S, .S, .F]]), (1, [[.S]]), (2, [[.S]])], []⟩, bo := ⟨[(0, [[.S]])], []⟩, np := 3, ext := false } Try.f107 (Try.f107.body.getD .skip) = true := by decide +kernel
theorem chk108 : fnC τ An Sgs 108 { bi := ⟨[(0, [[.S]])], []⟩, bo := ⟨[(0, [[.S]])], []⟩, np := 1, ext := false } Try.f108 (Try.f108.body.getD .skip) = true := by decide +kernel
theorem chk109 : fnC τ An Sgs 109 { bi := ⟨[(0, [[.S]])], []⟩, bo := ⟨[(0, [[.S]])], []⟩, np := 1, ext := false } Try.f109 (Try.f109.body.getD .skip) = true := by decide +kernel
theorem chk110 : fnC τ An Sgs 110 { bi := ⟨[(0, [[.S, .S, .S, .F]]), (1, [[.S]])], []⟩, bo := ⟨[(0, [[.S]])], []⟩, np := 2, ext := false } Try.f110 (Try.f110.body.getD .skip) = true := by decide +kernel
theorem chk116 : fnC τ An Sgs 116 { bi := ⟨[(0, [[.F]])], []⟩, bo := ⟨[(0, [[.U 4]])], []⟩, np := 1, ext := false } Try.f116 (Try.f116.body.getD .skip) = true := by decide +kernel
theorem chk128 : fnC τ An Sgs 128 { bi := ⟨[(0, [[.S, .S, .S, .F]])], []⟩, bo := ⟨[(0, [[.S]])], []⟩, np := 1, ext := false } Try.f128 (Try.f128.body.getD .skip) = true := by decide +kernel
theorem chk129 : fnC τ An Sgs 129 { bi := ⟨[(0, [[.S, .S, .S, .F]])], []⟩, bo := ⟨[(0, [[.S]])], []⟩, np := 1, ext := false } Try.f129 (Try.f129.body.getD .skip) = true := by decide +kernel
theorem checked : ∀ f sg, sg ∈ Sgs f → ∀ fn c, Try.prog.funcs[f]? = some fn → fn.body = some c → fnC τ An Sgs f sg fn c = true := by
  intro f sg hs
  unfold Sgs at hs
  split at hs
  · exact one_sg chk9 Try.func9 hs
  · exact one_sg chk24 Try.func24 hs
  · exact one_sg chk25 Try.func25 hs
  · exact one_sg chk26 Try.func26 hs
  · exact one_sg chk27 Try.func27 hs
  · exact one_sg chk28 Try.func28 hs
  · exact one_sg chk29 Try.func29 hs
  · exact one_sg chk30 Try.func30 hs
  · exact one_sg chk32 Try.func32 hs
  · exact one_sg chk41 Try.func41 hs
  · exact one_sg chk42 Try.func42 hs
  · exact one_sg chk44 Try.func44 hs
  · exact one_sg chk56 Try.func56 hs
  · exact one_sg chk57 Try.func57 hs
  · exact one_sg chk65 Try.func65 hs
  · exact one_sg chk66 Try.func66 hs
  · exact one_sg chk68 Try.func68 hs
  · exact one_sg chk69 Try.func69 hs
  · exact one_sg chk70 Try.func70 hs
  · exact one_sg chk71 Try.func71 hs
  · exact one_sg chk72 Try.func72 hs
  · exact one_sg chk73 Try.func73 hs
  · exact one_sg chk74 Try.func74 hs
  · exact one_sg chk75 Try.func75 hs
  · exact one_sg chk77 Try.func77 hs
  · exact one_sg chk78 Try.func78 hs
  · exact one_sg chk79 Try.func79 hs
  · exact one_sg chk85 Try.func85 hs
  · exact one_sg chk86 Try.func86 hs
  · exact one_sg chk87 Try.func87 hs
  · exact one_sg chk106 Try.func106 hs
  · exact one_sg chk107 Try.func107 hs
  · exact one_sg chk108 Try.func108 hs
  · exact one_sg chk109 Try.func109 hs
  · exact one_sg chk110 Try.func110 hs
  · exact one_sg chk116 Try.func116 hs
  · exact one_sg chk128 Try.func128 hs
  · exact one_sg chk129 Try.func129 hs
  · cases hs
end Go.Own
