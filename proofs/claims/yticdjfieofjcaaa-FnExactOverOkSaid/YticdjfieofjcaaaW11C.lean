/- Each function is checked. No conditions. -/
import Derived.Test.YticdjfieofjcaaaW11A
set_option linter.unusedVariables false
set_option linter.unusedSimpArgs false
set_option linter.unnecessarySimpa false
namespace Go.Own
open Go Go.Proofs
theorem chk11 : fnC τ An Sgs 11 { bi := ⟨[(0, [[.S, .S, .S, .F, .F, .F, .S]])], []⟩, bo := ⟨[(0, [[.S]])], []⟩, np := 1, ext := false } Try.f11 (Try.f11.body.getD .skip) = true := by decide +kernel
theorem chk15 : fnC τ An Sgs 15 { bi := ⟨[(0, [[.F]]), (1, [[.F]])], []⟩, bo := ⟨[(0, [[.S]])], []⟩, np := 2, ext := false } Try.f15 (Try.f15.body.getD .skip) = true := by decide +kernel
theorem chk23 : fnC τ An Sgs 23 { bi := ⟨[(0, [[.S, .S, .S, .F]]), (1, [[.S, .S, .S, .F]])], []⟩, bo := ⟨[(0, [[.S]])], []⟩, np := 2, ext := false } Try.f23 (Try.f23.body.getD .skip) = true := by decide +kernel
theorem chk29 : fnC τ An Sgs 29 { bi := ⟨[(0, [[.S, .S, .S, .F]]), (1, [[.S]])], []⟩, bo := ⟨[(0, [[.S]])], []⟩, np := 2, ext := false } Try.f29 (Try.f29.body.getD .skip) = true := by decide +kernel
theorem chk30 : fnC τ An Sgs 30 { bi := ⟨[(0, [[.S, .S, .S, .F]])], []⟩, bo := ⟨[(0, [[.S, .S, .S, .U 4]])], []⟩, np := 1, ext := false } Try.f30 (Try.f30.body.getD .skip) = true := by decide +kernel
theorem chk32 : fnC τ An Sgs 32 { bi := ⟨[(0, [[.S, .S, .S, .F]]), (1, [[.S, .S, .S, .F]])], []⟩, bo := ⟨[(0, [[.S]])], []⟩, np := 2, ext := false } Try.f32 (Try.f32.body.getD .skip) = true := by decide +kernel
theorem chk48 : fnC τ An Sgs 48 { bi := ⟨[(0, [[.S, .S, .S, .F, .F, .F, .S]]), (1, [[.S]])], []⟩, bo := ⟨[(0, [[.S]])], []⟩, np := 2, ext := false } Try.f48 (Try.f48.body.getD .skip) = true := by decide +kernel
theorem chk49 : fnC τ An Sgs 49 { bi := ⟨[(0, [[.S, .S, .S, .F, .F, .F, .S]])], []⟩, bo := ⟨[(0, [[.S]])], []⟩, np := 1, ext := false } Try.f49 (Try.f49.body.getD .skip) = true := by decide +kernel
theorem chk50 : fnC τ An Sgs 50 { bi := ⟨[(0, [[.S, .S, .S, .F, .F, .F, .S]])], []⟩, bo := ⟨[(0, [[.S, .S, .S, .U 7, .U 1, .U 1, .S]])], []⟩, np := 1, ext := false } Try.f50 (Try.f50.body.getD .skip) = true := by decide +kernel
theorem chk51 : fnC τ An Sgs 51 { bi := ⟨[(0, [[.S, .S, .S, .F, .F, .F, .S]])], []⟩, bo := ⟨[(0, [[.S]])], []⟩, np := 1, ext := false } Try.f51 (Try.f51.body.getD .skip) = true := by decide +kernel
theorem chk52 : fnC τ An Sgs 52 { bi := ⟨[(0, [[.S, .S, .S, .F, .F, .F, .S]]), (1, [[.S, .S, .S, .F, .F, .F, .S]])], []⟩, bo := ⟨[(0, [[.S]])], []⟩, np := 2, ext := false } Try.f52 (Try.f52.body.getD .skip) = true := by decide +kernel
theorem chk56 : fnC τ An Sgs 56 { bi := ⟨[(0, [[.S]]), (1, [[.S]]), (2, [[.S]])], []⟩, bo := ⟨[(0, [[.S]])], []⟩, np := 3, ext := false } Try.f56 (Try.f56.body.getD .skip) = true := by decide +kernel
theorem chk57 : fnC τ An Sgs 57 { bi := ⟨[(0, [[.S]]), (1, [[.S]]), (2, [[.S]])], []⟩, bo := ⟨[(0, [[.S]])], []⟩, np := 3, ext := false } Try.f57 (Try.f57.body.getD .skip) = true := by decide +kernel
theorem chk67 : fnC τ An Sgs 67 { bi := ⟨[(0, [[.F]]), (1, [[.F]]), (2, [[.S]])], []⟩, bo := ⟨[(0, [[.S]])], []⟩, np := 3, ext := false } Try.f67 (Try.f67.body.getD .skip) = true := by decide +kernel
theorem chk68 : fnC τ An Sgs 68 { bi := ⟨[(0, [[.F]]), (1, [[.S]])], []⟩, bo := ⟨[(0, [[.S]])], []⟩, np := 2, ext := false } Try.f68 (Try.f68.body.getD .skip) = true := by decide +kernel
theorem chk69 : fnC τ An Sgs 69 { bi := ⟨[(0, [[.S, .S, .S, .F]])], []⟩, bo := ⟨[(0, [[.S]])], []⟩, np := 1, ext := false } Try.f69 (Try.f69.body.getD .skip) = true := by decide +kernel
theorem chk70 : fnC τ An Sgs 70 { bi := ⟨[(0, [[.S]])], []⟩, bo := ⟨[(0, [[.S]])], []⟩, np := 1, ext := false } Try.f70 (Try.f70.body.getD .skip) = true := by decide +kernel
theorem chk71 : fnC τ An Sgs 71 { bi := ⟨[(0, [[.F]])], []⟩, bo := ⟨[(0, [[.U 4]])], []⟩, np := 1, ext := false } Try.f71 (Try.f71.body.getD .skip) = true := by decide +kernel
theorem chk72 : fnC τ An Sgs 72 { bi := ⟨[(0, [[.S]])], []⟩, bo := ⟨[(0, [[.S]])], []⟩, np := 1, ext := false } Try.f72 (Try.f72.body.getD .skip) = true := by decide +kernel
theorem chk73 : fnC τ An Sgs 73 { bi := ⟨[(0, [[.S, .S, .S, .F]])], []⟩, bo := ⟨[(0, [[.S]])], []⟩, np := 1, ext := false } Try.f73 (Try.f73.body.getD .skip) = true := by decide +kernel
theorem chk75 : fnC τ An Sgs 75 { bi := ⟨[(0, [[.F]]), (1, [[.F]])], []⟩, bo := ⟨[(0, [[.S]])], []⟩, np := 2, ext := false } Try.f75 (Try.f75.body.getD .skip) = true := by decide +kernel
theorem chk92 : fnC τ An Sgs 92 { bi := ⟨[(0, [[.F]]), (1, [[.S]])], []⟩, bo := ⟨[(0, [[.S]])], []⟩, np := 2, ext := false } Try.f92 (Try.f92.body.getD .skip) = true := by decide +kernel
theorem chk93 : fnC τ An Sgs 93 { bi := ⟨[(0, [[.F]]), (1, [[.S]])], []⟩, bo := ⟨[(0, [[.S]])], []⟩, np := 2, ext := false } Try.f93 (Try.f93.body.getD .skip) = true := by decide +kernel
theorem chk94 : fnC τ An Sgs 94 { bi := ⟨[(0, [[.S, .S, .S, .S, .S, .F, .S]])], []⟩, bo := ⟨[(0, [[.S]])], []⟩, np := 1, ext := false } Try.f94 (Try.f94.body.getD .skip) = true := by decide +kernel
theorem chk95 : fnC τ An Sgs 95 { bi := ⟨[(0, [[.F]])], []⟩, bo := ⟨[(0, [[.U 7]])], []⟩, np := 1, ext := false } Try.f95 (Try.f95.body.getD .skip) = true := by decide +kernel
theorem chk96 : fnC τ An Sgs 96 { bi := ⟨[(0, [[.F]])], []⟩, bo := ⟨[(0, [[.U 1]])], []⟩, np := 1, ext := false } Try.f96 (Try.f96.body.getD .skip) = true := by decide +kernel
theorem chk97 : fnC τ An Sgs 97 { bi := ⟨[(0, [[.S, .S, .S, .S, .S, .F, .S]])], []⟩, bo := ⟨[(0, [[.S]])], []⟩, np := 1, ext := false } Try.f97 (Try.f97.body.getD .skip) = true := by decide +kernel
theorem chk98 : fnC τ An Sgs 98 { bi := ⟨[(0, [[.F]])], []⟩, bo := ⟨[(0, [[.S]])], []⟩, np := 1, ext := false } Try.f98 (Try.f98.body.getD .skip) = true := by decide +kernel
theorem chk99 : fnC τ An Sgs 99 { bi := ⟨[(0, [[.F]]), (1, [[.F]])], []⟩, bo := ⟨[(0, [[.S]])], []⟩, np := 2, ext := false } Try.f99 (Try.f99.body.getD .skip) = true := by decide +kernel
theorem chk107 : fnC τ An Sgs 107 { bi := ⟨[(0, [[.S, .S, .S, .F]]), (1, [[.S]]), (2, [[.S]])], []⟩, bo := ⟨[(0, [[.S]])], []⟩, np := 3, ext := false } Try.f107 (Try.f107.body.getD .skip) = true := by decide +kernel
theorem chk108 : fnC τ An Sgs 108 { bi := ⟨[(0, [[.S]])], []⟩, bo := ⟨[(0, [[.S]])], []⟩, np := 1, ext := false } Try.f108 (Try.f108.body.getD .skip) = true := by decide +kernel
theorem chk109 : fnC τ An Sgs 109 { bi := ⟨[(0, [[.S]])], []⟩, bo := ⟨[(0, [[.S]])], []⟩, np := 1, ext := false } Try.f109 (Try.f109.body.getD .skip) = true := by decide +kernel
theorem chk110 : fnC τ An Sgs 110 { bi := ⟨[(0, [[.S, .S, .S, .F]]), (1, [[.S]])], []⟩, bo := ⟨[(0, [[.S]])], []⟩, np := 2, ext := false } Try.f110 (Try.f110.body.getD .skip) = true := by decide +kernel
theorem chk120 : fnC τ An Sgs 120 { bi := ⟨[(0, [[.S, .S, .S, .S, .S, .F, .S]]), (1, [[.S]])], []⟩, bo := ⟨[(0, [[.S]])], []⟩, np := 2, ext := false } Try.f120 (Try.f120.body.getD .skip) = true := by decide +kernel
theorem chk121 : fnC τ An Sgs 121 { bi := ⟨[(0, [[.S, .S, .S, .F]])], []⟩, bo := ⟨[(0, [[.S]])], []⟩, np := 1, ext := false } Try.f121 (Try.f121.body.getD .skip) = true := by decide +kernel
theorem chk122 : fnC τ An Sgs 122 { bi := ⟨[(0, [[.S, .S, .S, .S, .S, .F, .S]])], []⟩, bo := ⟨[(0, [[.S, .S, .S, .S, .S, .U 4, .S]])], []⟩, np := 1, ext := false } Try.f122 (Try.f122.body.getD .skip) = true := by decide +kernel
theorem chk123 : fnC τ An Sgs 123 { bi := ⟨[(0, [[.S, .S, .S, .F]])], []⟩, bo := ⟨[(0, [[.S]])], []⟩, np := 1, ext := false } Try.f123 (Try.f123.body.getD .skip) = true := by decide +kernel
theorem chk124 : fnC τ An Sgs 124 { bi := ⟨[(0, [[.S]]), (1, [[.S]])], []⟩, bo := ⟨[(0, [[.S]])], []⟩, np := 2, ext := false } Try.f124 (Try.f124.body.getD .skip) = true := by decide +kernel
theorem chk125 : fnC τ An Sgs 125 { bi := ⟨[(0, [[.S, .S, .S, .S, .S, .F, .S]]), (1, [[.S, .S, .S, .S, .S, .F, .S]])], []⟩, bo := ⟨[(0, [[.S]])], []⟩, np := 2, ext := false } Try.f125 (Try.f125.body.getD .skip) = true := by decide +kernel
theorem chk128 : fnC τ An Sgs 128 { bi := ⟨[(0, [[.S, .S, .S, .F]])], []⟩, bo := ⟨[(0, [[.S]])], []⟩, np := 1, ext := false } Try.f128 (Try.f128.body.getD .skip) = true := by decide +kernel
theorem chk129 : fnC τ An Sgs 129 { bi := ⟨[(0, [[.S, .S, .S, .F]])], []⟩, bo := ⟨[(0, [[.S]])], []⟩, np := 1, ext := false } Try.f129 (Try.f129.body.getD .skip) = true := by decide +kernel
theorem chk139 : fnC τ An Sgs 139 { bi := ⟨[(0, [[.S]])], []⟩, bo := ⟨[(0, [[.S]])], []⟩, np := 1, ext := false } Try.f139 (Try.f139.body.getD .skip) = true := by decide +kernel
theorem checked : ∀ f sg, sg ∈ Sgs f → ∀ fn c, Try.prog.funcs[f]? = some fn → fn.body = some c → fnC τ An Sgs f sg fn c = true := by
  intro f sg hs
  unfold Sgs at hs
  split at hs
  · exact one_sg chk11 Try.func11 hs
  · exact one_sg chk15 Try.func15 hs
  · exact one_sg chk23 Try.func23 hs
  · exact one_sg chk29 Try.func29 hs
  · exact one_sg chk30 Try.func30 hs
  · exact one_sg chk32 Try.func32 hs
  · exact one_sg chk48 Try.func48 hs
  · exact one_sg chk49 Try.func49 hs
  · exact one_sg chk50 Try.func50 hs
  · exact one_sg chk51 Try.func51 hs
  · exact one_sg chk52 Try.func52 hs
  · exact one_sg chk56 Try.func56 hs
  · exact one_sg chk57 Try.func57 hs
  · exact one_sg chk67 Try.func67 hs
  · exact one_sg chk68 Try.func68 hs
  · exact one_sg chk69 Try.func69 hs
  · exact one_sg chk70 Try.func70 hs
  · exact one_sg chk71 Try.func71 hs
  · exact one_sg chk72 Try.func72 hs
  · exact one_sg chk73 Try.func73 hs
  · exact one_sg chk75 Try.func75 hs
  · exact one_sg chk92 Try.func92 hs
  · exact one_sg chk93 Try.func93 hs
  · exact one_sg chk94 Try.func94 hs
  · exact one_sg chk95 Try.func95 hs
  · exact one_sg chk96 Try.func96 hs
  · exact one_sg chk97 Try.func97 hs
  · exact one_sg chk98 Try.func98 hs
  · exact one_sg chk99 Try.func99 hs
  · exact one_sg chk107 Try.func107 hs
  · exact one_sg chk108 Try.func108 hs
  · exact one_sg chk109 Try.func109 hs
  · exact one_sg chk110 Try.func110 hs
  · exact one_sg chk120 Try.func120 hs
  · exact one_sg chk121 Try.func121 hs
  · exact one_sg chk122 Try.func122 hs
  · exact one_sg chk123 Try.func123 hs
  · exact one_sg chk124 Try.func124 hs
  · exact one_sg chk125 Try.func125 hs
  · exact one_sg chk128 Try.func128 hs
  · exact one_sg chk129 Try.func129 hs
  · exact one_sg chk139 Try.func139 hs
  · cases hs
end Go.Own
