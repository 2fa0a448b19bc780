/- Each function is checked. No conditions. -/
import Derived.Test.YtgeomhdbckjkcaaW13A
set_option linter.unusedVariables false
set_option linter.unusedSimpArgs false
set_option linter.unnecessarySimpa false
namespace Go.Own
open Go Go.Proofs
theorem chk3 : fnC τ An Sgs 3 { bi := ⟨[(0, [[.F]])], []⟩, bo := ⟨[(0, [[.S]])], []⟩, np := 1, ext := false } Try.f3 (Try.f3.body.getD .skip) = true := by decide +kernel
theorem chk12 : fnC τ An Sgs 12 { bi := ⟨[(0, [[.F]]), (1, [[.S]])], []⟩, bo := ⟨[(0, [[.S]])], []⟩, np := 2, ext := false } Try.f12 (Try.f12.body.getD .skip) = true := by decide +kernel
theorem chk13 : fnC τ An Sgs 13 { bi := ⟨[(0, [[.F]])], []⟩, bo := ⟨[(0, [[.S]])], []⟩, np := 1, ext := false } Try.f13 (Try.f13.body.getD .skip) = true := by decide +kernel
theorem chk14 : fnC τ An Sgs 14 { bi := ⟨[(0, [[.F]])], []⟩, bo := ⟨[(0, [[.U 7]])], []⟩, np := 1, ext := false } Try.f14 (Try.f14.body.getD .skip) = true := by decide +kernel
theorem chk15 : fnC τ An Sgs 15 { bi := ⟨[(0, [[.F]])], []⟩, bo := ⟨[(0, [[.S]])], []⟩, np := 1, ext := false } Try.f15 (Try.f15.body.getD .skip) = true := by decide +kernel
theorem chk16 : fnC τ An Sgs 16 { bi := ⟨[(0, [[.F]]), (1, [[.F]])], []⟩, bo := ⟨[(0, [[.S]])], []⟩, np := 2, ext := false } Try.f16 (Try.f16.body.getD .skip) = true := by decide +kernel
theorem chk32 : fnC τ An Sgs 32 { bi := ⟨[(0, [[.F]]), (1, [[.S]])], []⟩, bo := ⟨[(0, [[.S]])], []⟩, np := 2, ext := false } Try.f32 (Try.f32.body.getD .skip) = true := by decide +kernel
theorem chk35 : fnC τ An Sgs 35 { bi := ⟨[(0, [[.F]])], []⟩, bo := ⟨[(0, [[.U 4]])], []⟩, np := 1, ext := false } Try.f35 (Try.f35.body.getD .skip) = true := by decide +kernel
theorem chk37 : fnC τ An Sgs 37 { bi := ⟨[(0, [[.S, .S, .S, .F]]), (1, [[.S, .S, .S, .F]])], []⟩, bo := ⟨[(0, [[.S]])], []⟩, np := 2, ext := false } Try.f37 (Try.f37.body.getD .skip) = true := by decide +kernel
theorem chk38 : fnC τ An Sgs 38 { bi := ⟨[(0, [[.F]]), (1, [[.F]])], []⟩, bo := ⟨[(0, [[.S]])], []⟩, np := 2, ext := false } Try.f38 (Try.f38.body.getD .skip) = true := by decide +kernel
theorem chk48 : fnC τ An Sgs 48 { bi := ⟨[(0, [[.S, .S, .S, .F]]), (1, [[.S, .S, .S, .F]])], []⟩, bo := ⟨[(0, [[.S]])], []⟩, np := 2, ext := false } Try.f48 (Try.f48.body.getD .skip) = true := by decide +kernel
theorem chk50 : fnC τ An Sgs 50 { bi := ⟨[(0, [[.S, .S, .S, .F]]), (1, [[.S]])], []⟩, bo := ⟨[(0, [[.S]])], []⟩, np := 2, ext := false } Try.f50 (Try.f50.body.getD .skip) = true := by decide +kernel
theorem chk52 : fnC τ An Sgs 52 { bi := ⟨[(0, [[.S, .S, .S, .F]])], []⟩, bo := ⟨[(0, [[.S, .S, .S, .U 4]])], []⟩, np := 1, ext := false } Try.f52 (Try.f52.body.getD .skip) = true := by decide +kernel
theorem chk61 : fnC τ An Sgs 61 { bi := ⟨[(0, [[.S, .S, .S, .F]])], []⟩, bo := ⟨[(0, [[.S]])], []⟩, np := 1, ext := false } Try.f61 (Try.f61.body.getD .skip) = true := by decide +kernel
theorem chk68 : fnC τ An Sgs 68 { bi := ⟨[(0, [[.S, .S, .S, .F, .F, .F, .S]]), (1, [[.S]])], []⟩, bo := ⟨[(0, [[.S]])], []⟩, np := 2, ext := false } Try.f68 (Try.f68.body.getD .skip) = true := by decide +kernel
theorem chk69 : fnC τ An Sgs 69 { bi := ⟨[(0, [[.S]]), (1, [[.S]]), (2, [[.S]])], []⟩, bo := ⟨[(0, [[.S]])], []⟩, np := 3, ext := false } Try.f69 (Try.f69.body.getD .skip) = true := by decide +kernel
theorem chk70 : fnC τ An Sgs 70 { bi := ⟨[(0, [[.S, .S, .S, .F, .F, .F, .S]])], []⟩, bo := ⟨[(0, [[.S]])], []⟩, np := 1, ext := false } Try.f70 (Try.f70.body.getD .skip) = true := by decide +kernel
theorem chk71 : fnC τ An Sgs 71 { bi := ⟨[(0, [[.F]]), (1, [[.S]])], []⟩, bo := ⟨[(0, [[.S]])], []⟩, np := 2, ext := false } Try.f71 (Try.f71.body.getD .skip) = true := by decide +kernel
theorem chk72 : fnC τ An Sgs 72 { bi := ⟨[(0, [[.F]])], []⟩, bo := ⟨[(0, [[.S]])], []⟩, np := 1, ext := false } Try.f72 (Try.f72.body.getD .skip) = true := by decide +kernel
theorem chk73 : fnC τ An Sgs 73 { bi := ⟨[(0, [[.F]])], []⟩, bo := ⟨[(0, [[.U 1]])], []⟩, np := 1, ext := false } Try.f73 (Try.f73.body.getD .skip) = true := by decide +kernel
theorem chk74 : fnC τ An Sgs 74 { bi := ⟨[(0, [[.S, .S, .S, .F, .F, .F, .S]])], []⟩, bo := ⟨[(0, [[.S, .S, .S, .U 7, .U 1, .U 1, .S]])], []⟩, np := 1, ext := false } Try.f74 (Try.f74.body.getD .skip) = true := by decide +kernel
theorem chk75 : fnC τ An Sgs 75 { bi := ⟨[(0, [[.S]]), (1, [[.S]]), (2, [[.S]])], []⟩, bo := ⟨[(0, [[.S]])], []⟩, np := 3, ext := false } Try.f75 (Try.f75.body.getD .skip) = true := by decide +kernel
theorem chk76 : fnC τ An Sgs 76 { bi := ⟨[(0, [[.S, .S, .S, .F, .F, .F, .S]])], []⟩, bo := ⟨[(0, [[.S]])], []⟩, np := 1, ext := false } Try.f76 (Try.f76.body.getD .skip) = true := by decide +kernel
theorem chk77 : fnC τ An Sgs 77 { bi := ⟨[(0, [[.F]]), (1, [[.S]])], []⟩, bo := ⟨[(0, [[.S]])], []⟩, np := 2, ext := false } Try.f77 (Try.f77.body.getD .skip) = true := by decide +kernel
theorem chk78 : fnC τ An Sgs 78 { bi := ⟨[(0, [[.S, .S, .S, .F, .F, .F, .S]]), (1, [[.S, .S, .S, .F, .F, .F, .S]])], []⟩, bo := ⟨[(0, [[.S]])], []⟩, np := 2, ext := false } Try.f78 (Try.f78.body.getD .skip) = true := by decide +kernel
theorem chk96 : fnC τ An Sgs 96 { bi := ⟨[(0, [[.F]]), (1, [[.S]])], []⟩, bo := ⟨[(0, [[.S]])], []⟩, np := 2, ext := false } Try.f96 (Try.f96.body.getD .skip) = true := by decide +kernel
theorem chk108 : fnC τ An Sgs 108 { bi := ⟨[(0, [[.S, .S, .S, .F]])], []⟩, bo := ⟨[(0, [[.S]])], []⟩, np := 1, ext := false } Try.f108 (Try.f108.body.getD .skip) = true := by decide +kernel
theorem chk122 : fnC τ An Sgs 122 { bi := ⟨[(0, [[.F]]), (1, [[.F]]), (2, [[.S]])], []⟩, bo := ⟨[(0, [[.S]])], []⟩, np := 3, ext := false } Try.f122 (Try.f122.body.getD .skip) = true := by decide +kernel
theorem chk133 : fnC τ An Sgs 133 { bi := ⟨[(0, [[.S, .S, .S, .F]]), (1, [[.S]])], []⟩, bo := ⟨[(0, [[.S]])], []⟩, np := 2, ext := false } Try.f133 (Try.f133.body.getD .skip) = true := by decide +kernel
theorem chk149 : fnC τ An Sgs 149 { bi := ⟨[(0, [[.F]]), (1, [[.S]])], []⟩, bo := ⟨[(0, [[.S]])], []⟩, np := 2, ext := false } Try.f149 (Try.f149.body.getD .skip) = true := by decide +kernel
theorem chk150 : fnC τ An Sgs 150 { bi := ⟨[(0, [[.F]]), (1, [[.S]])], []⟩, bo := ⟨[(0, [[.S]])], []⟩, np := 2, ext := false } Try.f150 (Try.f150.body.getD .skip) = true := by decide +kernel
theorem chk151 : fnC τ An Sgs 151 { bi := ⟨[(0, [[.S, .S, .S, .S, .S, .F, .S]])], []⟩, bo := ⟨[(0, [[.S]])], []⟩, np := 1, ext := false } Try.f151 (Try.f151.body.getD .skip) = true := by decide +kernel
theorem chk152 : fnC τ An Sgs 152 { bi := ⟨[(0, [[.F]])], []⟩, bo := ⟨[(0, [[.U 7]])], []⟩, np := 1, ext := false } Try.f152 (Try.f152.body.getD .skip) = true := by decide +kernel
theorem chk153 : fnC τ An Sgs 153 { bi := ⟨[(0, [[.F]])], []⟩, bo := ⟨[(0, [[.U 1]])], []⟩, np := 1, ext := false } Try.f153 (Try.f153.body.getD .skip) = true := by decide +kernel
theorem chk154 : fnC τ An Sgs 154 { bi := ⟨[(0, [[.S, .S, .S, .S, .S, .F, .S]])], []⟩, bo := ⟨[(0, [[.S]])], []⟩, np := 1, ext := false } Try.f154 (Try.f154.body.getD .skip) = true := by decide +kernel
theorem chk155 : fnC τ An Sgs 155 { bi := ⟨[(0, [[.F]])], []⟩, bo := ⟨[(0, [[.S]])], []⟩, np := 1, ext := false } Try.f155 (Try.f155.body.getD .skip) = true := by decide +kernel
theorem chk156 : fnC τ An Sgs 156 { bi := ⟨[(0, [[.F]]), (1, [[.S]])], []⟩, bo := ⟨[(0, [[.S]])], []⟩, np := 2, ext := false } Try.f156 (Try.f156.body.getD .skip) = true := by decide +kernel
theorem chk157 : fnC τ An Sgs 157 { bi := ⟨[(0, [[.F]]), (1, [[.F]])], []⟩, bo := ⟨[(0, [[.S]])], []⟩, np := 2, ext := false } Try.f157 (Try.f157.body.getD .skip) = true := by decide +kernel
theorem chk158 : fnC τ An Sgs 158 { bi := ⟨[(0, [[.F]]), (1, [[.F]])], []⟩, bo := ⟨[(0, [[.S]])], []⟩, np := 2, ext := false } Try.f158 (Try.f158.body.getD .skip) = true := by decide +kernel
theorem chk185 : fnC τ An Sgs 185 { bi := ⟨[(0, [[.S, .S, .S, .F]]), (1, [[.S]]), (2, [[.S]])], []⟩, bo := ⟨[(0, [[.S]])], []⟩, np := 3, ext := false } Try.f185 (Try.f185.body.getD .skip) = true := by decide +kernel
theorem chk194 : fnC τ An Sgs 194 { bi := ⟨[(0, [[.S]])], []⟩, bo := ⟨[(0, [[.S]])], []⟩, np := 1, ext := false } Try.f194 (Try.f194.body.getD .skip) = true := by decide +kernel
theorem chk196 : fnC τ An Sgs 196 { bi := ⟨[(0, [[.S]])], []⟩, bo := ⟨[(0, [[.S]])], []⟩, np := 1, ext := false } Try.f196 (Try.f196.body.getD .skip) = true := by decide +kernel
theorem chk203 : fnC τ An Sgs 203 { bi := ⟨[(0, [[.S, .S, .S, .F]])], []⟩, bo := ⟨[(0, [[.S]])], []⟩, np := 1, ext := false } Try.f203 (Try.f203.body.getD .skip) = true := by decide +kernel
theorem chk209 : fnC τ An Sgs 209 { bi := ⟨[(0, [[.S, .S, .S, .S, .S, .F, .S]]), (1, [[.S]])], []⟩, bo := ⟨[(0, [[.S]])], []⟩, np := 2, ext := false } Try.f209 (Try.f209.body.getD .skip) = true := by decide +kernel
theorem chk210 : fnC τ An Sgs 210 { bi := ⟨[(0, [[.S, .S, .S, .F]])], []⟩, bo := ⟨[(0, [[.S]])], []⟩, np := 1, ext := false } Try.f210 (Try.f210.body.getD .skip) = true := by decide +kernel
theorem chk211 : fnC τ An Sgs 211 { bi := ⟨[(0, [[.S, .S, .S, .S, .S, .F, .S]])], []⟩, bo := ⟨[(0, [[.S, .S, .S, .S, .S, .U 4, .S]])], []⟩, np := 1, ext := false } Try.f211 (Try.f211.body.getD .skip) = true := by decide +kernel
theorem chk212 : fnC τ An Sgs 212 { bi := ⟨[(0, [[.S, .S, .S, .F]])], []⟩, bo := ⟨[(0, [[.S]])], []⟩, np := 1, ext := false } Try.f212 (Try.f212.body.getD .skip) = true := by decide +kernel
theorem chk213 : fnC τ An Sgs 213 { bi := ⟨[(0, [[.S]]), (1, [[.S]])], []⟩, bo := ⟨[(0, [[.S]])], []⟩, np := 2, ext := false } Try.f213 (Try.f213.body.getD .skip) = true := by decide +kernel
theorem chk214 : fnC τ An Sgs 214 { bi := ⟨[(0, [[.S, .S, .S, .S, .S, .F, .S]]), (1, [[.S, .S, .S, .S, .S, .F, .S]])], []⟩, bo := ⟨[(0, [[.S]])], []⟩, np := 2, ext := false } Try.f214 (Try.f214.body.getD .skip) = true := by decide +kernel
theorem chk233 : fnC τ An Sgs 233 { bi := ⟨[(0, [[.S, .S, .S, .F]])], []⟩, bo := ⟨[(0, [[.S]])], []⟩, np := 1, ext := false } Try.f233 (Try.f233.body.getD .skip) = true := by decide +kernel
theorem chk236 : fnC τ An Sgs 236 { bi := ⟨[(0, [[.S]])], []⟩, bo := ⟨[(0, [[.S]])], []⟩, np := 1, ext := false } Try.f236 (Try.f236.body.getD .skip) = true := by decide +kernel
theorem chk237 : fnC τ An Sgs 237 { bi := ⟨[(0, [[.S]])], []⟩, bo := ⟨[(0, [[.S]])], []⟩, np := 1, ext := false } Try.f237 (Try.f237.body.getD .skip) = true := by decide +kernel
theorem chk247 : fnC τ An Sgs 247 { bi := ⟨[(0, [[.S]])], []⟩, bo := ⟨[(0, [[.S]])], []⟩, np := 1, ext := false } Try.f247 (Try.f247.body.getD .skip) = true := by decide +kernel
theorem checked : ∀ f sg, sg ∈ Sgs f → ∀ fn c, Try.prog.funcs[f]? = some fn → fn.body = some c → fnC τ An Sgs f sg fn c = true := by
  intro f sg hs
  unfold Sgs at hs
  split at hs
  · exact one_sg chk3 Try.func3 hs
  · exact one_sg chk12 Try.func12 hs
  · exact one_sg chk13 Try.func13 hs
  · exact one_sg chk14 Try.func14 hs
  · exact one_sg chk15 Try.func15 hs
  · exact one_sg chk16 Try.func16 hs
  · exact one_sg chk32 Try.func32 hs
  · exact one_sg chk35 Try.func35 hs
  · exact one_sg chk37 Try.func37 hs
  · exact one_sg chk38 Try.func38 hs
  · exact one_sg chk48 Try.func48 hs
  · exact one_sg chk50 Try.func50 hs
  · exact one_sg chk52 Try.func52 hs
  · exact one_sg chk61 Try.func61 hs
  · exact one_sg chk68 Try.func68 hs
  · exact one_sg chk69 Try.func69 hs
  · exact one_sg chk70 Try.func70 hs
  · exact one_sg chk71 Try.func71 hs
  · exact one_sg chk72 Try.func72 hs
  · exact one_sg chk73 Try.func73 hs
  · exact one_sg chk74 Try.func74 hs
  · exact one_sg chk75 Try.func75 hs
  · exact one_sg chk76 Try.func76 hs
  · exact one_sg chk77 Try.func77 hs
  · exact one_sg chk78 Try.func78 hs
  · exact one_sg chk96 Try.func96 hs
  · exact one_sg chk108 Try.func108 hs
  · exact one_sg chk122 Try.func122 hs
  · exact one_sg chk133 Try.func133 hs
  · exact one_sg chk149 Try.func149 hs
  · exact one_sg chk150 Try.func150 hs
  · exact one_sg chk151 Try.func151 hs
  · exact one_sg chk152 Try.func152 hs
  · exact one_sg chk153 Try.func153 hs
  · exact one_sg chk154 Try.func154 hs
  · exact one_sg chk155 Try.func155 hs
  · exact one_sg chk156 Try.func156 hs
  · exact one_sg chk157 Try.func157 hs
  · exact one_sg chk158 Try.func158 hs
  · exact one_sg chk185 Try.func185 hs
  · exact one_sg chk194 Try.func194 hs
  · exact one_sg chk196 Try.func196 hs
  · exact one_sg chk203 Try.func203 hs
  · exact one_sg chk209 Try.func209 hs
  · exact one_sg chk210 Try.func210 hs
  · exact one_sg chk211 Try.func211 hs
  · exact one_sg chk212 Try.func212 hs
  · exact one_sg chk213 Try.func213 hs
  · exact one_sg chk214 Try.func214 hs
  · exact one_sg chk233 Try.func233 hs
  · exact one_sg chk236 Try.func236 hs
  · exact one_sg chk237 Try.func237 hs
  · exact one_sg chk247 Try.func247 hs
  · cases hs
end Go.Own
