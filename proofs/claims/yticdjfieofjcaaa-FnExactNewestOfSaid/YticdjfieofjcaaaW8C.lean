/- Each function is checked. No conditions. -/
import Derived.Test.YticdjfieofjcaaaW8A
set_option linter.unusedVariables false
set_option linter.unusedSimpArgs false
set_option linter.unnecessarySimpa false
namespace Go.Own
open Go Go.Proofs
theorem chk8 : fnC τ An Sgs 8 { bi := ⟨[(0, [[.F]]), (1, [[.S]])], []⟩, bo := ⟨[(0, [[.S]])], []⟩, np := 2, ext := false } Try.f8 (Try.f8.body.getD .skip) = true := by decide +kernel
theorem chk36 : fnC τ An Sgs 36 { bi := ⟨[(0, [[.F]]), (1, [[.S]])], []⟩, bo := ⟨[(0, [[.S]])], []⟩, np := 2, ext := false } Try.f36 (Try.f36.body.getD .skip) = true := by decide +kernel
theorem chk37 : fnC τ An Sgs 37 { bi := ⟨[(0, [[.F]]), (1, [[.S]])], []⟩, bo := ⟨[(0, [[.S]])], []⟩, np := 2, ext := false } Try.f37 (Try.f37.body.getD .skip) = true := by decide +kernel
theorem chk38 : fnC τ An Sgs 38 { bi := ⟨[(0, [[.F]])], []⟩, bo := ⟨[(0, [[.U 7]])], []⟩, np := 1, ext := false } Try.f38 (Try.f38.body.getD .skip) = true := by decide +kernel
theorem chk39 : fnC τ An Sgs 39 { bi := ⟨[(0, [[.F]]), (1, [[.S]])], []⟩, bo := ⟨[(0, [[.S]])], []⟩, np := 2, ext := false } Try.f39 (Try.f39.body.getD .skip) = true := by decide +kernel
theorem chk40 : fnC τ An Sgs 40 { bi := ⟨[(0, [[.F]]), (1, [[.F]])], []⟩, bo := ⟨[(0, [[.S]])], []⟩, np := 2, ext := false } Try.f40 (Try.f40.body.getD .skip) = true := by decide +kernel
theorem chk80 : fnC τ An Sgs 80 { bi := ⟨[(0, [[.S, .S, .F, .F, .S, .F, .F]]), (1, [[.S]])], []⟩, bo := ⟨[(0, [[.S]])], []⟩, np := 2, ext := false } Try.f80 (Try.f80.body.getD .skip) = true := by decide +kernel
theorem chk81 : fnC τ An Sgs 81 { bi := ⟨[(0, [[.F]]), (1, [[.S]])], []⟩, bo := ⟨[(0, [[.S]])], []⟩, np := 2, ext := false } Try.f81 (Try.f81.body.getD .skip) = true := by decide +kernel
theorem chk82 : fnC τ An Sgs 82 { bi := ⟨[(0, [[.S, .S, .F, .F, .S, .F, .F]])], []⟩, bo := ⟨[(0, [[.S, .S, .U 4, .U 4, .S, .U 4, .U 4]])], []⟩, np := 1, ext := false } Try.f82 (Try.f82.body.getD .skip) = true := by decide +kernel
theorem chk83 : fnC τ An Sgs 83 { bi := ⟨[(0, [[.F]]), (1, [[.S]])], []⟩, bo := ⟨[(0, [[.S]])], []⟩, np := 2, ext := false } Try.f83 (Try.f83.body.getD .skip) = true := by decide +kernel
theorem chk84 : fnC τ An Sgs 84 { bi := ⟨[(0, [[.S, .S, .F, .F, .S, .F, .F]]), (1, [[.S, .S, .F, .F, .S, .F, .F]])], []⟩, bo := ⟨[(0, [[.S]])], []⟩, np := 2, ext := false } Try.f84 (Try.f84.body.getD .skip) = true := by decide +kernel
theorem chk111 : fnC τ An Sgs 111 { bi := ⟨[(0, [[.F, .F]]), (1, [[.S]])], []⟩, bo := ⟨[(0, [[.S]])], []⟩, np := 2, ext := false } Try.f111 (Try.f111.body.getD .skip) = true := by decide +kernel
theorem chk112 : fnC τ An Sgs 112 { bi := ⟨[(0, [[.F, .F]])], []⟩, bo := ⟨[(0, [[.U 4, .U 4]])], []⟩, np := 1, ext := false } Try.f112 (Try.f112.body.getD .skip) = true := by decide +kernel
theorem chk113 : fnC τ An Sgs 113 { bi := ⟨[(0, [[.F]]), (1, [[.S]])], [(1000000, [.S])]⟩, bo := ⟨[(0, [[.S]])], [(1000000, [.S])]⟩, np := 2, ext := false, no := 1 } Try.f113 (Try.f113.body.getD .skip) = true := by decide +kernel
theorem chk114 : fnC τ An Sgs 114 { bi := ⟨[(0, [[.S, .S, .F, .F, .S, .F, .F]]), (1, [[.S]])], [(1000000, [.S])]⟩, bo := ⟨[(0, [[.S]])], [(1000000, [.S])]⟩, np := 2, ext := false, no := 1 } Try.f114 (Try.f114.body.getD .skip) = true := by decide +kernel
theorem chk115 : fnC τ An Sgs 115 { bi := ⟨[(0, [[.F, .F]]), (1, [[.F, .F]])], []⟩, bo := ⟨[(0, [[.S]])], []⟩, np := 2, ext := false } Try.f115 (Try.f115.body.getD .skip) = true := by decide +kernel
theorem chk130 : fnC τ An Sgs 130 { bi := ⟨[(0, [[.F]]), (1, [[.S]])], []⟩, bo := ⟨[(0, [[.S]])], []⟩, np := 2, ext := false } Try.f130 (Try.f130.body.getD .skip) = true := by decide +kernel
theorem chk131 : fnC τ An Sgs 131 { bi := ⟨[(0, [[.F]]), (1, [[.S]])], []⟩, bo := ⟨[(0, [[.S]])], []⟩, np := 2, ext := false } Try.f131 (Try.f131.body.getD .skip) = true := by decide +kernel
theorem chk132 : fnC τ An Sgs 132 { bi := ⟨[(0, [[.F]])], []⟩, bo := ⟨[(0, [[.U 4]])], []⟩, np := 1, ext := false } Try.f132 (Try.f132.body.getD .skip) = true := by decide +kernel
theorem chk133 : fnC τ An Sgs 133 { bi := ⟨[(0, [[.F]])], []⟩, bo := ⟨[(0, [[.U 4]])], []⟩, np := 1, ext := false } Try.f133 (Try.f133.body.getD .skip) = true := by decide +kernel
theorem chk134 : fnC τ An Sgs 134 { bi := ⟨[(0, [[.F]]), (1, [[.F]])], []⟩, bo := ⟨[(0, [[.S]])], []⟩, np := 2, ext := false } Try.f134 (Try.f134.body.getD .skip) = true := by decide +kernel
theorem chk135 : fnC τ An Sgs 135 { bi := ⟨[(0, [[.F]]), (1, [[.F]])], []⟩, bo := ⟨[(0, [[.S]])], []⟩, np := 2, ext := false } Try.f135 (Try.f135.body.getD .skip) = true := by decide +kernel
theorem chk140 : fnC τ An Sgs 140 { bi := ⟨[(0, [[.S, .S, .S, .F]]), (1, [[.S]])], []⟩, bo := ⟨[(0, [[.S]])], []⟩, np := 2, ext := false } Try.f140 (Try.f140.body.getD .skip) = true := by decide +kernel
theorem chk141 : fnC τ An Sgs 141 { bi := ⟨[(0, [[.S, .S, .S, .F]]), (1, [[.S]])], []⟩, bo := ⟨[(0, [[.S]])], []⟩, np := 2, ext := false } Try.f141 (Try.f141.body.getD .skip) = true := by decide +kernel
theorem chk142 : fnC τ An Sgs 142 { bi := ⟨[(0, [[.S, .S, .S, .F]])], []⟩, bo := ⟨[(0, [[.S, .S, .S, .U 4]])], []⟩, np := 1, ext := false } Try.f142 (Try.f142.body.getD .skip) = true := by decide +kernel
theorem chk143 : fnC τ An Sgs 143 { bi := ⟨[(0, [[.S, .S, .S, .F]])], []⟩, bo := ⟨[(0, [[.S, .S, .S, .U 4]])], []⟩, np := 1, ext := false } Try.f143 (Try.f143.body.getD .skip) = true := by decide +kernel
theorem chk144 : fnC τ An Sgs 144 { bi := ⟨[(0, [[.S, .S, .S, .F]]), (1, [[.S, .S, .S, .F]])], []⟩, bo := ⟨[(0, [[.S]])], []⟩, np := 2, ext := false } Try.f144 (Try.f144.body.getD .skip) = true := by decide +kernel
theorem chk145 : fnC τ An Sgs 145 { bi := ⟨[(0, [[.S, .S, .S, .F]]), (1, [[.S, .S, .S, .F]])], []⟩, bo := ⟨[(0, [[.S]])], []⟩, np := 2, ext := false } Try.f145 (Try.f145.body.getD .skip) = true := by decide +kernel
theorem chk146 : fnC τ An Sgs 146 { bi := ⟨[(0, [[.F]]), (1, [[.S]])], []⟩, bo := ⟨[(0, [[.S]])], []⟩, np := 2, ext := false } Try.f146 (Try.f146.body.getD .skip) = true := by decide +kernel
theorem chk147 : fnC τ An Sgs 147 { bi := ⟨[(0, [[.F]])], []⟩, bo := ⟨[(0, [[.U 4]])], []⟩, np := 1, ext := false } Try.f147 (Try.f147.body.getD .skip) = true := by decide +kernel
theorem chk148 : fnC τ An Sgs 148 { bi := ⟨[(0, [[.F]]), (1, [[.F]])], []⟩, bo := ⟨[(0, [[.S]])], []⟩, np := 2, ext := false } Try.f148 (Try.f148.body.getD .skip) = true := by decide +kernel
theorem chk149 : fnC τ An Sgs 149 { bi := ⟨[(0, [[.S, .S, .S, .S]]), (1, [[.S]])], []⟩, bo := ⟨[(0, [[.S]])], []⟩, np := 2, ext := false } Try.f149 (Try.f149.body.getD .skip) = true := by decide +kernel
theorem chk150 : fnC τ An Sgs 150 { bi := ⟨[(0, [[.S, .S, .S, .S]])], []⟩, bo := ⟨[(0, [[.S, .S, .S, .S]])], []⟩, np := 1, ext := false } Try.f150 (Try.f150.body.getD .skip) = true := by decide +kernel
theorem chk151 : fnC τ An Sgs 151 { bi := ⟨[(0, [[.S, .S, .S, .S]]), (1, [[.S, .S, .S, .S]])], []⟩, bo := ⟨[(0, [[.S]])], []⟩, np := 2, ext := false } Try.f151 (Try.f151.body.getD .skip) = true := by decide +kernel
theorem checked : ∀ f sg, sg ∈ Sgs f → ∀ fn c, Try.prog.funcs[f]? = some fn → fn.body = some c → fnC τ An Sgs f sg fn c = true := by
  intro f sg hs
  unfold Sgs at hs
  split at hs
  · exact one_sg chk8 Try.func8 hs
  · exact one_sg chk36 Try.func36 hs
  · exact one_sg chk37 Try.func37 hs
  · exact one_sg chk38 Try.func38 hs
  · exact one_sg chk39 Try.func39 hs
  · exact one_sg chk40 Try.func40 hs
  · exact one_sg chk80 Try.func80 hs
  · exact one_sg chk81 Try.func81 hs
  · exact one_sg chk82 Try.func82 hs
  · exact one_sg chk83 Try.func83 hs
  · exact one_sg chk84 Try.func84 hs
  · exact one_sg chk111 Try.func111 hs
  · exact one_sg chk112 Try.func112 hs
  · exact one_sg chk113 Try.func113 hs
  · exact one_sg chk114 Try.func114 hs
  · exact one_sg chk115 Try.func115 hs
  · exact one_sg chk130 Try.func130 hs
  · exact one_sg chk131 Try.func131 hs
  · exact one_sg chk132 Try.func132 hs
  · exact one_sg chk133 Try.func133 hs
  · exact one_sg chk134 Try.func134 hs
  · exact one_sg chk135 Try.func135 hs
  · exact one_sg chk140 Try.func140 hs
  · exact one_sg chk141 Try.func141 hs
  · exact one_sg chk142 Try.func142 hs
  · exact one_sg chk143 Try.func143 hs
  · exact one_sg chk144 Try.func144 hs
  · exact one_sg chk145 Try.func145 hs
  · exact one_sg chk146 Try.func146 hs
  · exact one_sg chk147 Try.func147 hs
  · exact one_sg chk148 Try.func148 hs
  · exact one_sg chk149 Try.func149 hs
  · exact one_sg chk150 Try.func150 hs
  · exact one_sg chk151 Try.func151 hs
  · cases hs
end Go.Own
