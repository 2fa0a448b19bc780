/- Each function is checked. No conditions. -/
import Derived.Test.YtgeomhdbckjkcaaW15A
set_option linter.unusedVariables false
set_option linter.unusedSimpArgs false
set_option linter.unnecessarySimpa false
namespace Go.Own
open Go Go.Proofs
theorem chk5 : fnC τ An Sgs 5 { bi := ⟨[(0, [[.F]])], []⟩, bo := ⟨[(0, [[.S]])], []⟩, np := 1, ext := false } Try.f5 (Try.f5.body.getD .skip) = true := by decide +kernel
theorem chk26 : fnC τ An Sgs 26 { bi := ⟨[(0, [[.F]]), (1, [[.S]])], []⟩, bo := ⟨[(0, [[.S]])], []⟩, np := 2, ext := false } Try.f26 (Try.f26.body.getD .skip) = true := by decide +kernel
theorem chk27 : fnC τ An Sgs 27 { bi := ⟨[(0, [[.F]])], []⟩, bo := ⟨[(0, [[.S]])], []⟩, np := 1, ext := false } Try.f27 (Try.f27.body.getD .skip) = true := by decide +kernel
theorem chk28 : fnC τ An Sgs 28 { bi := ⟨[(0, [[.F]])], []⟩, bo := ⟨[(0, [[.U 7]])], []⟩, np := 1, ext := false } Try.f28 (Try.f28.body.getD .skip) = true := by decide +kernel
theorem chk29 : fnC τ An Sgs 29 { bi := ⟨[(0, [[.F]])], []⟩, bo := ⟨[(0, [[.S]])], []⟩, np := 1, ext := false } Try.f29 (Try.f29.body.getD .skip) = true := by decide +kernel
theorem chk30 : fnC τ An Sgs 30 { bi := ⟨[(0, [[.F]]), (1, [[.F]])], []⟩, bo := ⟨[(0, [[.S]])], []⟩, np := 2, ext := false } Try.f30 (Try.f30.body.getD .skip) = true := by decide +kernel
theorem chk31 : fnC τ An Sgs 31 { bi := ⟨[(0, [[.S, .S, .S, .F, .F]]), (1, [[.S]])], []⟩, bo := ⟨[(0, [[.S]])], []⟩, np := 2, ext := false } Try.f31 (Try.f31.body.getD .skip) = true := by decide +kernel
theorem chk34 : fnC τ An Sgs 34 { bi := ⟨[(0, [[.S, .S, .S, .F, .F]])], []⟩, bo := ⟨[(0, [[.S, .S, .S, .U 5, .U 10]])], []⟩, np := 1, ext := false } Try.f34 (Try.f34.body.getD .skip) = true := by decide +kernel
theorem chk39 : fnC τ An Sgs 39 { bi := ⟨[(0, [[.S, .S, .S, .F, .F]]), (1, [[.S, .S, .S, .F, .F]])], []⟩, bo := ⟨[(0, [[.S]])], []⟩, np := 2, ext := false } Try.f39 (Try.f39.body.getD .skip) = true := by decide +kernel
theorem chk59 : fnC τ An Sgs 59 { bi := ⟨[(0, [[.S, .S, .S, .F, .F]])], []⟩, bo := ⟨[(0, [[.U 1]])], []⟩, np := 1, ext := false } Try.f59 (Try.f59.body.getD .skip) = true := by decide +kernel
theorem chk69 : fnC τ An Sgs 69 { bi := ⟨[(0, [[.S]]), (1, [[.S]]), (2, [[.S]])], []⟩, bo := ⟨[(0, [[.S]])], []⟩, np := 3, ext := false } Try.f69 (Try.f69.body.getD .skip) = true := by decide +kernel
theorem chk72 : fnC τ An Sgs 72 { bi := ⟨[(0, [[.F]])], []⟩, bo := ⟨[(0, [[.S]])], []⟩, np := 1, ext := false } Try.f72 (Try.f72.body.getD .skip) = true := by decide +kernel
theorem chk75 : fnC τ An Sgs 75 { bi := ⟨[(0, [[.S]]), (1, [[.S]]), (2, [[.S]])], []⟩, bo := ⟨[(0, [[.S]])], []⟩, np := 3, ext := false } Try.f75 (Try.f75.body.getD .skip) = true := by decide +kernel
theorem chk77 : fnC τ An Sgs 77 { bi := ⟨[(0, [[.F]]), (1, [[.S]])], []⟩, bo := ⟨[(0, [[.S]])], []⟩, np := 2, ext := false } Try.f77 (Try.f77.body.getD .skip) = true := by decide +kernel
theorem chk93 : fnC τ An Sgs 93 { bi := ⟨[(0, [[.F]]), (1, [[.S]])], []⟩, bo := ⟨[(0, [[.S]])], []⟩, np := 2, ext := false } Try.f93 (Try.f93.body.getD .skip) = true := by decide +kernel
theorem chk94 : fnC τ An Sgs 94 { bi := ⟨[(0, [[.F]])], []⟩, bo := ⟨[(0, [[.S]])], []⟩, np := 1, ext := false } Try.f94 (Try.f94.body.getD .skip) = true := by decide +kernel
theorem chk95 : fnC τ An Sgs 95 { bi := ⟨[(0, [[.S, .S, .S, .F, .F]])], []⟩, bo := ⟨[(0, [[.A 1]])], []⟩, np := 1 } Try.f95 (Try.f95.body.getD .skip) = true := by decide +kernel
theorem chk96 : fnC τ An Sgs 96 { bi := ⟨[(0, [[.F]]), (1, [[.S]])], []⟩, bo := ⟨[(0, [[.S]])], []⟩, np := 2, ext := false } Try.f96 (Try.f96.body.getD .skip) = true := by decide +kernel
theorem chk97 : fnC τ An Sgs 97 { bi := ⟨[(0, [[.F]]), (1, [[.S]])], []⟩, bo := ⟨[(0, [[.S]])], []⟩, np := 2, ext := false } Try.f97 (Try.f97.body.getD .skip) = true := by decide +kernel
theorem chk98 : fnC τ An Sgs 98 { bi := ⟨[(0, [[.F]]), (1, [[.S, .S, .S, .F, .F]])], []⟩, bo := ⟨[(0, [[.S]])], []⟩, np := 2, ext := false } Try.f98 (Try.f98.body.getD .skip) = true := by decide +kernel
theorem chk99 : fnC τ An Sgs 99 { bi := ⟨[(0, [[.F]])], []⟩, bo := ⟨[(0, [[.U 7]])], []⟩, np := 1, ext := false } Try.f99 (Try.f99.body.getD .skip) = true := by decide +kernel
theorem chk100 : fnC τ An Sgs 100 { bi := ⟨[(0, [[.F]])], []⟩, bo := ⟨[(0, [[.S]])], []⟩, np := 1, ext := false } Try.f100 (Try.f100.body.getD .skip) = true := by decide +kernel
theorem chk101 : fnC τ An Sgs 101 { bi := ⟨[(0, [[.F]]), (1, [[.S]])], []⟩, bo := ⟨[(0, [[.S]])], []⟩, np := 2, ext := false } Try.f101 (Try.f101.body.getD .skip) = true := by decide +kernel
theorem chk102 : fnC τ An Sgs 102 { bi := ⟨[(0, [[.F]]), (1, [[.S, .F, .S, .S, .S, .F, .F]])], []⟩, bo := ⟨[(0, [[.S]])], []⟩, np := 2, ext := false } Try.f102 (Try.f102.body.getD .skip) = true := by decide +kernel
theorem chk103 : fnC τ An Sgs 103 { bi := ⟨[(0, [[.F]]), (1, [[.F]])], []⟩, bo := ⟨[(0, [[.S]])], []⟩, np := 2, ext := false } Try.f103 (Try.f103.body.getD .skip) = true := by decide +kernel
theorem chk104 : fnC τ An Sgs 104 { bi := ⟨[(0, [[.F]]), (1, [[.S]])], []⟩, bo := ⟨[(0, [[.S]])], []⟩, np := 2, ext := false } Try.f104 (Try.f104.body.getD .skip) = true := by decide +kernel
theorem chk105 : fnC τ An Sgs 105 { bi := ⟨[(0, [[.F]]), (1, [[.S]])], []⟩, bo := ⟨[(0, [[.S]])], []⟩, np := 2, ext := false } Try.f105 (Try.f105.body.getD .skip) = true := by decide +kernel
theorem chk110 : fnC τ An Sgs 110 { bi := ⟨[(0, [[.F]])], []⟩, bo := ⟨[(0, [[.U 5]])], []⟩, np := 1, ext := false } Try.f110 (Try.f110.body.getD .skip) = true := by decide +kernel
theorem chk111 : fnC τ An Sgs 111 { bi := ⟨[(0, [[.F]])], []⟩, bo := ⟨[(0, [[.U 10]])], []⟩, np := 1, ext := false } Try.f111 (Try.f111.body.getD .skip) = true := by decide +kernel
theorem chk114 : fnC τ An Sgs 114 { bi := ⟨[(0, [[.F]]), (1, [[.F]])], []⟩, bo := ⟨[(0, [[.S]])], []⟩, np := 2, ext := false } Try.f114 (Try.f114.body.getD .skip) = true := by decide +kernel
theorem chk115 : fnC τ An Sgs 115 { bi := ⟨[(0, [[.F]]), (1, [[.F]])], []⟩, bo := ⟨[(0, [[.S]])], []⟩, np := 2, ext := false } Try.f115 (Try.f115.body.getD .skip) = true := by decide +kernel
theorem chk156 : fnC τ An Sgs 156 { bi := ⟨[(0, [[.F]]), (1, [[.S]])], []⟩, bo := ⟨[(0, [[.S]])], []⟩, np := 2, ext := false } Try.f156 (Try.f156.body.getD .skip) = true := by decide +kernel
theorem chk170 : fnC τ An Sgs 170 { bi := ⟨[(0, [[.S, .F, .S, .S, .S, .F, .F]]), (1, [[.S]])], []⟩, bo := ⟨[(0, [[.S]])], []⟩, np := 2, ext := false } Try.f170 (Try.f170.body.getD .skip) = true := by decide +kernel
theorem chk171 : fnC τ An Sgs 171 { bi := ⟨[(0, [[.S, .F, .S, .S, .S, .F, .F]])], []⟩, bo := ⟨[(0, [[.S]])], []⟩, np := 1, ext := false } Try.f171 (Try.f171.body.getD .skip) = true := by decide +kernel
theorem chk172 : fnC τ An Sgs 172 { bi := ⟨[(0, [[.A 1]]), (1, [[.F]]), (2, [[.S, .S, .S, .F, .F]])], []⟩, bo := ⟨[(0, [[.A 1]])], []⟩, np := 3 } Try.f172 (Try.f172.body.getD .skip) = true := by decide +kernel
theorem chk173 : fnC τ An Sgs 173 { bi := ⟨[(0, [[.S, .F, .S, .S, .S, .F, .F]])], []⟩, bo := ⟨[(0, [[.S, .U 1, .S, .S, .S, .U 5, .U 10]])], []⟩, np := 1, ext := false } Try.f173 (Try.f173.body.getD .skip) = true := by decide +kernel
theorem chk174 : fnC τ An Sgs 174 { bi := ⟨[(0, [[.S, .F, .S, .S, .S, .F, .F]])], []⟩, bo := ⟨[(0, [[.S]])], []⟩, np := 1, ext := false } Try.f174 (Try.f174.body.getD .skip) = true := by decide +kernel
theorem chk175 : fnC τ An Sgs 175 { bi := ⟨[(0, [[.F]]), (1, [[.S]])], [(1000000, [.S])]⟩, bo := ⟨[(0, [[.S]])], [(1000000, [.S])]⟩, np := 2, ext := false, no := 1 } Try.f175 (Try.f175.body.getD .skip) = true := by decide +kernel
theorem chk176 : fnC τ An Sgs 176 { bi := ⟨[(0, [[.S, .F, .S, .S, .S, .F, .F]]), (1, [[.S]])], [(1000000, [.S])]⟩, bo := ⟨[(0, [[.S]])], [(1000000, [.S])]⟩, np := 2, ext := false, no := 1 } Try.f176 (Try.f176.body.getD .skip) = true := by decide +kernel
theorem chk177 : fnC τ An Sgs 177 { bi := ⟨[(0, [[.S, .S, .S, .F, .F]])], []⟩, bo := ⟨[(0, [[.A 1]])], []⟩, np := 1 } Try.f177 (Try.f177.body.getD .skip) = true := by decide +kernel
theorem chk178 : fnC τ An Sgs 178 { bi := ⟨[(0, [[.S, .S, .S, .F, .F]]), (1, [[.S]])], [(1000000, [.F]), (1000001, [.S])]⟩, bo := ⟨[(0, [])], [(1000000, [.F]), (1000001, [.S])]⟩, np := 2, no := 2 } Try.f178 (Try.f178.body.getD .skip) = true := by decide +kernel
theorem chk179 : fnC τ An Sgs 179 { bi := ⟨[(0, [[.S, .S, .S, .F, .F]]), (1, [[.S]]), (2, [[.S]])], [(1000000, [.F]), (1000001, [.S])]⟩, bo := ⟨[(0, [])], [(1000000, [.F]), (1000001, [.S])]⟩, np := 3, no := 2 } Try.f179 (Try.f179.body.getD .skip) = true := by decide +kernel
theorem chk180 : fnC τ An Sgs 180 { bi := ⟨[(0, [[.S, .F, .S, .S, .S, .F, .F]]), (1, [[.S, .F, .S, .S, .S, .F, .F]])], []⟩, bo := ⟨[(0, [[.S]])], []⟩, np := 2, ext := false } Try.f180 (Try.f180.body.getD .skip) = true := by decide +kernel
theorem chk181 : fnC τ An Sgs 181 { bi := ⟨[(0, [[.S, .S, .S, .F, .F, .S, .S, .S, .F, .F]]), (1, [[.S]])], []⟩, bo := ⟨[(0, [[.S]])], []⟩, np := 2, ext := false } Try.f181 (Try.f181.body.getD .skip) = true := by decide +kernel
theorem chk183 : fnC τ An Sgs 183 { bi := ⟨[(0, [[.S, .S, .S, .F, .F]]), (1, [[.S]]), (2, [[.S]]), (3, [[.S]])], []⟩, bo := ⟨[(0, [[.S]])], []⟩, np := 4, ext := false } Try.f183 (Try.f183.body.getD .skip) = true := by decide +kernel
theorem chk184 : fnC τ An Sgs 184 { bi := ⟨[(0, [[.S, .S, .S, .F, .F]])], []⟩, bo := ⟨[(0, [[.U 1]])], []⟩, np := 1, ext := false } Try.f184 (Try.f184.body.getD .skip) = true := by decide +kernel
theorem chk187 : fnC τ An Sgs 187 { bi := ⟨[(0, [[.S, .S, .S, .F, .F, .S, .S, .S, .F, .F]])], []⟩, bo := ⟨[(0, [[.S, .S, .S, .U 5, .U 10, .S, .S, .S, .U 5, .U 10]])], []⟩, np := 1, ext := false } Try.f187 (Try.f187.body.getD .skip) = true := by decide +kernel
theorem chk188 : fnC τ An Sgs 188 { bi := ⟨[(0, [[.S, .S, .S, .F, .F, .S, .S, .S, .F, .F]]), (1, [[.S, .S, .S, .F, .F, .S, .S, .S, .F, .F]])], []⟩, bo := ⟨[(0, [[.S]])], []⟩, np := 2, ext := false } Try.f188 (Try.f188.body.getD .skip) = true := by decide +kernel
theorem chk192 : fnC τ An Sgs 192 { bi := ⟨[(0, [[.S]]), (1, [[.S, .S, .S, .F, .F]]), (2, [[.S]])], [(1000000, [.S, .A 1])]⟩, bo := ⟨[(0, [[.S]])], [(1000000, [.S, .A 1])]⟩, np := 3, no := 1 } Try.f192 (Try.f192.body.getD .skip) = true := by decide +kernel
theorem chk194 : fnC τ An Sgs 194 { bi := ⟨[(0, [[.S]])], []⟩, bo := ⟨[(0, [[.S]])], []⟩, np := 1, ext := false } Try.f194 (Try.f194.body.getD .skip) = true := by decide +kernel
theorem chk196 : fnC τ An Sgs 196 { bi := ⟨[(0, [[.S]])], []⟩, bo := ⟨[(0, [[.S]])], []⟩, np := 1, ext := false } Try.f196 (Try.f196.body.getD .skip) = true := by decide +kernel
theorem chk222 : fnC τ An Sgs 222 { bi := ⟨[(0, [[.F]]), (1, [[.S]])], []⟩, bo := ⟨[(0, [[.S]])], []⟩, np := 2, ext := false } Try.f222 (Try.f222.body.getD .skip) = true := by decide +kernel
theorem chk223 : fnC τ An Sgs 223 { bi := ⟨[(0, [[.S]])], []⟩, bo := ⟨[(0, [[.S]])], []⟩, np := 1, ext := false } Try.f223 (Try.f223.body.getD .skip) = true := by decide +kernel
theorem chk224 : fnC τ An Sgs 224 { bi := ⟨[(0, [[.S]])], []⟩, bo := ⟨[(0, [[.S]])], []⟩, np := 1, ext := false } Try.f224 (Try.f224.body.getD .skip) = true := by decide +kernel
theorem chk225 : fnC τ An Sgs 225 { bi := ⟨[(0, [[.S, .S, .S, .F, .F]])], []⟩, bo := ⟨[(0, [[.S]])], []⟩, np := 1, ext := false } Try.f225 (Try.f225.body.getD .skip) = true := by decide +kernel
theorem chk226 : fnC τ An Sgs 226 { bi := ⟨[(0, [[.F]])], []⟩, bo := ⟨[(0, [[.U 1]])], []⟩, np := 1, ext := false } Try.f226 (Try.f226.body.getD .skip) = true := by decide +kernel
theorem chk227 : fnC τ An Sgs 227 { bi := ⟨[(0, [[.S]])], []⟩, bo := ⟨[(0, [[.S]])], []⟩, np := 1, ext := false } Try.f227 (Try.f227.body.getD .skip) = true := by decide +kernel
theorem chk228 : fnC τ An Sgs 228 { bi := ⟨[(0, [[.S]])], []⟩, bo := ⟨[(0, [[.S]])], []⟩, np := 1, ext := false } Try.f228 (Try.f228.body.getD .skip) = true := by decide +kernel
theorem chk229 : fnC τ An Sgs 229 { bi := ⟨[(0, [[.S, .S, .S, .F, .F]])], []⟩, bo := ⟨[(0, [[.S]])], []⟩, np := 1, ext := false } Try.f229 (Try.f229.body.getD .skip) = true := by decide +kernel
theorem chk230 : fnC τ An Sgs 230 { bi := ⟨[(0, [[.A 1]]), (1, [[.F]])], []⟩, bo := ⟨[(0, [[.A 1]])], []⟩, np := 2 } Try.f230 (Try.f230.body.getD .skip) = true := by decide +kernel
theorem chk231 : fnC τ An Sgs 231 { bi := ⟨[(0, [[.F]]), (1, [[.F]])], []⟩, bo := ⟨[(0, [[.S]])], []⟩, np := 2, ext := false } Try.f231 (Try.f231.body.getD .skip) = true := by decide +kernel
theorem chk232 : fnC τ An Sgs 232 { bi := ⟨[(0, [[.S, .S, .S, .F, .F]]), (1, [[.S]])], []⟩, bo := ⟨[(0, [[.S]])], []⟩, np := 2, ext := false } Try.f232 (Try.f232.body.getD .skip) = true := by decide +kernel
theorem chk234 : fnC τ An Sgs 234 { bi := ⟨[(0, [[.S]]), (1, [[.S]]), (2, [[.S]]), (3, [[.S]])], []⟩, bo := ⟨[(0, [[.S]])], []⟩, np := 4, ext := false } Try.f234 (Try.f234.body.getD .skip) = true := by decide +kernel
theorem chk236 : fnC τ An Sgs 236 { bi := ⟨[(0, [[.S]])], []⟩, bo := ⟨[(0, [[.S]])], []⟩, np := 1, ext := false } Try.f236 (Try.f236.body.getD .skip) = true := by decide +kernel
theorem chk237 : fnC τ An Sgs 237 { bi := ⟨[(0, [[.S]])], []⟩, bo := ⟨[(0, [[.S]])], []⟩, np := 1, ext := false } Try.f237 (Try.f237.body.getD .skip) = true := by decide +kernel
theorem chk253 : fnC τ An Sgs 253 { bi := ⟨[(0, [[.S]])], []⟩, bo := ⟨[(0, [[.S]])], []⟩, np := 1, ext := false } Try.f253 (Try.f253.body.getD .skip) = true := by decide +kernel
theorem chk254 : fnC τ An Sgs 254 { bi := ⟨[(0, [[.S]])], []⟩, bo := ⟨[(0, [[.S]])], []⟩, np := 1, ext := false } Try.f254 (Try.f254.body.getD .skip) = true := by decide +kernel
theorem chk255 : fnC τ An Sgs 255 { bi := ⟨[(0, [[.S]])], []⟩, bo := ⟨[(0, [[.S]])], []⟩, np := 1, ext := false } Try.f255 (Try.f255.body.getD .skip) = true := by decide +kernel
theorem chk256 : fnC τ An Sgs 256 { bi := ⟨[(0, [[.S]])], []⟩, bo := ⟨[(0, [[.S]])], []⟩, np := 1, ext := false } Try.f256 (Try.f256.body.getD .skip) = true := by decide +kernel
theorem chk257 : fnC τ An Sgs 257 { bi := ⟨[(0, [[.S]])], []⟩, bo := ⟨[(0, [[.S]])], []⟩, np := 1, ext := false } Try.f257 (Try.f257.body.getD .skip) = true := by decide +kernel
theorem chk258 : fnC τ An Sgs 258 { bi := ⟨[(0, [[.S]])], []⟩, bo := ⟨[(0, [[.S]])], []⟩, np := 1, ext := false } Try.f258 (Try.f258.body.getD .skip) = true := by decide +kernel
theorem chk259 : fnC τ An Sgs 259 { bi := ⟨[(0, [[.S]]), (1, [[.S, .S, .S, .F, .F]]), (2, [[.S]])], [(1000000, [.S, .A 1])]⟩, bo := ⟨[(0, [[.S]])], [(1000000, [.S, .A 1])]⟩, np := 3, no := 1 } Try.f259 (Try.f259.body.getD .skip) = true := by decide +kernel
theorem chk260 : fnC τ An Sgs 260 { bi := ⟨[(0, [[.S]])], []⟩, bo := ⟨[(0, [[.S]])], []⟩, np := 1, ext := false } Try.f260 (Try.f260.body.getD .skip) = true := by decide +kernel
theorem chk261 : fnC τ An Sgs 261 { bi := ⟨[(0, [[.S]])], []⟩, bo := ⟨[(0, [[.S]])], []⟩, np := 1, ext := false } Try.f261 (Try.f261.body.getD .skip) = true := by decide +kernel
theorem checked : ∀ f sg, sg ∈ Sgs f → ∀ fn c, Try.prog.funcs[f]? = some fn → fn.body = some c → fnC τ An Sgs f sg fn c = true := by
  intro f sg hs
  unfold Sgs at hs
  split at hs
  · exact one_sg chk5 Try.func5 hs
  · exact one_sg chk26 Try.func26 hs
  · exact one_sg chk27 Try.func27 hs
  · exact one_sg chk28 Try.func28 hs
  · exact one_sg chk29 Try.func29 hs
  · exact one_sg chk30 Try.func30 hs
  · exact one_sg chk31 Try.func31 hs
  · exact one_sg chk34 Try.func34 hs
  · exact one_sg chk39 Try.func39 hs
  · exact one_sg chk59 Try.func59 hs
  · exact one_sg chk69 Try.func69 hs
  · exact one_sg chk72 Try.func72 hs
  · exact one_sg chk75 Try.func75 hs
  · exact one_sg chk77 Try.func77 hs
  · exact one_sg chk93 Try.func93 hs
  · exact one_sg chk94 Try.func94 hs
  · exact one_sg chk95 Try.func95 hs
  · exact one_sg chk96 Try.func96 hs
  · exact one_sg chk97 Try.func97 hs
  · exact one_sg chk98 Try.func98 hs
  · exact one_sg chk99 Try.func99 hs
  · exact one_sg chk100 Try.func100 hs
  · exact one_sg chk101 Try.func101 hs
  · exact one_sg chk102 Try.func102 hs
  · exact one_sg chk103 Try.func103 hs
  · exact one_sg chk104 Try.func104 hs
  · exact one_sg chk105 Try.func105 hs
  · exact one_sg chk110 Try.func110 hs
  · exact one_sg chk111 Try.func111 hs
  · exact one_sg chk114 Try.func114 hs
  · exact one_sg chk115 Try.func115 hs
  · exact one_sg chk156 Try.func156 hs
  · exact one_sg chk170 Try.func170 hs
  · exact one_sg chk171 Try.func171 hs
  · exact one_sg chk172 Try.func172 hs
  · exact one_sg chk173 Try.func173 hs
  · exact one_sg chk174 Try.func174 hs
  · exact one_sg chk175 Try.func175 hs
  · exact one_sg chk176 Try.func176 hs
  · exact one_sg chk177 Try.func177 hs
  · exact one_sg chk178 Try.func178 hs
  · exact one_sg chk179 Try.func179 hs
  · exact one_sg chk180 Try.func180 hs
  · exact one_sg chk181 Try.func181 hs
  · exact one_sg chk183 Try.func183 hs
  · exact one_sg chk184 Try.func184 hs
  · exact one_sg chk187 Try.func187 hs
  · exact one_sg chk188 Try.func188 hs
  · exact one_sg chk192 Try.func192 hs
  · exact one_sg chk194 Try.func194 hs
  · exact one_sg chk196 Try.func196 hs
  · exact one_sg chk222 Try.func222 hs
  · exact one_sg chk223 Try.func223 hs
  · exact one_sg chk224 Try.func224 hs
  · exact one_sg chk225 Try.func225 hs
  · exact one_sg chk226 Try.func226 hs
  · exact one_sg chk227 Try.func227 hs
  · exact one_sg chk228 Try.func228 hs
  · exact one_sg chk229 Try.func229 hs
  · exact one_sg chk230 Try.func230 hs
  · exact one_sg chk231 Try.func231 hs
  · exact one_sg chk232 Try.func232 hs
  · exact one_sg chk234 Try.func234 hs
  · exact one_sg chk236 Try.func236 hs
  · exact one_sg chk237 Try.func237 hs
  · exact one_sg chk253 Try.func253 hs
  · exact one_sg chk254 Try.func254 hs
  · exact one_sg chk255 Try.func255 hs
  · exact one_sg chk256 Try.func256 hs
  · exact one_sg chk257 Try.func257 hs
  · exact one_sg chk258 Try.func258 hs
  · exact one_sg chk259 Try.func259 hs
  · exact one_sg chk260 Try.func260 hs
  · exact one_sg chk261 Try.func261 hs
  · cases hs
end Go.Own
