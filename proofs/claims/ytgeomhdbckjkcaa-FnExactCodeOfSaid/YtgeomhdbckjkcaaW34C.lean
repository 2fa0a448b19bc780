/- Each function is checked. No conditions. -/
import Derived.Test.YtgeomhdbckjkcaaW34A
set_option linter.unusedVariables false
set_option linter.unusedSimpArgs false
set_option linter.unnecessarySimpa false
namespace Go.Own
open Go Go.Proofs
theorem chk4 : fnC τ An Sgs 4 sg4 Try.f4 (Try.f4.body.getD .skip) = true := by decide +kernel
theorem chk17 : fnC τ An Sgs 17 sg17 Try.f17 (Try.f17.body.getD .skip) = true := by decide +kernel
theorem chk18 : fnC τ An Sgs 18 sg18 Try.f18 (Try.f18.body.getD .skip) = true := by decide +kernel
theorem chk19 : fnC τ An Sgs 19 sg19 Try.f19 (Try.f19.body.getD .skip) = true := by decide +kernel
theorem chk20 : fnC τ An Sgs 20 sg20 Try.f20 (Try.f20.body.getD .skip) = true := by decide +kernel
theorem chk21 : fnC τ An Sgs 21 sg21 Try.f21 (Try.f21.body.getD .skip) = true := by decide +kernel
theorem chk22 : fnC τ An Sgs 22 sg22 Try.f22 (Try.f22.body.getD .skip) = true := by decide +kernel
theorem chk23 : fnC τ An Sgs 23 sg23 Try.f23 (Try.f23.body.getD .skip) = true := by decide +kernel
theorem chk25 : fnC τ An Sgs 25 sg25 Try.f25 (Try.f25.body.getD .skip) = true := by decide +kernel
theorem chk79 : fnC τ An Sgs 79 sg79 Try.f79 (Try.f79.body.getD .skip) = true := by decide +kernel
theorem chk80 : fnC τ An Sgs 80 sg80 Try.f80 (Try.f80.body.getD .skip) = true := by decide +kernel
theorem chk81 : fnC τ An Sgs 81 sg81 Try.f81 (Try.f81.body.getD .skip) = true := by decide +kernel
theorem chk82 : fnC τ An Sgs 82 sg82 Try.f82 (Try.f82.body.getD .skip) = true := by decide +kernel
theorem chk83 : fnC τ An Sgs 83 sg83 Try.f83 (Try.f83.body.getD .skip) = true := by decide +kernel
theorem chk84 : fnC τ An Sgs 84 sg84 Try.f84 (Try.f84.body.getD .skip) = true := by decide +kernel
theorem chk85 : fnC τ An Sgs 85 sg85 Try.f85 (Try.f85.body.getD .skip) = true := by decide +kernel
theorem chk86 : fnC τ An Sgs 86 sg86 Try.f86 (Try.f86.body.getD .skip) = true := by decide +kernel
theorem chk87 : fnC τ An Sgs 87 sg87 Try.f87 (Try.f87.body.getD .skip) = true := by decide +kernel
theorem chk88 : fnC τ An Sgs 88 sg88 Try.f88 (Try.f88.body.getD .skip) = true := by decide +kernel
theorem chk89 : fnC τ An Sgs 89 sg89 Try.f89 (Try.f89.body.getD .skip) = true := by decide +kernel
theorem chk90 : fnC τ An Sgs 90 sg90 Try.f90 (Try.f90.body.getD .skip) = true := by decide +kernel
theorem chk91 : fnC τ An Sgs 91 sg91 Try.f91 (Try.f91.body.getD .skip) = true := by decide +kernel
theorem chk92 : fnC τ An Sgs 92 sg92 Try.f92 (Try.f92.body.getD .skip) = true := by decide +kernel
theorem chk159 : fnC τ An Sgs 159 sg159 Try.f159 (Try.f159.body.getD .skip) = true := by decide +kernel
theorem chk160 : fnC τ An Sgs 160 sg160 Try.f160 (Try.f160.body.getD .skip) = true := by decide +kernel
theorem chk161 : fnC τ An Sgs 161 sg161 Try.f161 (Try.f161.body.getD .skip) = true := by decide +kernel
theorem chk162 : fnC τ An Sgs 162 sg162 Try.f162 (Try.f162.body.getD .skip) = true := by decide +kernel
theorem chk163 : fnC τ An Sgs 163 sg163 Try.f163 (Try.f163.body.getD .skip) = true := by decide +kernel
theorem chk164 : fnC τ An Sgs 164 sg164 Try.f164 (Try.f164.body.getD .skip) = true := by decide +kernel
theorem chk165 : fnC τ An Sgs 165 sg165 Try.f165 (Try.f165.body.getD .skip) = true := by decide +kernel
theorem chk166 : fnC τ An Sgs 166 sg166 Try.f166 (Try.f166.body.getD .skip) = true := by decide +kernel
theorem chk167 : fnC τ An Sgs 167 sg167 Try.f167 (Try.f167.body.getD .skip) = true := by decide +kernel
theorem chk168 : fnC τ An Sgs 168 sg168 Try.f168 (Try.f168.body.getD .skip) = true := by decide +kernel
theorem chk169 : fnC τ An Sgs 169 sg169 Try.f169 (Try.f169.body.getD .skip) = true := by decide +kernel
theorem chk215 : fnC τ An Sgs 215 sg215 Try.f215 (Try.f215.body.getD .skip) = true := by decide +kernel
theorem chk216 : fnC τ An Sgs 216 sg216 Try.f216 (Try.f216.body.getD .skip) = true := by decide +kernel
theorem chk217 : fnC τ An Sgs 217 sg217 Try.f217 (Try.f217.body.getD .skip) = true := by decide +kernel
theorem chk218 : fnC τ An Sgs 218 sg218 Try.f218 (Try.f218.body.getD .skip) = true := by decide +kernel
theorem chk219 : fnC τ An Sgs 219 sg219 Try.f219 (Try.f219.body.getD .skip) = true := by decide +kernel
theorem chk220 : fnC τ An Sgs 220 sg220 Try.f220 (Try.f220.body.getD .skip) = true := by decide +kernel
theorem chk221 : fnC τ An Sgs 221 sg221 Try.f221 (Try.f221.body.getD .skip) = true := by decide +kernel
theorem chk248 : fnC τ An Sgs 248 sg248 Try.f248 (Try.f248.body.getD .skip) = true := by decide +kernel
theorem chk249 : fnC τ An Sgs 249 sg249 Try.f249 (Try.f249.body.getD .skip) = true := by decide +kernel
theorem chk250 : fnC τ An Sgs 250 sg250 Try.f250 (Try.f250.body.getD .skip) = true := by decide +kernel
theorem chk251 : fnC τ An Sgs 251 sg251 Try.f251 (Try.f251.body.getD .skip) = true := by decide +kernel
theorem chk252 : fnC τ An Sgs 252 sg252 Try.f252 (Try.f252.body.getD .skip) = true := by decide +kernel
theorem chk272 : fnC τ An Sgs 272 sg272 Try.f272 (Try.f272.body.getD .skip) = true := by decide +kernel
theorem chk273 : fnC τ An Sgs 273 sg273 Try.f273 (Try.f273.body.getD .skip) = true := by decide +kernel
theorem chk281 : fnC τ An Sgs 281 sg281 Try.f281 (Try.f281.body.getD .skip) = true := by decide +kernel
theorem chk282 : fnC τ An Sgs 282 sg282 Try.f282 (Try.f282.body.getD .skip) = true := by decide +kernel
theorem checked : ∀ f sg, sg ∈ Sgs f → ∀ fn c, Try.prog.funcs[f]? = some fn → fn.body = some c → fnC τ An Sgs f sg fn c = true := by
  intro f sg hs
  unfold Sgs at hs
  split at hs
  · exact one_sg chk4 Try.func4 hs
  · exact one_sg chk17 Try.func17 hs
  · exact one_sg chk18 Try.func18 hs
  · exact one_sg chk19 Try.func19 hs
  · exact one_sg chk20 Try.func20 hs
  · exact one_sg chk21 Try.func21 hs
  · exact one_sg chk22 Try.func22 hs
  · exact one_sg chk23 Try.func23 hs
  · exact one_sg chk25 Try.func25 hs
  · exact one_sg chk79 Try.func79 hs
  · exact one_sg chk80 Try.func80 hs
  · exact one_sg chk81 Try.func81 hs
  · exact one_sg chk82 Try.func82 hs
  · exact one_sg chk83 Try.func83 hs
  · exact one_sg chk84 Try.func84 hs
  · exact one_sg chk85 Try.func85 hs
  · exact one_sg chk86 Try.func86 hs
  · exact one_sg chk87 Try.func87 hs
  · exact one_sg chk88 Try.func88 hs
  · exact one_sg chk89 Try.func89 hs
  · exact one_sg chk90 Try.func90 hs
  · exact one_sg chk91 Try.func91 hs
  · exact one_sg chk92 Try.func92 hs
  · exact one_sg chk159 Try.func159 hs
  · exact one_sg chk160 Try.func160 hs
  · exact one_sg chk161 Try.func161 hs
  · exact one_sg chk162 Try.func162 hs
  · exact one_sg chk163 Try.func163 hs
  · exact one_sg chk164 Try.func164 hs
  · exact one_sg chk165 Try.func165 hs
  · exact one_sg chk166 Try.func166 hs
  · exact one_sg chk167 Try.func167 hs
  · exact one_sg chk168 Try.func168 hs
  · exact one_sg chk169 Try.func169 hs
  · exact one_sg chk215 Try.func215 hs
  · exact one_sg chk216 Try.func216 hs
  · exact one_sg chk217 Try.func217 hs
  · exact one_sg chk218 Try.func218 hs
  · exact one_sg chk219 Try.func219 hs
  · exact one_sg chk220 Try.func220 hs
  · exact one_sg chk221 Try.func221 hs
  · exact one_sg chk248 Try.func248 hs
  · exact one_sg chk249 Try.func249 hs
  · exact one_sg chk250 Try.func250 hs
  · exact one_sg chk251 Try.func251 hs
  · exact one_sg chk252 Try.func252 hs
  · exact one_sg chk272 Try.func272 hs
  · exact one_sg chk273 Try.func273 hs
  · exact one_sg chk281 Try.func281 hs
  · exact one_sg chk282 Try.func282 hs
  · cases hs
end Go.Own
