/- Each function is checked. No conditions. -/
import Derived.Test.YtgeomhdbckjkcaaW21A
set_option linter.unusedVariables false
set_option linter.unusedSimpArgs false
set_option linter.unnecessarySimpa false
namespace Go.Own
open Go Go.Proofs
theorem chk9 : fnC τ An Sgs 9 sg9 Try.f9 (Try.f9.body.getD .skip) = true := by decide +kernel
theorem chk17 : fnC τ An Sgs 17 sg17 Try.f17 (Try.f17.body.getD .skip) = true := by decide +kernel
theorem chk19 : fnC τ An Sgs 19 sg19 Try.f19 (Try.f19.body.getD .skip) = true := by decide +kernel
theorem chk21 : fnC τ An Sgs 21 sg21 Try.f21 (Try.f21.body.getD .skip) = true := by decide +kernel
theorem chk22 : fnC τ An Sgs 22 sg22 Try.f22 (Try.f22.body.getD .skip) = true := by decide +kernel
theorem chk56 : fnC τ An Sgs 56 sg56 Try.f56 (Try.f56.body.getD .skip) = true := by decide +kernel
theorem chk57 : fnC τ An Sgs 57 sg57 Try.f57 (Try.f57.body.getD .skip) = true := by decide +kernel
theorem chk69 : fnC τ An Sgs 69 sg69 Try.f69 (Try.f69.body.getD .skip) = true := by decide +kernel
theorem chk75 : fnC τ An Sgs 75 sg75 Try.f75 (Try.f75.body.getD .skip) = true := by decide +kernel
theorem chk79 : fnC τ An Sgs 79 sg79 Try.f79 (Try.f79.body.getD .skip) = true := by decide +kernel
theorem chk82 : fnC τ An Sgs 82 sg82 Try.f82 (Try.f82.body.getD .skip) = true := by decide +kernel
theorem chk85 : fnC τ An Sgs 85 sg85 Try.f85 (Try.f85.body.getD .skip) = true := by decide +kernel
theorem chk86 : fnC τ An Sgs 86 sg86 Try.f86 (Try.f86.body.getD .skip) = true := by decide +kernel
theorem chk87 : fnC τ An Sgs 87 sg87 Try.f87 (Try.f87.body.getD .skip) = true := by decide +kernel
theorem chk126 : fnC τ An Sgs 126 sg126 Try.f126 (Try.f126.body.getD .skip) = true := by decide +kernel
theorem chk127 : fnC τ An Sgs 127 sg127 Try.f127 (Try.f127.body.getD .skip) = true := by decide +kernel
theorem chk144 : fnC τ An Sgs 144 sg144 Try.f144 (Try.f144.body.getD .skip) = true := by decide +kernel
theorem chk159 : fnC τ An Sgs 159 sg159 Try.f159 (Try.f159.body.getD .skip) = true := by decide +kernel
theorem chk162 : fnC τ An Sgs 162 sg162 Try.f162 (Try.f162.body.getD .skip) = true := by decide +kernel
theorem chk166 : fnC τ An Sgs 166 sg166 Try.f166 (Try.f166.body.getD .skip) = true := by decide +kernel
theorem chk167 : fnC τ An Sgs 167 sg167 Try.f167 (Try.f167.body.getD .skip) = true := by decide +kernel
theorem chk194 : fnC τ An Sgs 194 sg194 Try.f194 (Try.f194.body.getD .skip) = true := by decide +kernel
theorem chk195 : fnC τ An Sgs 195 sg195 Try.f195 (Try.f195.body.getD .skip) = true := by decide +kernel
theorem chk196 : fnC τ An Sgs 196 sg196 Try.f196 (Try.f196.body.getD .skip) = true := by decide +kernel
theorem chk206 : fnC τ An Sgs 206 sg206 Try.f206 (Try.f206.body.getD .skip) = true := by decide +kernel
theorem chk207 : fnC τ An Sgs 207 sg207 Try.f207 (Try.f207.body.getD .skip) = true := by decide +kernel
theorem chk208 : fnC τ An Sgs 208 sg208 Try.f208 (Try.f208.body.getD .skip) = true := by decide +kernel
theorem chk215 : fnC τ An Sgs 215 sg215 Try.f215 (Try.f215.body.getD .skip) = true := by decide +kernel
theorem chk216 : fnC τ An Sgs 216 sg216 Try.f216 (Try.f216.body.getD .skip) = true := by decide +kernel
theorem chk217 : fnC τ An Sgs 217 sg217 Try.f217 (Try.f217.body.getD .skip) = true := by decide +kernel
theorem chk218 : fnC τ An Sgs 218 sg218 Try.f218 (Try.f218.body.getD .skip) = true := by decide +kernel
theorem chk221 : fnC τ An Sgs 221 sg221 Try.f221 (Try.f221.body.getD .skip) = true := by decide +kernel
theorem chk224 : fnC τ An Sgs 224 sg224 Try.f224 (Try.f224.body.getD .skip) = true := by decide +kernel
theorem chk227 : fnC τ An Sgs 227 sg227 Try.f227 (Try.f227.body.getD .skip) = true := by decide +kernel
theorem chk228 : fnC τ An Sgs 228 sg228 Try.f228 (Try.f228.body.getD .skip) = true := by decide +kernel
theorem chk234 : fnC τ An Sgs 234 sg234 Try.f234 (Try.f234.body.getD .skip) = true := by decide +kernel
theorem chk235 : fnC τ An Sgs 235 sg235 Try.f235 (Try.f235.body.getD .skip) = true := by decide +kernel
theorem chk236 : fnC τ An Sgs 236 sg236 Try.f236 (Try.f236.body.getD .skip) = true := by decide +kernel
theorem chk237 : fnC τ An Sgs 237 sg237 Try.f237 (Try.f237.body.getD .skip) = true := by decide +kernel
theorem chk242 : fnC τ An Sgs 242 sg242 Try.f242 (Try.f242.body.getD .skip) = true := by decide +kernel
theorem chk243 : fnC τ An Sgs 243 sg243 Try.f243 (Try.f243.body.getD .skip) = true := by decide +kernel
theorem chk244 : fnC τ An Sgs 244 sg244 Try.f244 (Try.f244.body.getD .skip) = true := by decide +kernel
theorem chk245 : fnC τ An Sgs 245 sg245 Try.f245 (Try.f245.body.getD .skip) = true := by decide +kernel
theorem chk246 : fnC τ An Sgs 246 sg246 Try.f246 (Try.f246.body.getD .skip) = true := by decide +kernel
theorem chk248 : fnC τ An Sgs 248 sg248 Try.f248 (Try.f248.body.getD .skip) = true := by decide +kernel
theorem chk249 : fnC τ An Sgs 249 sg249 Try.f249 (Try.f249.body.getD .skip) = true := by decide +kernel
theorem chk250 : fnC τ An Sgs 250 sg250 Try.f250 (Try.f250.body.getD .skip) = true := by decide +kernel
theorem chk251 : fnC τ An Sgs 251 sg251 Try.f251 (Try.f251.body.getD .skip) = true := by decide +kernel
theorem chk252 : fnC τ An Sgs 252 sg252 Try.f252 (Try.f252.body.getD .skip) = true := by decide +kernel
theorem chk256 : fnC τ An Sgs 256 sg256 Try.f256 (Try.f256.body.getD .skip) = true := by decide +kernel
theorem chk257 : fnC τ An Sgs 257 sg257 Try.f257 (Try.f257.body.getD .skip) = true := by decide +kernel
theorem chk258 : fnC τ An Sgs 258 sg258 Try.f258 (Try.f258.body.getD .skip) = true := by decide +kernel
theorem chk260 : fnC τ An Sgs 260 sg260 Try.f260 (Try.f260.body.getD .skip) = true := by decide +kernel
theorem chk261 : fnC τ An Sgs 261 sg261 Try.f261 (Try.f261.body.getD .skip) = true := by decide +kernel
theorem chk262 : fnC τ An Sgs 262 sg262 Try.f262 (Try.f262.body.getD .skip) = true := by decide +kernel
theorem chk263 : fnC τ An Sgs 263 sg263 Try.f263 (Try.f263.body.getD .skip) = true := by decide +kernel
theorem chk264 : fnC τ An Sgs 264 sg264 Try.f264 (Try.f264.body.getD .skip) = true := by decide +kernel
theorem chk269 : fnC τ An Sgs 269 sg269 Try.f269 (Try.f269.body.getD .skip) = true := by decide +kernel
theorem chk270 : fnC τ An Sgs 270 sg270 Try.f270 (Try.f270.body.getD .skip) = true := by decide +kernel
theorem chk271 : fnC τ An Sgs 271 sg271 Try.f271 (Try.f271.body.getD .skip) = true := by decide +kernel
theorem chk272 : fnC τ An Sgs 272 sg272 Try.f272 (Try.f272.body.getD .skip) = true := by decide +kernel
theorem chk273 : fnC τ An Sgs 273 sg273 Try.f273 (Try.f273.body.getD .skip) = true := by decide +kernel
theorem chk274 : fnC τ An Sgs 274 sg274 Try.f274 (Try.f274.body.getD .skip) = true := by decide +kernel
theorem chk275 : fnC τ An Sgs 275 sg275 Try.f275 (Try.f275.body.getD .skip) = true := by decide +kernel
theorem chk276 : fnC τ An Sgs 276 sg276 Try.f276 (Try.f276.body.getD .skip) = true := by decide +kernel
theorem chk279 : fnC τ An Sgs 279 sg279 Try.f279 (Try.f279.body.getD .skip) = true := by decide +kernel
theorem chk280 : fnC τ An Sgs 280 sg280 Try.f280 (Try.f280.body.getD .skip) = true := by decide +kernel
theorem chk281 : fnC τ An Sgs 281 sg281 Try.f281 (Try.f281.body.getD .skip) = true := by decide +kernel
theorem chk282 : fnC τ An Sgs 282 sg282 Try.f282 (Try.f282.body.getD .skip) = true := by decide +kernel
theorem chk283 : fnC τ An Sgs 283 sg283 Try.f283 (Try.f283.body.getD .skip) = true := by decide +kernel
theorem chk284 : fnC τ An Sgs 284 sg284 Try.f284 (Try.f284.body.getD .skip) = true := by decide +kernel
theorem chk286 : fnC τ An Sgs 286 sg286 Try.f286 (Try.f286.body.getD .skip) = true := by decide +kernel
theorem checked : ∀ f sg, sg ∈ Sgs f → ∀ fn c, Try.prog.funcs[f]? = some fn → fn.body = some c → fnC τ An Sgs f sg fn c = true := by
  intro f sg hs
  unfold Sgs at hs
  split at hs
  · exact one_sg chk9 Try.func9 hs
  · exact one_sg chk17 Try.func17 hs
  · exact one_sg chk19 Try.func19 hs
  · exact one_sg chk21 Try.func21 hs
  · exact one_sg chk22 Try.func22 hs
  · exact one_sg chk56 Try.func56 hs
  · exact one_sg chk57 Try.func57 hs
  · exact one_sg chk69 Try.func69 hs
  · exact one_sg chk75 Try.func75 hs
  · exact one_sg chk79 Try.func79 hs
  · exact one_sg chk82 Try.func82 hs
  · exact one_sg chk85 Try.func85 hs
  · exact one_sg chk86 Try.func86 hs
  · exact one_sg chk87 Try.func87 hs
  · exact one_sg chk126 Try.func126 hs
  · exact one_sg chk127 Try.func127 hs
  · exact one_sg chk144 Try.func144 hs
  · exact one_sg chk159 Try.func159 hs
  · exact one_sg chk162 Try.func162 hs
  · exact one_sg chk166 Try.func166 hs
  · exact one_sg chk167 Try.func167 hs
  · exact one_sg chk194 Try.func194 hs
  · exact one_sg chk195 Try.func195 hs
  · exact one_sg chk196 Try.func196 hs
  · exact one_sg chk206 Try.func206 hs
  · exact one_sg chk207 Try.func207 hs
  · exact one_sg chk208 Try.func208 hs
  · exact one_sg chk215 Try.func215 hs
  · exact one_sg chk216 Try.func216 hs
  · exact one_sg chk217 Try.func217 hs
  · exact one_sg chk218 Try.func218 hs
  · exact one_sg chk221 Try.func221 hs
  · exact one_sg chk224 Try.func224 hs
  · exact one_sg chk227 Try.func227 hs
  · exact one_sg chk228 Try.func228 hs
  · exact one_sg chk234 Try.func234 hs
  · exact one_sg chk235 Try.func235 hs
  · exact one_sg chk236 Try.func236 hs
  · exact one_sg chk237 Try.func237 hs
  · exact one_sg chk242 Try.func242 hs
  · exact one_sg chk243 Try.func243 hs
  · exact one_sg chk244 Try.func244 hs
  · exact one_sg chk245 Try.func245 hs
  · exact one_sg chk246 Try.func246 hs
  · exact one_sg chk248 Try.func248 hs
  · exact one_sg chk249 Try.func249 hs
  · exact one_sg chk250 Try.func250 hs
  · exact one_sg chk251 Try.func251 hs
  · exact one_sg chk252 Try.func252 hs
  · exact one_sg chk256 Try.func256 hs
  · exact one_sg chk257 Try.func257 hs
  · exact one_sg chk258 Try.func258 hs
  · exact one_sg chk260 Try.func260 hs
  · exact one_sg chk261 Try.func261 hs
  · exact one_sg chk262 Try.func262 hs
  · exact one_sg chk263 Try.func263 hs
  · exact one_sg chk264 Try.func264 hs
  · exact one_sg chk269 Try.func269 hs
  · exact one_sg chk270 Try.func270 hs
  · exact one_sg chk271 Try.func271 hs
  · exact one_sg chk272 Try.func272 hs
  · exact one_sg chk273 Try.func273 hs
  · exact one_sg chk274 Try.func274 hs
  · exact one_sg chk275 Try.func275 hs
  · exact one_sg chk276 Try.func276 hs
  · exact one_sg chk279 Try.func279 hs
  · exact one_sg chk280 Try.func280 hs
  · exact one_sg chk281 Try.func281 hs
  · exact one_sg chk282 Try.func282 hs
  · exact one_sg chk283 Try.func283 hs
  · exact one_sg chk284 Try.func284 hs
  · exact one_sg chk286 Try.func286 hs
  · cases hs
end Go.Own
