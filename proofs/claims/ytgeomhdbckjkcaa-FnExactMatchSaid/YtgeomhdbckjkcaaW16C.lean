/- Each function is checked. No conditions. -/
import Derived.Test.YtgeomhdbckjkcaaW16A
set_option linter.unusedVariables false
set_option linter.unusedSimpArgs false
set_option linter.unnecessarySimpa false
namespace Go.Own
open Go Go.Proofs
theorem chk8 : fnC τ An Sgs 8 sg8 Try.f8 (Try.f8.body.getD .skip) = true := by decide +kernel
theorem chk31 : fnC τ An Sgs 31 sg31 Try.f31 (Try.f31.body.getD .skip) = true := by decide +kernel
theorem chk32 : fnC τ An Sgs 32 sg32 Try.f32 (Try.f32.body.getD .skip) = true := by decide +kernel
theorem chk34 : fnC τ An Sgs 34 sg34 Try.f34 (Try.f34.body.getD .skip) = true := by decide +kernel
theorem chk35 : fnC τ An Sgs 35 sg35 Try.f35 (Try.f35.body.getD .skip) = true := by decide +kernel
theorem chk37 : fnC τ An Sgs 37 sg37 Try.f37 (Try.f37.body.getD .skip) = true := by decide +kernel
theorem chk38 : fnC τ An Sgs 38 sg38 Try.f38 (Try.f38.body.getD .skip) = true := by decide +kernel
theorem chk39 : fnC τ An Sgs 39 sg39 Try.f39 (Try.f39.body.getD .skip) = true := by decide +kernel
theorem chk41 : fnC τ An Sgs 41 sg41 Try.f41 (Try.f41.body.getD .skip) = true := by decide +kernel
theorem chk44 : fnC τ An Sgs 44 sg44 Try.f44 (Try.f44.body.getD .skip) = true := by decide +kernel
theorem chk49 : fnC τ An Sgs 49 sg49 Try.f49 (Try.f49.body.getD .skip) = true := by decide +kernel
theorem chk50 : fnC τ An Sgs 50 sg50 Try.f50 (Try.f50.body.getD .skip) = true := by decide +kernel
theorem chk51 : fnC τ An Sgs 51 sg51 Try.f51 (Try.f51.body.getD .skip) = true := by decide +kernel
theorem chk52 : fnC τ An Sgs 52 sg52 Try.f52 (Try.f52.body.getD .skip) = true := by decide +kernel
theorem chk53 : fnC τ An Sgs 53 sg53 Try.f53 (Try.f53.body.getD .skip) = true := by decide +kernel
theorem chk54 : fnC τ An Sgs 54 sg54 Try.f54 (Try.f54.body.getD .skip) = true := by decide +kernel
theorem chk55 : fnC τ An Sgs 55 sg55 Try.f55 (Try.f55.body.getD .skip) = true := by decide +kernel
theorem chk61 : fnC τ An Sgs 61 sg61 Try.f61 (Try.f61.body.getD .skip) = true := by decide +kernel
theorem chk69 : fnC τ An Sgs 69 sg69 Try.f69 (Try.f69.body.getD .skip) = true := by decide +kernel
theorem chk72 : fnC τ An Sgs 72 sg72 Try.f72 (Try.f72.body.getD .skip) = true := by decide +kernel
theorem chk75 : fnC τ An Sgs 75 sg75 Try.f75 (Try.f75.body.getD .skip) = true := by decide +kernel
theorem chk77 : fnC τ An Sgs 77 sg77 Try.f77 (Try.f77.body.getD .skip) = true := by decide +kernel
theorem chk88 : fnC τ An Sgs 88 sg88 Try.f88 (Try.f88.body.getD .skip) = true := by decide +kernel
theorem chk96 : fnC τ An Sgs 96 sg96 Try.f96 (Try.f96.body.getD .skip) = true := by decide +kernel
theorem chk104 : fnC τ An Sgs 104 sg104 Try.f104 (Try.f104.body.getD .skip) = true := by decide +kernel
theorem chk105 : fnC τ An Sgs 105 sg105 Try.f105 (Try.f105.body.getD .skip) = true := by decide +kernel
theorem chk107 : fnC τ An Sgs 107 sg107 Try.f107 (Try.f107.body.getD .skip) = true := by decide +kernel
theorem chk108 : fnC τ An Sgs 108 sg108 Try.f108 (Try.f108.body.getD .skip) = true := by decide +kernel
theorem chk109 : fnC τ An Sgs 109 sg109 Try.f109 (Try.f109.body.getD .skip) = true := by decide +kernel
theorem chk110 : fnC τ An Sgs 110 sg110 Try.f110 (Try.f110.body.getD .skip) = true := by decide +kernel
theorem chk111 : fnC τ An Sgs 111 sg111 Try.f111 (Try.f111.body.getD .skip) = true := by decide +kernel
theorem chk112 : fnC τ An Sgs 112 sg112 Try.f112 (Try.f112.body.getD .skip) = true := by decide +kernel
theorem chk114 : fnC τ An Sgs 114 sg114 Try.f114 (Try.f114.body.getD .skip) = true := by decide +kernel
theorem chk115 : fnC τ An Sgs 115 sg115 Try.f115 (Try.f115.body.getD .skip) = true := by decide +kernel
theorem chk116 : fnC τ An Sgs 116 sg116 Try.f116 (Try.f116.body.getD .skip) = true := by decide +kernel
theorem chk117 : fnC τ An Sgs 117 sg117 Try.f117 (Try.f117.body.getD .skip) = true := by decide +kernel
theorem chk123 : fnC τ An Sgs 123 sg123 Try.f123 (Try.f123.body.getD .skip) = true := by decide +kernel
theorem chk124 : fnC τ An Sgs 124 sg124 Try.f124 (Try.f124.body.getD .skip) = true := by decide +kernel
theorem chk125 : fnC τ An Sgs 125 sg125 Try.f125 (Try.f125.body.getD .skip) = true := by decide +kernel
theorem chk132 : fnC τ An Sgs 132 sg132 Try.f132 (Try.f132.body.getD .skip) = true := by decide +kernel
theorem chk133 : fnC τ An Sgs 133 sg133 Try.f133 (Try.f133.body.getD .skip) = true := by decide +kernel
theorem chk156 : fnC τ An Sgs 156 sg156 Try.f156 (Try.f156.body.getD .skip) = true := by decide +kernel
theorem chk181 : fnC τ An Sgs 181 sg181 Try.f181 (Try.f181.body.getD .skip) = true := by decide +kernel
theorem chk182 : fnC τ An Sgs 182 sg182 Try.f182 (Try.f182.body.getD .skip) = true := by decide +kernel
theorem chk183 : fnC τ An Sgs 183 sg183 Try.f183 (Try.f183.body.getD .skip) = true := by decide +kernel
theorem chk184 : fnC τ An Sgs 184 sg184 Try.f184 (Try.f184.body.getD .skip) = true := by decide +kernel
theorem chk185 : fnC τ An Sgs 185 sg185 Try.f185 (Try.f185.body.getD .skip) = true := by decide +kernel
theorem chk186 : fnC τ An Sgs 186 sg186 Try.f186 (Try.f186.body.getD .skip) = true := by decide +kernel
theorem chk187 : fnC τ An Sgs 187 sg187 Try.f187 (Try.f187.body.getD .skip) = true := by decide +kernel
theorem chk188 : fnC τ An Sgs 188 sg188 Try.f188 (Try.f188.body.getD .skip) = true := by decide +kernel
theorem chk192 : fnC τ An Sgs 192 sg192 Try.f192 (Try.f192.body.getD .skip) = true := by decide +kernel
theorem chk193 : fnC τ An Sgs 193 sg193 Try.f193 (Try.f193.body.getD .skip) = true := by decide +kernel
theorem chk194 : fnC τ An Sgs 194 sg194 Try.f194 (Try.f194.body.getD .skip) = true := by decide +kernel
theorem chk196 : fnC τ An Sgs 196 sg196 Try.f196 (Try.f196.body.getD .skip) = true := by decide +kernel
theorem chk203 : fnC τ An Sgs 203 sg203 Try.f203 (Try.f203.body.getD .skip) = true := by decide +kernel
theorem chk223 : fnC τ An Sgs 223 sg223 Try.f223 (Try.f223.body.getD .skip) = true := by decide +kernel
theorem chk224 : fnC τ An Sgs 224 sg224 Try.f224 (Try.f224.body.getD .skip) = true := by decide +kernel
theorem chk227 : fnC τ An Sgs 227 sg227 Try.f227 (Try.f227.body.getD .skip) = true := by decide +kernel
theorem chk228 : fnC τ An Sgs 228 sg228 Try.f228 (Try.f228.body.getD .skip) = true := by decide +kernel
theorem chk232 : fnC τ An Sgs 232 sg232 Try.f232 (Try.f232.body.getD .skip) = true := by decide +kernel
theorem chk233 : fnC τ An Sgs 233 sg233 Try.f233 (Try.f233.body.getD .skip) = true := by decide +kernel
theorem chk234 : fnC τ An Sgs 234 sg234 Try.f234 (Try.f234.body.getD .skip) = true := by decide +kernel
theorem chk236 : fnC τ An Sgs 236 sg236 Try.f236 (Try.f236.body.getD .skip) = true := by decide +kernel
theorem chk237 : fnC τ An Sgs 237 sg237 Try.f237 (Try.f237.body.getD .skip) = true := by decide +kernel
theorem chk253 : fnC τ An Sgs 253 sg253 Try.f253 (Try.f253.body.getD .skip) = true := by decide +kernel
theorem chk254 : fnC τ An Sgs 254 sg254 Try.f254 (Try.f254.body.getD .skip) = true := by decide +kernel
theorem chk255 : fnC τ An Sgs 255 sg255 Try.f255 (Try.f255.body.getD .skip) = true := by decide +kernel
theorem chk256 : fnC τ An Sgs 256 sg256 Try.f256 (Try.f256.body.getD .skip) = true := by decide +kernel
theorem chk257 : fnC τ An Sgs 257 sg257 Try.f257 (Try.f257.body.getD .skip) = true := by decide +kernel
theorem chk258 : fnC τ An Sgs 258 sg258 Try.f258 (Try.f258.body.getD .skip) = true := by decide +kernel
theorem chk260 : fnC τ An Sgs 260 sg260 Try.f260 (Try.f260.body.getD .skip) = true := by decide +kernel
theorem chk261 : fnC τ An Sgs 261 sg261 Try.f261 (Try.f261.body.getD .skip) = true := by decide +kernel
theorem checked : ∀ f sg, sg ∈ Sgs f → ∀ fn c, Try.prog.funcs[f]? = some fn → fn.body = some c → fnC τ An Sgs f sg fn c = true := by
  intro f sg hs
  unfold Sgs at hs
  split at hs
  · exact one_sg chk8 Try.func8 hs
  · exact one_sg chk31 Try.func31 hs
  · exact one_sg chk32 Try.func32 hs
  · exact one_sg chk34 Try.func34 hs
  · exact one_sg chk35 Try.func35 hs
  · exact one_sg chk37 Try.func37 hs
  · exact one_sg chk38 Try.func38 hs
  · exact one_sg chk39 Try.func39 hs
  · exact one_sg chk41 Try.func41 hs
  · exact one_sg chk44 Try.func44 hs
  · exact one_sg chk49 Try.func49 hs
  · exact one_sg chk50 Try.func50 hs
  · exact one_sg chk51 Try.func51 hs
  · exact one_sg chk52 Try.func52 hs
  · exact one_sg chk53 Try.func53 hs
  · exact one_sg chk54 Try.func54 hs
  · exact one_sg chk55 Try.func55 hs
  · exact one_sg chk61 Try.func61 hs
  · exact one_sg chk69 Try.func69 hs
  · exact one_sg chk72 Try.func72 hs
  · exact one_sg chk75 Try.func75 hs
  · exact one_sg chk77 Try.func77 hs
  · exact one_sg chk88 Try.func88 hs
  · exact one_sg chk96 Try.func96 hs
  · exact one_sg chk104 Try.func104 hs
  · exact one_sg chk105 Try.func105 hs
  · exact one_sg chk107 Try.func107 hs
  · exact one_sg chk108 Try.func108 hs
  · exact one_sg chk109 Try.func109 hs
  · exact one_sg chk110 Try.func110 hs
  · exact one_sg chk111 Try.func111 hs
  · exact one_sg chk112 Try.func112 hs
  · exact one_sg chk114 Try.func114 hs
  · exact one_sg chk115 Try.func115 hs
  · exact one_sg chk116 Try.func116 hs
  · exact one_sg chk117 Try.func117 hs
  · exact one_sg chk123 Try.func123 hs
  · exact one_sg chk124 Try.func124 hs
  · exact one_sg chk125 Try.func125 hs
  · exact one_sg chk132 Try.func132 hs
  · exact one_sg chk133 Try.func133 hs
  · exact one_sg chk156 Try.func156 hs
  · exact one_sg chk181 Try.func181 hs
  · exact one_sg chk182 Try.func182 hs
  · exact one_sg chk183 Try.func183 hs
  · exact one_sg chk184 Try.func184 hs
  · exact one_sg chk185 Try.func185 hs
  · exact one_sg chk186 Try.func186 hs
  · exact one_sg chk187 Try.func187 hs
  · exact one_sg chk188 Try.func188 hs
  · exact one_sg chk192 Try.func192 hs
  · exact one_sg chk193 Try.func193 hs
  · exact one_sg chk194 Try.func194 hs
  · exact one_sg chk196 Try.func196 hs
  · exact one_sg chk203 Try.func203 hs
  · exact one_sg chk223 Try.func223 hs
  · exact one_sg chk224 Try.func224 hs
  · exact one_sg chk227 Try.func227 hs
  · exact one_sg chk228 Try.func228 hs
  · exact one_sg chk232 Try.func232 hs
  · exact one_sg chk233 Try.func233 hs
  · exact one_sg chk234 Try.func234 hs
  · exact one_sg chk236 Try.func236 hs
  · exact one_sg chk237 Try.func237 hs
  · exact one_sg chk253 Try.func253 hs
  · exact one_sg chk254 Try.func254 hs
  · exact one_sg chk255 Try.func255 hs
  · exact one_sg chk256 Try.func256 hs
  · exact one_sg chk257 Try.func257 hs
  · exact one_sg chk258 Try.func258 hs
  · exact one_sg chk260 Try.func260 hs
  · exact one_sg chk261 Try.func261 hs
  · cases hs
end Go.Own
