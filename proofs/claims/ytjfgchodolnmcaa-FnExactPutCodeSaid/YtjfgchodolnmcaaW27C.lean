/- Each function is checked. No conditions. -/
import Derived.Test.YtjfgchodolnmcaaW27D
set_option linter.unusedVariables false
set_option linter.unusedSimpArgs false
set_option linter.unnecessarySimpa false
namespace Go.Own
open Go Go.Proofs
theorem chk5:fnC τ An Sgs 5 sg5 Try.f5 (Try.f5.body.getD .skip)=true:=by decide+kernel
theorem chk31:fnC τ An Sgs 31 sg31 Try.f31 (Try.f31.body.getD .skip)=true:=by decide+kernel
theorem chk32:fnC τ An Sgs 32 sg32 Try.f32 (Try.f32.body.getD .skip)=true:=by decide+kernel
theorem chk33:fnC τ An Sgs 33 sg33 Try.f33 (Try.f33.body.getD .skip)=true:=by decide+kernel
theorem chk35:fnC τ An Sgs 35 sg35 Try.f35 (Try.f35.body.getD .skip)=true:=by decide+kernel
theorem chk36:fnC τ An Sgs 36 sg36 Try.f36 (Try.f36.body.getD .skip)=true:=by decide+kernel
theorem chk38:fnC τ An Sgs 38 sg38 Try.f38 (Try.f38.body.getD .skip)=true:=by decide+kernel
theorem chk39:fnC τ An Sgs 39 sg39 Try.f39 (Try.f39.body.getD .skip)=true:=by decide+kernel
theorem chk44:fnC τ An Sgs 44 sg44 Try.f44 (Try.f44.body.getD .skip)=true:=by decide+kernel
theorem chk45:fnC τ An Sgs 45 sg45 Try.f45 (Try.f45.body.getD .skip)=true:=by decide+kernel
theorem chk88:fnC τ An Sgs 88 sg88 Try.f88 (Try.f88.body.getD .skip)=true:=by decide+kernel
theorem chk100:fnC τ An Sgs 100 sg100 Try.f100 (Try.f100.body.getD .skip)=true:=by decide+kernel
theorem chk101:fnC τ An Sgs 101 sg101 Try.f101 (Try.f101.body.getD .skip)=true:=by decide+kernel
theorem chk102:fnC τ An Sgs 102 sg102 Try.f102 (Try.f102.body.getD .skip)=true:=by decide+kernel
theorem chk103:fnC τ An Sgs 103 sg103 Try.f103 (Try.f103.body.getD .skip)=true:=by decide+kernel
theorem chk104:fnC τ An Sgs 104 sg104 Try.f104 (Try.f104.body.getD .skip)=true:=by decide+kernel
theorem chk105:fnC τ An Sgs 105 sg105 Try.f105 (Try.f105.body.getD .skip)=true:=by decide+kernel
theorem chk106:fnC τ An Sgs 106 sg106 Try.f106 (Try.f106.body.getD .skip)=true:=by decide+kernel
theorem chk107:fnC τ An Sgs 107 sg107 Try.f107 (Try.f107.body.getD .skip)=true:=by decide+kernel
theorem chk108:fnC τ An Sgs 108 sg108 Try.f108 (Try.f108.body.getD .skip)=true:=by decide+kernel
theorem chk109:fnC τ An Sgs 109 sg109 Try.f109 (Try.f109.body.getD .skip)=true:=by decide+kernel
theorem chk110:fnC τ An Sgs 110 sg110 Try.f110 (Try.f110.body.getD .skip)=true:=by decide+kernel
theorem chk111:fnC τ An Sgs 111 sg111 Try.f111 (Try.f111.body.getD .skip)=true:=by decide+kernel
theorem chk112:fnC τ An Sgs 112 sg112 Try.f112 (Try.f112.body.getD .skip)=true:=by decide+kernel
theorem chk113:fnC τ An Sgs 113 sg113 Try.f113 (Try.f113.body.getD .skip)=true:=by decide+kernel
theorem chk114:fnC τ An Sgs 114 sg114 Try.f114 (Try.f114.body.getD .skip)=true:=by decide+kernel
theorem chk115:fnC τ An Sgs 115 sg115 Try.f115 (Try.f115.body.getD .skip)=true:=by decide+kernel
theorem chk116:fnC τ An Sgs 116 sg116 Try.f116 (Try.f116.body.getD .skip)=true:=by decide+kernel
theorem chk128:fnC τ An Sgs 128 sg128 Try.f128 (Try.f128.body.getD .skip)=true:=by decide+kernel
theorem chk129:fnC τ An Sgs 129 sg129 Try.f129 (Try.f129.body.getD .skip)=true:=by decide+kernel
theorem chk130:fnC τ An Sgs 130 sg130 Try.f130 (Try.f130.body.getD .skip)=true:=by decide+kernel
theorem chk131:fnC τ An Sgs 131 sg131 Try.f131 (Try.f131.body.getD .skip)=true:=by decide+kernel
theorem chk134:fnC τ An Sgs 134 sg134 Try.f134 (Try.f134.body.getD .skip)=true:=by decide+kernel
theorem chk138:fnC τ An Sgs 138 sg138 Try.f138 (Try.f138.body.getD .skip)=true:=by decide+kernel
theorem chk155:fnC τ An Sgs 155 sg155 Try.f155 (Try.f155.body.getD .skip)=true:=by decide+kernel
theorem chk159:fnC τ An Sgs 159 sg159 Try.f159 (Try.f159.body.getD .skip)=true:=by decide+kernel
theorem chk191:fnC τ An Sgs 191 sg191 Try.f191 (Try.f191.body.getD .skip)=true:=by decide+kernel
theorem chk192:fnC τ An Sgs 192 sg192 Try.f192 (Try.f192.body.getD .skip)=true:=by decide+kernel
theorem chk193:fnC τ An Sgs 193 sg193 Try.f193 (Try.f193.body.getD .skip)=true:=by decide+kernel
theorem chk194:fnC τ An Sgs 194 sg194 Try.f194 (Try.f194.body.getD .skip)=true:=by decide+kernel
theorem chk195:fnC τ An Sgs 195 sg195 Try.f195 (Try.f195.body.getD .skip)=true:=by decide+kernel
theorem chk196:fnC τ An Sgs 196 sg196 Try.f196 (Try.f196.body.getD .skip)=true:=by decide+kernel
theorem chk197:fnC τ An Sgs 197 sg197 Try.f197 (Try.f197.body.getD .skip)=true:=by decide+kernel
theorem chk198:fnC τ An Sgs 198 sg198 Try.f198 (Try.f198.body.getD .skip)=true:=by decide+kernel
theorem chk199:fnC τ An Sgs 199 sg199 Try.f199 (Try.f199.body.getD .skip)=true:=by decide+kernel
theorem chk212:fnC τ An Sgs 212 sg212 Try.f212 (Try.f212.body.getD .skip)=true:=by decide+kernel
theorem chk213:fnC τ An Sgs 213 sg213 Try.f213 (Try.f213.body.getD .skip)=true:=by decide+kernel
theorem chk214:fnC τ An Sgs 214 sg214 Try.f214 (Try.f214.body.getD .skip)=true:=by decide+kernel
theorem chk215:fnC τ An Sgs 215 sg215 Try.f215 (Try.f215.body.getD .skip)=true:=by decide+kernel
theorem chk216:fnC τ An Sgs 216 sg216 Try.f216 (Try.f216.body.getD .skip)=true:=by decide+kernel
theorem chk217:fnC τ An Sgs 217 sg217 Try.f217 (Try.f217.body.getD .skip)=true:=by decide+kernel
theorem chk220:fnC τ An Sgs 220 sg220 Try.f220 (Try.f220.body.getD .skip)=true:=by decide+kernel
theorem chk230:fnC τ An Sgs 230 sg230 Try.f230 (Try.f230.body.getD .skip)=true:=by decide+kernel
theorem chk237:fnC τ An Sgs 237 sg237 Try.f237 (Try.f237.body.getD .skip)=true:=by decide+kernel
theorem chk238:fnC τ An Sgs 238 sg238 Try.f238 (Try.f238.body.getD .skip)=true:=by decide+kernel
theorem chk256:fnC τ An Sgs 256 sg256 Try.f256 (Try.f256.body.getD .skip)=true:=by decide+kernel
theorem chk257:fnC τ An Sgs 257 sg257 Try.f257 (Try.f257.body.getD .skip)=true:=by decide+kernel
theorem chk258:fnC τ An Sgs 258 sg258 Try.f258 (Try.f258.body.getD .skip)=true:=by decide+kernel
theorem chk259:fnC τ An Sgs 259 sg259 Try.f259 (Try.f259.body.getD .skip)=true:=by decide+kernel
theorem chk260:fnC τ An Sgs 260 sg260 Try.f260 (Try.f260.body.getD .skip)=true:=by decide+kernel
theorem chk261:fnC τ An Sgs 261 sg261 Try.f261 (Try.f261.body.getD .skip)=true:=by decide+kernel
theorem chk262:fnC τ An Sgs 262 sg262 Try.f262 (Try.f262.body.getD .skip)=true:=by decide+kernel
theorem chk263:fnC τ An Sgs 263 sg263 Try.f263 (Try.f263.body.getD .skip)=true:=by decide+kernel
theorem chk268:fnC τ An Sgs 268 sg268 Try.f268 (Try.f268.body.getD .skip)=true:=by decide+kernel
theorem chk271:fnC τ An Sgs 271 sg271 Try.f271 (Try.f271.body.getD .skip)=true:=by decide+kernel
theorem chk272:fnC τ An Sgs 272 sg272 Try.f272 (Try.f272.body.getD .skip)=true:=by decide+kernel
theorem chk273:fnC τ An Sgs 273 sg273 Try.f273 (Try.f273.body.getD .skip)=true:=by decide+kernel
theorem chk274:fnC τ An Sgs 274 sg274 Try.f274 (Try.f274.body.getD .skip)=true:=by decide+kernel
theorem chk286:fnC τ An Sgs 286 sg286 Try.f286 (Try.f286.body.getD .skip)=true:=by decide+kernel
theorem chk288:fnC τ An Sgs 288 sg288 Try.f288 (Try.f288.body.getD .skip)=true:=by decide+kernel
theorem chk289:fnC τ An Sgs 289 sg289 Try.f289 (Try.f289.body.getD .skip)=true:=by decide+kernel
theorem chk290:fnC τ An Sgs 290 sg290 Try.f290 (Try.f290.body.getD .skip)=true:=by decide+kernel
theorem chk291:fnC τ An Sgs 291 sg291 Try.f291 (Try.f291.body.getD .skip)=true:=by decide+kernel
theorem chk292:fnC τ An Sgs 292 sg292 Try.f292 (Try.f292.body.getD .skip)=true:=by decide+kernel
theorem chk293:fnC τ An Sgs 293 sg293 Try.f293 (Try.f293.body.getD .skip)=true:=by decide+kernel
theorem chk298:fnC τ An Sgs 298 sg298 Try.f298 (Try.f298.body.getD .skip)=true:=by decide+kernel
theorem chk299:fnC τ An Sgs 299 sg299 Try.f299 (Try.f299.body.getD .skip)=true:=by decide+kernel
theorem chk301:fnC τ An Sgs 301 sg301 Try.f301 (Try.f301.body.getD .skip)=true:=by decide+kernel
theorem checked: ∀f sg,sg∈Sgs f→ ∀fn c,Try.prog.funcs[f]? =some fn→fn.body=some c→fnC τ An Sgs f sg fn c=true:=by
  intro f sg hs
  unfold Sgs at hs
  split at hs
  · exact one_sg chk5 Try.func5 hs
  · exact one_sg chk31 Try.func31 hs
  · exact one_sg chk32 Try.func32 hs
  · exact one_sg chk33 Try.func33 hs
  · exact one_sg chk34 Try.func34 hs
  · exact one_sg chk35 Try.func35 hs
  · exact one_sg chk36 Try.func36 hs
  · exact one_sg chk38 Try.func38 hs
  · exact one_sg chk39 Try.func39 hs
  · exact one_sg chk44 Try.func44 hs
  · exact one_sg chk45 Try.func45 hs
  · exact one_sg chk88 Try.func88 hs
  · exact one_sg chk100 Try.func100 hs
  · exact one_sg chk101 Try.func101 hs
  · exact one_sg chk102 Try.func102 hs
  · exact one_sg chk103 Try.func103 hs
  · exact one_sg chk104 Try.func104 hs
  · exact one_sg chk105 Try.func105 hs
  · exact one_sg chk106 Try.func106 hs
  · exact one_sg chk107 Try.func107 hs
  · exact one_sg chk108 Try.func108 hs
  · exact one_sg chk109 Try.func109 hs
  · exact one_sg chk110 Try.func110 hs
  · exact one_sg chk111 Try.func111 hs
  · exact one_sg chk112 Try.func112 hs
  · exact one_sg chk113 Try.func113 hs
  · exact one_sg chk114 Try.func114 hs
  · exact one_sg chk115 Try.func115 hs
  · exact one_sg chk116 Try.func116 hs
  · exact one_sg chk128 Try.func128 hs
  · exact one_sg chk129 Try.func129 hs
  · exact one_sg chk130 Try.func130 hs
  · exact one_sg chk131 Try.func131 hs
  · exact one_sg chk134 Try.func134 hs
  · exact one_sg chk138 Try.func138 hs
  · exact one_sg chk155 Try.func155 hs
  · exact one_sg chk159 Try.func159 hs
  · exact one_sg chk191 Try.func191 hs
  · exact one_sg chk192 Try.func192 hs
  · exact one_sg chk193 Try.func193 hs
  · exact one_sg chk194 Try.func194 hs
  · exact one_sg chk195 Try.func195 hs
  · exact one_sg chk196 Try.func196 hs
  · exact one_sg chk197 Try.func197 hs
  · exact one_sg chk198 Try.func198 hs
  · exact one_sg chk199 Try.func199 hs
  · exact one_sg chk212 Try.func212 hs
  · exact one_sg chk213 Try.func213 hs
  · exact one_sg chk214 Try.func214 hs
  · exact one_sg chk215 Try.func215 hs
  · exact one_sg chk216 Try.func216 hs
  · exact one_sg chk217 Try.func217 hs
  · exact one_sg chk220 Try.func220 hs
  · exact one_sg chk230 Try.func230 hs
  · exact one_sg chk237 Try.func237 hs
  · exact one_sg chk238 Try.func238 hs
  · exact one_sg chk256 Try.func256 hs
  · exact one_sg chk257 Try.func257 hs
  · exact one_sg chk258 Try.func258 hs
  · exact one_sg chk259 Try.func259 hs
  · exact one_sg chk260 Try.func260 hs
  · exact one_sg chk261 Try.func261 hs
  · exact one_sg chk262 Try.func262 hs
  · exact one_sg chk263 Try.func263 hs
  · exact one_sg chk268 Try.func268 hs
  · exact one_sg chk271 Try.func271 hs
  · exact one_sg chk272 Try.func272 hs
  · exact one_sg chk273 Try.func273 hs
  · exact one_sg chk274 Try.func274 hs
  · exact one_sg chk286 Try.func286 hs
  · exact one_sg chk288 Try.func288 hs
  · exact one_sg chk289 Try.func289 hs
  · exact one_sg chk290 Try.func290 hs
  · exact one_sg chk291 Try.func291 hs
  · exact one_sg chk292 Try.func292 hs
  · exact one_sg chk293 Try.func293 hs
  · exact one_sg chk298 Try.func298 hs
  · exact one_sg chk299 Try.func299 hs
  · exact one_sg chk301 Try.func301 hs
  · cases hs
end Go.Own
