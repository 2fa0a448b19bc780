/- Each function is checked. No conditions. -/
import Derived.Test.YtgeomhdbckjkcaaW22D
set_option linter.unusedVariables false
set_option linter.unusedSimpArgs false
set_option linter.unnecessarySimpa false
namespace Go.Own
open Go Go.Proofs
theorem chk10:fnC τ An Sgs 10 sg10 Try.f10 (Try.f10.body.getD .skip)=true:=by decide+kernel
theorem chk45:fnC τ An Sgs 45 sg45 Try.f45 (Try.f45.body.getD .skip)=true:=by decide+kernel
theorem chk48:fnC τ An Sgs 48 sg48 Try.f48 (Try.f48.body.getD .skip)=true:=by decide+kernel
theorem chk49:fnC τ An Sgs 49 sg49 Try.f49 (Try.f49.body.getD .skip)=true:=by decide+kernel
theorem chk51:fnC τ An Sgs 51 sg51 Try.f51 (Try.f51.body.getD .skip)=true:=by decide+kernel
theorem chk58:fnC τ An Sgs 58 sg58 Try.f58 (Try.f58.body.getD .skip)=true:=by decide+kernel
theorem chk59:fnC τ An Sgs 59 sg59 Try.f59 (Try.f59.body.getD .skip)=true:=by decide+kernel
theorem chk60:fnC τ An Sgs 60 sg60 Try.f60 (Try.f60.body.getD .skip)=true:=by decide+kernel
theorem chk61:fnC τ An Sgs 61 sg61 Try.f61 (Try.f61.body.getD .skip)=true:=by decide+kernel
theorem chk62:fnC τ An Sgs 62 sg62 Try.f62 (Try.f62.body.getD .skip)=true:=by decide+kernel
theorem chk69:fnC τ An Sgs 69 sg69 Try.f69 (Try.f69.body.getD .skip)=true:=by decide+kernel
theorem chk72:fnC τ An Sgs 72 sg72 Try.f72 (Try.f72.body.getD .skip)=true:=by decide+kernel
theorem chk75:fnC τ An Sgs 75 sg75 Try.f75 (Try.f75.body.getD .skip)=true:=by decide+kernel
theorem chk77:fnC τ An Sgs 77 sg77 Try.f77 (Try.f77.body.getD .skip)=true:=by decide+kernel
theorem chk96:fnC τ An Sgs 96 sg96 Try.f96 (Try.f96.body.getD .skip)=true:=by decide+kernel
theorem aBa:fnC τ An Sgs 107 Zd Try.f107 (Try.f107.body.getD .skip)=true:=by decide+kernel
theorem aBZ:fnC τ An Sgs 108 Zc Try.f108 (Try.f108.body.getD .skip)=true:=by decide+kernel
theorem aBY:fnC τ An Sgs 109 Zb Try.f109 (Try.f109.body.getD .skip)=true:=by decide+kernel
theorem aBX:fnC τ An Sgs 112 Za Try.f112 (Try.f112.body.getD .skip)=true:=by decide+kernel
theorem aBW:fnC τ An Sgs 118 ZZ Try.f118 (Try.f118.body.getD .skip)=true:=by decide+kernel
theorem aBV:fnC τ An Sgs 119 ZY Try.f119 (Try.f119.body.getD .skip)=true:=by decide+kernel
theorem aBU:fnC τ An Sgs 120 ZX Try.f120 (Try.f120.body.getD .skip)=true:=by decide+kernel
theorem aBT:fnC τ An Sgs 121 ZW Try.f121 (Try.f121.body.getD .skip)=true:=by decide+kernel
theorem aBS:fnC τ An Sgs 122 ZV Try.f122 (Try.f122.body.getD .skip)=true:=by decide+kernel
theorem aBR:fnC τ An Sgs 123 ZU Try.f123 (Try.f123.body.getD .skip)=true:=by decide+kernel
theorem aBQ:fnC τ An Sgs 124 ZT Try.f124 (Try.f124.body.getD .skip)=true:=by decide+kernel
theorem aBP:fnC τ An Sgs 128 ZS Try.f128 (Try.f128.body.getD .skip)=true:=by decide+kernel
theorem aBO:fnC τ An Sgs 129 ZR Try.f129 (Try.f129.body.getD .skip)=true:=by decide+kernel
theorem aBN:fnC τ An Sgs 130 ZQ Try.f130 (Try.f130.body.getD .skip)=true:=by decide+kernel
theorem aBM:fnC τ An Sgs 131 ZP Try.f131 (Try.f131.body.getD .skip)=true:=by decide+kernel
theorem aBL:fnC τ An Sgs 132 ZO Try.f132 (Try.f132.body.getD .skip)=true:=by decide+kernel
theorem aBK:fnC τ An Sgs 133 ZN Try.f133 (Try.f133.body.getD .skip)=true:=by decide+kernel
theorem aBJ:fnC τ An Sgs 134 ZM Try.f134 (Try.f134.body.getD .skip)=true:=by decide+kernel
theorem aBI:fnC τ An Sgs 156 ZL Try.f156 (Try.f156.body.getD .skip)=true:=by decide+kernel
theorem aBH:fnC τ An Sgs 182 ZK Try.f182 (Try.f182.body.getD .skip)=true:=by decide+kernel
theorem aBG:fnC τ An Sgs 183 ZJ Try.f183 (Try.f183.body.getD .skip)=true:=by decide+kernel
theorem aBF:fnC τ An Sgs 184 ZI Try.f184 (Try.f184.body.getD .skip)=true:=by decide+kernel
theorem aBE:fnC τ An Sgs 185 ZH Try.f185 (Try.f185.body.getD .skip)=true:=by decide+kernel
theorem aBD:fnC τ An Sgs 186 ZG Try.f186 (Try.f186.body.getD .skip)=true:=by decide+kernel
theorem aBC:fnC τ An Sgs 189 ZF Try.f189 (Try.f189.body.getD .skip)=true:=by decide+kernel
theorem aBB:fnC τ An Sgs 190 ZE Try.f190 (Try.f190.body.getD .skip)=true:=by decide+kernel
theorem aBA:fnC τ An Sgs 191 ZD Try.f191 (Try.f191.body.getD .skip)=true:=by decide+kernel
theorem aA9:fnC τ An Sgs 192 ZC Try.f192 (Try.f192.body.getD .skip)=true:=by decide+kernel
theorem aA8:fnC τ An Sgs 193 ZB Try.f193 (Try.f193.body.getD .skip)=true:=by decide+kernel
theorem aA7:fnC τ An Sgs 194 ZA Try.f194 (Try.f194.body.getD .skip)=true:=by decide+kernel
theorem aA6:fnC τ An Sgs 196 Yz Try.f196 (Try.f196.body.getD .skip)=true:=by decide+kernel
theorem aA5:fnC τ An Sgs 197 Yy Try.f197 (Try.f197.body.getD .skip)=true:=by decide+kernel
theorem aA4:fnC τ An Sgs 198 Yx Try.f198 (Try.f198.body.getD .skip)=true:=by decide+kernel
theorem aA3:fnC τ An Sgs 199 Yw Try.f199 (Try.f199.body.getD .skip)=true:=by decide+kernel
theorem aA2:fnC τ An Sgs 200 Yv Try.f200 (Try.f200.body.getD .skip)=true:=by decide+kernel
theorem aA1:fnC τ An Sgs 201 Yu Try.f201 (Try.f201.body.getD .skip)=true:=by decide+kernel
theorem aA0:fnC τ An Sgs 202 Yt Try.f202 (Try.f202.body.getD .skip)=true:=by decide+kernel
theorem aAz:fnC τ An Sgs 203 Ys Try.f203 (Try.f203.body.getD .skip)=true:=by decide+kernel
theorem aAy:fnC τ An Sgs 204 Yr Try.f204 (Try.f204.body.getD .skip)=true:=by decide+kernel
theorem aAx:fnC τ An Sgs 223 Yq Try.f223 (Try.f223.body.getD .skip)=true:=by decide+kernel
theorem aAw:fnC τ An Sgs 224 Yp Try.f224 (Try.f224.body.getD .skip)=true:=by decide+kernel
theorem aAv:fnC τ An Sgs 225 Yo Try.f225 (Try.f225.body.getD .skip)=true:=by decide+kernel
theorem aAu:fnC τ An Sgs 227 Yn Try.f227 (Try.f227.body.getD .skip)=true:=by decide+kernel
theorem aAt:fnC τ An Sgs 228 Ym Try.f228 (Try.f228.body.getD .skip)=true:=by decide+kernel
theorem aAs:fnC τ An Sgs 232 Yl Try.f232 (Try.f232.body.getD .skip)=true:=by decide+kernel
theorem aAr:fnC τ An Sgs 233 Yk Try.f233 (Try.f233.body.getD .skip)=true:=by decide+kernel
theorem aAq:fnC τ An Sgs 234 Yj Try.f234 (Try.f234.body.getD .skip)=true:=by decide+kernel
theorem aAp:fnC τ An Sgs 236 Yi Try.f236 (Try.f236.body.getD .skip)=true:=by decide+kernel
theorem aAo:fnC τ An Sgs 237 Yh Try.f237 (Try.f237.body.getD .skip)=true:=by decide+kernel
theorem aAn:fnC τ An Sgs 238 Yg Try.f238 (Try.f238.body.getD .skip)=true:=by decide+kernel
theorem aAm:fnC τ An Sgs 239 Yf Try.f239 (Try.f239.body.getD .skip)=true:=by decide+kernel
theorem aAl:fnC τ An Sgs 253 Ye Try.f253 (Try.f253.body.getD .skip)=true:=by decide+kernel
theorem aAk:fnC τ An Sgs 254 Yd Try.f254 (Try.f254.body.getD .skip)=true:=by decide+kernel
theorem aAj:fnC τ An Sgs 255 Yc Try.f255 (Try.f255.body.getD .skip)=true:=by decide+kernel
theorem aAi:fnC τ An Sgs 256 Yb Try.f256 (Try.f256.body.getD .skip)=true:=by decide+kernel
theorem aAh:fnC τ An Sgs 257 Ya Try.f257 (Try.f257.body.getD .skip)=true:=by decide+kernel
theorem aAg:fnC τ An Sgs 258 YZ Try.f258 (Try.f258.body.getD .skip)=true:=by decide+kernel
theorem aAf:fnC τ An Sgs 260 YY Try.f260 (Try.f260.body.getD .skip)=true:=by decide+kernel
theorem aAe:fnC τ An Sgs 261 YX Try.f261 (Try.f261.body.getD .skip)=true:=by decide+kernel
theorem aAc:fnC τ An Sgs 266 YV Try.f266 (Try.f266.body.getD .skip)=true:=by decide+kernel
theorem checked: ∀f sg,sg∈Sgs f→ ∀fn c,Try.prog.funcs[f]? =some fn→fn.body=some c→fnC τ An Sgs f sg fn c=true:=by
  intro f sg hs
  unfold Sgs at hs
  split at hs
  · exact aS chk10 Try.func10 hs
  · exact aS chk45 Try.func45 hs
  · exact aS chk48 Try.func48 hs
  · exact aS chk49 Try.func49 hs
  · exact aS chk51 Try.func51 hs
  · exact aS chk58 Try.func58 hs
  · exact aS chk59 Try.func59 hs
  · exact aS chk60 Try.func60 hs
  · exact aS chk61 Try.func61 hs
  · exact aS chk62 Try.func62 hs
  · exact aS chk69 Try.func69 hs
  · exact aS chk72 Try.func72 hs
  · exact aS chk75 Try.func75 hs
  · exact aS chk77 Try.func77 hs
  · exact aS chk96 Try.func96 hs
  · exact aS aBa Try.func107 hs
  · exact aS aBZ Try.func108 hs
  · exact aS aBY Try.func109 hs
  · exact aS aBX Try.func112 hs
  · exact aS aBW Try.func118 hs
  · exact aS aBV Try.func119 hs
  · exact aS aBU Try.func120 hs
  · exact aS aBT Try.func121 hs
  · exact aS aBS Try.func122 hs
  · exact aS aBR Try.func123 hs
  · exact aS aBQ Try.func124 hs
  · exact aS aBP Try.func128 hs
  · exact aS aBO Try.func129 hs
  · exact aS aBN Try.func130 hs
  · exact aS aBM Try.func131 hs
  · exact aS aBL Try.func132 hs
  · exact aS aBK Try.func133 hs
  · exact aS aBJ Try.func134 hs
  · exact aS aBI Try.func156 hs
  · exact aS aBH Try.func182 hs
  · exact aS aBG Try.func183 hs
  · exact aS aBF Try.func184 hs
  · exact aS aBE Try.func185 hs
  · exact aS aBD Try.func186 hs
  · exact aS aBC Try.func189 hs
  · exact aS aBB Try.func190 hs
  · exact aS aBA Try.func191 hs
  · exact aS aA9 Try.func192 hs
  · exact aS aA8 Try.func193 hs
  · exact aS aA7 Try.func194 hs
  · exact aS aA6 Try.func196 hs
  · exact aS aA5 Try.func197 hs
  · exact aS aA4 Try.func198 hs
  · exact aS aA3 Try.func199 hs
  · exact aS aA2 Try.func200 hs
  · exact aS aA1 Try.func201 hs
  · exact aS aA0 Try.func202 hs
  · exact aS aAz Try.func203 hs
  · exact aS aAy Try.func204 hs
  · exact aS aAx Try.func223 hs
  · exact aS aAw Try.func224 hs
  · exact aS aAv Try.func225 hs
  · exact aS aAu Try.func227 hs
  · exact aS aAt Try.func228 hs
  · exact aS aAs Try.func232 hs
  · exact aS aAr Try.func233 hs
  · exact aS aAq Try.func234 hs
  · exact aS aAp Try.func236 hs
  · exact aS aAo Try.func237 hs
  · exact aS aAn Try.func238 hs
  · exact aS aAm Try.func239 hs
  · exact aS aAl Try.func253 hs
  · exact aS aAk Try.func254 hs
  · exact aS aAj Try.func255 hs
  · exact aS aAi Try.func256 hs
  · exact aS aAh Try.func257 hs
  · exact aS aAg Try.func258 hs
  · exact aS aAf Try.func260 hs
  · exact aS aAe Try.func261 hs
  · exact aS aAd Try.func265 hs
  · exact aS aAc Try.func266 hs
  · cases hs
end Go.Own
