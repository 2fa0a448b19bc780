/- Each function is checked. No conditions. -/
import Derived.Test.YtloebajamceclaaW41A
import Derived.Test.YtloebajamceclaaW41D1
import Derived.Test.YtloebajamceclaaW41D2
import Derived.Test.YtloebajamceclaaW41D3
set_option linter.unusedVariables false
set_option linter.unusedSimpArgs false
set_option linter.unnecessarySimpa false
namespace Go.Own
open Go Go.Proofs
theorem checked: ∀f sg,sg∈Sgs f→ ∀fn c,Try.prog.funcs[f]? =some fn→fn.body=some c→fnC τ An Sgs f sg fn c=true:=by
  intro f sg hs; unfold Sgs at hs; split at hs
  · exact aQ chk6 Try.func6 hs
  · exact aQ chk7 Try.func7 hs
  · exact aQ chk10 Try.func10 hs
  · exact aQ chk15 Try.func15 hs
  · exact aQ chk32 Try.func32 hs
  · exact aQ chk33 Try.func33 hs
  · exact aQ chk34 Try.func34 hs
  · exact aQ chk35 Try.func35 hs
  · exact aQ chk36 Try.func36 hs
  · exact aQ chk38 Try.func38 hs
  · exact aQ chk39 Try.func39 hs
  · exact aQ chk40 Try.func40 hs
  · exact aQ chk46 Try.func46 hs
  · exact aQ chk47 Try.func47 hs
  · exact aQ chk51 Try.func51 hs
  · exact aQ chk52 Try.func52 hs
  · exact aQ chk53 Try.func53 hs
  · exact aQ chk54 Try.func54 hs
  · exact aQ chk55 Try.func55 hs
  · exact aQ chk70 Try.func70 hs
  · exact aQ chk71 Try.func71 hs
  · exact aQ chk72 Try.func72 hs
  · exact aQ chk73 Try.func73 hs
  · exact aQ chk74 Try.func74 hs
  · exact aQ chk75 Try.func75 hs
  · exact aQ chk76 Try.func76 hs
  · exact aQ chk77 Try.func77 hs
  · exact aQ chk78 Try.func78 hs
  · exact aQ chk79 Try.func79 hs
  · exact aQ chk80 Try.func80 hs
  · exact aQ chk81 Try.func81 hs
  · exact aQ chk82 Try.func82 hs
  · exact aQ chk83 Try.func83 hs
  · exact aQ chk84 Try.func84 hs
  · exact aQ chk85 Try.func85 hs
  · exact aQ chk87 Try.func87 hs
  · exact aQ chk88 Try.func88 hs
  · exact aQ chk89 Try.func89 hs
  · exact aQ chk92 Try.func92 hs
  · exact aQ chk94 Try.func94 hs
  · exact aQ Ze Try.func102 hs
  · exact aQ Zd Try.func108 hs
  · exact aQ Zc Try.func109 hs
  · exact aQ Zb Try.func110 hs
  · exact aQ Za Try.func111 hs
  · exact aQ ZZ Try.func112 hs
  · exact aQ ZY Try.func113 hs
  · exact aQ ZX Try.func114 hs
  · exact aQ ZW Try.func115 hs
  · exact aQ ZV Try.func116 hs
  · exact aQ ZU Try.func117 hs
  · exact aQ ZT Try.func118 hs
  · exact aQ ZS Try.func119 hs
  · exact aQ ZR Try.func120 hs
  · exact aQ ZQ Try.func121 hs
  · exact aQ ZP Try.func122 hs
  · exact aQ ZO Try.func123 hs
  · exact aQ ZN Try.func124 hs
  · exact aQ ZM Try.func125 hs
  · exact aQ ZL Try.func126 hs
  · exact aQ ZK Try.func127 hs
  · exact aQ ZJ Try.func128 hs
  · exact aQ ZI Try.func135 hs
  · exact aQ ZH Try.func136 hs
  · exact aQ ZG Try.func139 hs
  · exact aQ ZF Try.func140 hs
  · exact aQ ZE Try.func141 hs
  · exact aQ ZD Try.func142 hs
  · exact aQ ZC Try.func143 hs
  · exact aQ ZB Try.func144 hs
  · exact aQ ZA Try.func145 hs
  · exact aQ Yz Try.func146 hs
  · exact aQ Yy Try.func147 hs
  · exact aQ Yx Try.func148 hs
  · exact aQ Yw Try.func149 hs
  · exact aQ Yv Try.func150 hs
  · exact aQ Yu Try.func151 hs
  · exact aQ Yt Try.func152 hs
  · exact aQ Ys Try.func153 hs
  · exact aQ Yr Try.func154 hs
  · exact aQ Yq Try.func156 hs
  · exact aQ Yp Try.func157 hs
  · exact aQ Yo Try.func159 hs
  · exact aQ Yn Try.func160 hs
  · exact aQ Ym Try.func161 hs
  · exact aQ Yl Try.func162 hs
  · exact aQ Yk Try.func163 hs
  · exact aQ Yj Try.func164 hs
  · exact aQ Yi Try.func165 hs
  · exact aQ Yh Try.func167 hs
  · exact aQ Yg Try.func168 hs
  · exact aQ Yf Try.func169 hs
  · cases hs
end Go.Own
