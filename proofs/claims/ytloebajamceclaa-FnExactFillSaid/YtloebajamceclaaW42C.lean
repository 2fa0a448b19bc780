/- Each function is checked. No conditions. -/
import Derived.Test.YtloebajamceclaaW42A
import Derived.Test.YtloebajamceclaaW42D1
import Derived.Test.YtloebajamceclaaW42D2
import Derived.Test.YtloebajamceclaaW42D3
set_option linter.unusedVariables false
set_option linter.unusedSimpArgs false
set_option linter.unnecessarySimpa false
namespace Go.Own
open Go Go.Proofs
theorem checked: ∀f sg,sg∈Sgs f→ ∀fn c,Try.prog.funcs[f]? =some fn→fn.body=some c→fnC τ An Sgs f sg fn c=true:=by
  intro f sg hs; unfold Sgs at hs; split at hs
  · exact aU chk5 Try.func5 hs
  · exact aU chk7 Try.func7 hs
  · exact aU chk8 Try.func8 hs
  · exact aU chk10 Try.func10 hs
  · exact aU chk11 Try.func11 hs
  · exact aU chk13 Try.func13 hs
  · exact aU chk14 Try.func14 hs
  · exact aU chk15 Try.func15 hs
  · exact aU chk17 Try.func17 hs
  · exact aU chk19 Try.func19 hs
  · exact aU chk20 Try.func20 hs
  · exact aU chk26 Try.func26 hs
  · exact aU chk27 Try.func27 hs
  · exact aU chk28 Try.func28 hs
  · exact aU chk29 Try.func29 hs
  · exact aU chk30 Try.func30 hs
  · exact aU chk31 Try.func31 hs
  · exact aU chk39 Try.func39 hs
  · exact aU chk40 Try.func40 hs
  · exact aU chk41 Try.func41 hs
  · exact aU chk43 Try.func43 hs
  · exact aU chk44 Try.func44 hs
  · exact aU chk46 Try.func46 hs
  · exact aU chk47 Try.func47 hs
  · exact aU chk48 Try.func48 hs
  · exact aU chk49 Try.func49 hs
  · exact aU chk51 Try.func51 hs
  · exact aU chk52 Try.func52 hs
  · exact aU chk53 Try.func53 hs
  · exact aU chk54 Try.func54 hs
  · exact aU chk55 Try.func55 hs
  · exact aU chk62 Try.func62 hs
  · exact aU chk63 Try.func63 hs
  · exact aU chk65 Try.func65 hs
  · exact aU chk66 Try.func66 hs
  · exact aU chk67 Try.func67 hs
  · exact aU chk68 Try.func68 hs
  · exact aU chk69 Try.func69 hs
  · exact aU chk74 Try.func74 hs
  · exact aU chk79 Try.func79 hs
  · exact aU chk85 Try.func85 hs
  · exact aU chk86 Try.func86 hs
  · exact aU chk87 Try.func87 hs
  · exact aU chk88 Try.func88 hs
  · exact aU chk89 Try.func89 hs
  · exact aU chk90 Try.func90 hs
  · exact aU chk92 Try.func92 hs
  · exact aU chk93 Try.func93 hs
  · exact aU chk94 Try.func94 hs
  · exact aU XZ Try.func102 hs
  · exact aU XY Try.func103 hs
  · exact aU XX Try.func105 hs
  · exact aU XW Try.func106 hs
  · exact aU XV Try.func107 hs
  · exact aU XU Try.func112 hs
  · exact aU XT Try.func114 hs
  · exact aU XS Try.func115 hs
  · exact aU XR Try.func120 hs
  · exact aU XQ Try.func128 hs
  · exact aU XP Try.func129 hs
  · exact aU XO Try.func135 hs
  · exact aU XN Try.func136 hs
  · exact aU XM Try.func137 hs
  · exact aU XL Try.func138 hs
  · exact aU XK Try.func142 hs
  · exact aU XJ Try.func144 hs
  · exact aU XI Try.func145 hs
  · exact aU XH Try.func146 hs
  · exact aU XG Try.func148 hs
  · exact aU XF Try.func153 hs
  · exact aU XE Try.func154 hs
  · exact aU XD Try.func156 hs
  · exact aU XC Try.func157 hs
  · exact aU XB Try.func158 hs
  · exact aU XA Try.func163 hs
  · exact aU Wz Try.func164 hs
  · exact aU Wy Try.func165 hs
  · exact aU Wx Try.func167 hs
  · exact aU Ww Try.func168 hs
  · cases hs
end Go.Own
