/- Each function is checked. No conditions. -/
import Derived.Test.YtloebajamceclaaDoorW40A
import Derived.Test.YtloebajamceclaaDoorW40D
import Derived.Test.YtloebajamceclaaDoorW40D1
import Derived.Test.YtloebajamceclaaDoorW40D2
set_option linter.unusedVariables false
set_option linter.unusedSimpArgs false
set_option linter.unnecessarySimpa false
namespace Go.Own
open Go Go.Proofs
theorem checked: ∀f sg,sg∈Sgs f→ ∀fn c,Tryd.prog.funcs[f]? =some fn→fn.body=some c→fnC τ An Sgs f sg fn c=true:=by
  intro f sg hs; unfold Sgs at hs; split at hs
  · exact aV chk4 Tryd.func4 hs
  · exact aV chk9 Tryd.func9 hs
  · exact aV chk11 Tryd.func11 hs
  · exact aV chk12 Tryd.func12 hs
  · exact aV chk13 Tryd.func13 hs
  · exact aV chk14 Tryd.func14 hs
  · exact aV chk15 Tryd.func15 hs
  · exact aV chk26 Tryd.func26 hs
  · exact aV chk27 Tryd.func27 hs
  · exact aV chk30 Tryd.func30 hs
  · exact aV chk31 Tryd.func31 hs
  · exact aV chk32 Tryd.func32 hs
  · exact aV chk33 Tryd.func33 hs
  · exact aV chk34 Tryd.func34 hs
  · exact aV chk35 Tryd.func35 hs
  · exact aV chk36 Tryd.func36 hs
  · exact aV chk37 Tryd.func37 hs
  · exact aV chk38 Tryd.func38 hs
  · exact aV chk44 Tryd.func44 hs
  · exact aV chk51 Tryd.func51 hs
  · exact aV chk52 Tryd.func52 hs
  · exact aV chk53 Tryd.func53 hs
  · exact aV chk55 Tryd.func55 hs
  · exact aV chk56 Tryd.func56 hs
  · exact aV chk57 Tryd.func57 hs
  · exact aV chk58 Tryd.func58 hs
  · exact aV chk59 Tryd.func59 hs
  · exact aV chk60 Tryd.func60 hs
  · exact aV chk61 Tryd.func61 hs
  · exact aV chk62 Tryd.func62 hs
  · exact aV chk63 Tryd.func63 hs
  · exact aV chk71 Tryd.func71 hs
  · exact aV chk72 Tryd.func72 hs
  · exact aV chk74 Tryd.func74 hs
  · exact aV chk75 Tryd.func75 hs
  · exact aV chk76 Tryd.func76 hs
  · exact aV chk77 Tryd.func77 hs
  · exact aV chk78 Tryd.func78 hs
  · exact aV chk79 Tryd.func79 hs
  · exact aV chk82 Tryd.func82 hs
  · exact aV chk83 Tryd.func83 hs
  · exact aV chk87 Tryd.func87 hs
  · exact aV chk88 Tryd.func88 hs
  · exact aV chk89 Tryd.func89 hs
  · exact aV chk91 Tryd.func91 hs
  · exact aV chk92 Tryd.func92 hs
  · exact aV chk93 Tryd.func93 hs
  · exact aV chk94 Tryd.func94 hs
  · exact aV chk95 Tryd.func95 hs
  · exact aV chk96 Tryd.func96 hs
  · exact aV chk97 Tryd.func97 hs
  · exact aV chk98 Tryd.func98 hs
  · exact aV chk99 Tryd.func99 hs
  · exact aV Ps Tryd.func100 hs
  · exact aV Pr Tryd.func102 hs
  · exact aV Pq Tryd.func107 hs
  · exact aV Pp Tryd.func108 hs
  · cases hs
end Go.Own
