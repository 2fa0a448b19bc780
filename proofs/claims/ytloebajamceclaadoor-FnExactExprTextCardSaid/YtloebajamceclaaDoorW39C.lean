/- Each function is checked. No conditions. -/
import Derived.Test.YtloebajamceclaaDoorW39A
import Derived.Test.YtloebajamceclaaDoorW39D1
import Derived.Test.YtloebajamceclaaDoorW39D2
set_option linter.unusedVariables false
set_option linter.unusedSimpArgs false
set_option linter.unnecessarySimpa false
namespace Go.Own
open Go Go.Proofs
theorem checked: ∀f sg,sg∈Sgs f→ ∀fn c,Tryd.prog.funcs[f]? =some fn→fn.body=some c→fnC τ An Sgs f sg fn c=true:=by
  intro f sg hs; unfold Sgs at hs; split at hs
  · exact aZ chk3 Tryd.func3 hs
  · exact aZ chk6 Tryd.func6 hs
  · exact aZ chk7 Tryd.func7 hs
  · exact aZ chk8 Tryd.func8 hs
  · exact aZ chk9 Tryd.func9 hs
  · exact aZ chk10 Tryd.func10 hs
  · exact aZ chk15 Tryd.func15 hs
  · exact aZ chk21 Tryd.func21 hs
  · exact aZ chk22 Tryd.func22 hs
  · exact aZ chk23 Tryd.func23 hs
  · exact aZ chk24 Tryd.func24 hs
  · exact aZ chk25 Tryd.func25 hs
  · exact aZ chk26 Tryd.func26 hs
  · exact aZ chk27 Tryd.func27 hs
  · exact aZ chk28 Tryd.func28 hs
  · exact aZ chk29 Tryd.func29 hs
  · exact aZ chk38 Tryd.func38 hs
  · exact aZ chk44 Tryd.func44 hs
  · exact aZ chk47 Tryd.func47 hs
  · exact aZ chk48 Tryd.func48 hs
  · exact aZ chk49 Tryd.func49 hs
  · exact aZ chk50 Tryd.func50 hs
  · exact aZ chk51 Tryd.func51 hs
  · exact aZ chk52 Tryd.func52 hs
  · exact aZ chk53 Tryd.func53 hs
  · exact aZ chk54 Tryd.func54 hs
  · exact aZ chk61 Tryd.func61 hs
  · exact aZ chk62 Tryd.func62 hs
  · exact aZ chk63 Tryd.func63 hs
  · exact aZ chk71 Tryd.func71 hs
  · exact aZ chk72 Tryd.func72 hs
  · exact aZ chk75 Tryd.func75 hs
  · exact aZ chk76 Tryd.func76 hs
  · exact aZ chk77 Tryd.func77 hs
  · exact aZ chk78 Tryd.func78 hs
  · exact aZ chk79 Tryd.func79 hs
  · exact aZ chk82 Tryd.func82 hs
  · exact aZ chk83 Tryd.func83 hs
  · exact aZ chk87 Tryd.func87 hs
  · exact aZ chk88 Tryd.func88 hs
  · exact aZ chk89 Tryd.func89 hs
  · exact aZ chk93 Tryd.func93 hs
  · exact aZ chk94 Tryd.func94 hs
  · exact aZ chk95 Tryd.func95 hs
  · exact aZ chk96 Tryd.func96 hs
  · exact aZ chk97 Tryd.func97 hs
  · exact aZ chk98 Tryd.func98 hs
  · exact aZ chk99 Tryd.func99 hs
  · exact aZ PV Tryd.func100 hs
  · exact aZ PU Tryd.func102 hs
  · exact aZ PT Tryd.func107 hs
  · exact aZ PS Tryd.func108 hs
  · cases hs
end Go.Own
