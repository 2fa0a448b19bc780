/- Each function is checked. No conditions. -/
import Derived.Test.YtcchipmgpgeafaaW37A
import Derived.Test.YtcchipmgpgeafaaW37D
import Derived.Test.YtcchipmgpgeafaaW37D1
import Derived.Test.YtcchipmgpgeafaaW37D2
import Derived.Test.YtcchipmgpgeafaaW37D3
set_option linter.unusedVariables false
set_option linter.unusedSimpArgs false
set_option linter.unnecessarySimpa false
namespace Go.Own
open Go Go.Proofs
theorem checked: ∀f sg,sg∈Sgs f→ ∀fn c,Try.prog.funcs[f]? =some fn→fn.body=some c→fnC τ An Sgs f sg fn c=true:=by
  intro f sg hs; unfold Sgs at hs; split at hs
  · exact aS chk3 Try.func3 hs
  · exact aS chk4 Try.func4 hs
  · exact aS chk5 Try.func5 hs
  · exact aS chk6 Try.func6 hs
  · exact aS chk7 Try.func7 hs
  · exact aS chk8 Try.func8 hs
  · exact aS chk9 Try.func9 hs
  · exact aS chk10 Try.func10 hs
  · exact aS chk11 Try.func11 hs
  · exact aS chk12 Try.func12 hs
  · exact aS chk13 Try.func13 hs
  · exact aS chk14 Try.func14 hs
  · exact aS chk15 Try.func15 hs
  · exact aS chk16 Try.func16 hs
  · exact aS chk17 Try.func17 hs
  · exact aS chk18 Try.func18 hs
  · exact aS chk19 Try.func19 hs
  · exact aS chk20 Try.func20 hs
  · exact aS chk21 Try.func21 hs
  · exact aS chk22 Try.func22 hs
  · exact aS chk23 Try.func23 hs
  · exact aS chk24 Try.func24 hs
  · exact aS chk25 Try.func25 hs
  · exact aS chk26 Try.func26 hs
  · exact aS chk27 Try.func27 hs
  · exact aS chk28 Try.func28 hs
  · exact aS chk29 Try.func29 hs
  · exact aS chk30 Try.func30 hs
  · exact aS chk31 Try.func31 hs
  · exact aS chk32 Try.func32 hs
  · exact aS chk33 Try.func33 hs
  · exact aS chk34 Try.func34 hs
  · exact aS chk35 Try.func35 hs
  · exact aS chk36 Try.func36 hs
  · exact aS chk37 Try.func37 hs
  · exact aS chk38 Try.func38 hs
  · exact aS chk39 Try.func39 hs
  · exact aS chk40 Try.func40 hs
  · exact aS chk41 Try.func41 hs
  · exact aS chk42 Try.func42 hs
  · exact aS chk43 Try.func43 hs
  · exact aS chk44 Try.func44 hs
  · exact aS chk45 Try.func45 hs
  · exact aS chk46 Try.func46 hs
  · exact aS chk47 Try.func47 hs
  · exact aS chk48 Try.func48 hs
  · exact aS chk49 Try.func49 hs
  · exact aS chk50 Try.func50 hs
  · exact aS chk51 Try.func51 hs
  · exact aS chk52 Try.func52 hs
  · exact aS chk53 Try.func53 hs
  · exact aS chk54 Try.func54 hs
  · exact aS chk55 Try.func55 hs
  · exact aS chk56 Try.func56 hs
  · exact aS chk57 Try.func57 hs
  · exact aS chk58 Try.func58 hs
  · exact aS chk59 Try.func59 hs
  · exact aS chk60 Try.func60 hs
  · exact aS chk61 Try.func61 hs
  · exact aS chk62 Try.func62 hs
  · exact aS chk63 Try.func63 hs
  · exact aS chk64 Try.func64 hs
  · exact aS chk65 Try.func65 hs
  · exact aS chk66 Try.func66 hs
  · exact aS chk67 Try.func67 hs
  · exact aS chk68 Try.func68 hs
  · exact aS chk69 Try.func69 hs
  · exact aS chk70 Try.func70 hs
  · exact aS chk71 Try.func71 hs
  · exact aS chk72 Try.func72 hs
  · exact aS chk73 Try.func73 hs
  · exact aS chk74 Try.func74 hs
  · exact aS chk75 Try.func75 hs
  · exact aS chk76 Try.func76 hs
  · exact aS chk77 Try.func77 hs
  · exact aS chk78 Try.func78 hs
  · exact aS chk79 Try.func79 hs
  · exact aS chk80 Try.func80 hs
  · exact aS chk81 Try.func81 hs
  · exact aS chk82 Try.func82 hs
  · exact aS chk83 Try.func83 hs
  · exact aS chk84 Try.func84 hs
  · exact aS chk85 Try.func85 hs
  · exact aS chk86 Try.func86 hs
  · exact aS chk87 Try.func87 hs
  · exact aS chk88 Try.func88 hs
  · exact aS chk89 Try.func89 hs
  · exact aS chk90 Try.func90 hs
  · exact aS chk91 Try.func91 hs
  · exact aS chk92 Try.func92 hs
  · exact aS chk93 Try.func93 hs
  · exact aS chk94 Try.func94 hs
  · exact aS chk95 Try.func95 hs
  · exact aS chk96 Try.func96 hs
  · exact aS chk97 Try.func97 hs
  · exact aS chk98 Try.func98 hs
  · exact aS chk99 Try.func99 hs
  · exact aS Xg Try.func100 hs
  · exact aS Xf Try.func101 hs
  · cases hs
end Go.Own
