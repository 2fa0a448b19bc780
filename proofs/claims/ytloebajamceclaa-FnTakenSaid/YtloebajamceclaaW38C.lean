/- Each function is checked. No conditions. -/
import Derived.Test.YtloebajamceclaaW38A
import Derived.Test.YtloebajamceclaaW38D
import Derived.Test.YtloebajamceclaaW38D1
import Derived.Test.YtloebajamceclaaW38D2
import Derived.Test.YtloebajamceclaaW38D3
set_option linter.unusedVariables false
set_option linter.unusedSimpArgs false
set_option linter.unnecessarySimpa false
namespace Go.Own
open Go Go.Proofs
theorem checked: ∀f sg,sg∈Sgs f→ ∀fn c,Try.prog.funcs[f]? =some fn→fn.body=some c→fnC τ An Sgs f sg fn c=true:=by
  intro f sg hs; unfold Sgs at hs; split at hs
  · exact aT chk4 Try.func4 hs
  · exact aT chk9 Try.func9 hs
  · exact aT chk12 Try.func12 hs
  · exact aT chk21 Try.func21 hs
  · exact aT chk22 Try.func22 hs
  · exact aT chk23 Try.func23 hs
  · exact aT chk24 Try.func24 hs
  · exact aT chk25 Try.func25 hs
  · exact aT chk42 Try.func42 hs
  · exact aT chk43 Try.func43 hs
  · exact aT chk44 Try.func44 hs
  · exact aT chk45 Try.func45 hs
  · exact aT chk49 Try.func49 hs
  · exact aT chk50 Try.func50 hs
  · exact aT chk56 Try.func56 hs
  · exact aT chk57 Try.func57 hs
  · exact aT chk58 Try.func58 hs
  · exact aT chk59 Try.func59 hs
  · exact aT chk60 Try.func60 hs
  · exact aT chk61 Try.func61 hs
  · exact aT chk62 Try.func62 hs
  · exact aT chk63 Try.func63 hs
  · exact aT chk64 Try.func64 hs
  · exact aT chk74 Try.func74 hs
  · exact aT chk79 Try.func79 hs
  · exact aT chk86 Try.func86 hs
  · exact aT chk87 Try.func87 hs
  · exact aT chk88 Try.func88 hs
  · exact aT chk89 Try.func89 hs
  · exact aT chk90 Try.func90 hs
  · exact aT chk91 Try.func91 hs
  · exact aT chk93 Try.func93 hs
  · exact aT chk95 Try.func95 hs
  · exact aT chk96 Try.func96 hs
  · exact aT chk97 Try.func97 hs
  · exact aT chk98 Try.func98 hs
  · exact aT chk99 Try.func99 hs
  · exact aT TW Try.func100 hs
  · exact aT TV Try.func101 hs
  · exact aT TU Try.func102 hs
  · exact aT TT Try.func103 hs
  · exact aT TS Try.func104 hs
  · exact aT TR Try.func109 hs
  · exact aT TQ Try.func112 hs
  · exact aT TP Try.func114 hs
  · exact aT TO Try.func115 hs
  · exact aT TN Try.func120 hs
  · exact aT TM Try.func128 hs
  · exact aT TL Try.func129 hs
  · exact aT TJ Try.func130 hs
  · exact aT TH Try.func131 hs
  · exact aT TG Try.func132 hs
  · exact aT TF Try.func133 hs
  · exact aT TE Try.func134 hs
  · exact aT TD Try.func135 hs
  · exact aT TA Try.func136 hs
  · exact aT Sz Try.func137 hs
  · exact aT Sy Try.func142 hs
  · exact aT Sx Try.func144 hs
  · exact aT Sw Try.func145 hs
  · exact aT Sv Try.func146 hs
  · exact aT Su Try.func148 hs
  · exact aT Ss Try.func153 hs
  · exact aT Sr Try.func154 hs
  · exact aT Sq Try.func155 hs
  · exact aT Sp Try.func156 hs
  · exact aT So Try.func157 hs
  · exact aT Sn Try.func159 hs
  · exact aT Sm Try.func163 hs
  · exact aT Sl Try.func164 hs
  · exact aT Sk Try.func165 hs
  · exact aT Sj Try.func166 hs
  · exact aT Si Try.func167 hs
  · exact aT Sh Try.func168 hs
  · cases hs
end Go.Own
