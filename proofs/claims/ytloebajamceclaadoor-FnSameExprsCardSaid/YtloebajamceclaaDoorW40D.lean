/- Functions are checked. No conditions. -/
import Derived.Test.YtloebajamceclaaDoorW40A
set_option linter.unusedVariables false
set_option linter.unusedSimpArgs false
set_option linter.unnecessarySimpa false
namespace Go.Own
open Go Go.Proofs
theorem chk74:fnC τ An Sgs 74 sg74 Tryd.f74 (Tryd.f74.body.getD .skip)=true:=by decide+kernel
end Go.Own
