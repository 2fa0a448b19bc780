/- Each function is checked. No conditions. -/
import Derived.Test.YtjfgchodolnmcaaW26A
set_option linter.unusedVariables false
set_option linter.unusedSimpArgs false
set_option linter.unnecessarySimpa false
namespace Go.Own
open Go Go.Proofs
theorem UQ:fnC τ An Sgs 294 Rq Try.f294 (Try.f294.body.getD .skip)=true:=by decide+kernel
end Go.Own
