/- Functions are checked. No conditions. -/
import Derived.Test.YtcchipmgpgeafaaW37A
set_option linter.unusedVariables false
set_option linter.unusedSimpArgs false
set_option linter.unnecessarySimpa false
namespace Go.Own
open Go Go.Proofs
theorem chk70:fnC τ An Sgs 70 sg70 Try.f70 (Try.f70.body.getD .skip)=true:=by decide+kernel
end Go.Own
