/- Functions are checked. No conditions. -/
import Derived.Test.YtloebajamceclaaW38A
set_option linter.unusedVariables false
set_option linter.unusedSimpArgs false
set_option linter.unnecessarySimpa false
namespace Go.Own
open Go Go.Proofs
theorem Sj:fnC τ An Sgs 166 Qe Try.f166 (Try.f166.body.getD .skip)=true:=by decide+kernel
end Go.Own
