/- Functions are checked. No conditions. -/
import Derived.Test.YtloebajamceclaaW38A
set_option linter.unusedVariables false
set_option linter.unusedSimpArgs false
set_option linter.unnecessarySimpa false
namespace Go.Own
open Go Go.Proofs
theorem chk12:fnC τ An Sgs 12 sg12 Try.f12 (Try.f12.body.getD .skip)=true:=by decide+kernel
theorem chk23:fnC τ An Sgs 23 sg23 Try.f23 (Try.f23.body.getD .skip)=true:=by decide+kernel
theorem chk42:fnC τ An Sgs 42 sg42 Try.f42 (Try.f42.body.getD .skip)=true:=by decide+kernel
theorem chk45:fnC τ An Sgs 45 sg45 Try.f45 (Try.f45.body.getD .skip)=true:=by decide+kernel
theorem chk56:fnC τ An Sgs 56 sg56 Try.f56 (Try.f56.body.getD .skip)=true:=by decide+kernel
theorem chk59:fnC τ An Sgs 59 sg59 Try.f59 (Try.f59.body.getD .skip)=true:=by decide+kernel
theorem chk62:fnC τ An Sgs 62 sg62 Try.f62 (Try.f62.body.getD .skip)=true:=by decide+kernel
theorem chk74:fnC τ An Sgs 74 sg74 Try.f74 (Try.f74.body.getD .skip)=true:=by decide+kernel
theorem chk87:fnC τ An Sgs 87 sg87 Try.f87 (Try.f87.body.getD .skip)=true:=by decide+kernel
theorem chk90:fnC τ An Sgs 90 sg90 Try.f90 (Try.f90.body.getD .skip)=true:=by decide+kernel
theorem chk95:fnC τ An Sgs 95 sg95 Try.f95 (Try.f95.body.getD .skip)=true:=by decide+kernel
theorem chk98:fnC τ An Sgs 98 sg98 Try.f98 (Try.f98.body.getD .skip)=true:=by decide+kernel
theorem TV:fnC τ An Sgs 101 RL Try.f101 (Try.f101.body.getD .skip)=true:=by decide+kernel
theorem TS:fnC τ An Sgs 104 RI Try.f104 (Try.f104.body.getD .skip)=true:=by decide+kernel
theorem TP:fnC τ An Sgs 114 RF Try.f114 (Try.f114.body.getD .skip)=true:=by decide+kernel
theorem TM:fnC τ An Sgs 128 RC Try.f128 (Try.f128.body.getD .skip)=true:=by decide+kernel
theorem TH:fnC τ An Sgs 131 Qz Try.f131 (Try.f131.body.getD .skip)=true:=by decide+kernel
theorem TE:fnC τ An Sgs 134 Qw Try.f134 (Try.f134.body.getD .skip)=true:=by decide+kernel
theorem Sz:fnC τ An Sgs 137 Qt Try.f137 (Try.f137.body.getD .skip)=true:=by decide+kernel
theorem Sw:fnC τ An Sgs 145 Qq Try.f145 (Try.f145.body.getD .skip)=true:=by decide+kernel
theorem Ss:fnC τ An Sgs 153 Qn Try.f153 (Try.f153.body.getD .skip)=true:=by decide+kernel
theorem Sp:fnC τ An Sgs 156 Qk Try.f156 (Try.f156.body.getD .skip)=true:=by decide+kernel
theorem Sm:fnC τ An Sgs 163 Qh Try.f163 (Try.f163.body.getD .skip)=true:=by decide+kernel
theorem Si:fnC τ An Sgs 167 Qd Try.f167 (Try.f167.body.getD .skip)=true:=by decide+kernel
end Go.Own
