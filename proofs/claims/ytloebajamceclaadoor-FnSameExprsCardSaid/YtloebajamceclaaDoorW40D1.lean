/- Functions are checked. No conditions. -/
import Derived.Test.YtloebajamceclaaDoorW40A
set_option linter.unusedVariables false
set_option linter.unusedSimpArgs false
set_option linter.unnecessarySimpa false
namespace Go.Own
open Go Go.Proofs
theorem chk4:fnC τ An Sgs 4 sg4 Tryd.f4 (Tryd.f4.body.getD .skip)=true:=by decide+kernel
theorem chk11:fnC τ An Sgs 11 sg11 Tryd.f11 (Tryd.f11.body.getD .skip)=true:=by decide+kernel
theorem chk13:fnC τ An Sgs 13 sg13 Tryd.f13 (Tryd.f13.body.getD .skip)=true:=by decide+kernel
theorem chk15:fnC τ An Sgs 15 sg15 Tryd.f15 (Tryd.f15.body.getD .skip)=true:=by decide+kernel
theorem chk27:fnC τ An Sgs 27 sg27 Tryd.f27 (Tryd.f27.body.getD .skip)=true:=by decide+kernel
theorem chk31:fnC τ An Sgs 31 sg31 Tryd.f31 (Tryd.f31.body.getD .skip)=true:=by decide+kernel
theorem chk33:fnC τ An Sgs 33 sg33 Tryd.f33 (Tryd.f33.body.getD .skip)=true:=by decide+kernel
theorem chk35:fnC τ An Sgs 35 sg35 Tryd.f35 (Tryd.f35.body.getD .skip)=true:=by decide+kernel
theorem chk37:fnC τ An Sgs 37 sg37 Tryd.f37 (Tryd.f37.body.getD .skip)=true:=by decide+kernel
theorem chk44:fnC τ An Sgs 44 sg44 Tryd.f44 (Tryd.f44.body.getD .skip)=true:=by decide+kernel
theorem chk52:fnC τ An Sgs 52 sg52 Tryd.f52 (Tryd.f52.body.getD .skip)=true:=by decide+kernel
theorem chk55:fnC τ An Sgs 55 sg55 Tryd.f55 (Tryd.f55.body.getD .skip)=true:=by decide+kernel
theorem chk57:fnC τ An Sgs 57 sg57 Tryd.f57 (Tryd.f57.body.getD .skip)=true:=by decide+kernel
theorem chk59:fnC τ An Sgs 59 sg59 Tryd.f59 (Tryd.f59.body.getD .skip)=true:=by decide+kernel
theorem chk61:fnC τ An Sgs 61 sg61 Tryd.f61 (Tryd.f61.body.getD .skip)=true:=by decide+kernel
theorem chk63:fnC τ An Sgs 63 sg63 Tryd.f63 (Tryd.f63.body.getD .skip)=true:=by decide+kernel
theorem chk72:fnC τ An Sgs 72 sg72 Tryd.f72 (Tryd.f72.body.getD .skip)=true:=by decide+kernel
theorem chk76:fnC τ An Sgs 76 sg76 Tryd.f76 (Tryd.f76.body.getD .skip)=true:=by decide+kernel
theorem chk78:fnC τ An Sgs 78 sg78 Tryd.f78 (Tryd.f78.body.getD .skip)=true:=by decide+kernel
theorem chk82:fnC τ An Sgs 82 sg82 Tryd.f82 (Tryd.f82.body.getD .skip)=true:=by decide+kernel
theorem chk87:fnC τ An Sgs 87 sg87 Tryd.f87 (Tryd.f87.body.getD .skip)=true:=by decide+kernel
theorem chk89:fnC τ An Sgs 89 sg89 Tryd.f89 (Tryd.f89.body.getD .skip)=true:=by decide+kernel
theorem chk92:fnC τ An Sgs 92 sg92 Tryd.f92 (Tryd.f92.body.getD .skip)=true:=by decide+kernel
theorem chk94:fnC τ An Sgs 94 sg94 Tryd.f94 (Tryd.f94.body.getD .skip)=true:=by decide+kernel
theorem chk96:fnC τ An Sgs 96 sg96 Tryd.f96 (Tryd.f96.body.getD .skip)=true:=by decide+kernel
theorem chk98:fnC τ An Sgs 98 sg98 Tryd.f98 (Tryd.f98.body.getD .skip)=true:=by decide+kernel
theorem Ps:fnC τ An Sgs 100 OS Tryd.f100 (Tryd.f100.body.getD .skip)=true:=by decide+kernel
theorem Pq:fnC τ An Sgs 107 OP Tryd.f107 (Tryd.f107.body.getD .skip)=true:=by decide+kernel
end Go.Own
