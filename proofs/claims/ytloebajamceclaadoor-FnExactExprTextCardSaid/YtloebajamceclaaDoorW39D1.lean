/- Functions are checked. No conditions. -/
import Derived.Test.YtloebajamceclaaDoorW39A
set_option linter.unusedVariables false
set_option linter.unusedSimpArgs false
set_option linter.unnecessarySimpa false
namespace Go.Own
open Go Go.Proofs
theorem chk3:fnC τ An Sgs 3 sg3 Tryd.f3 (Tryd.f3.body.getD .skip)=true:=by decide+kernel
theorem chk7:fnC τ An Sgs 7 sg7 Tryd.f7 (Tryd.f7.body.getD .skip)=true:=by decide+kernel
theorem chk9:fnC τ An Sgs 9 sg9 Tryd.f9 (Tryd.f9.body.getD .skip)=true:=by decide+kernel
theorem chk15:fnC τ An Sgs 15 sg15 Tryd.f15 (Tryd.f15.body.getD .skip)=true:=by decide+kernel
theorem chk22:fnC τ An Sgs 22 sg22 Tryd.f22 (Tryd.f22.body.getD .skip)=true:=by decide+kernel
theorem chk24:fnC τ An Sgs 24 sg24 Tryd.f24 (Tryd.f24.body.getD .skip)=true:=by decide+kernel
theorem chk26:fnC τ An Sgs 26 sg26 Tryd.f26 (Tryd.f26.body.getD .skip)=true:=by decide+kernel
theorem chk28:fnC τ An Sgs 28 sg28 Tryd.f28 (Tryd.f28.body.getD .skip)=true:=by decide+kernel
theorem chk38:fnC τ An Sgs 38 sg38 Tryd.f38 (Tryd.f38.body.getD .skip)=true:=by decide+kernel
theorem chk47:fnC τ An Sgs 47 sg47 Tryd.f47 (Tryd.f47.body.getD .skip)=true:=by decide+kernel
theorem chk49:fnC τ An Sgs 49 sg49 Tryd.f49 (Tryd.f49.body.getD .skip)=true:=by decide+kernel
theorem chk51:fnC τ An Sgs 51 sg51 Tryd.f51 (Tryd.f51.body.getD .skip)=true:=by decide+kernel
theorem chk53:fnC τ An Sgs 53 sg53 Tryd.f53 (Tryd.f53.body.getD .skip)=true:=by decide+kernel
theorem chk61:fnC τ An Sgs 61 sg61 Tryd.f61 (Tryd.f61.body.getD .skip)=true:=by decide+kernel
theorem chk63:fnC τ An Sgs 63 sg63 Tryd.f63 (Tryd.f63.body.getD .skip)=true:=by decide+kernel
theorem chk72:fnC τ An Sgs 72 sg72 Tryd.f72 (Tryd.f72.body.getD .skip)=true:=by decide+kernel
theorem chk76:fnC τ An Sgs 76 sg76 Tryd.f76 (Tryd.f76.body.getD .skip)=true:=by decide+kernel
theorem chk78:fnC τ An Sgs 78 sg78 Tryd.f78 (Tryd.f78.body.getD .skip)=true:=by decide+kernel
theorem chk82:fnC τ An Sgs 82 sg82 Tryd.f82 (Tryd.f82.body.getD .skip)=true:=by decide+kernel
theorem chk87:fnC τ An Sgs 87 sg87 Tryd.f87 (Tryd.f87.body.getD .skip)=true:=by decide+kernel
theorem chk89:fnC τ An Sgs 89 sg89 Tryd.f89 (Tryd.f89.body.getD .skip)=true:=by decide+kernel
theorem chk94:fnC τ An Sgs 94 sg94 Tryd.f94 (Tryd.f94.body.getD .skip)=true:=by decide+kernel
theorem chk96:fnC τ An Sgs 96 sg96 Tryd.f96 (Tryd.f96.body.getD .skip)=true:=by decide+kernel
theorem chk98:fnC τ An Sgs 98 sg98 Tryd.f98 (Tryd.f98.body.getD .skip)=true:=by decide+kernel
theorem PV:fnC τ An Sgs 100 Nu Tryd.f100 (Tryd.f100.body.getD .skip)=true:=by decide+kernel
theorem PT:fnC τ An Sgs 107 Ns Tryd.f107 (Tryd.f107.body.getD .skip)=true:=by decide+kernel
end Go.Own
