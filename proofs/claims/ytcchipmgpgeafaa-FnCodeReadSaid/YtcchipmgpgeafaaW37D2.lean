/- Functions are checked. No conditions. -/
import Derived.Test.YtcchipmgpgeafaaW37A
set_option linter.unusedVariables false
set_option linter.unusedSimpArgs false
set_option linter.unnecessarySimpa false
namespace Go.Own
open Go Go.Proofs
theorem chk4:fnC τ An Sgs 4 sg4 Try.f4 (Try.f4.body.getD .skip)=true:=by decide+kernel
theorem chk7:fnC τ An Sgs 7 sg7 Try.f7 (Try.f7.body.getD .skip)=true:=by decide+kernel
theorem chk10:fnC τ An Sgs 10 sg10 Try.f10 (Try.f10.body.getD .skip)=true:=by decide+kernel
theorem chk13:fnC τ An Sgs 13 sg13 Try.f13 (Try.f13.body.getD .skip)=true:=by decide+kernel
theorem chk16:fnC τ An Sgs 16 sg16 Try.f16 (Try.f16.body.getD .skip)=true:=by decide+kernel
theorem chk19:fnC τ An Sgs 19 sg19 Try.f19 (Try.f19.body.getD .skip)=true:=by decide+kernel
theorem chk22:fnC τ An Sgs 22 sg22 Try.f22 (Try.f22.body.getD .skip)=true:=by decide+kernel
theorem chk25:fnC τ An Sgs 25 sg25 Try.f25 (Try.f25.body.getD .skip)=true:=by decide+kernel
theorem chk28:fnC τ An Sgs 28 sg28 Try.f28 (Try.f28.body.getD .skip)=true:=by decide+kernel
theorem chk31:fnC τ An Sgs 31 sg31 Try.f31 (Try.f31.body.getD .skip)=true:=by decide+kernel
theorem chk34:fnC τ An Sgs 34 sg34 Try.f34 (Try.f34.body.getD .skip)=true:=by decide+kernel
theorem chk37:fnC τ An Sgs 37 sg37 Try.f37 (Try.f37.body.getD .skip)=true:=by decide+kernel
theorem chk40:fnC τ An Sgs 40 sg40 Try.f40 (Try.f40.body.getD .skip)=true:=by decide+kernel
theorem chk43:fnC τ An Sgs 43 sg43 Try.f43 (Try.f43.body.getD .skip)=true:=by decide+kernel
theorem chk46:fnC τ An Sgs 46 sg46 Try.f46 (Try.f46.body.getD .skip)=true:=by decide+kernel
theorem chk49:fnC τ An Sgs 49 sg49 Try.f49 (Try.f49.body.getD .skip)=true:=by decide+kernel
theorem chk52:fnC τ An Sgs 52 sg52 Try.f52 (Try.f52.body.getD .skip)=true:=by decide+kernel
theorem chk55:fnC τ An Sgs 55 sg55 Try.f55 (Try.f55.body.getD .skip)=true:=by decide+kernel
theorem chk58:fnC τ An Sgs 58 sg58 Try.f58 (Try.f58.body.getD .skip)=true:=by decide+kernel
theorem chk61:fnC τ An Sgs 61 sg61 Try.f61 (Try.f61.body.getD .skip)=true:=by decide+kernel
theorem chk64:fnC τ An Sgs 64 sg64 Try.f64 (Try.f64.body.getD .skip)=true:=by decide+kernel
theorem chk67:fnC τ An Sgs 67 sg67 Try.f67 (Try.f67.body.getD .skip)=true:=by decide+kernel
theorem chk71:fnC τ An Sgs 71 sg71 Try.f71 (Try.f71.body.getD .skip)=true:=by decide+kernel
theorem chk74:fnC τ An Sgs 74 sg74 Try.f74 (Try.f74.body.getD .skip)=true:=by decide+kernel
theorem chk77:fnC τ An Sgs 77 sg77 Try.f77 (Try.f77.body.getD .skip)=true:=by decide+kernel
theorem chk80:fnC τ An Sgs 80 sg80 Try.f80 (Try.f80.body.getD .skip)=true:=by decide+kernel
theorem chk83:fnC τ An Sgs 83 sg83 Try.f83 (Try.f83.body.getD .skip)=true:=by decide+kernel
theorem chk86:fnC τ An Sgs 86 sg86 Try.f86 (Try.f86.body.getD .skip)=true:=by decide+kernel
theorem chk89:fnC τ An Sgs 89 sg89 Try.f89 (Try.f89.body.getD .skip)=true:=by decide+kernel
theorem chk92:fnC τ An Sgs 92 sg92 Try.f92 (Try.f92.body.getD .skip)=true:=by decide+kernel
theorem chk95:fnC τ An Sgs 95 sg95 Try.f95 (Try.f95.body.getD .skip)=true:=by decide+kernel
theorem chk98:fnC τ An Sgs 98 sg98 Try.f98 (Try.f98.body.getD .skip)=true:=by decide+kernel
theorem Xf:fnC τ An Sgs 101 WD Try.f101 (Try.f101.body.getD .skip)=true:=by decide+kernel
end Go.Own
