/- Functions are checked. No conditions. -/
import Derived.Test.YtcchipmgpgeafaaW37A
set_option linter.unusedVariables false
set_option linter.unusedSimpArgs false
set_option linter.unnecessarySimpa false
namespace Go.Own
open Go Go.Proofs
theorem chk3:fnC τ An Sgs 3 sg3 Try.f3 (Try.f3.body.getD .skip)=true:=by decide+kernel
theorem chk6:fnC τ An Sgs 6 sg6 Try.f6 (Try.f6.body.getD .skip)=true:=by decide+kernel
theorem chk9:fnC τ An Sgs 9 sg9 Try.f9 (Try.f9.body.getD .skip)=true:=by decide+kernel
theorem chk12:fnC τ An Sgs 12 sg12 Try.f12 (Try.f12.body.getD .skip)=true:=by decide+kernel
theorem chk15:fnC τ An Sgs 15 sg15 Try.f15 (Try.f15.body.getD .skip)=true:=by decide+kernel
theorem chk18:fnC τ An Sgs 18 sg18 Try.f18 (Try.f18.body.getD .skip)=true:=by decide+kernel
theorem chk21:fnC τ An Sgs 21 sg21 Try.f21 (Try.f21.body.getD .skip)=true:=by decide+kernel
theorem chk24:fnC τ An Sgs 24 sg24 Try.f24 (Try.f24.body.getD .skip)=true:=by decide+kernel
theorem chk27:fnC τ An Sgs 27 sg27 Try.f27 (Try.f27.body.getD .skip)=true:=by decide+kernel
theorem chk30:fnC τ An Sgs 30 sg30 Try.f30 (Try.f30.body.getD .skip)=true:=by decide+kernel
theorem chk33:fnC τ An Sgs 33 sg33 Try.f33 (Try.f33.body.getD .skip)=true:=by decide+kernel
theorem chk36:fnC τ An Sgs 36 sg36 Try.f36 (Try.f36.body.getD .skip)=true:=by decide+kernel
theorem chk39:fnC τ An Sgs 39 sg39 Try.f39 (Try.f39.body.getD .skip)=true:=by decide+kernel
theorem chk42:fnC τ An Sgs 42 sg42 Try.f42 (Try.f42.body.getD .skip)=true:=by decide+kernel
theorem chk45:fnC τ An Sgs 45 sg45 Try.f45 (Try.f45.body.getD .skip)=true:=by decide+kernel
theorem chk48:fnC τ An Sgs 48 sg48 Try.f48 (Try.f48.body.getD .skip)=true:=by decide+kernel
theorem chk51:fnC τ An Sgs 51 sg51 Try.f51 (Try.f51.body.getD .skip)=true:=by decide+kernel
theorem chk54:fnC τ An Sgs 54 sg54 Try.f54 (Try.f54.body.getD .skip)=true:=by decide+kernel
theorem chk57:fnC τ An Sgs 57 sg57 Try.f57 (Try.f57.body.getD .skip)=true:=by decide+kernel
theorem chk60:fnC τ An Sgs 60 sg60 Try.f60 (Try.f60.body.getD .skip)=true:=by decide+kernel
theorem chk63:fnC τ An Sgs 63 sg63 Try.f63 (Try.f63.body.getD .skip)=true:=by decide+kernel
theorem chk66:fnC τ An Sgs 66 sg66 Try.f66 (Try.f66.body.getD .skip)=true:=by decide+kernel
theorem chk69:fnC τ An Sgs 69 sg69 Try.f69 (Try.f69.body.getD .skip)=true:=by decide+kernel
theorem chk73:fnC τ An Sgs 73 sg73 Try.f73 (Try.f73.body.getD .skip)=true:=by decide+kernel
theorem chk76:fnC τ An Sgs 76 sg76 Try.f76 (Try.f76.body.getD .skip)=true:=by decide+kernel
theorem chk79:fnC τ An Sgs 79 sg79 Try.f79 (Try.f79.body.getD .skip)=true:=by decide+kernel
theorem chk82:fnC τ An Sgs 82 sg82 Try.f82 (Try.f82.body.getD .skip)=true:=by decide+kernel
theorem chk85:fnC τ An Sgs 85 sg85 Try.f85 (Try.f85.body.getD .skip)=true:=by decide+kernel
theorem chk88:fnC τ An Sgs 88 sg88 Try.f88 (Try.f88.body.getD .skip)=true:=by decide+kernel
theorem chk91:fnC τ An Sgs 91 sg91 Try.f91 (Try.f91.body.getD .skip)=true:=by decide+kernel
theorem chk94:fnC τ An Sgs 94 sg94 Try.f94 (Try.f94.body.getD .skip)=true:=by decide+kernel
theorem chk97:fnC τ An Sgs 97 sg97 Try.f97 (Try.f97.body.getD .skip)=true:=by decide+kernel
theorem Xg:fnC τ An Sgs 100 WE Try.f100 (Try.f100.body.getD .skip)=true:=by decide+kernel
end Go.Own
