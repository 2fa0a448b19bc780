/- Functions are checked. No conditions. -/
import Derived.Test.YtcchipmgpgeafaaW37A
set_option linter.unusedVariables false
set_option linter.unusedSimpArgs false
set_option linter.unnecessarySimpa false
namespace Go.Own
open Go Go.Proofs
theorem chk5:fnC τ An Sgs 5 sg5 Try.f5 (Try.f5.body.getD .skip)=true:=by decide+kernel
theorem chk8:fnC τ An Sgs 8 sg8 Try.f8 (Try.f8.body.getD .skip)=true:=by decide+kernel
theorem chk11:fnC τ An Sgs 11 sg11 Try.f11 (Try.f11.body.getD .skip)=true:=by decide+kernel
theorem chk14:fnC τ An Sgs 14 sg14 Try.f14 (Try.f14.body.getD .skip)=true:=by decide+kernel
theorem chk17:fnC τ An Sgs 17 sg17 Try.f17 (Try.f17.body.getD .skip)=true:=by decide+kernel
theorem chk20:fnC τ An Sgs 20 sg20 Try.f20 (Try.f20.body.getD .skip)=true:=by decide+kernel
theorem chk23:fnC τ An Sgs 23 sg23 Try.f23 (Try.f23.body.getD .skip)=true:=by decide+kernel
theorem chk26:fnC τ An Sgs 26 sg26 Try.f26 (Try.f26.body.getD .skip)=true:=by decide+kernel
theorem chk29:fnC τ An Sgs 29 sg29 Try.f29 (Try.f29.body.getD .skip)=true:=by decide+kernel
theorem chk32:fnC τ An Sgs 32 sg32 Try.f32 (Try.f32.body.getD .skip)=true:=by decide+kernel
theorem chk35:fnC τ An Sgs 35 sg35 Try.f35 (Try.f35.body.getD .skip)=true:=by decide+kernel
theorem chk38:fnC τ An Sgs 38 sg38 Try.f38 (Try.f38.body.getD .skip)=true:=by decide+kernel
theorem chk41:fnC τ An Sgs 41 sg41 Try.f41 (Try.f41.body.getD .skip)=true:=by decide+kernel
theorem chk44:fnC τ An Sgs 44 sg44 Try.f44 (Try.f44.body.getD .skip)=true:=by decide+kernel
theorem chk47:fnC τ An Sgs 47 sg47 Try.f47 (Try.f47.body.getD .skip)=true:=by decide+kernel
theorem chk50:fnC τ An Sgs 50 sg50 Try.f50 (Try.f50.body.getD .skip)=true:=by decide+kernel
theorem chk53:fnC τ An Sgs 53 sg53 Try.f53 (Try.f53.body.getD .skip)=true:=by decide+kernel
theorem chk56:fnC τ An Sgs 56 sg56 Try.f56 (Try.f56.body.getD .skip)=true:=by decide+kernel
theorem chk59:fnC τ An Sgs 59 sg59 Try.f59 (Try.f59.body.getD .skip)=true:=by decide+kernel
theorem chk62:fnC τ An Sgs 62 sg62 Try.f62 (Try.f62.body.getD .skip)=true:=by decide+kernel
theorem chk65:fnC τ An Sgs 65 sg65 Try.f65 (Try.f65.body.getD .skip)=true:=by decide+kernel
theorem chk68:fnC τ An Sgs 68 sg68 Try.f68 (Try.f68.body.getD .skip)=true:=by decide+kernel
theorem chk72:fnC τ An Sgs 72 sg72 Try.f72 (Try.f72.body.getD .skip)=true:=by decide+kernel
theorem chk75:fnC τ An Sgs 75 sg75 Try.f75 (Try.f75.body.getD .skip)=true:=by decide+kernel
theorem chk78:fnC τ An Sgs 78 sg78 Try.f78 (Try.f78.body.getD .skip)=true:=by decide+kernel
theorem chk81:fnC τ An Sgs 81 sg81 Try.f81 (Try.f81.body.getD .skip)=true:=by decide+kernel
theorem chk84:fnC τ An Sgs 84 sg84 Try.f84 (Try.f84.body.getD .skip)=true:=by decide+kernel
theorem chk87:fnC τ An Sgs 87 sg87 Try.f87 (Try.f87.body.getD .skip)=true:=by decide+kernel
theorem chk90:fnC τ An Sgs 90 sg90 Try.f90 (Try.f90.body.getD .skip)=true:=by decide+kernel
theorem chk93:fnC τ An Sgs 93 sg93 Try.f93 (Try.f93.body.getD .skip)=true:=by decide+kernel
theorem chk96:fnC τ An Sgs 96 sg96 Try.f96 (Try.f96.body.getD .skip)=true:=by decide+kernel
theorem chk99:fnC τ An Sgs 99 sg99 Try.f99 (Try.f99.body.getD .skip)=true:=by decide+kernel
end Go.Own
