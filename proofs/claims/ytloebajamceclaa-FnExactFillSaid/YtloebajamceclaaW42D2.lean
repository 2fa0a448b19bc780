/- Functions are checked. No conditions. -/
import Derived.Test.YtloebajamceclaaW42A
set_option linter.unusedVariables false
set_option linter.unusedSimpArgs false
set_option linter.unnecessarySimpa false
namespace Go.Own
open Go Go.Proofs
theorem chk7:fnC τ An Sgs 7 sg7 Try.f7 (Try.f7.body.getD .skip)=true:=by decide+kernel
theorem chk11:fnC τ An Sgs 11 sg11 Try.f11 (Try.f11.body.getD .skip)=true:=by decide+kernel
theorem chk15:fnC τ An Sgs 15 sg15 Try.f15 (Try.f15.body.getD .skip)=true:=by decide+kernel
theorem chk20:fnC τ An Sgs 20 sg20 Try.f20 (Try.f20.body.getD .skip)=true:=by decide+kernel
theorem chk28:fnC τ An Sgs 28 sg28 Try.f28 (Try.f28.body.getD .skip)=true:=by decide+kernel
theorem chk31:fnC τ An Sgs 31 sg31 Try.f31 (Try.f31.body.getD .skip)=true:=by decide+kernel
theorem chk41:fnC τ An Sgs 41 sg41 Try.f41 (Try.f41.body.getD .skip)=true:=by decide+kernel
theorem chk46:fnC τ An Sgs 46 sg46 Try.f46 (Try.f46.body.getD .skip)=true:=by decide+kernel
theorem chk49:fnC τ An Sgs 49 sg49 Try.f49 (Try.f49.body.getD .skip)=true:=by decide+kernel
theorem chk53:fnC τ An Sgs 53 sg53 Try.f53 (Try.f53.body.getD .skip)=true:=by decide+kernel
theorem chk62:fnC τ An Sgs 62 sg62 Try.f62 (Try.f62.body.getD .skip)=true:=by decide+kernel
theorem chk66:fnC τ An Sgs 66 sg66 Try.f66 (Try.f66.body.getD .skip)=true:=by decide+kernel
theorem chk69:fnC τ An Sgs 69 sg69 Try.f69 (Try.f69.body.getD .skip)=true:=by decide+kernel
theorem chk85:fnC τ An Sgs 85 sg85 Try.f85 (Try.f85.body.getD .skip)=true:=by decide+kernel
theorem chk88:fnC τ An Sgs 88 sg88 Try.f88 (Try.f88.body.getD .skip)=true:=by decide+kernel
theorem chk92:fnC τ An Sgs 92 sg92 Try.f92 (Try.f92.body.getD .skip)=true:=by decide+kernel
theorem XZ:fnC τ An Sgs 102 VW Try.f102 (Try.f102.body.getD .skip)=true:=by decide+kernel
theorem XW:fnC τ An Sgs 106 VT Try.f106 (Try.f106.body.getD .skip)=true:=by decide+kernel
theorem XT:fnC τ An Sgs 114 VQ Try.f114 (Try.f114.body.getD .skip)=true:=by decide+kernel
theorem XQ:fnC τ An Sgs 128 VN Try.f128 (Try.f128.body.getD .skip)=true:=by decide+kernel
theorem XN:fnC τ An Sgs 136 VK Try.f136 (Try.f136.body.getD .skip)=true:=by decide+kernel
theorem XK:fnC τ An Sgs 142 VH Try.f142 (Try.f142.body.getD .skip)=true:=by decide+kernel
theorem XH:fnC τ An Sgs 146 VE Try.f146 (Try.f146.body.getD .skip)=true:=by decide+kernel
theorem XE:fnC τ An Sgs 154 VB Try.f154 (Try.f154.body.getD .skip)=true:=by decide+kernel
theorem XB:fnC τ An Sgs 158 Uy Try.f158 (Try.f158.body.getD .skip)=true:=by decide+kernel
theorem Wy:fnC τ An Sgs 165 Uv Try.f165 (Try.f165.body.getD .skip)=true:=by decide+kernel
end Go.Own
