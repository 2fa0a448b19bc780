/- Functions are checked. No conditions. -/
import Derived.Test.YtloebajamceclaaW38A
set_option linter.unusedVariables false
set_option linter.unusedSimpArgs false
set_option linter.unnecessarySimpa false
namespace Go.Own
open Go Go.Proofs
theorem chk9:fnC τ An Sgs 9 sg9 Try.f9 (Try.f9.body.getD .skip)=true:=by decide+kernel
theorem chk22:fnC τ An Sgs 22 sg22 Try.f22 (Try.f22.body.getD .skip)=true:=by decide+kernel
theorem chk25:fnC τ An Sgs 25 sg25 Try.f25 (Try.f25.body.getD .skip)=true:=by decide+kernel
theorem chk44:fnC τ An Sgs 44 sg44 Try.f44 (Try.f44.body.getD .skip)=true:=by decide+kernel
theorem chk50:fnC τ An Sgs 50 sg50 Try.f50 (Try.f50.body.getD .skip)=true:=by decide+kernel
theorem chk58:fnC τ An Sgs 58 sg58 Try.f58 (Try.f58.body.getD .skip)=true:=by decide+kernel
theorem chk61:fnC τ An Sgs 61 sg61 Try.f61 (Try.f61.body.getD .skip)=true:=by decide+kernel
theorem chk64:fnC τ An Sgs 64 sg64 Try.f64 (Try.f64.body.getD .skip)=true:=by decide+kernel
theorem chk86:fnC τ An Sgs 86 sg86 Try.f86 (Try.f86.body.getD .skip)=true:=by decide+kernel
theorem chk89:fnC τ An Sgs 89 sg89 Try.f89 (Try.f89.body.getD .skip)=true:=by decide+kernel
theorem chk93:fnC τ An Sgs 93 sg93 Try.f93 (Try.f93.body.getD .skip)=true:=by decide+kernel
theorem chk97:fnC τ An Sgs 97 sg97 Try.f97 (Try.f97.body.getD .skip)=true:=by decide+kernel
theorem TW:fnC τ An Sgs 100 RM Try.f100 (Try.f100.body.getD .skip)=true:=by decide+kernel
theorem TT:fnC τ An Sgs 103 RJ Try.f103 (Try.f103.body.getD .skip)=true:=by decide+kernel
theorem TQ:fnC τ An Sgs 112 RG Try.f112 (Try.f112.body.getD .skip)=true:=by decide+kernel
theorem TN:fnC τ An Sgs 120 RD Try.f120 (Try.f120.body.getD .skip)=true:=by decide+kernel
theorem TJ:fnC τ An Sgs 130 RA Try.f130 (Try.f130.body.getD .skip)=true:=by decide+kernel
theorem TF:fnC τ An Sgs 133 Qx Try.f133 (Try.f133.body.getD .skip)=true:=by decide+kernel
theorem TA:fnC τ An Sgs 136 Qu Try.f136 (Try.f136.body.getD .skip)=true:=by decide+kernel
theorem Sx:fnC τ An Sgs 144 Qr Try.f144 (Try.f144.body.getD .skip)=true:=by decide+kernel
theorem Su:fnC τ An Sgs 148 Qo Try.f148 (Try.f148.body.getD .skip)=true:=by decide+kernel
theorem Sq:fnC τ An Sgs 155 Ql Try.f155 (Try.f155.body.getD .skip)=true:=by decide+kernel
theorem Sn:fnC τ An Sgs 159 Qi Try.f159 (Try.f159.body.getD .skip)=true:=by decide+kernel
theorem Sk:fnC τ An Sgs 165 Qf Try.f165 (Try.f165.body.getD .skip)=true:=by decide+kernel
end Go.Own
