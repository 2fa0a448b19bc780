/- Functions are checked. No conditions. -/
import Derived.Test.YtloebajamceclaaW38A
set_option linter.unusedVariables false
set_option linter.unusedSimpArgs false
set_option linter.unnecessarySimpa false
namespace Go.Own
open Go Go.Proofs
theorem chk4:fnC τ An Sgs 4 sg4 Try.f4 (Try.f4.body.getD .skip)=true:=by decide+kernel
theorem chk21:fnC τ An Sgs 21 sg21 Try.f21 (Try.f21.body.getD .skip)=true:=by decide+kernel
theorem chk24:fnC τ An Sgs 24 sg24 Try.f24 (Try.f24.body.getD .skip)=true:=by decide+kernel
theorem chk43:fnC τ An Sgs 43 sg43 Try.f43 (Try.f43.body.getD .skip)=true:=by decide+kernel
theorem chk49:fnC τ An Sgs 49 sg49 Try.f49 (Try.f49.body.getD .skip)=true:=by decide+kernel
theorem chk57:fnC τ An Sgs 57 sg57 Try.f57 (Try.f57.body.getD .skip)=true:=by decide+kernel
theorem chk60:fnC τ An Sgs 60 sg60 Try.f60 (Try.f60.body.getD .skip)=true:=by decide+kernel
theorem chk63:fnC τ An Sgs 63 sg63 Try.f63 (Try.f63.body.getD .skip)=true:=by decide+kernel
theorem chk79:fnC τ An Sgs 79 sg79 Try.f79 (Try.f79.body.getD .skip)=true:=by decide+kernel
theorem chk88:fnC τ An Sgs 88 sg88 Try.f88 (Try.f88.body.getD .skip)=true:=by decide+kernel
theorem chk91:fnC τ An Sgs 91 sg91 Try.f91 (Try.f91.body.getD .skip)=true:=by decide+kernel
theorem chk96:fnC τ An Sgs 96 sg96 Try.f96 (Try.f96.body.getD .skip)=true:=by decide+kernel
theorem chk99:fnC τ An Sgs 99 sg99 Try.f99 (Try.f99.body.getD .skip)=true:=by decide+kernel
theorem TU:fnC τ An Sgs 102 RK Try.f102 (Try.f102.body.getD .skip)=true:=by decide+kernel
theorem TR:fnC τ An Sgs 109 RH Try.f109 (Try.f109.body.getD .skip)=true:=by decide+kernel
theorem TO:fnC τ An Sgs 115 RE Try.f115 (Try.f115.body.getD .skip)=true:=by decide+kernel
theorem TL:fnC τ An Sgs 129 RB Try.f129 (Try.f129.body.getD .skip)=true:=by decide+kernel
theorem TG:fnC τ An Sgs 132 Qy Try.f132 (Try.f132.body.getD .skip)=true:=by decide+kernel
theorem TD:fnC τ An Sgs 135 Qv Try.f135 (Try.f135.body.getD .skip)=true:=by decide+kernel
theorem Sy:fnC τ An Sgs 142 Qs Try.f142 (Try.f142.body.getD .skip)=true:=by decide+kernel
theorem Sv:fnC τ An Sgs 146 Qp Try.f146 (Try.f146.body.getD .skip)=true:=by decide+kernel
theorem Sr:fnC τ An Sgs 154 Qm Try.f154 (Try.f154.body.getD .skip)=true:=by decide+kernel
theorem So:fnC τ An Sgs 157 Qj Try.f157 (Try.f157.body.getD .skip)=true:=by decide+kernel
theorem Sl:fnC τ An Sgs 164 Qg Try.f164 (Try.f164.body.getD .skip)=true:=by decide+kernel
theorem Sh:fnC τ An Sgs 168 Qc Try.f168 (Try.f168.body.getD .skip)=true:=by decide+kernel
end Go.Own
