/- Functions are checked. No conditions. -/
import Derived.Test.YtloebajamceclaaW42A
set_option linter.unusedVariables false
set_option linter.unusedSimpArgs false
set_option linter.unnecessarySimpa false
namespace Go.Own
open Go Go.Proofs
theorem chk5:fnC τ An Sgs 5 sg5 Try.f5 (Try.f5.body.getD .skip)=true:=by decide+kernel
theorem chk10:fnC τ An Sgs 10 sg10 Try.f10 (Try.f10.body.getD .skip)=true:=by decide+kernel
theorem chk14:fnC τ An Sgs 14 sg14 Try.f14 (Try.f14.body.getD .skip)=true:=by decide+kernel
theorem chk19:fnC τ An Sgs 19 sg19 Try.f19 (Try.f19.body.getD .skip)=true:=by decide+kernel
theorem chk27:fnC τ An Sgs 27 sg27 Try.f27 (Try.f27.body.getD .skip)=true:=by decide+kernel
theorem chk30:fnC τ An Sgs 30 sg30 Try.f30 (Try.f30.body.getD .skip)=true:=by decide+kernel
theorem chk40:fnC τ An Sgs 40 sg40 Try.f40 (Try.f40.body.getD .skip)=true:=by decide+kernel
theorem chk44:fnC τ An Sgs 44 sg44 Try.f44 (Try.f44.body.getD .skip)=true:=by decide+kernel
theorem chk48:fnC τ An Sgs 48 sg48 Try.f48 (Try.f48.body.getD .skip)=true:=by decide+kernel
theorem chk52:fnC τ An Sgs 52 sg52 Try.f52 (Try.f52.body.getD .skip)=true:=by decide+kernel
theorem chk55:fnC τ An Sgs 55 sg55 Try.f55 (Try.f55.body.getD .skip)=true:=by decide+kernel
theorem chk65:fnC τ An Sgs 65 sg65 Try.f65 (Try.f65.body.getD .skip)=true:=by decide+kernel
theorem chk68:fnC τ An Sgs 68 sg68 Try.f68 (Try.f68.body.getD .skip)=true:=by decide+kernel
theorem chk79:fnC τ An Sgs 79 sg79 Try.f79 (Try.f79.body.getD .skip)=true:=by decide+kernel
theorem chk87:fnC τ An Sgs 87 sg87 Try.f87 (Try.f87.body.getD .skip)=true:=by decide+kernel
theorem chk90:fnC τ An Sgs 90 sg90 Try.f90 (Try.f90.body.getD .skip)=true:=by decide+kernel
theorem chk94:fnC τ An Sgs 94 sg94 Try.f94 (Try.f94.body.getD .skip)=true:=by decide+kernel
theorem XX:fnC τ An Sgs 105 VU Try.f105 (Try.f105.body.getD .skip)=true:=by decide+kernel
theorem XU:fnC τ An Sgs 112 VR Try.f112 (Try.f112.body.getD .skip)=true:=by decide+kernel
theorem XR:fnC τ An Sgs 120 VO Try.f120 (Try.f120.body.getD .skip)=true:=by decide+kernel
theorem XO:fnC τ An Sgs 135 VL Try.f135 (Try.f135.body.getD .skip)=true:=by decide+kernel
theorem XL:fnC τ An Sgs 138 VI Try.f138 (Try.f138.body.getD .skip)=true:=by decide+kernel
theorem XI:fnC τ An Sgs 145 VF Try.f145 (Try.f145.body.getD .skip)=true:=by decide+kernel
theorem XF:fnC τ An Sgs 153 VC Try.f153 (Try.f153.body.getD .skip)=true:=by decide+kernel
theorem XC:fnC τ An Sgs 157 Uz Try.f157 (Try.f157.body.getD .skip)=true:=by decide+kernel
theorem Wz:fnC τ An Sgs 164 Uw Try.f164 (Try.f164.body.getD .skip)=true:=by decide+kernel
theorem Ww:fnC τ An Sgs 168 Ut Try.f168 (Try.f168.body.getD .skip)=true:=by decide+kernel
end Go.Own
