/- Functions are checked. No conditions. -/
import Derived.Test.YtloebajamceclaaW41A
set_option linter.unusedVariables false
set_option linter.unusedSimpArgs false
set_option linter.unnecessarySimpa false
namespace Go.Own
open Go Go.Proofs
theorem chk7:fnC τ An Sgs 7 sg7 Try.f7 (Try.f7.body.getD .skip)=true:=by decide+kernel
theorem chk32:fnC τ An Sgs 32 sg32 Try.f32 (Try.f32.body.getD .skip)=true:=by decide+kernel
theorem chk35:fnC τ An Sgs 35 sg35 Try.f35 (Try.f35.body.getD .skip)=true:=by decide+kernel
theorem chk39:fnC τ An Sgs 39 sg39 Try.f39 (Try.f39.body.getD .skip)=true:=by decide+kernel
theorem chk47:fnC τ An Sgs 47 sg47 Try.f47 (Try.f47.body.getD .skip)=true:=by decide+kernel
theorem chk53:fnC τ An Sgs 53 sg53 Try.f53 (Try.f53.body.getD .skip)=true:=by decide+kernel
theorem chk70:fnC τ An Sgs 70 sg70 Try.f70 (Try.f70.body.getD .skip)=true:=by decide+kernel
theorem chk73:fnC τ An Sgs 73 sg73 Try.f73 (Try.f73.body.getD .skip)=true:=by decide+kernel
theorem chk76:fnC τ An Sgs 76 sg76 Try.f76 (Try.f76.body.getD .skip)=true:=by decide+kernel
theorem chk79:fnC τ An Sgs 79 sg79 Try.f79 (Try.f79.body.getD .skip)=true:=by decide+kernel
theorem chk82:fnC τ An Sgs 82 sg82 Try.f82 (Try.f82.body.getD .skip)=true:=by decide+kernel
theorem chk85:fnC τ An Sgs 85 sg85 Try.f85 (Try.f85.body.getD .skip)=true:=by decide+kernel
theorem chk89:fnC τ An Sgs 89 sg89 Try.f89 (Try.f89.body.getD .skip)=true:=by decide+kernel
theorem Ze:fnC τ An Sgs 102 XR Try.f102 (Try.f102.body.getD .skip)=true:=by decide+kernel
theorem Zb:fnC τ An Sgs 110 XO Try.f110 (Try.f110.body.getD .skip)=true:=by decide+kernel
theorem ZY:fnC τ An Sgs 113 XL Try.f113 (Try.f113.body.getD .skip)=true:=by decide+kernel
theorem ZV:fnC τ An Sgs 116 XI Try.f116 (Try.f116.body.getD .skip)=true:=by decide+kernel
theorem ZS:fnC τ An Sgs 119 XF Try.f119 (Try.f119.body.getD .skip)=true:=by decide+kernel
theorem ZP:fnC τ An Sgs 122 XC Try.f122 (Try.f122.body.getD .skip)=true:=by decide+kernel
theorem ZM:fnC τ An Sgs 125 Wz Try.f125 (Try.f125.body.getD .skip)=true:=by decide+kernel
theorem ZJ:fnC τ An Sgs 128 Ww Try.f128 (Try.f128.body.getD .skip)=true:=by decide+kernel
theorem ZG:fnC τ An Sgs 139 Wt Try.f139 (Try.f139.body.getD .skip)=true:=by decide+kernel
theorem ZD:fnC τ An Sgs 142 Wq Try.f142 (Try.f142.body.getD .skip)=true:=by decide+kernel
theorem ZA:fnC τ An Sgs 145 Wm Try.f145 (Try.f145.body.getD .skip)=true:=by decide+kernel
theorem Yx:fnC τ An Sgs 148 Wj Try.f148 (Try.f148.body.getD .skip)=true:=by decide+kernel
theorem Yu:fnC τ An Sgs 151 Wg Try.f151 (Try.f151.body.getD .skip)=true:=by decide+kernel
theorem Yr:fnC τ An Sgs 154 Wc Try.f154 (Try.f154.body.getD .skip)=true:=by decide+kernel
theorem Yo:fnC τ An Sgs 159 WZ Try.f159 (Try.f159.body.getD .skip)=true:=by decide+kernel
theorem Yl:fnC τ An Sgs 162 WW Try.f162 (Try.f162.body.getD .skip)=true:=by decide+kernel
theorem Yi:fnC τ An Sgs 165 WT Try.f165 (Try.f165.body.getD .skip)=true:=by decide+kernel
theorem Yf:fnC τ An Sgs 169 WQ Try.f169 (Try.f169.body.getD .skip)=true:=by decide+kernel
end Go.Own
