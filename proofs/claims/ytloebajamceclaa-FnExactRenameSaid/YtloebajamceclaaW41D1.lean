/- Functions are checked. No conditions. -/
import Derived.Test.YtloebajamceclaaW41A
set_option linter.unusedVariables false
set_option linter.unusedSimpArgs false
set_option linter.unnecessarySimpa false
namespace Go.Own
open Go Go.Proofs
theorem chk6:fnC τ An Sgs 6 sg6 Try.f6 (Try.f6.body.getD .skip)=true:=by decide+kernel
theorem chk15:fnC τ An Sgs 15 sg15 Try.f15 (Try.f15.body.getD .skip)=true:=by decide+kernel
theorem chk34:fnC τ An Sgs 34 sg34 Try.f34 (Try.f34.body.getD .skip)=true:=by decide+kernel
theorem chk38:fnC τ An Sgs 38 sg38 Try.f38 (Try.f38.body.getD .skip)=true:=by decide+kernel
theorem chk46:fnC τ An Sgs 46 sg46 Try.f46 (Try.f46.body.getD .skip)=true:=by decide+kernel
theorem chk52:fnC τ An Sgs 52 sg52 Try.f52 (Try.f52.body.getD .skip)=true:=by decide+kernel
theorem chk55:fnC τ An Sgs 55 sg55 Try.f55 (Try.f55.body.getD .skip)=true:=by decide+kernel
theorem chk72:fnC τ An Sgs 72 sg72 Try.f72 (Try.f72.body.getD .skip)=true:=by decide+kernel
theorem chk75:fnC τ An Sgs 75 sg75 Try.f75 (Try.f75.body.getD .skip)=true:=by decide+kernel
theorem chk78:fnC τ An Sgs 78 sg78 Try.f78 (Try.f78.body.getD .skip)=true:=by decide+kernel
theorem chk81:fnC τ An Sgs 81 sg81 Try.f81 (Try.f81.body.getD .skip)=true:=by decide+kernel
theorem chk84:fnC τ An Sgs 84 sg84 Try.f84 (Try.f84.body.getD .skip)=true:=by decide+kernel
theorem chk88:fnC τ An Sgs 88 sg88 Try.f88 (Try.f88.body.getD .skip)=true:=by decide+kernel
theorem chk94:fnC τ An Sgs 94 sg94 Try.f94 (Try.f94.body.getD .skip)=true:=by decide+kernel
theorem Zc:fnC τ An Sgs 109 XP Try.f109 (Try.f109.body.getD .skip)=true:=by decide+kernel
theorem ZZ:fnC τ An Sgs 112 XM Try.f112 (Try.f112.body.getD .skip)=true:=by decide+kernel
theorem ZW:fnC τ An Sgs 115 XJ Try.f115 (Try.f115.body.getD .skip)=true:=by decide+kernel
theorem ZT:fnC τ An Sgs 118 XG Try.f118 (Try.f118.body.getD .skip)=true:=by decide+kernel
theorem ZQ:fnC τ An Sgs 121 XD Try.f121 (Try.f121.body.getD .skip)=true:=by decide+kernel
theorem ZN:fnC τ An Sgs 124 XA Try.f124 (Try.f124.body.getD .skip)=true:=by decide+kernel
theorem ZK:fnC τ An Sgs 127 Wx Try.f127 (Try.f127.body.getD .skip)=true:=by decide+kernel
theorem ZH:fnC τ An Sgs 136 Wu Try.f136 (Try.f136.body.getD .skip)=true:=by decide+kernel
theorem ZE:fnC τ An Sgs 141 Wr Try.f141 (Try.f141.body.getD .skip)=true:=by decide+kernel
theorem ZB:fnC τ An Sgs 144 Wn Try.f144 (Try.f144.body.getD .skip)=true:=by decide+kernel
theorem Yy:fnC τ An Sgs 147 Wk Try.f147 (Try.f147.body.getD .skip)=true:=by decide+kernel
theorem Yv:fnC τ An Sgs 150 Wh Try.f150 (Try.f150.body.getD .skip)=true:=by decide+kernel
theorem Ys:fnC τ An Sgs 153 We Try.f153 (Try.f153.body.getD .skip)=true:=by decide+kernel
theorem Yp:fnC τ An Sgs 157 Wa Try.f157 (Try.f157.body.getD .skip)=true:=by decide+kernel
theorem Ym:fnC τ An Sgs 161 WX Try.f161 (Try.f161.body.getD .skip)=true:=by decide+kernel
theorem Yj:fnC τ An Sgs 164 WU Try.f164 (Try.f164.body.getD .skip)=true:=by decide+kernel
theorem Yg:fnC τ An Sgs 168 WR Try.f168 (Try.f168.body.getD .skip)=true:=by decide+kernel
end Go.Own
