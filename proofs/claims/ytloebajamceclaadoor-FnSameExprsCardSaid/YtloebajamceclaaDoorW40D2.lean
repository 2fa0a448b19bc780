/- Functions are checked. No conditions. -/
import Derived.Test.YtloebajamceclaaDoorW40A
set_option linter.unusedVariables false
set_option linter.unusedSimpArgs false
set_option linter.unnecessarySimpa false
namespace Go.Own
open Go Go.Proofs
theorem chk9:fnC τ An Sgs 9 sg9 Tryd.f9 (Tryd.f9.body.getD .skip)=true:=by decide+kernel
theorem chk12:fnC τ An Sgs 12 sg12 Tryd.f12 (Tryd.f12.body.getD .skip)=true:=by decide+kernel
theorem chk14:fnC τ An Sgs 14 sg14 Tryd.f14 (Tryd.f14.body.getD .skip)=true:=by decide+kernel
theorem chk26:fnC τ An Sgs 26 sg26 Tryd.f26 (Tryd.f26.body.getD .skip)=true:=by decide+kernel
theorem chk30:fnC τ An Sgs 30 sg30 Tryd.f30 (Tryd.f30.body.getD .skip)=true:=by decide+kernel
theorem chk32:fnC τ An Sgs 32 sg32 Tryd.f32 (Tryd.f32.body.getD .skip)=true:=by decide+kernel
theorem chk34:fnC τ An Sgs 34 sg34 Tryd.f34 (Tryd.f34.body.getD .skip)=true:=by decide+kernel
theorem chk36:fnC τ An Sgs 36 sg36 Tryd.f36 (Tryd.f36.body.getD .skip)=true:=by decide+kernel
theorem chk38:fnC τ An Sgs 38 sg38 Tryd.f38 (Tryd.f38.body.getD .skip)=true:=by decide+kernel
theorem chk51:fnC τ An Sgs 51 sg51 Tryd.f51 (Tryd.f51.body.getD .skip)=true:=by decide+kernel
theorem chk53:fnC τ An Sgs 53 sg53 Tryd.f53 (Tryd.f53.body.getD .skip)=true:=by decide+kernel
theorem chk56:fnC τ An Sgs 56 sg56 Tryd.f56 (Tryd.f56.body.getD .skip)=true:=by decide+kernel
theorem chk58:fnC τ An Sgs 58 sg58 Tryd.f58 (Tryd.f58.body.getD .skip)=true:=by decide+kernel
theorem chk60:fnC τ An Sgs 60 sg60 Tryd.f60 (Tryd.f60.body.getD .skip)=true:=by decide+kernel
theorem chk62:fnC τ An Sgs 62 sg62 Tryd.f62 (Tryd.f62.body.getD .skip)=true:=by decide+kernel
theorem chk71:fnC τ An Sgs 71 sg71 Tryd.f71 (Tryd.f71.body.getD .skip)=true:=by decide+kernel
theorem chk75:fnC τ An Sgs 75 sg75 Tryd.f75 (Tryd.f75.body.getD .skip)=true:=by decide+kernel
theorem chk77:fnC τ An Sgs 77 sg77 Tryd.f77 (Tryd.f77.body.getD .skip)=true:=by decide+kernel
theorem chk79:fnC τ An Sgs 79 sg79 Tryd.f79 (Tryd.f79.body.getD .skip)=true:=by decide+kernel
theorem chk83:fnC τ An Sgs 83 sg83 Tryd.f83 (Tryd.f83.body.getD .skip)=true:=by decide+kernel
theorem chk88:fnC τ An Sgs 88 sg88 Tryd.f88 (Tryd.f88.body.getD .skip)=true:=by decide+kernel
theorem chk91:fnC τ An Sgs 91 sg91 Tryd.f91 (Tryd.f91.body.getD .skip)=true:=by decide+kernel
theorem chk93:fnC τ An Sgs 93 sg93 Tryd.f93 (Tryd.f93.body.getD .skip)=true:=by decide+kernel
theorem chk95:fnC τ An Sgs 95 sg95 Tryd.f95 (Tryd.f95.body.getD .skip)=true:=by decide+kernel
theorem chk97:fnC τ An Sgs 97 sg97 Tryd.f97 (Tryd.f97.body.getD .skip)=true:=by decide+kernel
theorem chk99:fnC τ An Sgs 99 sg99 Tryd.f99 (Tryd.f99.body.getD .skip)=true:=by decide+kernel
theorem Pr:fnC τ An Sgs 102 OQ Tryd.f102 (Tryd.f102.body.getD .skip)=true:=by decide+kernel
theorem Pp:fnC τ An Sgs 108 OO Tryd.f108 (Tryd.f108.body.getD .skip)=true:=by decide+kernel
end Go.Own
