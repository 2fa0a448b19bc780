/- Functions are checked. No conditions. -/
import Derived.Test.YtloebajamceclaaDoorW39A
set_option linter.unusedVariables false
set_option linter.unusedSimpArgs false
set_option linter.unnecessarySimpa false
namespace Go.Own
open Go Go.Proofs
theorem chk6:fnC τ An Sgs 6 sg6 Tryd.f6 (Tryd.f6.body.getD .skip)=true:=by decide+kernel
theorem chk8:fnC τ An Sgs 8 sg8 Tryd.f8 (Tryd.f8.body.getD .skip)=true:=by decide+kernel
theorem chk10:fnC τ An Sgs 10 sg10 Tryd.f10 (Tryd.f10.body.getD .skip)=true:=by decide+kernel
theorem chk21:fnC τ An Sgs 21 sg21 Tryd.f21 (Tryd.f21.body.getD .skip)=true:=by decide+kernel
theorem chk23:fnC τ An Sgs 23 sg23 Tryd.f23 (Tryd.f23.body.getD .skip)=true:=by decide+kernel
theorem chk25:fnC τ An Sgs 25 sg25 Tryd.f25 (Tryd.f25.body.getD .skip)=true:=by decide+kernel
theorem chk27:fnC τ An Sgs 27 sg27 Tryd.f27 (Tryd.f27.body.getD .skip)=true:=by decide+kernel
theorem chk29:fnC τ An Sgs 29 sg29 Tryd.f29 (Tryd.f29.body.getD .skip)=true:=by decide+kernel
theorem chk44:fnC τ An Sgs 44 sg44 Tryd.f44 (Tryd.f44.body.getD .skip)=true:=by decide+kernel
theorem chk48:fnC τ An Sgs 48 sg48 Tryd.f48 (Tryd.f48.body.getD .skip)=true:=by decide+kernel
theorem chk50:fnC τ An Sgs 50 sg50 Tryd.f50 (Tryd.f50.body.getD .skip)=true:=by decide+kernel
theorem chk52:fnC τ An Sgs 52 sg52 Tryd.f52 (Tryd.f52.body.getD .skip)=true:=by decide+kernel
theorem chk54:fnC τ An Sgs 54 sg54 Tryd.f54 (Tryd.f54.body.getD .skip)=true:=by decide+kernel
theorem chk62:fnC τ An Sgs 62 sg62 Tryd.f62 (Tryd.f62.body.getD .skip)=true:=by decide+kernel
theorem chk71:fnC τ An Sgs 71 sg71 Tryd.f71 (Tryd.f71.body.getD .skip)=true:=by decide+kernel
theorem chk75:fnC τ An Sgs 75 sg75 Tryd.f75 (Tryd.f75.body.getD .skip)=true:=by decide+kernel
theorem chk77:fnC τ An Sgs 77 sg77 Tryd.f77 (Tryd.f77.body.getD .skip)=true:=by decide+kernel
theorem chk79:fnC τ An Sgs 79 sg79 Tryd.f79 (Tryd.f79.body.getD .skip)=true:=by decide+kernel
theorem chk83:fnC τ An Sgs 83 sg83 Tryd.f83 (Tryd.f83.body.getD .skip)=true:=by decide+kernel
theorem chk88:fnC τ An Sgs 88 sg88 Tryd.f88 (Tryd.f88.body.getD .skip)=true:=by decide+kernel
theorem chk93:fnC τ An Sgs 93 sg93 Tryd.f93 (Tryd.f93.body.getD .skip)=true:=by decide+kernel
theorem chk95:fnC τ An Sgs 95 sg95 Tryd.f95 (Tryd.f95.body.getD .skip)=true:=by decide+kernel
theorem chk97:fnC τ An Sgs 97 sg97 Tryd.f97 (Tryd.f97.body.getD .skip)=true:=by decide+kernel
theorem chk99:fnC τ An Sgs 99 sg99 Tryd.f99 (Tryd.f99.body.getD .skip)=true:=by decide+kernel
theorem PU:fnC τ An Sgs 102 Nt Tryd.f102 (Tryd.f102.body.getD .skip)=true:=by decide+kernel
theorem PS:fnC τ An Sgs 108 Nr Tryd.f108 (Tryd.f108.body.getD .skip)=true:=by decide+kernel
end Go.Own
