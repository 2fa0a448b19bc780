/- Functions are checked. No conditions. -/
import Derived.Test.YtloebajamceclaaW41A
set_option linter.unusedVariables false
set_option linter.unusedSimpArgs false
set_option linter.unnecessarySimpa false
namespace Go.Own
open Go Go.Proofs
theorem chk10:fnC τ An Sgs 10 sg10 Try.f10 (Try.f10.body.getD .skip)=true:=by decide+kernel
theorem chk33:fnC τ An Sgs 33 sg33 Try.f33 (Try.f33.body.getD .skip)=true:=by decide+kernel
theorem chk36:fnC τ An Sgs 36 sg36 Try.f36 (Try.f36.body.getD .skip)=true:=by decide+kernel
theorem chk40:fnC τ An Sgs 40 sg40 Try.f40 (Try.f40.body.getD .skip)=true:=by decide+kernel
theorem chk51:fnC τ An Sgs 51 sg51 Try.f51 (Try.f51.body.getD .skip)=true:=by decide+kernel
theorem chk54:fnC τ An Sgs 54 sg54 Try.f54 (Try.f54.body.getD .skip)=true:=by decide+kernel
theorem chk71:fnC τ An Sgs 71 sg71 Try.f71 (Try.f71.body.getD .skip)=true:=by decide+kernel
theorem chk74:fnC τ An Sgs 74 sg74 Try.f74 (Try.f74.body.getD .skip)=true:=by decide+kernel
theorem chk77:fnC τ An Sgs 77 sg77 Try.f77 (Try.f77.body.getD .skip)=true:=by decide+kernel
theorem chk80:fnC τ An Sgs 80 sg80 Try.f80 (Try.f80.body.getD .skip)=true:=by decide+kernel
theorem chk83:fnC τ An Sgs 83 sg83 Try.f83 (Try.f83.body.getD .skip)=true:=by decide+kernel
theorem chk87:fnC τ An Sgs 87 sg87 Try.f87 (Try.f87.body.getD .skip)=true:=by decide+kernel
theorem chk92:fnC τ An Sgs 92 sg92 Try.f92 (Try.f92.body.getD .skip)=true:=by decide+kernel
theorem Zd:fnC τ An Sgs 108 XQ Try.f108 (Try.f108.body.getD .skip)=true:=by decide+kernel
theorem Za:fnC τ An Sgs 111 XN Try.f111 (Try.f111.body.getD .skip)=true:=by decide+kernel
theorem ZX:fnC τ An Sgs 114 XK Try.f114 (Try.f114.body.getD .skip)=true:=by decide+kernel
theorem ZU:fnC τ An Sgs 117 XH Try.f117 (Try.f117.body.getD .skip)=true:=by decide+kernel
theorem ZR:fnC τ An Sgs 120 XE Try.f120 (Try.f120.body.getD .skip)=true:=by decide+kernel
theorem ZO:fnC τ An Sgs 123 XB Try.f123 (Try.f123.body.getD .skip)=true:=by decide+kernel
theorem ZL:fnC τ An Sgs 126 Wy Try.f126 (Try.f126.body.getD .skip)=true:=by decide+kernel
theorem ZI:fnC τ An Sgs 135 Wv Try.f135 (Try.f135.body.getD .skip)=true:=by decide+kernel
theorem ZF:fnC τ An Sgs 140 Ws Try.f140 (Try.f140.body.getD .skip)=true:=by decide+kernel
theorem ZC:fnC τ An Sgs 143 Wp Try.f143 (Try.f143.body.getD .skip)=true:=by decide+kernel
theorem Yz:fnC τ An Sgs 146 Wl Try.f146 (Try.f146.body.getD .skip)=true:=by decide+kernel
theorem Yw:fnC τ An Sgs 149 Wi Try.f149 (Try.f149.body.getD .skip)=true:=by decide+kernel
theorem Yt:fnC τ An Sgs 152 Wf Try.f152 (Try.f152.body.getD .skip)=true:=by decide+kernel
theorem Yq:fnC τ An Sgs 156 Wb Try.f156 (Try.f156.body.getD .skip)=true:=by decide+kernel
theorem Yn:fnC τ An Sgs 160 WY Try.f160 (Try.f160.body.getD .skip)=true:=by decide+kernel
theorem Yk:fnC τ An Sgs 163 WV Try.f163 (Try.f163.body.getD .skip)=true:=by decide+kernel
theorem Yh:fnC τ An Sgs 167 WS Try.f167 (Try.f167.body.getD .skip)=true:=by decide+kernel
end Go.Own
