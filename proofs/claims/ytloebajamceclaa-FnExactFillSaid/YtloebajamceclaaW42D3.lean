/- Functions are checked. No conditions. -/
import Derived.Test.YtloebajamceclaaW42A
set_option linter.unusedVariables false
set_option linter.unusedSimpArgs false
set_option linter.unnecessarySimpa false
namespace Go.Own
open Go Go.Proofs
theorem chk8:fnC τ An Sgs 8 sg8 Try.f8 (Try.f8.body.getD .skip)=true:=by decide+kernel
theorem chk13:fnC τ An Sgs 13 sg13 Try.f13 (Try.f13.body.getD .skip)=true:=by decide+kernel
theorem chk17:fnC τ An Sgs 17 sg17 Try.f17 (Try.f17.body.getD .skip)=true:=by decide+kernel
theorem chk26:fnC τ An Sgs 26 sg26 Try.f26 (Try.f26.body.getD .skip)=true:=by decide+kernel
theorem chk29:fnC τ An Sgs 29 sg29 Try.f29 (Try.f29.body.getD .skip)=true:=by decide+kernel
theorem chk39:fnC τ An Sgs 39 sg39 Try.f39 (Try.f39.body.getD .skip)=true:=by decide+kernel
theorem chk43:fnC τ An Sgs 43 sg43 Try.f43 (Try.f43.body.getD .skip)=true:=by decide+kernel
theorem chk47:fnC τ An Sgs 47 sg47 Try.f47 (Try.f47.body.getD .skip)=true:=by decide+kernel
theorem chk51:fnC τ An Sgs 51 sg51 Try.f51 (Try.f51.body.getD .skip)=true:=by decide+kernel
theorem chk54:fnC τ An Sgs 54 sg54 Try.f54 (Try.f54.body.getD .skip)=true:=by decide+kernel
theorem chk63:fnC τ An Sgs 63 sg63 Try.f63 (Try.f63.body.getD .skip)=true:=by decide+kernel
theorem chk67:fnC τ An Sgs 67 sg67 Try.f67 (Try.f67.body.getD .skip)=true:=by decide+kernel
theorem chk74:fnC τ An Sgs 74 sg74 Try.f74 (Try.f74.body.getD .skip)=true:=by decide+kernel
theorem chk86:fnC τ An Sgs 86 sg86 Try.f86 (Try.f86.body.getD .skip)=true:=by decide+kernel
theorem chk89:fnC τ An Sgs 89 sg89 Try.f89 (Try.f89.body.getD .skip)=true:=by decide+kernel
theorem chk93:fnC τ An Sgs 93 sg93 Try.f93 (Try.f93.body.getD .skip)=true:=by decide+kernel
theorem XY:fnC τ An Sgs 103 VV Try.f103 (Try.f103.body.getD .skip)=true:=by decide+kernel
theorem XV:fnC τ An Sgs 107 VS Try.f107 (Try.f107.body.getD .skip)=true:=by decide+kernel
theorem XS:fnC τ An Sgs 115 VP Try.f115 (Try.f115.body.getD .skip)=true:=by decide+kernel
theorem XP:fnC τ An Sgs 129 VM Try.f129 (Try.f129.body.getD .skip)=true:=by decide+kernel
theorem XM:fnC τ An Sgs 137 VJ Try.f137 (Try.f137.body.getD .skip)=true:=by decide+kernel
theorem XJ:fnC τ An Sgs 144 VG Try.f144 (Try.f144.body.getD .skip)=true:=by decide+kernel
theorem XG:fnC τ An Sgs 148 VD Try.f148 (Try.f148.body.getD .skip)=true:=by decide+kernel
theorem XD:fnC τ An Sgs 156 VA Try.f156 (Try.f156.body.getD .skip)=true:=by decide+kernel
theorem XA:fnC τ An Sgs 163 Ux Try.f163 (Try.f163.body.getD .skip)=true:=by decide+kernel
theorem Wx:fnC τ An Sgs 167 Uu Try.f167 (Try.f167.body.getD .skip)=true:=by decide+kernel
end Go.Own
