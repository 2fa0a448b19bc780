/- Each function is checked. No conditions. -/
import Derived.Test.YtjfgchodolnmcaaW26D
set_option linter.unusedVariables false
set_option linter.unusedSimpArgs false
set_option linter.unnecessarySimpa false
namespace Go.Own
open Go Go.Proofs
theorem chk4:fnC τ An Sgs 4 sg4 Try.f4 (Try.f4.body.getD .skip)=true:=by decide+kernel
theorem chk13:fnC τ An Sgs 13 sg13 Try.f13 (Try.f13.body.getD .skip)=true:=by decide+kernel
theorem chk16:fnC τ An Sgs 16 sg16 Try.f16 (Try.f16.body.getD .skip)=true:=by decide+kernel
theorem chk24:fnC τ An Sgs 24 sg24 Try.f24 (Try.f24.body.getD .skip)=true:=by decide+kernel
theorem chk25:fnC τ An Sgs 25 sg25 Try.f25 (Try.f25.body.getD .skip)=true:=by decide+kernel
theorem chk26:fnC τ An Sgs 26 sg26 Try.f26 (Try.f26.body.getD .skip)=true:=by decide+kernel
theorem chk27:fnC τ An Sgs 27 sg27 Try.f27 (Try.f27.body.getD .skip)=true:=by decide+kernel
theorem chk28:fnC τ An Sgs 28 sg28 Try.f28 (Try.f28.body.getD .skip)=true:=by decide+kernel
theorem chk29:fnC τ An Sgs 29 sg29 Try.f29 (Try.f29.body.getD .skip)=true:=by decide+kernel
theorem chk30:fnC τ An Sgs 30 sg30 Try.f30 (Try.f30.body.getD .skip)=true:=by decide+kernel
theorem chk74:fnC τ An Sgs 74 sg74 Try.f74 (Try.f74.body.getD .skip)=true:=by decide+kernel
theorem chk75:fnC τ An Sgs 75 sg75 Try.f75 (Try.f75.body.getD .skip)=true:=by decide+kernel
theorem chk76:fnC τ An Sgs 76 sg76 Try.f76 (Try.f76.body.getD .skip)=true:=by decide+kernel
theorem chk80:fnC τ An Sgs 80 sg80 Try.f80 (Try.f80.body.getD .skip)=true:=by decide+kernel
theorem chk81:fnC τ An Sgs 81 sg81 Try.f81 (Try.f81.body.getD .skip)=true:=by decide+kernel
theorem chk91:fnC τ An Sgs 91 sg91 Try.f91 (Try.f91.body.getD .skip)=true:=by decide+kernel
theorem chk92:fnC τ An Sgs 92 sg92 Try.f92 (Try.f92.body.getD .skip)=true:=by decide+kernel
theorem chk93:fnC τ An Sgs 93 sg93 Try.f93 (Try.f93.body.getD .skip)=true:=by decide+kernel
theorem chk94:fnC τ An Sgs 94 sg94 Try.f94 (Try.f94.body.getD .skip)=true:=by decide+kernel
theorem chk95:fnC τ An Sgs 95 sg95 Try.f95 (Try.f95.body.getD .skip)=true:=by decide+kernel
theorem chk96:fnC τ An Sgs 96 sg96 Try.f96 (Try.f96.body.getD .skip)=true:=by decide+kernel
theorem chk97:fnC τ An Sgs 97 sg97 Try.f97 (Try.f97.body.getD .skip)=true:=by decide+kernel
theorem chk98:fnC τ An Sgs 98 sg98 Try.f98 (Try.f98.body.getD .skip)=true:=by decide+kernel
theorem chk99:fnC τ An Sgs 99 sg99 Try.f99 (Try.f99.body.getD .skip)=true:=by decide+kernel
theorem VQ:fnC τ An Sgs 123 Sr Try.f123 (Try.f123.body.getD .skip)=true:=by decide+kernel
theorem VP:fnC τ An Sgs 124 Sq Try.f124 (Try.f124.body.getD .skip)=true:=by decide+kernel
theorem VO:fnC τ An Sgs 130 Sp Try.f130 (Try.f130.body.getD .skip)=true:=by decide+kernel
theorem VN:fnC τ An Sgs 134 So Try.f134 (Try.f134.body.getD .skip)=true:=by decide+kernel
theorem VM:fnC τ An Sgs 138 Sn Try.f138 (Try.f138.body.getD .skip)=true:=by decide+kernel
theorem VL:fnC τ An Sgs 155 Sm Try.f155 (Try.f155.body.getD .skip)=true:=by decide+kernel
theorem VK:fnC τ An Sgs 159 Sl Try.f159 (Try.f159.body.getD .skip)=true:=by decide+kernel
theorem VJ:fnC τ An Sgs 172 Sk Try.f172 (Try.f172.body.getD .skip)=true:=by decide+kernel
theorem VI:fnC τ An Sgs 173 Sj Try.f173 (Try.f173.body.getD .skip)=true:=by decide+kernel
theorem VH:fnC τ An Sgs 174 Si Try.f174 (Try.f174.body.getD .skip)=true:=by decide+kernel
theorem VG:fnC τ An Sgs 175 Sh Try.f175 (Try.f175.body.getD .skip)=true:=by decide+kernel
theorem VF:fnC τ An Sgs 178 Sf Try.f178 (Try.f178.body.getD .skip)=true:=by decide+kernel
theorem VE:fnC τ An Sgs 179 Se Try.f179 (Try.f179.body.getD .skip)=true:=by decide+kernel
theorem VD:fnC τ An Sgs 181 Sd Try.f181 (Try.f181.body.getD .skip)=true:=by decide+kernel
theorem VC:fnC τ An Sgs 182 Sc Try.f182 (Try.f182.body.getD .skip)=true:=by decide+kernel
theorem VB:fnC τ An Sgs 183 Sb Try.f183 (Try.f183.body.getD .skip)=true:=by decide+kernel
theorem VA:fnC τ An Sgs 184 Sa Try.f184 (Try.f184.body.getD .skip)=true:=by decide+kernel
theorem Uz:fnC τ An Sgs 185 SZ Try.f185 (Try.f185.body.getD .skip)=true:=by decide+kernel
theorem Uy:fnC τ An Sgs 186 SY Try.f186 (Try.f186.body.getD .skip)=true:=by decide+kernel
theorem Ux:fnC τ An Sgs 187 SX Try.f187 (Try.f187.body.getD .skip)=true:=by decide+kernel
theorem Uw:fnC τ An Sgs 188 SW Try.f188 (Try.f188.body.getD .skip)=true:=by decide+kernel
theorem Uv:fnC τ An Sgs 189 SV Try.f189 (Try.f189.body.getD .skip)=true:=by decide+kernel
theorem Uu:fnC τ An Sgs 190 SU Try.f190 (Try.f190.body.getD .skip)=true:=by decide+kernel
theorem Ut:fnC τ An Sgs 201 ST Try.f201 (Try.f201.body.getD .skip)=true:=by decide+kernel
theorem Us:fnC τ An Sgs 202 SR Try.f202 (Try.f202.body.getD .skip)=true:=by decide+kernel
theorem Ur:fnC τ An Sgs 208 SQ Try.f208 (Try.f208.body.getD .skip)=true:=by decide+kernel
theorem Uq:fnC τ An Sgs 210 SP Try.f210 (Try.f210.body.getD .skip)=true:=by decide+kernel
theorem Un:fnC τ An Sgs 217 SO Try.f217 (Try.f217.body.getD .skip)=true:=by decide+kernel
theorem Um:fnC τ An Sgs 219 SN Try.f219 (Try.f219.body.getD .skip)=true:=by decide+kernel
theorem Ul:fnC τ An Sgs 220 SM Try.f220 (Try.f220.body.getD .skip)=true:=by decide+kernel
theorem Uk:fnC τ An Sgs 230 SL Try.f230 (Try.f230.body.getD .skip)=true:=by decide+kernel
theorem Uj:fnC τ An Sgs 237 SK Try.f237 (Try.f237.body.getD .skip)=true:=by decide+kernel
theorem Ui:fnC τ An Sgs 238 SJ Try.f238 (Try.f238.body.getD .skip)=true:=by decide+kernel
theorem Uh:fnC τ An Sgs 245 SI Try.f245 (Try.f245.body.getD .skip)=true:=by decide+kernel
theorem Ug:fnC τ An Sgs 246 SH Try.f246 (Try.f246.body.getD .skip)=true:=by decide+kernel
theorem Uf:fnC τ An Sgs 247 SG Try.f247 (Try.f247.body.getD .skip)=true:=by decide+kernel
theorem Ue:fnC τ An Sgs 249 SF Try.f249 (Try.f249.body.getD .skip)=true:=by decide+kernel
theorem Ud:fnC τ An Sgs 250 SE Try.f250 (Try.f250.body.getD .skip)=true:=by decide+kernel
theorem Uc:fnC τ An Sgs 251 SC Try.f251 (Try.f251.body.getD .skip)=true:=by decide+kernel
theorem Ub:fnC τ An Sgs 252 SB Try.f252 (Try.f252.body.getD .skip)=true:=by decide+kernel
theorem Ua:fnC τ An Sgs 253 SA Try.f253 (Try.f253.body.getD .skip)=true:=by decide+kernel
theorem UZ:fnC τ An Sgs 254 Rz Try.f254 (Try.f254.body.getD .skip)=true:=by decide+kernel
theorem UY:fnC τ An Sgs 255 Ry Try.f255 (Try.f255.body.getD .skip)=true:=by decide+kernel
theorem UX:fnC τ An Sgs 264 Rx Try.f264 (Try.f264.body.getD .skip)=true:=by decide+kernel
theorem UW:fnC τ An Sgs 266 Rw Try.f266 (Try.f266.body.getD .skip)=true:=by decide+kernel
theorem UV:fnC τ An Sgs 267 Rv Try.f267 (Try.f267.body.getD .skip)=true:=by decide+kernel
theorem UU:fnC τ An Sgs 268 Ru Try.f268 (Try.f268.body.getD .skip)=true:=by decide+kernel
theorem UT:fnC τ An Sgs 271 Rt Try.f271 (Try.f271.body.getD .skip)=true:=by decide+kernel
theorem US:fnC τ An Sgs 286 Rs Try.f286 (Try.f286.body.getD .skip)=true:=by decide+kernel
theorem UR:fnC τ An Sgs 287 Rr Try.f287 (Try.f287.body.getD .skip)=true:=by decide+kernel
theorem UP:fnC τ An Sgs 295 Rp Try.f295 (Try.f295.body.getD .skip)=true:=by decide+kernel
theorem UO:fnC τ An Sgs 296 Ro Try.f296 (Try.f296.body.getD .skip)=true:=by decide+kernel
theorem UN:fnC τ An Sgs 297 Rn Try.f297 (Try.f297.body.getD .skip)=true:=by decide+kernel
theorem UM:fnC τ An Sgs 298 Rm Try.f298 (Try.f298.body.getD .skip)=true:=by decide+kernel
theorem UL:fnC τ An Sgs 299 Rl Try.f299 (Try.f299.body.getD .skip)=true:=by decide+kernel
theorem checked: ∀f sg,sg∈Sgs f→ ∀fn c,Try.prog.funcs[f]? =some fn→fn.body=some c→fnC τ An Sgs f sg fn c=true:=by
  intro f sg hs; unfold Sgs at hs; split at hs
  · exact aU chk4 Try.func4 hs
  · exact aU chk13 Try.func13 hs
  · exact aU chk16 Try.func16 hs
  · exact aU chk24 Try.func24 hs
  · exact aU chk25 Try.func25 hs
  · exact aU chk26 Try.func26 hs
  · exact aU chk27 Try.func27 hs
  · exact aU chk28 Try.func28 hs
  · exact aU chk29 Try.func29 hs
  · exact aU chk30 Try.func30 hs
  · exact aU chk74 Try.func74 hs
  · exact aU chk75 Try.func75 hs
  · exact aU chk76 Try.func76 hs
  · exact aU chk80 Try.func80 hs
  · exact aU chk81 Try.func81 hs
  · exact aU chk91 Try.func91 hs
  · exact aU chk92 Try.func92 hs
  · exact aU chk93 Try.func93 hs
  · exact aU chk94 Try.func94 hs
  · exact aU chk95 Try.func95 hs
  · exact aU chk96 Try.func96 hs
  · exact aU chk97 Try.func97 hs
  · exact aU chk98 Try.func98 hs
  · exact aU chk99 Try.func99 hs
  · exact aU VQ Try.func123 hs
  · exact aU VP Try.func124 hs
  · exact aU VO Try.func130 hs
  · exact aU VN Try.func134 hs
  · exact aU VM Try.func138 hs
  · exact aU VL Try.func155 hs
  · exact aU VK Try.func159 hs
  · exact aU VJ Try.func172 hs
  · exact aU VI Try.func173 hs
  · exact aU VH Try.func174 hs
  · exact aU VG Try.func175 hs
  · exact aU VF Try.func178 hs
  · exact aU VE Try.func179 hs
  · exact aU VD Try.func181 hs
  · exact aU VC Try.func182 hs
  · exact aU VB Try.func183 hs
  · exact aU VA Try.func184 hs
  · exact aU Uz Try.func185 hs
  · exact aU Uy Try.func186 hs
  · exact aU Ux Try.func187 hs
  · exact aU Uw Try.func188 hs
  · exact aU Uv Try.func189 hs
  · exact aU Uu Try.func190 hs
  · exact aU Ut Try.func201 hs
  · exact aU Us Try.func202 hs
  · exact aU Ur Try.func208 hs
  · exact aU Uq Try.func210 hs
  · exact aU Un Try.func217 hs
  · exact aU Um Try.func219 hs
  · exact aU Ul Try.func220 hs
  · exact aU Uk Try.func230 hs
  · exact aU Uj Try.func237 hs
  · exact aU Ui Try.func238 hs
  · exact aU Uh Try.func245 hs
  · exact aU Ug Try.func246 hs
  · exact aU Uf Try.func247 hs
  · exact aU Ue Try.func249 hs
  · exact aU Ud Try.func250 hs
  · exact aU Uc Try.func251 hs
  · exact aU Ub Try.func252 hs
  · exact aU Ua Try.func253 hs
  · exact aU UZ Try.func254 hs
  · exact aU UY Try.func255 hs
  · exact aU UX Try.func264 hs
  · exact aU UW Try.func266 hs
  · exact aU UV Try.func267 hs
  · exact aU UU Try.func268 hs
  · exact aU UT Try.func271 hs
  · exact aU US Try.func286 hs
  · exact aU UR Try.func287 hs
  · exact aU UQ Try.func294 hs
  · exact aU UP Try.func295 hs
  · exact aU UO Try.func296 hs
  · exact aU UN Try.func297 hs
  · exact aU UM Try.func298 hs
  · exact aU UL Try.func299 hs
  · cases hs
end Go.Own
