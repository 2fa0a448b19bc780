/- Each function is checked. No conditions. -/
import Derived.Test.YtjfgchodolnmcaaW33A
set_option linter.unusedVariables false
set_option linter.unusedSimpArgs false
set_option linter.unnecessarySimpa false
namespace Go.Own
open Go Go.Proofs
theorem chk9:fnC τ An Sgs 9 sg9 Try.f9 (Try.f9.body.getD .skip)=true:=by decide+kernel
theorem chk31:fnC τ An Sgs 31 sg31 Try.f31 (Try.f31.body.getD .skip)=true:=by decide+kernel
theorem chk33:fnC τ An Sgs 33 sg33 Try.f33 (Try.f33.body.getD .skip)=true:=by decide+kernel
theorem chk36:fnC τ An Sgs 36 sg36 Try.f36 (Try.f36.body.getD .skip)=true:=by decide+kernel
theorem chk44:fnC τ An Sgs 44 sg44 Try.f44 (Try.f44.body.getD .skip)=true:=by decide+kernel
theorem chk45:fnC τ An Sgs 45 sg45 Try.f45 (Try.f45.body.getD .skip)=true:=by decide+kernel
theorem chk57:fnC τ An Sgs 57 sg57 Try.f57 (Try.f57.body.getD .skip)=true:=by decide+kernel
theorem chk58:fnC τ An Sgs 58 sg58 Try.f58 (Try.f58.body.getD .skip)=true:=by decide+kernel
theorem chk59:fnC τ An Sgs 59 sg59 Try.f59 (Try.f59.body.getD .skip)=true:=by decide+kernel
theorem chk60:fnC τ An Sgs 60 sg60 Try.f60 (Try.f60.body.getD .skip)=true:=by decide+kernel
theorem chk61:fnC τ An Sgs 61 sg61 Try.f61 (Try.f61.body.getD .skip)=true:=by decide+kernel
theorem chk62:fnC τ An Sgs 62 sg62 Try.f62 (Try.f62.body.getD .skip)=true:=by decide+kernel
theorem chk63:fnC τ An Sgs 63 sg63 Try.f63 (Try.f63.body.getD .skip)=true:=by decide+kernel
theorem chk88:fnC τ An Sgs 88 sg88 Try.f88 (Try.f88.body.getD .skip)=true:=by decide+kernel
theorem VA:fnC τ An Sgs 100 SY Try.f100 (Try.f100.body.getD .skip)=true:=by decide+kernel
theorem Uz:fnC τ An Sgs 101 SX Try.f101 (Try.f101.body.getD .skip)=true:=by decide+kernel
theorem Uy:fnC τ An Sgs 102 SW Try.f102 (Try.f102.body.getD .skip)=true:=by decide+kernel
theorem Ux:fnC τ An Sgs 107 SV Try.f107 (Try.f107.body.getD .skip)=true:=by decide+kernel
theorem Uw:fnC τ An Sgs 108 SU Try.f108 (Try.f108.body.getD .skip)=true:=by decide+kernel
theorem Uv:fnC τ An Sgs 113 ST Try.f113 (Try.f113.body.getD .skip)=true:=by decide+kernel
theorem Uu:fnC τ An Sgs 114 SR Try.f114 (Try.f114.body.getD .skip)=true:=by decide+kernel
theorem Ut:fnC τ An Sgs 115 SQ Try.f115 (Try.f115.body.getD .skip)=true:=by decide+kernel
theorem Us:fnC τ An Sgs 116 SP Try.f116 (Try.f116.body.getD .skip)=true:=by decide+kernel
theorem Ur:fnC τ An Sgs 128 SO Try.f128 (Try.f128.body.getD .skip)=true:=by decide+kernel
theorem Uq:fnC τ An Sgs 129 SN Try.f129 (Try.f129.body.getD .skip)=true:=by decide+kernel
theorem Un:fnC τ An Sgs 130 SM Try.f130 (Try.f130.body.getD .skip)=true:=by decide+kernel
theorem Um:fnC τ An Sgs 131 SL Try.f131 (Try.f131.body.getD .skip)=true:=by decide+kernel
theorem Ul:fnC τ An Sgs 134 SK Try.f134 (Try.f134.body.getD .skip)=true:=by decide+kernel
theorem Uk:fnC τ An Sgs 138 SJ Try.f138 (Try.f138.body.getD .skip)=true:=by decide+kernel
theorem Uj:fnC τ An Sgs 150 SI Try.f150 (Try.f150.body.getD .skip)=true:=by decide+kernel
theorem Ui:fnC τ An Sgs 151 SH Try.f151 (Try.f151.body.getD .skip)=true:=by decide+kernel
theorem Uh:fnC τ An Sgs 152 SG Try.f152 (Try.f152.body.getD .skip)=true:=by decide+kernel
theorem Ug:fnC τ An Sgs 153 SF Try.f153 (Try.f153.body.getD .skip)=true:=by decide+kernel
theorem Uf:fnC τ An Sgs 154 SE Try.f154 (Try.f154.body.getD .skip)=true:=by decide+kernel
theorem Ue:fnC τ An Sgs 155 SC Try.f155 (Try.f155.body.getD .skip)=true:=by decide+kernel
theorem Ud:fnC τ An Sgs 156 SB Try.f156 (Try.f156.body.getD .skip)=true:=by decide+kernel
theorem Uc:fnC τ An Sgs 157 SA Try.f157 (Try.f157.body.getD .skip)=true:=by decide+kernel
theorem Ub:fnC τ An Sgs 158 Rz Try.f158 (Try.f158.body.getD .skip)=true:=by decide+kernel
theorem Ua:fnC τ An Sgs 159 Ry Try.f159 (Try.f159.body.getD .skip)=true:=by decide+kernel
theorem UZ:fnC τ An Sgs 160 Rx Try.f160 (Try.f160.body.getD .skip)=true:=by decide+kernel
theorem UY:fnC τ An Sgs 161 Rw Try.f161 (Try.f161.body.getD .skip)=true:=by decide+kernel
theorem UX:fnC τ An Sgs 162 Rv Try.f162 (Try.f162.body.getD .skip)=true:=by decide+kernel
theorem UW:fnC τ An Sgs 191 Ru Try.f191 (Try.f191.body.getD .skip)=true:=by decide+kernel
theorem UV:fnC τ An Sgs 192 Rt Try.f192 (Try.f192.body.getD .skip)=true:=by decide+kernel
theorem UU:fnC τ An Sgs 193 Rs Try.f193 (Try.f193.body.getD .skip)=true:=by decide+kernel
theorem UT:fnC τ An Sgs 194 Rr Try.f194 (Try.f194.body.getD .skip)=true:=by decide+kernel
theorem US:fnC τ An Sgs 195 Rq Try.f195 (Try.f195.body.getD .skip)=true:=by decide+kernel
theorem UR:fnC τ An Sgs 196 Rp Try.f196 (Try.f196.body.getD .skip)=true:=by decide+kernel
theorem UQ:fnC τ An Sgs 197 Ro Try.f197 (Try.f197.body.getD .skip)=true:=by decide+kernel
theorem UP:fnC τ An Sgs 198 Rn Try.f198 (Try.f198.body.getD .skip)=true:=by decide+kernel
theorem UO:fnC τ An Sgs 199 Rm Try.f199 (Try.f199.body.getD .skip)=true:=by decide+kernel
theorem UN:fnC τ An Sgs 212 Rl Try.f212 (Try.f212.body.getD .skip)=true:=by decide+kernel
theorem UM:fnC τ An Sgs 213 Rk Try.f213 (Try.f213.body.getD .skip)=true:=by decide+kernel
theorem UL:fnC τ An Sgs 214 Rj Try.f214 (Try.f214.body.getD .skip)=true:=by decide+kernel
theorem UK:fnC τ An Sgs 215 Ri Try.f215 (Try.f215.body.getD .skip)=true:=by decide+kernel
theorem UJ:fnC τ An Sgs 216 Rh Try.f216 (Try.f216.body.getD .skip)=true:=by decide+kernel
theorem UI:fnC τ An Sgs 217 Rg Try.f217 (Try.f217.body.getD .skip)=true:=by decide+kernel
theorem UH:fnC τ An Sgs 220 Rf Try.f220 (Try.f220.body.getD .skip)=true:=by decide+kernel
theorem UG:fnC τ An Sgs 230 Re Try.f230 (Try.f230.body.getD .skip)=true:=by decide+kernel
theorem UF:fnC τ An Sgs 233 Rc Try.f233 (Try.f233.body.getD .skip)=true:=by decide+kernel
theorem UE:fnC τ An Sgs 234 Rb Try.f234 (Try.f234.body.getD .skip)=true:=by decide+kernel
theorem UD:fnC τ An Sgs 235 Ra Try.f235 (Try.f235.body.getD .skip)=true:=by decide+kernel
theorem UC:fnC τ An Sgs 236 RZ Try.f236 (Try.f236.body.getD .skip)=true:=by decide+kernel
theorem UB:fnC τ An Sgs 237 RY Try.f237 (Try.f237.body.getD .skip)=true:=by decide+kernel
theorem UA:fnC τ An Sgs 238 RX Try.f238 (Try.f238.body.getD .skip)=true:=by decide+kernel
theorem Tz:fnC τ An Sgs 239 RU Try.f239 (Try.f239.body.getD .skip)=true:=by decide+kernel
theorem Ty:fnC τ An Sgs 240 RT Try.f240 (Try.f240.body.getD .skip)=true:=by decide+kernel
theorem Tx:fnC τ An Sgs 241 RS Try.f241 (Try.f241.body.getD .skip)=true:=by decide+kernel
theorem Tw:fnC τ An Sgs 256 RR Try.f256 (Try.f256.body.getD .skip)=true:=by decide+kernel
theorem Tv:fnC τ An Sgs 257 RQ Try.f257 (Try.f257.body.getD .skip)=true:=by decide+kernel
theorem Tu:fnC τ An Sgs 258 RO Try.f258 (Try.f258.body.getD .skip)=true:=by decide+kernel
theorem Tt:fnC τ An Sgs 259 RN Try.f259 (Try.f259.body.getD .skip)=true:=by decide+kernel
theorem Ts:fnC τ An Sgs 260 RM Try.f260 (Try.f260.body.getD .skip)=true:=by decide+kernel
theorem Tr:fnC τ An Sgs 261 RL Try.f261 (Try.f261.body.getD .skip)=true:=by decide+kernel
theorem Tq:fnC τ An Sgs 262 RK Try.f262 (Try.f262.body.getD .skip)=true:=by decide+kernel
theorem Tp:fnC τ An Sgs 263 RJ Try.f263 (Try.f263.body.getD .skip)=true:=by decide+kernel
theorem To:fnC τ An Sgs 268 RI Try.f268 (Try.f268.body.getD .skip)=true:=by decide+kernel
theorem Tn:fnC τ An Sgs 271 RH Try.f271 (Try.f271.body.getD .skip)=true:=by decide+kernel
theorem Tm:fnC τ An Sgs 272 RG Try.f272 (Try.f272.body.getD .skip)=true:=by decide+kernel
theorem Tl:fnC τ An Sgs 273 RF Try.f273 (Try.f273.body.getD .skip)=true:=by decide+kernel
theorem Tk:fnC τ An Sgs 274 RE Try.f274 (Try.f274.body.getD .skip)=true:=by decide+kernel
theorem Tj:fnC τ An Sgs 281 RD Try.f281 (Try.f281.body.getD .skip)=true:=by decide+kernel
theorem Ti:fnC τ An Sgs 282 RC Try.f282 (Try.f282.body.getD .skip)=true:=by decide+kernel
theorem Th:fnC τ An Sgs 283 RB Try.f283 (Try.f283.body.getD .skip)=true:=by decide+kernel
theorem Tg:fnC τ An Sgs 286 RA Try.f286 (Try.f286.body.getD .skip)=true:=by decide+kernel
theorem Tf:fnC τ An Sgs 288 Qz Try.f288 (Try.f288.body.getD .skip)=true:=by decide+kernel
theorem Te:fnC τ An Sgs 289 Qy Try.f289 (Try.f289.body.getD .skip)=true:=by decide+kernel
theorem Td:fnC τ An Sgs 290 Qx Try.f290 (Try.f290.body.getD .skip)=true:=by decide+kernel
theorem Tc:fnC τ An Sgs 291 Qw Try.f291 (Try.f291.body.getD .skip)=true:=by decide+kernel
theorem Tb:fnC τ An Sgs 292 Qv Try.f292 (Try.f292.body.getD .skip)=true:=by decide+kernel
theorem Ta:fnC τ An Sgs 293 Qu Try.f293 (Try.f293.body.getD .skip)=true:=by decide+kernel
theorem TZ:fnC τ An Sgs 298 Qt Try.f298 (Try.f298.body.getD .skip)=true:=by decide+kernel
theorem TY:fnC τ An Sgs 299 Qs Try.f299 (Try.f299.body.getD .skip)=true:=by decide+kernel
theorem TX:fnC τ An Sgs 301 Qr Try.f301 (Try.f301.body.getD .skip)=true:=by decide+kernel
theorem checked: ∀f sg,sg∈Sgs f→ ∀fn c,Try.prog.funcs[f]? =some fn→fn.body=some c→fnC τ An Sgs f sg fn c=true:=by
  intro f sg hs
  unfold Sgs at hs
  split at hs
  · exact aP chk9 Try.func9 hs
  · exact aP chk31 Try.func31 hs
  · exact aP chk33 Try.func33 hs
  · exact aP chk36 Try.func36 hs
  · exact aP chk44 Try.func44 hs
  · exact aP chk45 Try.func45 hs
  · exact aP chk57 Try.func57 hs
  · exact aP chk58 Try.func58 hs
  · exact aP chk59 Try.func59 hs
  · exact aP chk60 Try.func60 hs
  · exact aP chk61 Try.func61 hs
  · exact aP chk62 Try.func62 hs
  · exact aP chk63 Try.func63 hs
  · exact aP chk88 Try.func88 hs
  · exact aP VA Try.func100 hs
  · exact aP Uz Try.func101 hs
  · exact aP Uy Try.func102 hs
  · exact aP Ux Try.func107 hs
  · exact aP Uw Try.func108 hs
  · exact aP Uv Try.func113 hs
  · exact aP Uu Try.func114 hs
  · exact aP Ut Try.func115 hs
  · exact aP Us Try.func116 hs
  · exact aP Ur Try.func128 hs
  · exact aP Uq Try.func129 hs
  · exact aP Un Try.func130 hs
  · exact aP Um Try.func131 hs
  · exact aP Ul Try.func134 hs
  · exact aP Uk Try.func138 hs
  · exact aP Uj Try.func150 hs
  · exact aP Ui Try.func151 hs
  · exact aP Uh Try.func152 hs
  · exact aP Ug Try.func153 hs
  · exact aP Uf Try.func154 hs
  · exact aP Ue Try.func155 hs
  · exact aP Ud Try.func156 hs
  · exact aP Uc Try.func157 hs
  · exact aP Ub Try.func158 hs
  · exact aP Ua Try.func159 hs
  · exact aP UZ Try.func160 hs
  · exact aP UY Try.func161 hs
  · exact aP UX Try.func162 hs
  · exact aP UW Try.func191 hs
  · exact aP UV Try.func192 hs
  · exact aP UU Try.func193 hs
  · exact aP UT Try.func194 hs
  · exact aP US Try.func195 hs
  · exact aP UR Try.func196 hs
  · exact aP UQ Try.func197 hs
  · exact aP UP Try.func198 hs
  · exact aP UO Try.func199 hs
  · exact aP UN Try.func212 hs
  · exact aP UM Try.func213 hs
  · exact aP UL Try.func214 hs
  · exact aP UK Try.func215 hs
  · exact aP UJ Try.func216 hs
  · exact aP UI Try.func217 hs
  · exact aP UH Try.func220 hs
  · exact aP UG Try.func230 hs
  · exact aP UF Try.func233 hs
  · exact aP UE Try.func234 hs
  · exact aP UD Try.func235 hs
  · exact aP UC Try.func236 hs
  · exact aP UB Try.func237 hs
  · exact aP UA Try.func238 hs
  · exact aP Tz Try.func239 hs
  · exact aP Ty Try.func240 hs
  · exact aP Tx Try.func241 hs
  · exact aP Tw Try.func256 hs
  · exact aP Tv Try.func257 hs
  · exact aP Tu Try.func258 hs
  · exact aP Tt Try.func259 hs
  · exact aP Ts Try.func260 hs
  · exact aP Tr Try.func261 hs
  · exact aP Tq Try.func262 hs
  · exact aP Tp Try.func263 hs
  · exact aP To Try.func268 hs
  · exact aP Tn Try.func271 hs
  · exact aP Tm Try.func272 hs
  · exact aP Tl Try.func273 hs
  · exact aP Tk Try.func274 hs
  · exact aP Tj Try.func281 hs
  · exact aP Ti Try.func282 hs
  · exact aP Th Try.func283 hs
  · exact aP Tg Try.func286 hs
  · exact aP Tf Try.func288 hs
  · exact aP Te Try.func289 hs
  · exact aP Td Try.func290 hs
  · exact aP Tc Try.func291 hs
  · exact aP Tb Try.func292 hs
  · exact aP Ta Try.func293 hs
  · exact aP TZ Try.func298 hs
  · exact aP TY Try.func299 hs
  · exact aP TX Try.func301 hs
  · cases hs
end Go.Own
