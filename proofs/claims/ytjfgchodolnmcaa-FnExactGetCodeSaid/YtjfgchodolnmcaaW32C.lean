/- Each function is checked. No conditions. -/
import Derived.Test.YtjfgchodolnmcaaW32D
set_option linter.unusedVariables false
set_option linter.unusedSimpArgs false
set_option linter.unnecessarySimpa false
namespace Go.Own
open Go Go.Proofs
theorem chk8:fnC τ An Sgs 8 sg8 Try.f8 (Try.f8.body.getD .skip)=true:=by decide+kernel
theorem chk32:fnC τ An Sgs 32 sg32 Try.f32 (Try.f32.body.getD .skip)=true:=by decide+kernel
theorem chk35:fnC τ An Sgs 35 sg35 Try.f35 (Try.f35.body.getD .skip)=true:=by decide+kernel
theorem chk36:fnC τ An Sgs 36 sg36 Try.f36 (Try.f36.body.getD .skip)=true:=by decide+kernel
theorem chk38:fnC τ An Sgs 38 sg38 Try.f38 (Try.f38.body.getD .skip)=true:=by decide+kernel
theorem chk44:fnC τ An Sgs 44 sg44 Try.f44 (Try.f44.body.getD .skip)=true:=by decide+kernel
theorem chk45:fnC τ An Sgs 45 sg45 Try.f45 (Try.f45.body.getD .skip)=true:=by decide+kernel
theorem chk53:fnC τ An Sgs 53 sg53 Try.f53 (Try.f53.body.getD .skip)=true:=by decide+kernel
theorem chk54:fnC τ An Sgs 54 sg54 Try.f54 (Try.f54.body.getD .skip)=true:=by decide+kernel
theorem chk55:fnC τ An Sgs 55 sg55 Try.f55 (Try.f55.body.getD .skip)=true:=by decide+kernel
theorem chk56:fnC τ An Sgs 56 sg56 Try.f56 (Try.f56.body.getD .skip)=true:=by decide+kernel
theorem chk88:fnC τ An Sgs 88 sg88 Try.f88 (Try.f88.body.getD .skip)=true:=by decide+kernel
theorem Uy:fnC τ An Sgs 102 SX Try.f102 (Try.f102.body.getD .skip)=true:=by decide+kernel
theorem Ux:fnC τ An Sgs 103 SW Try.f103 (Try.f103.body.getD .skip)=true:=by decide+kernel
theorem Uw:fnC τ An Sgs 104 SV Try.f104 (Try.f104.body.getD .skip)=true:=by decide+kernel
theorem Uv:fnC τ An Sgs 105 SU Try.f105 (Try.f105.body.getD .skip)=true:=by decide+kernel
theorem Uu:fnC τ An Sgs 106 ST Try.f106 (Try.f106.body.getD .skip)=true:=by decide+kernel
theorem Ut:fnC τ An Sgs 109 SR Try.f109 (Try.f109.body.getD .skip)=true:=by decide+kernel
theorem Us:fnC τ An Sgs 110 SQ Try.f110 (Try.f110.body.getD .skip)=true:=by decide+kernel
theorem Ur:fnC τ An Sgs 111 SP Try.f111 (Try.f111.body.getD .skip)=true:=by decide+kernel
theorem Uq:fnC τ An Sgs 112 SO Try.f112 (Try.f112.body.getD .skip)=true:=by decide+kernel
theorem Un:fnC τ An Sgs 113 SN Try.f113 (Try.f113.body.getD .skip)=true:=by decide+kernel
theorem Um:fnC τ An Sgs 114 SM Try.f114 (Try.f114.body.getD .skip)=true:=by decide+kernel
theorem Ul:fnC τ An Sgs 115 SL Try.f115 (Try.f115.body.getD .skip)=true:=by decide+kernel
theorem Uk:fnC τ An Sgs 116 SK Try.f116 (Try.f116.body.getD .skip)=true:=by decide+kernel
theorem Uj:fnC τ An Sgs 128 SJ Try.f128 (Try.f128.body.getD .skip)=true:=by decide+kernel
theorem Ui:fnC τ An Sgs 129 SI Try.f129 (Try.f129.body.getD .skip)=true:=by decide+kernel
theorem Uh:fnC τ An Sgs 130 SH Try.f130 (Try.f130.body.getD .skip)=true:=by decide+kernel
theorem Ug:fnC τ An Sgs 131 SG Try.f131 (Try.f131.body.getD .skip)=true:=by decide+kernel
theorem Uf:fnC τ An Sgs 134 SF Try.f134 (Try.f134.body.getD .skip)=true:=by decide+kernel
theorem Ue:fnC τ An Sgs 138 SE Try.f138 (Try.f138.body.getD .skip)=true:=by decide+kernel
theorem Ud:fnC τ An Sgs 143 SC Try.f143 (Try.f143.body.getD .skip)=true:=by decide+kernel
theorem Uc:fnC τ An Sgs 144 SB Try.f144 (Try.f144.body.getD .skip)=true:=by decide+kernel
theorem Ub:fnC τ An Sgs 145 SA Try.f145 (Try.f145.body.getD .skip)=true:=by decide+kernel
theorem Ua:fnC τ An Sgs 146 Rz Try.f146 (Try.f146.body.getD .skip)=true:=by decide+kernel
theorem UZ:fnC τ An Sgs 147 Ry Try.f147 (Try.f147.body.getD .skip)=true:=by decide+kernel
theorem UY:fnC τ An Sgs 148 Rx Try.f148 (Try.f148.body.getD .skip)=true:=by decide+kernel
theorem UX:fnC τ An Sgs 149 Rw Try.f149 (Try.f149.body.getD .skip)=true:=by decide+kernel
theorem UW:fnC τ An Sgs 150 Rv Try.f150 (Try.f150.body.getD .skip)=true:=by decide+kernel
theorem UV:fnC τ An Sgs 151 Ru Try.f151 (Try.f151.body.getD .skip)=true:=by decide+kernel
theorem UU:fnC τ An Sgs 155 Rt Try.f155 (Try.f155.body.getD .skip)=true:=by decide+kernel
theorem UT:fnC τ An Sgs 159 Rs Try.f159 (Try.f159.body.getD .skip)=true:=by decide+kernel
theorem US:fnC τ An Sgs 193 Rr Try.f193 (Try.f193.body.getD .skip)=true:=by decide+kernel
theorem UR:fnC τ An Sgs 194 Rq Try.f194 (Try.f194.body.getD .skip)=true:=by decide+kernel
theorem UQ:fnC τ An Sgs 197 Rp Try.f197 (Try.f197.body.getD .skip)=true:=by decide+kernel
theorem UP:fnC τ An Sgs 198 Ro Try.f198 (Try.f198.body.getD .skip)=true:=by decide+kernel
theorem UO:fnC τ An Sgs 199 Rn Try.f199 (Try.f199.body.getD .skip)=true:=by decide+kernel
theorem UN:fnC τ An Sgs 212 Rm Try.f212 (Try.f212.body.getD .skip)=true:=by decide+kernel
theorem UM:fnC τ An Sgs 213 Rl Try.f213 (Try.f213.body.getD .skip)=true:=by decide+kernel
theorem UL:fnC τ An Sgs 214 Rk Try.f214 (Try.f214.body.getD .skip)=true:=by decide+kernel
theorem UK:fnC τ An Sgs 215 Rj Try.f215 (Try.f215.body.getD .skip)=true:=by decide+kernel
theorem UJ:fnC τ An Sgs 216 Ri Try.f216 (Try.f216.body.getD .skip)=true:=by decide+kernel
theorem UI:fnC τ An Sgs 217 Rh Try.f217 (Try.f217.body.getD .skip)=true:=by decide+kernel
theorem UH:fnC τ An Sgs 220 Rg Try.f220 (Try.f220.body.getD .skip)=true:=by decide+kernel
theorem UG:fnC τ An Sgs 228 Rf Try.f228 (Try.f228.body.getD .skip)=true:=by decide+kernel
theorem UF:fnC τ An Sgs 229 Re Try.f229 (Try.f229.body.getD .skip)=true:=by decide+kernel
theorem UE:fnC τ An Sgs 230 Rc Try.f230 (Try.f230.body.getD .skip)=true:=by decide+kernel
theorem UD:fnC τ An Sgs 231 Rb Try.f231 (Try.f231.body.getD .skip)=true:=by decide+kernel
theorem UC:fnC τ An Sgs 232 Ra Try.f232 (Try.f232.body.getD .skip)=true:=by decide+kernel
theorem UB:fnC τ An Sgs 233 RZ Try.f233 (Try.f233.body.getD .skip)=true:=by decide+kernel
theorem UA:fnC τ An Sgs 237 RY Try.f237 (Try.f237.body.getD .skip)=true:=by decide+kernel
theorem Tz:fnC τ An Sgs 238 RX Try.f238 (Try.f238.body.getD .skip)=true:=by decide+kernel
theorem Ty:fnC τ An Sgs 257 RU Try.f257 (Try.f257.body.getD .skip)=true:=by decide+kernel
theorem Tx:fnC τ An Sgs 258 RT Try.f258 (Try.f258.body.getD .skip)=true:=by decide+kernel
theorem Tw:fnC τ An Sgs 259 RS Try.f259 (Try.f259.body.getD .skip)=true:=by decide+kernel
theorem Tv:fnC τ An Sgs 260 RR Try.f260 (Try.f260.body.getD .skip)=true:=by decide+kernel
theorem Tu:fnC τ An Sgs 261 RQ Try.f261 (Try.f261.body.getD .skip)=true:=by decide+kernel
theorem Tt:fnC τ An Sgs 263 RO Try.f263 (Try.f263.body.getD .skip)=true:=by decide+kernel
theorem Ts:fnC τ An Sgs 268 RN Try.f268 (Try.f268.body.getD .skip)=true:=by decide+kernel
theorem Tr:fnC τ An Sgs 271 RM Try.f271 (Try.f271.body.getD .skip)=true:=by decide+kernel
theorem Tq:fnC τ An Sgs 272 RL Try.f272 (Try.f272.body.getD .skip)=true:=by decide+kernel
theorem Tp:fnC τ An Sgs 273 RK Try.f273 (Try.f273.body.getD .skip)=true:=by decide+kernel
theorem To:fnC τ An Sgs 274 RJ Try.f274 (Try.f274.body.getD .skip)=true:=by decide+kernel
theorem Tn:fnC τ An Sgs 278 RI Try.f278 (Try.f278.body.getD .skip)=true:=by decide+kernel
theorem Tm:fnC τ An Sgs 279 RH Try.f279 (Try.f279.body.getD .skip)=true:=by decide+kernel
theorem Tl:fnC τ An Sgs 280 RG Try.f280 (Try.f280.body.getD .skip)=true:=by decide+kernel
theorem Tk:fnC τ An Sgs 286 RF Try.f286 (Try.f286.body.getD .skip)=true:=by decide+kernel
theorem Tj:fnC τ An Sgs 289 RE Try.f289 (Try.f289.body.getD .skip)=true:=by decide+kernel
theorem Ti:fnC τ An Sgs 290 RD Try.f290 (Try.f290.body.getD .skip)=true:=by decide+kernel
theorem Th:fnC τ An Sgs 291 RC Try.f291 (Try.f291.body.getD .skip)=true:=by decide+kernel
theorem Tg:fnC τ An Sgs 293 RB Try.f293 (Try.f293.body.getD .skip)=true:=by decide+kernel
theorem Tf:fnC τ An Sgs 298 RA Try.f298 (Try.f298.body.getD .skip)=true:=by decide+kernel
theorem Te:fnC τ An Sgs 299 Qz Try.f299 (Try.f299.body.getD .skip)=true:=by decide+kernel
theorem Td:fnC τ An Sgs 301 Qy Try.f301 (Try.f301.body.getD .skip)=true:=by decide+kernel
theorem checked: ∀f sg,sg∈Sgs f→ ∀fn c,Try.prog.funcs[f]? =some fn→fn.body=some c→fnC τ An Sgs f sg fn c=true:=by
  intro f sg hs
  unfold Sgs at hs
  split at hs
  · exact aO chk8 Try.func8 hs
  · exact aO chk32 Try.func32 hs
  · exact aO chk34 Try.func34 hs
  · exact aO chk35 Try.func35 hs
  · exact aO chk36 Try.func36 hs
  · exact aO chk38 Try.func38 hs
  · exact aO chk44 Try.func44 hs
  · exact aO chk45 Try.func45 hs
  · exact aO chk53 Try.func53 hs
  · exact aO chk54 Try.func54 hs
  · exact aO chk55 Try.func55 hs
  · exact aO chk56 Try.func56 hs
  · exact aO chk88 Try.func88 hs
  · exact aO Uy Try.func102 hs
  · exact aO Ux Try.func103 hs
  · exact aO Uw Try.func104 hs
  · exact aO Uv Try.func105 hs
  · exact aO Uu Try.func106 hs
  · exact aO Ut Try.func109 hs
  · exact aO Us Try.func110 hs
  · exact aO Ur Try.func111 hs
  · exact aO Uq Try.func112 hs
  · exact aO Un Try.func113 hs
  · exact aO Um Try.func114 hs
  · exact aO Ul Try.func115 hs
  · exact aO Uk Try.func116 hs
  · exact aO Uj Try.func128 hs
  · exact aO Ui Try.func129 hs
  · exact aO Uh Try.func130 hs
  · exact aO Ug Try.func131 hs
  · exact aO Uf Try.func134 hs
  · exact aO Ue Try.func138 hs
  · exact aO Ud Try.func143 hs
  · exact aO Uc Try.func144 hs
  · exact aO Ub Try.func145 hs
  · exact aO Ua Try.func146 hs
  · exact aO UZ Try.func147 hs
  · exact aO UY Try.func148 hs
  · exact aO UX Try.func149 hs
  · exact aO UW Try.func150 hs
  · exact aO UV Try.func151 hs
  · exact aO UU Try.func155 hs
  · exact aO UT Try.func159 hs
  · exact aO US Try.func193 hs
  · exact aO UR Try.func194 hs
  · exact aO UQ Try.func197 hs
  · exact aO UP Try.func198 hs
  · exact aO UO Try.func199 hs
  · exact aO UN Try.func212 hs
  · exact aO UM Try.func213 hs
  · exact aO UL Try.func214 hs
  · exact aO UK Try.func215 hs
  · exact aO UJ Try.func216 hs
  · exact aO UI Try.func217 hs
  · exact aO UH Try.func220 hs
  · exact aO UG Try.func228 hs
  · exact aO UF Try.func229 hs
  · exact aO UE Try.func230 hs
  · exact aO UD Try.func231 hs
  · exact aO UC Try.func232 hs
  · exact aO UB Try.func233 hs
  · exact aO UA Try.func237 hs
  · exact aO Tz Try.func238 hs
  · exact aO Ty Try.func257 hs
  · exact aO Tx Try.func258 hs
  · exact aO Tw Try.func259 hs
  · exact aO Tv Try.func260 hs
  · exact aO Tu Try.func261 hs
  · exact aO Tt Try.func263 hs
  · exact aO Ts Try.func268 hs
  · exact aO Tr Try.func271 hs
  · exact aO Tq Try.func272 hs
  · exact aO Tp Try.func273 hs
  · exact aO To Try.func274 hs
  · exact aO Tn Try.func278 hs
  · exact aO Tm Try.func279 hs
  · exact aO Tl Try.func280 hs
  · exact aO Tk Try.func286 hs
  · exact aO Tj Try.func289 hs
  · exact aO Ti Try.func290 hs
  · exact aO Th Try.func291 hs
  · exact aO Tg Try.func293 hs
  · exact aO Tf Try.func298 hs
  · exact aO Te Try.func299 hs
  · exact aO Td Try.func301 hs
  · cases hs
end Go.Own
