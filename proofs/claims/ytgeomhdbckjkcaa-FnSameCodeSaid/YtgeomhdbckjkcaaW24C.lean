/- Each function is checked. No conditions. -/
import Derived.Test.YtgeomhdbckjkcaaW24A
set_option linter.unusedVariables false
set_option linter.unusedSimpArgs false
set_option linter.unnecessarySimpa false
namespace Go.Own
open Go Go.Proofs
theorem chk11:fnC τ An Sgs 11 sg11 Try.f11 (Try.f11.body.getD .skip)=true:=by decide+kernel
theorem chk45:fnC τ An Sgs 45 sg45 Try.f45 (Try.f45.body.getD .skip)=true:=by decide+kernel
theorem chk63:fnC τ An Sgs 63 sg63 Try.f63 (Try.f63.body.getD .skip)=true:=by decide+kernel
theorem chk64:fnC τ An Sgs 64 sg64 Try.f64 (Try.f64.body.getD .skip)=true:=by decide+kernel
theorem chk65:fnC τ An Sgs 65 sg65 Try.f65 (Try.f65.body.getD .skip)=true:=by decide+kernel
theorem chk66:fnC τ An Sgs 66 sg66 Try.f66 (Try.f66.body.getD .skip)=true:=by decide+kernel
theorem chk67:fnC τ An Sgs 67 sg67 Try.f67 (Try.f67.body.getD .skip)=true:=by decide+kernel
theorem chk69:fnC τ An Sgs 69 sg69 Try.f69 (Try.f69.body.getD .skip)=true:=by decide+kernel
theorem chk72:fnC τ An Sgs 72 sg72 Try.f72 (Try.f72.body.getD .skip)=true:=by decide+kernel
theorem chk75:fnC τ An Sgs 75 sg75 Try.f75 (Try.f75.body.getD .skip)=true:=by decide+kernel
theorem chk81:fnC τ An Sgs 81 sg81 Try.f81 (Try.f81.body.getD .skip)=true:=by decide+kernel
theorem chk96:fnC τ An Sgs 96 sg96 Try.f96 (Try.f96.body.getD .skip)=true:=by decide+kernel
theorem Wj:fnC τ An Sgs 118 UF Try.f118 (Try.f118.body.getD .skip)=true:=by decide+kernel
theorem Wi:fnC τ An Sgs 119 UE Try.f119 (Try.f119.body.getD .skip)=true:=by decide+kernel
theorem Wh:fnC τ An Sgs 121 UD Try.f121 (Try.f121.body.getD .skip)=true:=by decide+kernel
theorem Wg:fnC τ An Sgs 128 UC Try.f128 (Try.f128.body.getD .skip)=true:=by decide+kernel
theorem Wf:fnC τ An Sgs 135 UB Try.f135 (Try.f135.body.getD .skip)=true:=by decide+kernel
theorem We:fnC τ An Sgs 136 UA Try.f136 (Try.f136.body.getD .skip)=true:=by decide+kernel
theorem Wc:fnC τ An Sgs 137 Tz Try.f137 (Try.f137.body.getD .skip)=true:=by decide+kernel
theorem Wb:fnC τ An Sgs 138 Ty Try.f138 (Try.f138.body.getD .skip)=true:=by decide+kernel
theorem Wa:fnC τ An Sgs 139 Tx Try.f139 (Try.f139.body.getD .skip)=true:=by decide+kernel
theorem WZ:fnC τ An Sgs 140 Tw Try.f140 (Try.f140.body.getD .skip)=true:=by decide+kernel
theorem WY:fnC τ An Sgs 141 Tv Try.f141 (Try.f141.body.getD .skip)=true:=by decide+kernel
theorem WX:fnC τ An Sgs 142 Tu Try.f142 (Try.f142.body.getD .skip)=true:=by decide+kernel
theorem WW:fnC τ An Sgs 143 Tt Try.f143 (Try.f143.body.getD .skip)=true:=by decide+kernel
theorem WV:fnC τ An Sgs 144 Ts Try.f144 (Try.f144.body.getD .skip)=true:=by decide+kernel
theorem WU:fnC τ An Sgs 145 Tr Try.f145 (Try.f145.body.getD .skip)=true:=by decide+kernel
theorem WT:fnC τ An Sgs 146 Tq Try.f146 (Try.f146.body.getD .skip)=true:=by decide+kernel
theorem WS:fnC τ An Sgs 147 Tp Try.f147 (Try.f147.body.getD .skip)=true:=by decide+kernel
theorem WR:fnC τ An Sgs 148 To Try.f148 (Try.f148.body.getD .skip)=true:=by decide+kernel
theorem WQ:fnC τ An Sgs 161 Tn Try.f161 (Try.f161.body.getD .skip)=true:=by decide+kernel
theorem WP:fnC τ An Sgs 183 Tm Try.f183 (Try.f183.body.getD .skip)=true:=by decide+kernel
theorem WO:fnC τ An Sgs 184 Tl Try.f184 (Try.f184.body.getD .skip)=true:=by decide+kernel
theorem WN:fnC τ An Sgs 189 Tk Try.f189 (Try.f189.body.getD .skip)=true:=by decide+kernel
theorem WM:fnC τ An Sgs 190 Tj Try.f190 (Try.f190.body.getD .skip)=true:=by decide+kernel
theorem WL:fnC τ An Sgs 191 Ti Try.f191 (Try.f191.body.getD .skip)=true:=by decide+kernel
theorem WK:fnC τ An Sgs 194 Th Try.f194 (Try.f194.body.getD .skip)=true:=by decide+kernel
theorem WJ:fnC τ An Sgs 196 Tg Try.f196 (Try.f196.body.getD .skip)=true:=by decide+kernel
theorem WI:fnC τ An Sgs 197 Tf Try.f197 (Try.f197.body.getD .skip)=true:=by decide+kernel
theorem WH:fnC τ An Sgs 198 Te Try.f198 (Try.f198.body.getD .skip)=true:=by decide+kernel
theorem WG:fnC τ An Sgs 205 Td Try.f205 (Try.f205.body.getD .skip)=true:=by decide+kernel
theorem WF:fnC τ An Sgs 206 Tc Try.f206 (Try.f206.body.getD .skip)=true:=by decide+kernel
theorem WE:fnC τ An Sgs 207 Tb Try.f207 (Try.f207.body.getD .skip)=true:=by decide+kernel
theorem WD:fnC τ An Sgs 208 Ta Try.f208 (Try.f208.body.getD .skip)=true:=by decide+kernel
theorem WC:fnC τ An Sgs 223 TZ Try.f223 (Try.f223.body.getD .skip)=true:=by decide+kernel
theorem WB:fnC τ An Sgs 224 TY Try.f224 (Try.f224.body.getD .skip)=true:=by decide+kernel
theorem WA:fnC τ An Sgs 225 TX Try.f225 (Try.f225.body.getD .skip)=true:=by decide+kernel
theorem Vz:fnC τ An Sgs 227 TW Try.f227 (Try.f227.body.getD .skip)=true:=by decide+kernel
theorem Vy:fnC τ An Sgs 228 TV Try.f228 (Try.f228.body.getD .skip)=true:=by decide+kernel
theorem Vx:fnC τ An Sgs 232 TU Try.f232 (Try.f232.body.getD .skip)=true:=by decide+kernel
theorem Vw:fnC τ An Sgs 234 TT Try.f234 (Try.f234.body.getD .skip)=true:=by decide+kernel
theorem Vv:fnC τ An Sgs 236 TS Try.f236 (Try.f236.body.getD .skip)=true:=by decide+kernel
theorem Vu:fnC τ An Sgs 237 TR Try.f237 (Try.f237.body.getD .skip)=true:=by decide+kernel
theorem Vt:fnC τ An Sgs 238 TQ Try.f238 (Try.f238.body.getD .skip)=true:=by decide+kernel
theorem Vs:fnC τ An Sgs 240 TP Try.f240 (Try.f240.body.getD .skip)=true:=by decide+kernel
theorem Vr:fnC τ An Sgs 241 TO Try.f241 (Try.f241.body.getD .skip)=true:=by decide+kernel
theorem Vq:fnC τ An Sgs 242 TN Try.f242 (Try.f242.body.getD .skip)=true:=by decide+kernel
theorem Vp:fnC τ An Sgs 243 TM Try.f243 (Try.f243.body.getD .skip)=true:=by decide+kernel
theorem Vn:fnC τ An Sgs 244 TL Try.f244 (Try.f244.body.getD .skip)=true:=by decide+kernel
theorem Vm:fnC τ An Sgs 245 TJ Try.f245 (Try.f245.body.getD .skip)=true:=by decide+kernel
theorem Vl:fnC τ An Sgs 246 TH Try.f246 (Try.f246.body.getD .skip)=true:=by decide+kernel
theorem Vk:fnC τ An Sgs 253 TG Try.f253 (Try.f253.body.getD .skip)=true:=by decide+kernel
theorem Vj:fnC τ An Sgs 254 TF Try.f254 (Try.f254.body.getD .skip)=true:=by decide+kernel
theorem Vi:fnC τ An Sgs 255 TE Try.f255 (Try.f255.body.getD .skip)=true:=by decide+kernel
theorem Vh:fnC τ An Sgs 256 TD Try.f256 (Try.f256.body.getD .skip)=true:=by decide+kernel
theorem Vg:fnC τ An Sgs 257 TB Try.f257 (Try.f257.body.getD .skip)=true:=by decide+kernel
theorem Vf:fnC τ An Sgs 258 TA Try.f258 (Try.f258.body.getD .skip)=true:=by decide+kernel
theorem Ve:fnC τ An Sgs 260 Sz Try.f260 (Try.f260.body.getD .skip)=true:=by decide+kernel
theorem Vd:fnC τ An Sgs 261 Sy Try.f261 (Try.f261.body.getD .skip)=true:=by decide+kernel
theorem Vb:fnC τ An Sgs 265 Sx Try.f265 (Try.f265.body.getD .skip)=true:=by decide+kernel
theorem Va:fnC τ An Sgs 267 Sw Try.f267 (Try.f267.body.getD .skip)=true:=by decide+kernel
theorem VZ:fnC τ An Sgs 268 Sv Try.f268 (Try.f268.body.getD .skip)=true:=by decide+kernel
theorem VY:fnC τ An Sgs 269 Su Try.f269 (Try.f269.body.getD .skip)=true:=by decide+kernel
theorem VX:fnC τ An Sgs 270 Ss Try.f270 (Try.f270.body.getD .skip)=true:=by decide+kernel
theorem VW:fnC τ An Sgs 271 Sr Try.f271 (Try.f271.body.getD .skip)=true:=by decide+kernel
theorem VV:fnC τ An Sgs 277 Sq Try.f277 (Try.f277.body.getD .skip)=true:=by decide+kernel
theorem VU:fnC τ An Sgs 278 Sp Try.f278 (Try.f278.body.getD .skip)=true:=by decide+kernel
theorem VT:fnC τ An Sgs 279 So Try.f279 (Try.f279.body.getD .skip)=true:=by decide+kernel
theorem VS:fnC τ An Sgs 280 Sn Try.f280 (Try.f280.body.getD .skip)=true:=by decide+kernel
theorem VR:fnC τ An Sgs 285 Sm Try.f285 (Try.f285.body.getD .skip)=true:=by decide+kernel
theorem checked: ∀f sg,sg∈Sgs f→ ∀fn c,Try.prog.funcs[f]? =some fn→fn.body=some c→fnC τ An Sgs f sg fn c=true:=by
  intro f sg hs
  unfold Sgs at hs
  split at hs
  · exact aT chk11 Try.func11 hs
  · exact aT chk45 Try.func45 hs
  · exact aT chk63 Try.func63 hs
  · exact aT chk64 Try.func64 hs
  · exact aT chk65 Try.func65 hs
  · exact aT chk66 Try.func66 hs
  · exact aT chk67 Try.func67 hs
  · exact aT chk69 Try.func69 hs
  · exact aT chk72 Try.func72 hs
  · exact aT chk75 Try.func75 hs
  · exact aT chk81 Try.func81 hs
  · exact aT chk96 Try.func96 hs
  · exact aT Wj Try.func118 hs
  · exact aT Wi Try.func119 hs
  · exact aT Wh Try.func121 hs
  · exact aT Wg Try.func128 hs
  · exact aT Wf Try.func135 hs
  · exact aT We Try.func136 hs
  · exact aT Wc Try.func137 hs
  · exact aT Wb Try.func138 hs
  · exact aT Wa Try.func139 hs
  · exact aT WZ Try.func140 hs
  · exact aT WY Try.func141 hs
  · exact aT WX Try.func142 hs
  · exact aT WW Try.func143 hs
  · exact aT WV Try.func144 hs
  · exact aT WU Try.func145 hs
  · exact aT WT Try.func146 hs
  · exact aT WS Try.func147 hs
  · exact aT WR Try.func148 hs
  · exact aT WQ Try.func161 hs
  · exact aT WP Try.func183 hs
  · exact aT WO Try.func184 hs
  · exact aT WN Try.func189 hs
  · exact aT WM Try.func190 hs
  · exact aT WL Try.func191 hs
  · exact aT WK Try.func194 hs
  · exact aT WJ Try.func196 hs
  · exact aT WI Try.func197 hs
  · exact aT WH Try.func198 hs
  · exact aT WG Try.func205 hs
  · exact aT WF Try.func206 hs
  · exact aT WE Try.func207 hs
  · exact aT WD Try.func208 hs
  · exact aT WC Try.func223 hs
  · exact aT WB Try.func224 hs
  · exact aT WA Try.func225 hs
  · exact aT Vz Try.func227 hs
  · exact aT Vy Try.func228 hs
  · exact aT Vx Try.func232 hs
  · exact aT Vw Try.func234 hs
  · exact aT Vv Try.func236 hs
  · exact aT Vu Try.func237 hs
  · exact aT Vt Try.func238 hs
  · exact aT Vs Try.func240 hs
  · exact aT Vr Try.func241 hs
  · exact aT Vq Try.func242 hs
  · exact aT Vp Try.func243 hs
  · exact aT Vn Try.func244 hs
  · exact aT Vm Try.func245 hs
  · exact aT Vl Try.func246 hs
  · exact aT Vk Try.func253 hs
  · exact aT Vj Try.func254 hs
  · exact aT Vi Try.func255 hs
  · exact aT Vh Try.func256 hs
  · exact aT Vg Try.func257 hs
  · exact aT Vf Try.func258 hs
  · exact aT Ve Try.func260 hs
  · exact aT Vd Try.func261 hs
  · exact aT Vb Try.func265 hs
  · exact aT Va Try.func267 hs
  · exact aT VZ Try.func268 hs
  · exact aT VY Try.func269 hs
  · exact aT VX Try.func270 hs
  · exact aT VW Try.func271 hs
  · exact aT VV Try.func277 hs
  · exact aT VU Try.func278 hs
  · exact aT VT Try.func279 hs
  · exact aT VS Try.func280 hs
  · exact aT VR Try.func285 hs
  · cases hs
end Go.Own
