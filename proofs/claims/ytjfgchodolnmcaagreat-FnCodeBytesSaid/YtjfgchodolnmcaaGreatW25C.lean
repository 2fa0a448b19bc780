/- Each function is checked. No conditions. -/
import Derived.Test.YtjfgchodolnmcaaGreatW25A
set_option linter.unusedVariables false
set_option linter.unusedSimpArgs false
set_option linter.unnecessarySimpa false
namespace Go.Own
open Go Go.Proofs
theorem chk5:fnC τ An Sgs 5 sg5 Tryz.f5 (Tryz.f5.body.getD .skip)=true:=by decide+kernel
theorem chk6:fnC τ An Sgs 6 sg6 Tryz.f6 (Tryz.f6.body.getD .skip)=true:=by decide+kernel
theorem chk19:fnC τ An Sgs 19 sg19 Tryz.f19 (Tryz.f19.body.getD .skip)=true:=by decide+kernel
theorem chk20:fnC τ An Sgs 20 sg20 Tryz.f20 (Tryz.f20.body.getD .skip)=true:=by decide+kernel
theorem chk21:fnC τ An Sgs 21 sg21 Tryz.f21 (Tryz.f21.body.getD .skip)=true:=by decide+kernel
theorem chk22:fnC τ An Sgs 22 sg22 Tryz.f22 (Tryz.f22.body.getD .skip)=true:=by decide+kernel
theorem chk23:fnC τ An Sgs 23 sg23 Tryz.f23 (Tryz.f23.body.getD .skip)=true:=by decide+kernel
theorem chk24:fnC τ An Sgs 24 sg24 Tryz.f24 (Tryz.f24.body.getD .skip)=true:=by decide+kernel
theorem chk25:fnC τ An Sgs 25 sg25 Tryz.f25 (Tryz.f25.body.getD .skip)=true:=by decide+kernel
theorem chk26:fnC τ An Sgs 26 sg26 Tryz.f26 (Tryz.f26.body.getD .skip)=true:=by decide+kernel
theorem chk27:fnC τ An Sgs 27 sg27 Tryz.f27 (Tryz.f27.body.getD .skip)=true:=by decide+kernel
theorem chk28:fnC τ An Sgs 28 sg28 Tryz.f28 (Tryz.f28.body.getD .skip)=true:=by decide+kernel
theorem chk31:fnC τ An Sgs 31 sg31 Tryz.f31 (Tryz.f31.body.getD .skip)=true:=by decide+kernel
theorem chk37:fnC τ An Sgs 37 sg37 Tryz.f37 (Tryz.f37.body.getD .skip)=true:=by decide+kernel
theorem chk52:fnC τ An Sgs 52 sg52 Tryz.f52 (Tryz.f52.body.getD .skip)=true:=by decide+kernel
theorem chk53:fnC τ An Sgs 53 sg53 Tryz.f53 (Tryz.f53.body.getD .skip)=true:=by decide+kernel
theorem chk54:fnC τ An Sgs 54 sg54 Tryz.f54 (Tryz.f54.body.getD .skip)=true:=by decide+kernel
theorem chk55:fnC τ An Sgs 55 sg55 Tryz.f55 (Tryz.f55.body.getD .skip)=true:=by decide+kernel
theorem chk56:fnC τ An Sgs 56 sg56 Tryz.f56 (Tryz.f56.body.getD .skip)=true:=by decide+kernel
theorem chk57:fnC τ An Sgs 57 sg57 Tryz.f57 (Tryz.f57.body.getD .skip)=true:=by decide+kernel
theorem chk58:fnC τ An Sgs 58 sg58 Tryz.f58 (Tryz.f58.body.getD .skip)=true:=by decide+kernel
theorem chk59:fnC τ An Sgs 59 sg59 Tryz.f59 (Tryz.f59.body.getD .skip)=true:=by decide+kernel
theorem chk60:fnC τ An Sgs 60 sg60 Tryz.f60 (Tryz.f60.body.getD .skip)=true:=by decide+kernel
theorem chk61:fnC τ An Sgs 61 sg61 Tryz.f61 (Tryz.f61.body.getD .skip)=true:=by decide+kernel
theorem chk62:fnC τ An Sgs 62 sg62 Tryz.f62 (Tryz.f62.body.getD .skip)=true:=by decide+kernel
theorem chk63:fnC τ An Sgs 63 sg63 Tryz.f63 (Tryz.f63.body.getD .skip)=true:=by decide+kernel
theorem chk64:fnC τ An Sgs 64 sg64 Tryz.f64 (Tryz.f64.body.getD .skip)=true:=by decide+kernel
theorem chk65:fnC τ An Sgs 65 sg65 Tryz.f65 (Tryz.f65.body.getD .skip)=true:=by decide+kernel
theorem chk66:fnC τ An Sgs 66 sg66 Tryz.f66 (Tryz.f66.body.getD .skip)=true:=by decide+kernel
theorem chk67:fnC τ An Sgs 67 sg67 Tryz.f67 (Tryz.f67.body.getD .skip)=true:=by decide+kernel
theorem chk68:fnC τ An Sgs 68 sg68 Tryz.f68 (Tryz.f68.body.getD .skip)=true:=by decide+kernel
theorem chk69:fnC τ An Sgs 69 sg69 Tryz.f69 (Tryz.f69.body.getD .skip)=true:=by decide+kernel
theorem chk70:fnC τ An Sgs 70 sg70 Tryz.f70 (Tryz.f70.body.getD .skip)=true:=by decide+kernel
theorem chk71:fnC τ An Sgs 71 sg71 Tryz.f71 (Tryz.f71.body.getD .skip)=true:=by decide+kernel
theorem chk72:fnC τ An Sgs 72 sg72 Tryz.f72 (Tryz.f72.body.getD .skip)=true:=by decide+kernel
theorem chk73:fnC τ An Sgs 73 sg73 Tryz.f73 (Tryz.f73.body.getD .skip)=true:=by decide+kernel
theorem chk74:fnC τ An Sgs 74 sg74 Tryz.f74 (Tryz.f74.body.getD .skip)=true:=by decide+kernel
theorem chk75:fnC τ An Sgs 75 sg75 Tryz.f75 (Tryz.f75.body.getD .skip)=true:=by decide+kernel
theorem chk90:fnC τ An Sgs 90 sg90 Tryz.f90 (Tryz.f90.body.getD .skip)=true:=by decide+kernel
theorem chk94:fnC τ An Sgs 94 sg94 Tryz.f94 (Tryz.f94.body.getD .skip)=true:=by decide+kernel
theorem chk99:fnC τ An Sgs 99 sg99 Tryz.f99 (Tryz.f99.body.getD .skip)=true:=by decide+kernel
theorem Zw:fnC τ An Sgs 100 XQ Tryz.f100 (Tryz.f100.body.getD .skip)=true:=by decide+kernel
theorem Zv:fnC τ An Sgs 102 XP Tryz.f102 (Tryz.f102.body.getD .skip)=true:=by decide+kernel
theorem Zu:fnC τ An Sgs 103 XO Tryz.f103 (Tryz.f103.body.getD .skip)=true:=by decide+kernel
theorem Zt:fnC τ An Sgs 104 XN Tryz.f104 (Tryz.f104.body.getD .skip)=true:=by decide+kernel
theorem Zs:fnC τ An Sgs 105 XM Tryz.f105 (Tryz.f105.body.getD .skip)=true:=by decide+kernel
theorem Zr:fnC τ An Sgs 106 XL Tryz.f106 (Tryz.f106.body.getD .skip)=true:=by decide+kernel
theorem Zq:fnC τ An Sgs 107 XK Tryz.f107 (Tryz.f107.body.getD .skip)=true:=by decide+kernel
theorem Zp:fnC τ An Sgs 108 XJ Tryz.f108 (Tryz.f108.body.getD .skip)=true:=by decide+kernel
theorem Zo:fnC τ An Sgs 109 XI Tryz.f109 (Tryz.f109.body.getD .skip)=true:=by decide+kernel
theorem Zn:fnC τ An Sgs 110 XH Tryz.f110 (Tryz.f110.body.getD .skip)=true:=by decide+kernel
theorem Zm:fnC τ An Sgs 111 XG Tryz.f111 (Tryz.f111.body.getD .skip)=true:=by decide+kernel
theorem Zl:fnC τ An Sgs 112 XF Tryz.f112 (Tryz.f112.body.getD .skip)=true:=by decide+kernel
theorem Zk:fnC τ An Sgs 113 XE Tryz.f113 (Tryz.f113.body.getD .skip)=true:=by decide+kernel
theorem Zj:fnC τ An Sgs 114 XD Tryz.f114 (Tryz.f114.body.getD .skip)=true:=by decide+kernel
theorem Zi:fnC τ An Sgs 115 XC Tryz.f115 (Tryz.f115.body.getD .skip)=true:=by decide+kernel
theorem Zh:fnC τ An Sgs 116 XB Tryz.f116 (Tryz.f116.body.getD .skip)=true:=by decide+kernel
theorem Zg:fnC τ An Sgs 117 XA Tryz.f117 (Tryz.f117.body.getD .skip)=true:=by decide+kernel
theorem Zf:fnC τ An Sgs 118 Wz Tryz.f118 (Tryz.f118.body.getD .skip)=true:=by decide+kernel
theorem Ze:fnC τ An Sgs 119 Wy Tryz.f119 (Tryz.f119.body.getD .skip)=true:=by decide+kernel
theorem Zd:fnC τ An Sgs 120 Wx Tryz.f120 (Tryz.f120.body.getD .skip)=true:=by decide+kernel
theorem Zc:fnC τ An Sgs 121 Ww Tryz.f121 (Tryz.f121.body.getD .skip)=true:=by decide+kernel
theorem Zb:fnC τ An Sgs 122 Wv Tryz.f122 (Tryz.f122.body.getD .skip)=true:=by decide+kernel
theorem Za:fnC τ An Sgs 132 Wu Tryz.f132 (Tryz.f132.body.getD .skip)=true:=by decide+kernel
theorem ZZ:fnC τ An Sgs 135 Wt Tryz.f135 (Tryz.f135.body.getD .skip)=true:=by decide+kernel
theorem ZY:fnC τ An Sgs 141 Ws Tryz.f141 (Tryz.f141.body.getD .skip)=true:=by decide+kernel
theorem ZX:fnC τ An Sgs 142 Wr Tryz.f142 (Tryz.f142.body.getD .skip)=true:=by decide+kernel
theorem ZW:fnC τ An Sgs 143 Wq Tryz.f143 (Tryz.f143.body.getD .skip)=true:=by decide+kernel
theorem ZV:fnC τ An Sgs 144 Wp Tryz.f144 (Tryz.f144.body.getD .skip)=true:=by decide+kernel
theorem ZU:fnC τ An Sgs 145 Wn Tryz.f145 (Tryz.f145.body.getD .skip)=true:=by decide+kernel
theorem ZT:fnC τ An Sgs 146 Wm Tryz.f146 (Tryz.f146.body.getD .skip)=true:=by decide+kernel
theorem ZS:fnC τ An Sgs 147 Wl Tryz.f147 (Tryz.f147.body.getD .skip)=true:=by decide+kernel
theorem ZR:fnC τ An Sgs 148 Wk Tryz.f148 (Tryz.f148.body.getD .skip)=true:=by decide+kernel
theorem ZQ:fnC τ An Sgs 149 Wj Tryz.f149 (Tryz.f149.body.getD .skip)=true:=by decide+kernel
theorem ZP:fnC τ An Sgs 150 Wi Tryz.f150 (Tryz.f150.body.getD .skip)=true:=by decide+kernel
theorem ZO:fnC τ An Sgs 151 Wh Tryz.f151 (Tryz.f151.body.getD .skip)=true:=by decide+kernel
theorem ZN:fnC τ An Sgs 152 Wg Tryz.f152 (Tryz.f152.body.getD .skip)=true:=by decide+kernel
theorem ZM:fnC τ An Sgs 153 Wf Tryz.f153 (Tryz.f153.body.getD .skip)=true:=by decide+kernel
theorem ZL:fnC τ An Sgs 154 We Tryz.f154 (Tryz.f154.body.getD .skip)=true:=by decide+kernel
theorem ZK:fnC τ An Sgs 155 Wc Tryz.f155 (Tryz.f155.body.getD .skip)=true:=by decide+kernel
theorem ZJ:fnC τ An Sgs 156 Wb Tryz.f156 (Tryz.f156.body.getD .skip)=true:=by decide+kernel
theorem ZI:fnC τ An Sgs 157 Wa Tryz.f157 (Tryz.f157.body.getD .skip)=true:=by decide+kernel
theorem ZH:fnC τ An Sgs 166 WZ Tryz.f166 (Tryz.f166.body.getD .skip)=true:=by decide+kernel
theorem ZG:fnC τ An Sgs 170 WY Tryz.f170 (Tryz.f170.body.getD .skip)=true:=by decide+kernel
theorem ZF:fnC τ An Sgs 171 WX Tryz.f171 (Tryz.f171.body.getD .skip)=true:=by decide+kernel
theorem ZE:fnC τ An Sgs 173 WW Tryz.f173 (Tryz.f173.body.getD .skip)=true:=by decide+kernel
theorem ZD:fnC τ An Sgs 174 WV Tryz.f174 (Tryz.f174.body.getD .skip)=true:=by decide+kernel
theorem ZC:fnC τ An Sgs 175 WU Tryz.f175 (Tryz.f175.body.getD .skip)=true:=by decide+kernel
theorem ZB:fnC τ An Sgs 176 WT Tryz.f176 (Tryz.f176.body.getD .skip)=true:=by decide+kernel
theorem ZA:fnC τ An Sgs 177 WS Tryz.f177 (Tryz.f177.body.getD .skip)=true:=by decide+kernel
theorem Yz:fnC τ An Sgs 178 WR Tryz.f178 (Tryz.f178.body.getD .skip)=true:=by decide+kernel
theorem Yy:fnC τ An Sgs 179 WQ Tryz.f179 (Tryz.f179.body.getD .skip)=true:=by decide+kernel
theorem Yx:fnC τ An Sgs 180 WP Tryz.f180 (Tryz.f180.body.getD .skip)=true:=by decide+kernel
theorem Yw:fnC τ An Sgs 195 WO Tryz.f195 (Tryz.f195.body.getD .skip)=true:=by decide+kernel
theorem Yv:fnC τ An Sgs 196 WN Tryz.f196 (Tryz.f196.body.getD .skip)=true:=by decide+kernel
theorem Yu:fnC τ An Sgs 197 WM Tryz.f197 (Tryz.f197.body.getD .skip)=true:=by decide+kernel
theorem Yt:fnC τ An Sgs 198 WL Tryz.f198 (Tryz.f198.body.getD .skip)=true:=by decide+kernel
theorem Ys:fnC τ An Sgs 203 WK Tryz.f203 (Tryz.f203.body.getD .skip)=true:=by decide+kernel
theorem Yr:fnC τ An Sgs 206 WJ Tryz.f206 (Tryz.f206.body.getD .skip)=true:=by decide+kernel
theorem Yq:fnC τ An Sgs 207 WI Tryz.f207 (Tryz.f207.body.getD .skip)=true:=by decide+kernel
theorem Yp:fnC τ An Sgs 211 WH Tryz.f211 (Tryz.f211.body.getD .skip)=true:=by decide+kernel
theorem checked: ∀f sg,sg∈Sgs f→ ∀fn c,Tryz.prog.funcs[f]? =some fn→fn.body=some c→fnC τ An Sgs f sg fn c=true:=by
  intro f sg hs; unfold Sgs at hs; split at hs
  · exact aT chk5 Tryz.func5 hs
  · exact aT chk6 Tryz.func6 hs
  · exact aT chk19 Tryz.func19 hs
  · exact aT chk20 Tryz.func20 hs
  · exact aT chk21 Tryz.func21 hs
  · exact aT chk22 Tryz.func22 hs
  · exact aT chk23 Tryz.func23 hs
  · exact aT chk24 Tryz.func24 hs
  · exact aT chk25 Tryz.func25 hs
  · exact aT chk26 Tryz.func26 hs
  · exact aT chk27 Tryz.func27 hs
  · exact aT chk28 Tryz.func28 hs
  · exact aT chk31 Tryz.func31 hs
  · exact aT chk37 Tryz.func37 hs
  · exact aT chk52 Tryz.func52 hs
  · exact aT chk53 Tryz.func53 hs
  · exact aT chk54 Tryz.func54 hs
  · exact aT chk55 Tryz.func55 hs
  · exact aT chk56 Tryz.func56 hs
  · exact aT chk57 Tryz.func57 hs
  · exact aT chk58 Tryz.func58 hs
  · exact aT chk59 Tryz.func59 hs
  · exact aT chk60 Tryz.func60 hs
  · exact aT chk61 Tryz.func61 hs
  · exact aT chk62 Tryz.func62 hs
  · exact aT chk63 Tryz.func63 hs
  · exact aT chk64 Tryz.func64 hs
  · exact aT chk65 Tryz.func65 hs
  · exact aT chk66 Tryz.func66 hs
  · exact aT chk67 Tryz.func67 hs
  · exact aT chk68 Tryz.func68 hs
  · exact aT chk69 Tryz.func69 hs
  · exact aT chk70 Tryz.func70 hs
  · exact aT chk71 Tryz.func71 hs
  · exact aT chk72 Tryz.func72 hs
  · exact aT chk73 Tryz.func73 hs
  · exact aT chk74 Tryz.func74 hs
  · exact aT chk75 Tryz.func75 hs
  · exact aT chk90 Tryz.func90 hs
  · exact aT chk94 Tryz.func94 hs
  · exact aT chk99 Tryz.func99 hs
  · exact aT Zw Tryz.func100 hs
  · exact aT Zv Tryz.func102 hs
  · exact aT Zu Tryz.func103 hs
  · exact aT Zt Tryz.func104 hs
  · exact aT Zs Tryz.func105 hs
  · exact aT Zr Tryz.func106 hs
  · exact aT Zq Tryz.func107 hs
  · exact aT Zp Tryz.func108 hs
  · exact aT Zo Tryz.func109 hs
  · exact aT Zn Tryz.func110 hs
  · exact aT Zm Tryz.func111 hs
  · exact aT Zl Tryz.func112 hs
  · exact aT Zk Tryz.func113 hs
  · exact aT Zj Tryz.func114 hs
  · exact aT Zi Tryz.func115 hs
  · exact aT Zh Tryz.func116 hs
  · exact aT Zg Tryz.func117 hs
  · exact aT Zf Tryz.func118 hs
  · exact aT Ze Tryz.func119 hs
  · exact aT Zd Tryz.func120 hs
  · exact aT Zc Tryz.func121 hs
  · exact aT Zb Tryz.func122 hs
  · exact aT Za Tryz.func132 hs
  · exact aT ZZ Tryz.func135 hs
  · exact aT ZY Tryz.func141 hs
  · exact aT ZX Tryz.func142 hs
  · exact aT ZW Tryz.func143 hs
  · exact aT ZV Tryz.func144 hs
  · exact aT ZU Tryz.func145 hs
  · exact aT ZT Tryz.func146 hs
  · exact aT ZS Tryz.func147 hs
  · exact aT ZR Tryz.func148 hs
  · exact aT ZQ Tryz.func149 hs
  · exact aT ZP Tryz.func150 hs
  · exact aT ZO Tryz.func151 hs
  · exact aT ZN Tryz.func152 hs
  · exact aT ZM Tryz.func153 hs
  · exact aT ZL Tryz.func154 hs
  · exact aT ZK Tryz.func155 hs
  · exact aT ZJ Tryz.func156 hs
  · exact aT ZI Tryz.func157 hs
  · exact aT ZH Tryz.func166 hs
  · exact aT ZG Tryz.func170 hs
  · exact aT ZF Tryz.func171 hs
  · exact aT ZE Tryz.func173 hs
  · exact aT ZD Tryz.func174 hs
  · exact aT ZC Tryz.func175 hs
  · exact aT ZB Tryz.func176 hs
  · exact aT ZA Tryz.func177 hs
  · exact aT Yz Tryz.func178 hs
  · exact aT Yy Tryz.func179 hs
  · exact aT Yx Tryz.func180 hs
  · exact aT Yw Tryz.func195 hs
  · exact aT Yv Tryz.func196 hs
  · exact aT Yu Tryz.func197 hs
  · exact aT Yt Tryz.func198 hs
  · exact aT Ys Tryz.func203 hs
  · exact aT Yr Tryz.func206 hs
  · exact aT Yq Tryz.func207 hs
  · exact aT Yp Tryz.func211 hs
  · cases hs
end Go.Own
