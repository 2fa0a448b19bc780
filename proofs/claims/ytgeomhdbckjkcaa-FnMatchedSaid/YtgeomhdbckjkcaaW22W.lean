/- Each function on plain data, and its walk. No conditions. -/
import Derived.Test.YtgeomhdbckjkcaaW22V
set_option linter.unusedVariables false
set_option linter.unusedSimpArgs false
set_option linter.unnecessarySimpa false
namespace Go.Own
open Go Go.Proofs
def sY(n:Nat)(r_spec_l4Draw:cG)(t1_0:Int)(t2_0:List (List UInt8)):(Int×Int×Int×(List UInt8)×(List aA)×(List aC)×(List Int)×Int×Int)→Option ((Int×Int×Int×(List UInt8)×(List aA)×(List aC)×(List Int)×Int×Int)⊕((Int×Bool×Int×Int×(List UInt8)×(List aA)×(List aC)×(List Int)×Int×Int)))
  | (v9_39,w8_40,w8_41,w8_42,w8_43,w8_44,w1000000_45,w1000000_46,w1000000_47)=>bif decide ((0:Int)<v9_39)then(r_spec_l4Draw (IntKind.wrap .i64 (t1_0 - (1:Int))) t2_0 w1000000_45 w1000000_46 w1000000_47).bind fun c90_59=>(gA 80 w8_43 ([aA.mk c90_59.1 c90_59.2.1 c90_59.2.2.1 c90_59.2.2.2.1 c90_59.2.2.2.2.1]:List aA)).bind fun v92_60=>some (.inl ((IntKind.wrap .i64 (v9_39 - (1:Int))),w8_40,w8_41,w8_42,v92_60,w8_44,c90_59.2.2.2.2.2.1,c90_59.2.2.2.2.2.2.1,c90_59.2.2.2.2.2.2.2))else some (.inr (v9_39,false,w8_40,w8_41,w8_42,w8_43,w8_44,w1000000_45,w1000000_46,w1000000_47))
def sX(n:Nat)(r_spec_l4Draw:cG)(t1_0:Int)(t2_0:List (List UInt8)):(Int×Int×Int×(List UInt8)×(List aA)×(List aC)×(List Int)×Int×Int)→Option ((Int×Int×Int×(List UInt8)×(List aA)×(List aC)×(List Int)×Int×Int)⊕((Int×Bool×Int×Int×(List UInt8)×(List aA)×(List aC)×(List Int)×Int×Int)))
  | (v12_67,w10_68,w10_69,w10_70,w10_71,w10_72,w1000000_73,w1000000_74,w1000000_75)=>bif decide (v12_67<(2:Int))then(r_spec_l4Draw (IntKind.wrap .i64 (t1_0 - (1:Int))) t2_0 w1000000_73 w1000000_74 w1000000_75).bind fun c131_87=>(gA 80 w10_71 ([aA.mk c131_87.1 c131_87.2.1 c131_87.2.2.1 c131_87.2.2.2.1 c131_87.2.2.2.2.1]:List aA)).bind fun v133_88=>some (.inl ((IntKind.wrap .i64 (v12_67+(1:Int))),w10_68,w10_69,w10_70,v133_88,w10_72,c131_87.2.2.2.2.2.1,c131_87.2.2.2.2.2.2.1,c131_87.2.2.2.2.2.2.2))else some (.inr (v12_67,false,w10_68,w10_69,w10_70,w10_71,w10_72,w1000000_73,w1000000_74,w1000000_75))
def sW(n:Nat)(r_spec_l4Draw:cG)(t1_0:Int)(t2_0:List (List UInt8)):(Int×Int×Int×(List UInt8)×(List aA)×(List aC)×(List Int)×Int×Int)→Option ((Int×Int×Int×(List UInt8)×(List aA)×(List aC)×(List Int)×Int×Int)⊕((Int×Bool×Int×Int×(List UInt8)×(List aA)×(List aC)×(List Int)×Int×Int)))
  | (v12_89,w10_90,w10_91,w10_92,w10_93,w10_94,w1000000_95,w1000000_96,w1000000_97)=>bif decide (v12_89<(1:Int))then(r_spec_l4Draw (IntKind.wrap .i64 (t1_0 - (1:Int))) t2_0 w1000000_95 w1000000_96 w1000000_97).bind fun c131_109=>(gA 80 w10_93 ([aA.mk c131_109.1 c131_109.2.1 c131_109.2.2.1 c131_109.2.2.2.1 c131_109.2.2.2.2.1]:List aA)).bind fun v133_110=>some (.inl ((IntKind.wrap .i64 (v12_89+(1:Int))),w10_90,w10_91,w10_92,v133_110,w10_94,c131_109.2.2.2.2.2.1,c131_109.2.2.2.2.2.2.1,c131_109.2.2.2.2.2.2.2))else some (.inr (v12_89,false,w10_90,w10_91,w10_92,w10_93,w10_94,w1000000_95,w1000000_96,w1000000_97))
def sV(n:Nat)(r_spec_l4Draw:cG)(t1_0:Int)(t2_0:List (List UInt8)):(Int×Int×Int×(List UInt8)×(List aA)×(List aC)×(List Int)×Int×Int)→Option ((Int×Int×Int×(List UInt8)×(List aA)×(List aC)×(List Int)×Int×Int)⊕((Int×Bool×Int×Int×(List UInt8)×(List aA)×(List aC)×(List Int)×Int×Int)))
  | (v14_113,w13_114,w13_115,w13_116,w13_117,w13_118,w1000000_119,w1000000_120,w1000000_121)=>bif decide ((0:Int)<v14_113)then(cJ n (1:Int) w1000000_119 w1000000_120 w1000000_121 ([]:List (List UInt8))).bind fun c152_133=>(gA 16 ([]:List (List UInt8)) t2_0).bind fun v161_134=>(gA 16 v161_134 c152_133.2.2.2.2.2.2.2.2).bind fun v163_135=>(r_spec_l4Draw (IntKind.wrap .i64 (t1_0 - (1:Int))) v163_135 c152_133.2.2.2.2.2.1 c152_133.2.2.2.2.2.2.1 c152_133.2.2.2.2.2.2.2.1).bind fun c164_136=>(gA 160 w13_118 ([aC.mk c152_133.1 c152_133.2.1 c152_133.2.2.1 c152_133.2.2.2.1 c152_133.2.2.2.2.1 c164_136.1 c164_136.2.1 c164_136.2.2.1 c164_136.2.2.2.1 c164_136.2.2.2.2.1]:List aC)).bind fun v167_137=>some (.inl ((IntKind.wrap .i64 (v14_113 - (1:Int))),w13_114,w13_115,w13_116,w13_117,v167_137,c164_136.2.2.2.2.2.1,c164_136.2.2.2.2.2.2.1,c164_136.2.2.2.2.2.2.2))else some (.inr (v14_113,false,w13_114,w13_115,w13_116,w13_117,w13_118,w1000000_119,w1000000_120,w1000000_121))
def kV(n:Nat)(r_spec_l4Draw:cG)(t1_0:Int)(t2_0:List (List UInt8)):(Int×Int×Int×(List UInt8)×(List aA)×(List aC)×(List Int)×Int×Int)→Option ((Int×Int×Int×(List UInt8)×(List aA)×(List aC)×(List Int)×Int×Int)⊕((Int×Bool×Int×Int×(List UInt8)×(List aA)×(List aC)×(List Int)×Int×Int)))
  | (v9_177,w8_178,w8_179,w8_180,w8_181,w8_182,w1000000_183,w1000000_184,w1000000_185)=>bif decide ((0:Int)<v9_177)then(r_spec_l4Draw (IntKind.wrap .i64 (t1_0 - (1:Int))) t2_0 w1000000_183 w1000000_184 w1000000_185).bind fun c90_197=>(gA 80 w8_181 ([aA.mk c90_197.1 c90_197.2.1 c90_197.2.2.1 c90_197.2.2.2.1 c90_197.2.2.2.2.1]:List aA)).bind fun v92_198=>some (.inl ((IntKind.wrap .i64 (v9_177 - (1:Int))),w8_178,w8_179,w8_180,v92_198,w8_182,c90_197.2.2.2.2.2.1,c90_197.2.2.2.2.2.2.1,c90_197.2.2.2.2.2.2.2))else some (.inr (v9_177,false,w8_178,w8_179,w8_180,w8_181,w8_182,w1000000_183,w1000000_184,w1000000_185))
def kU(n:Nat)(r_spec_l4Draw:cG)(t1_0:Int)(t2_0:List (List UInt8)):(Int×Int×Int×(List UInt8)×(List aA)×(List aC)×(List Int)×Int×Int)→Option ((Int×Int×Int×(List UInt8)×(List aA)×(List aC)×(List Int)×Int×Int)⊕((Int×Bool×Int×Int×(List UInt8)×(List aA)×(List aC)×(List Int)×Int×Int)))
  | (v12_205,w10_206,w10_207,w10_208,w10_209,w10_210,w1000000_211,w1000000_212,w1000000_213)=>bif decide (v12_205<(2:Int))then(r_spec_l4Draw (IntKind.wrap .i64 (t1_0 - (1:Int))) t2_0 w1000000_211 w1000000_212 w1000000_213).bind fun c131_225=>(gA 80 w10_209 ([aA.mk c131_225.1 c131_225.2.1 c131_225.2.2.1 c131_225.2.2.2.1 c131_225.2.2.2.2.1]:List aA)).bind fun v133_226=>some (.inl ((IntKind.wrap .i64 (v12_205+(1:Int))),w10_206,w10_207,w10_208,v133_226,w10_210,c131_225.2.2.2.2.2.1,c131_225.2.2.2.2.2.2.1,c131_225.2.2.2.2.2.2.2))else some (.inr (v12_205,false,w10_206,w10_207,w10_208,w10_209,w10_210,w1000000_211,w1000000_212,w1000000_213))
def kT(n:Nat)(r_spec_l4Draw:cG)(t1_0:Int)(t2_0:List (List UInt8)):(Int×Int×Int×(List UInt8)×(List aA)×(List aC)×(List Int)×Int×Int)→Option ((Int×Int×Int×(List UInt8)×(List aA)×(List aC)×(List Int)×Int×Int)⊕((Int×Bool×Int×Int×(List UInt8)×(List aA)×(List aC)×(List Int)×Int×Int)))
  | (v12_227,w10_228,w10_229,w10_230,w10_231,w10_232,w1000000_233,w1000000_234,w1000000_235)=>bif decide (v12_227<(1:Int))then(r_spec_l4Draw (IntKind.wrap .i64 (t1_0 - (1:Int))) t2_0 w1000000_233 w1000000_234 w1000000_235).bind fun c131_247=>(gA 80 w10_231 ([aA.mk c131_247.1 c131_247.2.1 c131_247.2.2.1 c131_247.2.2.2.1 c131_247.2.2.2.2.1]:List aA)).bind fun v133_248=>some (.inl ((IntKind.wrap .i64 (v12_227+(1:Int))),w10_228,w10_229,w10_230,v133_248,w10_232,c131_247.2.2.2.2.2.1,c131_247.2.2.2.2.2.2.1,c131_247.2.2.2.2.2.2.2))else some (.inr (v12_227,false,w10_228,w10_229,w10_230,w10_231,w10_232,w1000000_233,w1000000_234,w1000000_235))
def kR(n:Nat)(r_spec_l4Draw:cG)(t1_0:Int)(t2_0:List (List UInt8)):(Int×Int×Int×(List UInt8)×(List aA)×(List aC)×(List Int)×Int×Int)→Option ((Int×Int×Int×(List UInt8)×(List aA)×(List aC)×(List Int)×Int×Int)⊕((Int×Bool×Int×Int×(List UInt8)×(List aA)×(List aC)×(List Int)×Int×Int)))
  | (v14_251,w13_252,w13_253,w13_254,w13_255,w13_256,w1000000_257,w1000000_258,w1000000_259)=>bif decide ((0:Int)<v14_251)then(cJ n (1:Int) w1000000_257 w1000000_258 w1000000_259 ([]:List (List UInt8))).bind fun c152_271=>(gA 16 ([]:List (List UInt8)) t2_0).bind fun v161_272=>(gA 16 v161_272 c152_271.2.2.2.2.2.2.2.2).bind fun v163_273=>(r_spec_l4Draw (IntKind.wrap .i64 (t1_0 - (1:Int))) v163_273 c152_271.2.2.2.2.2.1 c152_271.2.2.2.2.2.2.1 c152_271.2.2.2.2.2.2.2.1).bind fun c164_274=>(gA 160 w13_256 ([aC.mk c152_271.1 c152_271.2.1 c152_271.2.2.1 c152_271.2.2.2.1 c152_271.2.2.2.2.1 c164_274.1 c164_274.2.1 c164_274.2.2.1 c164_274.2.2.2.1 c164_274.2.2.2.2.1]:List aC)).bind fun v167_275=>some (.inl ((IntKind.wrap .i64 (v14_251 - (1:Int))),w13_252,w13_253,w13_254,w13_255,v167_275,c164_274.2.2.2.2.2.1,c164_274.2.2.2.2.2.2.1,c164_274.2.2.2.2.2.2.2))else some (.inr (v14_251,false,w13_252,w13_253,w13_254,w13_255,w13_256,w1000000_257,w1000000_258,w1000000_259))
def lR(n:Nat)(r_spec_l4Draw:cG)(t1_0:Int)(t2_0:List (List UInt8))(o0_0:List Int)(o0_1:Int)(o0_2:Int):Option (Int×Int×(List UInt8)×(List aA)×(List aC)×(List Int)×Int×Int):=
  (aJ n (11:Int) o0_0 o0_1 o0_2).bind fun c18_1=>bif decide (t1_0<(1:Int))then(aJ n (4:Int) c18_1.2.1 c18_1.2.2.1 c18_1.2.2.2).bind fun c22_3=>bif decide (c22_3.1=(0:Int))then(bO n ([(0:Int),(1:Int),(2:Int),(5:Int),(40:Int)]:List Int) c22_3.2.1 c22_3.2.2.1 c22_3.2.2.2).bind fun c28_5=>(bN n c28_5.1).bind fun c29_6=>some (c29_6.1,c29_6.2.1,c29_6.2.2.1,c29_6.2.2.2.1,c29_6.2.2.2.2,c28_5.2.1,c28_5.2.2.1,c28_5.2.2.2)else bif decide (c22_3.1=(1:Int))then(aV n ([([111,107]:List UInt8),([97]:List UInt8),([115,116,111,112]:List UInt8),([116,114,117,101]:List UInt8)]:List (List UInt8)) c22_3.2.1 c22_3.2.2.1 c22_3.2.2.2).bind fun c34_8=>(kP n c34_8.1).bind fun c35_9=>some (c35_9.1,c35_9.2.1,c35_9.2.2.1,c35_9.2.2.2.1,c35_9.2.2.2.2,c34_8.2.1,c34_8.2.2.1,c34_8.2.2.2)else bif decide (c22_3.1=(2:Int))then bif decide ((0:Int)<(t2_0.length:Int))then(aJ n (t2_0.length:Int) c22_3.2.1 c22_3.2.2.1 c22_3.2.2.2).bind fun c47_12=>(ix t2_0 c47_12.1).bind fun e48_13=>some ((3:Int),(0:Int),e48_13,([]:List aA),([]:List aC),c47_12.2.1,c47_12.2.2.1,c47_12.2.2.2)else(aJ n (4:Int) c22_3.2.1 c22_3.2.2.1 c22_3.2.2.2).bind fun c52_14=>(bN n c52_14.1).bind fun c53_15=>some (c53_15.1,c53_15.2.1,c53_15.2.2.1,c53_15.2.2.2.1,c53_15.2.2.2.2,c52_14.2.1,c52_14.2.2.1,c52_14.2.2.2)else bif decide (c22_3.1=(3:Int))then bif decide ((0:Int)<(t2_0.length:Int))then(aJ n (t2_0.length:Int) c22_3.2.1 c22_3.2.2.1 c22_3.2.2.2).bind fun c47_18=>(ix t2_0 c47_18.1).bind fun e48_19=>some ((3:Int),(0:Int),e48_19,([]:List aA),([]:List aC),c47_18.2.1,c47_18.2.2.1,c47_18.2.2.2)else(aJ n (4:Int) c22_3.2.1 c22_3.2.2.1 c22_3.2.2.2).bind fun c52_20=>(bN n c52_20.1).bind fun c53_21=>some (c53_21.1,c53_21.2.1,c53_21.2.2.1,c53_21.2.2.2.1,c53_21.2.2.2.2,c52_20.2.1,c52_20.2.2.1,c52_20.2.2.2)else bif decide (c22_3.1=(4:Int))then bif decide ((0:Int)<(t2_0.length:Int))then(aJ n (t2_0.length:Int) c22_3.2.1 c22_3.2.2.1 c22_3.2.2.2).bind fun c47_24=>(ix t2_0 c47_24.1).bind fun e48_25=>some ((3:Int),(0:Int),e48_25,([]:List aA),([]:List aC),c47_24.2.1,c47_24.2.2.1,c47_24.2.2.2)else(aJ n (4:Int) c22_3.2.1 c22_3.2.2.1 c22_3.2.2.2).bind fun c52_26=>(bN n c52_26.1).bind fun c53_27=>some (c53_27.1,c53_27.2.1,c53_27.2.2.1,c53_27.2.2.2.1,c53_27.2.2.2.2,c52_26.2.1,c52_26.2.2.1,c52_26.2.2.2)else bif decide (c22_3.1=(5:Int))then(aV n ([([43]:List UInt8),([45]:List UInt8),([42]:List UInt8),([61,61]:List UInt8),([60]:List UInt8),([43]:List UInt8)]:List (List UInt8)) c22_3.2.1 c22_3.2.2.1 c22_3.2.2.2).bind fun c59_29=>(r_spec_l4Draw (IntKind.wrap .i64 (t1_0 - (1:Int))) t2_0 c59_29.2.1 c59_29.2.2.1 c59_29.2.2.2).bind fun c64_30=>(r_spec_l4Draw (IntKind.wrap .i64 (t1_0 - (1:Int))) t2_0 c64_30.2.2.2.2.2.1 c64_30.2.2.2.2.2.2.1 c64_30.2.2.2.2.2.2.2).bind fun c69_31=>some ((7:Int),(0:Int),c59_29.1,([aA.mk c64_30.1 c64_30.2.1 c64_30.2.2.1 c64_30.2.2.2.1 c64_30.2.2.2.2.1,aA.mk c69_31.1 c69_31.2.1 c69_31.2.2.1 c69_31.2.2.2.1 c69_31.2.2.2.2.1]:List aA),([]:List aC),c69_31.2.2.2.2.2.1,c69_31.2.2.2.2.2.2.1,c69_31.2.2.2.2.2.2.2)else bif decide (c22_3.1=(6:Int))then(aV n ([([43]:List UInt8),([45]:List UInt8),([42]:List UInt8),([61,61]:List UInt8),([60]:List UInt8),([43]:List UInt8)]:List (List UInt8)) c22_3.2.1 c22_3.2.2.1 c22_3.2.2.2).bind fun c59_33=>(r_spec_l4Draw (IntKind.wrap .i64 (t1_0 - (1:Int))) t2_0 c59_33.2.1 c59_33.2.2.1 c59_33.2.2.2).bind fun c64_34=>(r_spec_l4Draw (IntKind.wrap .i64 (t1_0 - (1:Int))) t2_0 c64_34.2.2.2.2.2.1 c64_34.2.2.2.2.2.2.1 c64_34.2.2.2.2.2.2.2).bind fun c69_35=>some ((7:Int),(0:Int),c59_33.1,([aA.mk c64_34.1 c64_34.2.1 c64_34.2.2.1 c64_34.2.2.2.1 c64_34.2.2.2.2.1,aA.mk c69_35.1 c69_35.2.1 c69_35.2.2.1 c69_35.2.2.2.1 c69_35.2.2.2.2.1]:List aA),([]:List aC),c69_35.2.2.2.2.2.1,c69_35.2.2.2.2.2.2.1,c69_35.2.2.2.2.2.2.2)else bif decide (c22_3.1=(7:Int))then(bO n ([(4:Int),(5:Int)]:List Int) c22_3.2.1 c22_3.2.2.1 c22_3.2.2.2).bind fun c76_37=>(aJ n (3:Int) c76_37.2.1 c76_37.2.2.1 c76_37.2.2.2).bind fun c79_38=>(loopN (sY n r_spec_l4Draw t1_0 t2_0) n (c79_38.1,c76_37.1,(0:Int),([]:List UInt8),([]:List aA),([]:List aC),c79_38.2.1,c79_38.2.2.1,c79_38.2.2.2)).bind fun(v9_48,v81_49,w8_50,w8_51,w8_52,w8_53,w8_54,w1000000_55,w1000000_56,w1000000_57)=>some (w8_50,w8_51,w8_52,w8_53,w8_54,w1000000_55,w1000000_56,w1000000_57)else bif decide (c22_3.1=(8:Int))then(r_spec_l4Draw (IntKind.wrap .i64 (t1_0 - (1:Int))) t2_0 c22_3.2.1 c22_3.2.2.1 c22_3.2.2.2).bind fun c101_62=>(r_spec_l4Draw (IntKind.wrap .i64 (t1_0 - (1:Int))) t2_0 c101_62.2.2.2.2.2.1 c101_62.2.2.2.2.2.2.1 c101_62.2.2.2.2.2.2.2).bind fun c106_63=>some ((6:Int),(0:Int),([]:List UInt8),([aA.mk c101_62.1 c101_62.2.1 c101_62.2.2.1 c101_62.2.2.2.1 c101_62.2.2.2.2.1,aA.mk (5:Int) (0:Int) ([]:List UInt8) ([aA.mk c106_63.1 c106_63.2.1 c106_63.2.2.1 c106_63.2.2.2.1 c106_63.2.2.2.2.1]:List aA) ([]:List aC)]:List aA),([]:List aC),c106_63.2.2.2.2.2.1,c106_63.2.2.2.2.2.2.1,c106_63.2.2.2.2.2.2.2)else bif decide (c22_3.1=(9:Int))then(aV n ([([102]:List UInt8),([103]:List UInt8),([104]:List UInt8)]:List (List UInt8)) c22_3.2.1 c22_3.2.2.1 c22_3.2.2.2).bind fun c115_65=>bif decide (c115_65.1=([103]:List UInt8))then(loopN (sX n r_spec_l4Draw t1_0 t2_0) n ((0:Int),(8:Int),(0:Int),c115_65.1,([]:List aA),([]:List aC),c115_65.2.1,c115_65.2.2.1,c115_65.2.2.2)).bind fun(v12_76,v122_77,w10_78,w10_79,w10_80,w10_81,w10_82,w1000000_83,w1000000_84,w1000000_85)=>some (w10_78,w10_79,w10_80,w10_81,w10_82,w1000000_83,w1000000_84,w1000000_85)else(loopN (sW n r_spec_l4Draw t1_0 t2_0) n ((0:Int),(8:Int),(0:Int),c115_65.1,([]:List aA),([]:List aC),c115_65.2.1,c115_65.2.2.1,c115_65.2.2.2)).bind fun(v12_98,v122_99,w10_100,w10_101,w10_102,w10_103,w10_104,w1000000_105,w1000000_106,w1000000_107)=>some (w10_100,w10_101,w10_102,w10_103,w10_104,w1000000_105,w1000000_106,w1000000_107)else(r_spec_l4Draw (IntKind.wrap .i64 (t1_0 - (1:Int))) t2_0 c22_3.2.1 c22_3.2.2.1 c22_3.2.2.2).bind fun c140_111=>(aJ n (2:Int) c140_111.2.2.2.2.2.1 c140_111.2.2.2.2.2.2.1 c140_111.2.2.2.2.2.2.2).bind fun c144_112=>(loopN (sV n r_spec_l4Draw t1_0 t2_0) n ((IntKind.wrap .i64 ((1:Int)+c144_112.1)),(9:Int),(0:Int),([]:List UInt8),([aA.mk c140_111.1 c140_111.2.1 c140_111.2.2.1 c140_111.2.2.2.1 c140_111.2.2.2.2.1]:List aA),([]:List aC),c144_112.2.1,c144_112.2.2.1,c144_112.2.2.2)).bind fun(v14_122,v147_123,w13_124,w13_125,w13_126,w13_127,w13_128,w1000000_129,w1000000_130,w1000000_131)=>(fU n (2:Int) w1000000_129 w1000000_130 w1000000_131).bind fun c170_138=>bif c170_138.1 then(r_spec_l4Draw (IntKind.wrap .i64 (t1_0 - (1:Int))) t2_0 c170_138.2.1 c170_138.2.2.1 c170_138.2.2.2).bind fun c178_140=>(gA 160 w13_128 ([aC.mk (3:Int) (0:Int) ([95]:List UInt8) ([]:List aA) ([]:List aC) c178_140.1 c178_140.2.1 c178_140.2.2.1 c178_140.2.2.2.1 c178_140.2.2.2.2.1]:List aC)).bind fun v181_141=>some (w13_124,w13_125,w13_126,w13_127,v181_141,c178_140.2.2.2.2.2.1,c178_140.2.2.2.2.2.2.1,c178_140.2.2.2.2.2.2.2)else some (w13_124,w13_125,w13_126,w13_127,w13_128,c170_138.2.1,c170_138.2.2.1,c170_138.2.2.2)else bif decide (c18_1.1=(0:Int))then(bO n ([(0:Int),(1:Int),(2:Int),(5:Int),(40:Int)]:List Int) c18_1.2.1 c18_1.2.2.1 c18_1.2.2.2).bind fun c28_143=>(bN n c28_143.1).bind fun c29_144=>some (c29_144.1,c29_144.2.1,c29_144.2.2.1,c29_144.2.2.2.1,c29_144.2.2.2.2,c28_143.2.1,c28_143.2.2.1,c28_143.2.2.2)else bif decide (c18_1.1=(1:Int))then(aV n ([([111,107]:List UInt8),([97]:List UInt8),([115,116,111,112]:List UInt8),([116,114,117,101]:List UInt8)]:List (List UInt8)) c18_1.2.1 c18_1.2.2.1 c18_1.2.2.2).bind fun c34_146=>(kP n c34_146.1).bind fun c35_147=>some (c35_147.1,c35_147.2.1,c35_147.2.2.1,c35_147.2.2.2.1,c35_147.2.2.2.2,c34_146.2.1,c34_146.2.2.1,c34_146.2.2.2)else bif decide (c18_1.1=(2:Int))then bif decide ((0:Int)<(t2_0.length:Int))then(aJ n (t2_0.length:Int) c18_1.2.1 c18_1.2.2.1 c18_1.2.2.2).bind fun c47_150=>(ix t2_0 c47_150.1).bind fun e48_151=>some ((3:Int),(0:Int),e48_151,([]:List aA),([]:List aC),c47_150.2.1,c47_150.2.2.1,c47_150.2.2.2)else(aJ n (4:Int) c18_1.2.1 c18_1.2.2.1 c18_1.2.2.2).bind fun c52_152=>(bN n c52_152.1).bind fun c53_153=>some (c53_153.1,c53_153.2.1,c53_153.2.2.1,c53_153.2.2.2.1,c53_153.2.2.2.2,c52_152.2.1,c52_152.2.2.1,c52_152.2.2.2)else bif decide (c18_1.1=(3:Int))then bif decide ((0:Int)<(t2_0.length:Int))then(aJ n (t2_0.length:Int) c18_1.2.1 c18_1.2.2.1 c18_1.2.2.2).bind fun c47_156=>(ix t2_0 c47_156.1).bind fun e48_157=>some ((3:Int),(0:Int),e48_157,([]:List aA),([]:List aC),c47_156.2.1,c47_156.2.2.1,c47_156.2.2.2)else(aJ n (4:Int) c18_1.2.1 c18_1.2.2.1 c18_1.2.2.2).bind fun c52_158=>(bN n c52_158.1).bind fun c53_159=>some (c53_159.1,c53_159.2.1,c53_159.2.2.1,c53_159.2.2.2.1,c53_159.2.2.2.2,c52_158.2.1,c52_158.2.2.1,c52_158.2.2.2)else bif decide (c18_1.1=(4:Int))then bif decide ((0:Int)<(t2_0.length:Int))then(aJ n (t2_0.length:Int) c18_1.2.1 c18_1.2.2.1 c18_1.2.2.2).bind fun c47_162=>(ix t2_0 c47_162.1).bind fun e48_163=>some ((3:Int),(0:Int),e48_163,([]:List aA),([]:List aC),c47_162.2.1,c47_162.2.2.1,c47_162.2.2.2)else(aJ n (4:Int) c18_1.2.1 c18_1.2.2.1 c18_1.2.2.2).bind fun c52_164=>(bN n c52_164.1).bind fun c53_165=>some (c53_165.1,c53_165.2.1,c53_165.2.2.1,c53_165.2.2.2.1,c53_165.2.2.2.2,c52_164.2.1,c52_164.2.2.1,c52_164.2.2.2)else bif decide (c18_1.1=(5:Int))then(aV n ([([43]:List UInt8),([45]:List UInt8),([42]:List UInt8),([61,61]:List UInt8),([60]:List UInt8),([43]:List UInt8)]:List (List UInt8)) c18_1.2.1 c18_1.2.2.1 c18_1.2.2.2).bind fun c59_167=>(r_spec_l4Draw (IntKind.wrap .i64 (t1_0 - (1:Int))) t2_0 c59_167.2.1 c59_167.2.2.1 c59_167.2.2.2).bind fun c64_168=>(r_spec_l4Draw (IntKind.wrap .i64 (t1_0 - (1:Int))) t2_0 c64_168.2.2.2.2.2.1 c64_168.2.2.2.2.2.2.1 c64_168.2.2.2.2.2.2.2).bind fun c69_169=>some ((7:Int),(0:Int),c59_167.1,([aA.mk c64_168.1 c64_168.2.1 c64_168.2.2.1 c64_168.2.2.2.1 c64_168.2.2.2.2.1,aA.mk c69_169.1 c69_169.2.1 c69_169.2.2.1 c69_169.2.2.2.1 c69_169.2.2.2.2.1]:List aA),([]:List aC),c69_169.2.2.2.2.2.1,c69_169.2.2.2.2.2.2.1,c69_169.2.2.2.2.2.2.2)else bif decide (c18_1.1=(6:Int))then(aV n ([([43]:List UInt8),([45]:List UInt8),([42]:List UInt8),([61,61]:List UInt8),([60]:List UInt8),([43]:List UInt8)]:List (List UInt8)) c18_1.2.1 c18_1.2.2.1 c18_1.2.2.2).bind fun c59_171=>(r_spec_l4Draw (IntKind.wrap .i64 (t1_0 - (1:Int))) t2_0 c59_171.2.1 c59_171.2.2.1 c59_171.2.2.2).bind fun c64_172=>(r_spec_l4Draw (IntKind.wrap .i64 (t1_0 - (1:Int))) t2_0 c64_172.2.2.2.2.2.1 c64_172.2.2.2.2.2.2.1 c64_172.2.2.2.2.2.2.2).bind fun c69_173=>some ((7:Int),(0:Int),c59_171.1,([aA.mk c64_172.1 c64_172.2.1 c64_172.2.2.1 c64_172.2.2.2.1 c64_172.2.2.2.2.1,aA.mk c69_173.1 c69_173.2.1 c69_173.2.2.1 c69_173.2.2.2.1 c69_173.2.2.2.2.1]:List aA),([]:List aC),c69_173.2.2.2.2.2.1,c69_173.2.2.2.2.2.2.1,c69_173.2.2.2.2.2.2.2)else bif decide (c18_1.1=(7:Int))then(bO n ([(4:Int),(5:Int)]:List Int) c18_1.2.1 c18_1.2.2.1 c18_1.2.2.2).bind fun c76_175=>(aJ n (3:Int) c76_175.2.1 c76_175.2.2.1 c76_175.2.2.2).bind fun c79_176=>(loopN (kV n r_spec_l4Draw t1_0 t2_0) n (c79_176.1,c76_175.1,(0:Int),([]:List UInt8),([]:List aA),([]:List aC),c79_176.2.1,c79_176.2.2.1,c79_176.2.2.2)).bind fun(v9_186,v81_187,w8_188,w8_189,w8_190,w8_191,w8_192,w1000000_193,w1000000_194,w1000000_195)=>some (w8_188,w8_189,w8_190,w8_191,w8_192,w1000000_193,w1000000_194,w1000000_195)else bif decide (c18_1.1=(8:Int))then(r_spec_l4Draw (IntKind.wrap .i64 (t1_0 - (1:Int))) t2_0 c18_1.2.1 c18_1.2.2.1 c18_1.2.2.2).bind fun c101_200=>(r_spec_l4Draw (IntKind.wrap .i64 (t1_0 - (1:Int))) t2_0 c101_200.2.2.2.2.2.1 c101_200.2.2.2.2.2.2.1 c101_200.2.2.2.2.2.2.2).bind fun c106_201=>some ((6:Int),(0:Int),([]:List UInt8),([aA.mk c101_200.1 c101_200.2.1 c101_200.2.2.1 c101_200.2.2.2.1 c101_200.2.2.2.2.1,aA.mk (5:Int) (0:Int) ([]:List UInt8) ([aA.mk c106_201.1 c106_201.2.1 c106_201.2.2.1 c106_201.2.2.2.1 c106_201.2.2.2.2.1]:List aA) ([]:List aC)]:List aA),([]:List aC),c106_201.2.2.2.2.2.1,c106_201.2.2.2.2.2.2.1,c106_201.2.2.2.2.2.2.2)else bif decide (c18_1.1=(9:Int))then(aV n ([([102]:List UInt8),([103]:List UInt8),([104]:List UInt8)]:List (List UInt8)) c18_1.2.1 c18_1.2.2.1 c18_1.2.2.2).bind fun c115_203=>bif decide (c115_203.1=([103]:List UInt8))then(loopN (kU n r_spec_l4Draw t1_0 t2_0) n ((0:Int),(8:Int),(0:Int),c115_203.1,([]:List aA),([]:List aC),c115_203.2.1,c115_203.2.2.1,c115_203.2.2.2)).bind fun(v12_214,v122_215,w10_216,w10_217,w10_218,w10_219,w10_220,w1000000_221,w1000000_222,w1000000_223)=>some (w10_216,w10_217,w10_218,w10_219,w10_220,w1000000_221,w1000000_222,w1000000_223)else(loopN (kT n r_spec_l4Draw t1_0 t2_0) n ((0:Int),(8:Int),(0:Int),c115_203.1,([]:List aA),([]:List aC),c115_203.2.1,c115_203.2.2.1,c115_203.2.2.2)).bind fun(v12_236,v122_237,w10_238,w10_239,w10_240,w10_241,w10_242,w1000000_243,w1000000_244,w1000000_245)=>some (w10_238,w10_239,w10_240,w10_241,w10_242,w1000000_243,w1000000_244,w1000000_245)else(r_spec_l4Draw (IntKind.wrap .i64 (t1_0 - (1:Int))) t2_0 c18_1.2.1 c18_1.2.2.1 c18_1.2.2.2).bind fun c140_249=>(aJ n (2:Int) c140_249.2.2.2.2.2.1 c140_249.2.2.2.2.2.2.1 c140_249.2.2.2.2.2.2.2).bind fun c144_250=>(loopN (kR n r_spec_l4Draw t1_0 t2_0) n ((IntKind.wrap .i64 ((1:Int)+c144_250.1)),(9:Int),(0:Int),([]:List UInt8),([aA.mk c140_249.1 c140_249.2.1 c140_249.2.2.1 c140_249.2.2.2.1 c140_249.2.2.2.2.1]:List aA),([]:List aC),c144_250.2.1,c144_250.2.2.1,c144_250.2.2.2)).bind fun(v14_260,v147_261,w13_262,w13_263,w13_264,w13_265,w13_266,w1000000_267,w1000000_268,w1000000_269)=>(fU n (2:Int) w1000000_267 w1000000_268 w1000000_269).bind fun c170_276=>bif c170_276.1 then(r_spec_l4Draw (IntKind.wrap .i64 (t1_0 - (1:Int))) t2_0 c170_276.2.1 c170_276.2.2.1 c170_276.2.2.2).bind fun c178_278=>(gA 160 w13_266 ([aC.mk (3:Int) (0:Int) ([95]:List UInt8) ([]:List aA) ([]:List aC) c178_278.1 c178_278.2.1 c178_278.2.2.1 c178_278.2.2.2.1 c178_278.2.2.2.2.1]:List aC)).bind fun v181_279=>some (w13_262,w13_263,w13_264,w13_265,v181_279,c178_278.2.2.2.2.2.1,c178_278.2.2.2.2.2.2.1,c178_278.2.2.2.2.2.2.2)else some (w13_262,w13_263,w13_264,w13_265,w13_266,c170_276.2.1,c170_276.2.2.1,c170_276.2.2.2)
theorem BE{n:Nat}{r_spec_l4Draw:cG}(ih_spec_l4Draw:oO r_spec_l4Draw):oO (lR n r_spec_l4Draw):=by
 intro t1_0 t2_0 o0_0 o0_1 o0_2 r h
 unfold lR at h
 refine bF Try.func265 rfl rfl<|cRs<|xAz [.int .i64 0, .int .i64 0, .str [], .sl ([].map aE), .sl ([].map aD)] rfl<|goo 4 rfl<|xC1 h (aK ·) rfl (fun c18_1 h=> ?_)
 refine goc 8 rfl<|cIf h rfl (fun q2 h=> ?_) (fun q2 h=> ?_)
 refine gco 2 rfl<|xC1 h (aK ·) rfl (fun c22_3 h=> ?_)
 refine goc 13 rfl<|cIf h rfl (fun q4 h=> ?_) (fun q4 h=> ?_)
 refine gco 3 rfl<|cY (L:=([(0:Int),(1:Int),(2:Int),(5:Int),(40:Int)]:List Int)) (f:=qN) rfl rfl rfl rfl rfl rfl rfl<|xC1 h (cK ·) rfl (fun c28_5 h=> ?_)
 refine xC0 h (cA ·) rfl (fun c29_6 h=> ?_)
 exact geo
 refine gcc 5 rfl<|cIf h rfl (fun q7 h=> ?_) (fun q7 h=> ?_)
 refine gco 3 rfl<|cY (L:=([([111,107]:List UInt8),([97]:List UInt8),([115,116,111,112]:List UInt8),([116,114,117,101]:List UInt8)]:List (List UInt8))) (f:=dN) rfl rfl rfl rfl rfl rfl rfl<|xC1 h (bD ·) rfl (fun c34_8 h=> ?_)
 refine xC0 h (sO ·) rfl (fun c35_9 h=> ?_)
 exact geo
 refine gcc 6 rfl<|cIf h rfl (fun q10 h=> ?_) (fun q10 h=> ?_)
 refine gco 6 rfl<|xLn rfl<|goc 2 rfl<|cIf h rfl (fun q11 h=> ?_) (fun q11 h=> ?_)
 refine gco 5 rfl<|xLn rfl<|xC1 h (aK ·) rfl (fun c47_12 h=> ?_)
 refine xIx h oF rfl (fun e48_13 h=> ?_)
 exact xLd rfl<|wBd [.int .i64 3, .int .i64 0, .str e48_13, .sl ([].map aE), .sl ([].map aD)] rfl rfl rfl rfl rfl rfl<|geo
 refine gco 4 rfl<|xC1 h (aK ·) rfl (fun c52_14 h=> ?_)
 refine xC0 h (cA ·) rfl (fun c53_15 h=> ?_)
 exact geo
 refine gcc 5 rfl<|cIf h rfl (fun q16 h=> ?_) (fun q16 h=> ?_)
 refine gco 6 rfl<|xLn rfl<|goc 2 rfl<|cIf h rfl (fun q17 h=> ?_) (fun q17 h=> ?_)
 refine gco 5 rfl<|xLn rfl<|xC1 h (aK ·) rfl (fun c47_18 h=> ?_)
 refine xIx h oF rfl (fun e48_19 h=> ?_)
 exact xLd rfl<|wBd [.int .i64 3, .int .i64 0, .str e48_19, .sl ([].map aE), .sl ([].map aD)] rfl rfl rfl rfl rfl rfl<|geo
 refine gco 4 rfl<|xC1 h (aK ·) rfl (fun c52_20 h=> ?_)
 refine xC0 h (cA ·) rfl (fun c53_21 h=> ?_)
 exact geo
 refine gcc 4 rfl<|cIf h rfl (fun q22 h=> ?_) (fun q22 h=> ?_)
 refine gco 4 rfl<|xLn rfl<|goc 2 rfl<|cIf h rfl (fun q23 h=> ?_) (fun q23 h=> ?_)
 refine gco 5 rfl<|xLn rfl<|xC1 h (aK ·) rfl (fun c47_24 h=> ?_)
 refine xIx h oF rfl (fun e48_25 h=> ?_)
 exact xLd rfl<|wBd [.int .i64 3, .int .i64 0, .str e48_25, .sl ([].map aE), .sl ([].map aD)] rfl rfl rfl rfl rfl rfl<|geo
 refine gco 4 rfl<|xC1 h (aK ·) rfl (fun c52_26 h=> ?_)
 refine xC0 h (cA ·) rfl (fun c53_27 h=> ?_)
 exact geo
 refine gcc 6 rfl<|cIf h rfl (fun q28 h=> ?_) (fun q28 h=> ?_)
 refine gco 5 rfl<|cY (L:=([([43]:List UInt8),([45]:List UInt8),([42]:List UInt8),([61,61]:List UInt8),([60]:List UInt8),([43]:List UInt8)]:List (List UInt8))) (f:=dN) rfl rfl rfl rfl rfl rfl rfl<|xC1 h (bD ·) rfl (fun c59_29 h=> ?_)
 refine goo 4 rfl<|xC1 h (ih_spec_l4Draw ·) rfl (fun c64_30 h=> ?_)
 refine goo 4 rfl<|xC1 h (ih_spec_l4Draw ·) rfl (fun c69_31 h=> ?_)
 exact cY (L:=([aA.mk c64_30.1 c64_30.2.1 c64_30.2.2.1 c64_30.2.2.2.1 c64_30.2.2.2.2.1,aA.mk c69_31.1 c69_31.2.1 c69_31.2.2.1 c69_31.2.2.2.1 c69_31.2.2.2.2.1]:List aA)) (f:=aE) rfl rfl rfl rfl (by simp only[List.map,aP]<;>rfl) rfl rfl<|wBd [.int .i64 7, .int .i64 0, .str c59_29.1, .sl ([aA.mk c64_30.1 c64_30.2.1 c64_30.2.2.1 c64_30.2.2.2.1 c64_30.2.2.2.2.1,aA.mk c69_31.1 c69_31.2.1 c69_31.2.2.1 c69_31.2.2.2.1 c69_31.2.2.2.2.1].map aE), .sl ([].map aD)] rfl rfl rfl rfl rfl rfl<|geo
 refine gcc 4 rfl<|cIf h rfl (fun q32 h=> ?_) (fun q32 h=> ?_)
 refine gco 3 rfl<|cY (L:=([([43]:List UInt8),([45]:List UInt8),([42]:List UInt8),([61,61]:List UInt8),([60]:List UInt8),([43]:List UInt8)]:List (List UInt8))) (f:=dN) rfl rfl rfl rfl rfl rfl rfl<|xC1 h (bD ·) rfl (fun c59_33 h=> ?_)
 refine goo 4 rfl<|xC1 h (ih_spec_l4Draw ·) rfl (fun c64_34 h=> ?_)
 refine goo 4 rfl<|xC1 h (ih_spec_l4Draw ·) rfl (fun c69_35 h=> ?_)
 exact cY (L:=([aA.mk c64_34.1 c64_34.2.1 c64_34.2.2.1 c64_34.2.2.2.1 c64_34.2.2.2.2.1,aA.mk c69_35.1 c69_35.2.1 c69_35.2.2.1 c69_35.2.2.2.1 c69_35.2.2.2.2.1]:List aA)) (f:=aE) rfl rfl rfl rfl (by simp only[List.map,aP]<;>rfl) rfl rfl<|wBd [.int .i64 7, .int .i64 0, .str c59_33.1, .sl ([aA.mk c64_34.1 c64_34.2.1 c64_34.2.2.1 c64_34.2.2.2.1 c64_34.2.2.2.2.1,aA.mk c69_35.1 c69_35.2.1 c69_35.2.2.1 c69_35.2.2.2.1 c69_35.2.2.2.2.1].map aE), .sl ([].map aD)] rfl rfl rfl rfl rfl rfl<|geo
 refine gcc 5 rfl<|cIf h rfl (fun q36 h=> ?_) (fun q36 h=> ?_)
 refine gco 3 rfl<|cY (L:=([(4:Int),(5:Int)]:List Int)) (f:=qN) rfl rfl rfl rfl rfl rfl rfl<|xC1 h (cK ·) rfl (fun c76_37 h=> ?_)
 refine wBd [.int .i64 c76_37.1, .int .i64 0, .str [], .sl ([].map aE), .sl ([].map aD)] rfl rfl rfl rfl rfl rfl<|xAz [.int .i64 0, .int .i64 0, .str [], .sl ([].map aE), .sl ([].map aD)] rfl<|goo 6 rfl<|xC1 h (aK ·) rfl (fun c79_38 h=> ?_)
 refine goc 2 rfl<|cLp h [(9,9),(80,93)] [(8,8),(1000000,1000000)] (fun(v9_39,w8_40,w8_41,w8_42,w8_43,w8_44,w1000000_45,w1000000_46,w1000000_47)=>([(9,I64 v9_39)],[(8,[.int .i64 w8_40, .int .i64 w8_41, .str w8_42, .sl (w8_43.map aE), .sl (w8_44.map aD)]),(1000000,[.sl (w1000000_45.map rI_u8), .int .i64 w1000000_46, .int .i64 w1000000_47])])) (fun(v9_48,v81_49,w8_50,w8_51,w8_52,w8_53,w8_54,w1000000_55,w1000000_56,w1000000_57)=>(.e 1,[(9,I64 v9_48),(81,Bo v81_49)],[(8,[.int .i64 w8_50, .int .i64 w8_51, .str w8_52, .sl (w8_53.map aE), .sl (w8_54.map aD)]),(1000000,[.sl (w1000000_55.map rI_u8), .int .i64 w1000000_56, .int .i64 w1000000_57])])) rfl (fun st _ h=> ?_) (fun q h=> ?_)
 obtain⟨v9_39,w8_40,w8_41,w8_42,w8_43,w8_44,w1000000_45,w1000000_46,w1000000_47⟩:=st
 unfold sY at h
 refine gcc 6 rfl<|cIf h rfl (fun q58 h=> ?_) (fun q58 h=> ?_)
 refine gco 10 rfl<|xC1 h (ih_spec_l4Draw ·) rfl (fun c90_59 h=> ?_)
 refine cY (L:=([aA.mk c90_59.1 c90_59.2.1 c90_59.2.2.1 c90_59.2.2.2.1 c90_59.2.2.2.2.1]:List aA)) (f:=aE) rfl rfl rfl rfl (by simp only[List.map,aP]<;>rfl) rfl rfl<|wAp (f:=aE) h rfl rfl rfl rfl rfl rfl rfl rfl rfl (fun a=>by rw[aL]; rfl) rfl (fun v92_60 h=> ?_)
 exact geo
 exact gec
 obtain⟨v9_48,v81_49,w8_50,w8_51,w8_52,w8_53,w8_54,w1000000_55,w1000000_56,w1000000_57⟩:=q
 exact gec
 refine gcc 5 rfl<|cIf h rfl (fun q61 h=> ?_) (fun q61 h=> ?_)
 refine gco 6 rfl<|xC1 h (ih_spec_l4Draw ·) rfl (fun c101_62 h=> ?_)
 refine goo 4 rfl<|xC1 h (ih_spec_l4Draw ·) rfl (fun c106_63 h=> ?_)
 exact cY (L:=([aA.mk c106_63.1 c106_63.2.1 c106_63.2.2.1 c106_63.2.2.2.1 c106_63.2.2.2.2.1]:List aA)) (f:=aE) rfl rfl rfl rfl (by simp only[List.map,aP]<;>rfl) rfl rfl<|wBd [.int .i64 5, .int .i64 0, .str [], .sl ([aA.mk c106_63.1 c106_63.2.1 c106_63.2.2.1 c106_63.2.2.2.1 c106_63.2.2.2.2.1].map aE), .sl ([].map aD)] rfl rfl rfl rfl rfl rfl<|cY (L:=([aA.mk c101_62.1 c101_62.2.1 c101_62.2.2.1 c101_62.2.2.2.1 c101_62.2.2.2.2.1,aA.mk (5:Int) (0:Int) ([]:List UInt8) ([aA.mk c106_63.1 c106_63.2.1 c106_63.2.2.1 c106_63.2.2.2.1 c106_63.2.2.2.2.1]:List aA) ([]:List aC)]:List aA)) (f:=aE) rfl rfl rfl rfl (by simp only[List.map,aP]<;>rfl) rfl rfl<|wBd [.int .i64 6, .int .i64 0, .str [], .sl ([aA.mk c101_62.1 c101_62.2.1 c101_62.2.2.1 c101_62.2.2.2.1 c101_62.2.2.2.2.1,aA.mk (5:Int) (0:Int) ([]:List UInt8) ([aA.mk c106_63.1 c106_63.2.1 c106_63.2.2.1 c106_63.2.2.2.1 c106_63.2.2.2.2.1]:List aA) ([]:List aC)].map aE), .sl ([].map aD)] rfl rfl rfl rfl rfl rfl<|geo
 refine gcc 5 rfl<|cIf h rfl (fun q64 h=> ?_) (fun q64 h=> ?_)
 refine gco 3 rfl<|cY (L:=([([102]:List UInt8),([103]:List UInt8),([104]:List UInt8)]:List (List UInt8))) (f:=dN) rfl rfl rfl rfl rfl rfl rfl<|xC1 h (bD ·) rfl (fun c115_65 h=> ?_)
 refine wBd [.int .i64 8, .int .i64 0, .str c115_65.1, .sl ([].map aE), .sl ([].map aD)] rfl rfl rfl rfl rfl rfl<|xAz [.int .i64 0, .int .i64 0, .str [], .sl ([].map aE), .sl ([].map aD)] rfl<|goc 13 rfl<|cIf h rfl (fun q66 h=> ?_) (fun q66 h=> ?_)
 refine gcc 8 rfl<|cLp h [(12,12),(120,134)] [(10,10),(1000000,1000000)] (fun(v12_67,w10_68,w10_69,w10_70,w10_71,w10_72,w1000000_73,w1000000_74,w1000000_75)=>([(12,I64 v12_67)],[(10,[.int .i64 w10_68, .int .i64 w10_69, .str w10_70, .sl (w10_71.map aE), .sl (w10_72.map aD)]),(1000000,[.sl (w1000000_73.map rI_u8), .int .i64 w1000000_74, .int .i64 w1000000_75])])) (fun(v12_76,v122_77,w10_78,w10_79,w10_80,w10_81,w10_82,w1000000_83,w1000000_84,w1000000_85)=>(.e 3,[(12,I64 v12_76),(122,Bo v122_77)],[(10,[.int .i64 w10_78, .int .i64 w10_79, .str w10_80, .sl (w10_81.map aE), .sl (w10_82.map aD)]),(1000000,[.sl (w1000000_83.map rI_u8), .int .i64 w1000000_84, .int .i64 w1000000_85])])) rfl (fun st _ h=> ?_) (fun q h=> ?_)
 obtain⟨v12_67,w10_68,w10_69,w10_70,w10_71,w10_72,w1000000_73,w1000000_74,w1000000_75⟩:=st
 unfold sX at h
 refine gcc 7 rfl<|cIf h rfl (fun q86 h=> ?_) (fun q86 h=> ?_)
 refine gco 10 rfl<|xC1 h (ih_spec_l4Draw ·) rfl (fun c131_87 h=> ?_)
 refine cY (L:=([aA.mk c131_87.1 c131_87.2.1 c131_87.2.2.1 c131_87.2.2.2.1 c131_87.2.2.2.2.1]:List aA)) (f:=aE) rfl rfl rfl rfl (by simp only[List.map,aP]<;>rfl) rfl rfl<|wAp (f:=aE) h rfl rfl rfl rfl rfl rfl rfl rfl rfl (fun a=>by rw[aL]; rfl) rfl (fun v133_88 h=> ?_)
 exact geo
 exact gec
 obtain⟨v12_76,v122_77,w10_78,w10_79,w10_80,w10_81,w10_82,w1000000_83,w1000000_84,w1000000_85⟩:=q
 exact gec
 refine gcc 6 rfl<|cLp h [(12,12),(120,134)] [(10,10),(1000000,1000000)] (fun(v12_89,w10_90,w10_91,w10_92,w10_93,w10_94,w1000000_95,w1000000_96,w1000000_97)=>([(12,I64 v12_89)],[(10,[.int .i64 w10_90, .int .i64 w10_91, .str w10_92, .sl (w10_93.map aE), .sl (w10_94.map aD)]),(1000000,[.sl (w1000000_95.map rI_u8), .int .i64 w1000000_96, .int .i64 w1000000_97])])) (fun(v12_98,v122_99,w10_100,w10_101,w10_102,w10_103,w10_104,w1000000_105,w1000000_106,w1000000_107)=>(.e 3,[(12,I64 v12_98),(122,Bo v122_99)],[(10,[.int .i64 w10_100, .int .i64 w10_101, .str w10_102, .sl (w10_103.map aE), .sl (w10_104.map aD)]),(1000000,[.sl (w1000000_105.map rI_u8), .int .i64 w1000000_106, .int .i64 w1000000_107])])) rfl (fun st _ h=> ?_) (fun q h=> ?_)
 obtain⟨v12_89,w10_90,w10_91,w10_92,w10_93,w10_94,w1000000_95,w1000000_96,w1000000_97⟩:=st
 unfold sW at h
 refine gcc 7 rfl<|cIf h rfl (fun q108 h=> ?_) (fun q108 h=> ?_)
 refine gco 10 rfl<|xC1 h (ih_spec_l4Draw ·) rfl (fun c131_109 h=> ?_)
 refine cY (L:=([aA.mk c131_109.1 c131_109.2.1 c131_109.2.2.1 c131_109.2.2.2.1 c131_109.2.2.2.2.1]:List aA)) (f:=aE) rfl rfl rfl rfl (by simp only[List.map,aP]<;>rfl) rfl rfl<|wAp (f:=aE) h rfl rfl rfl rfl rfl rfl rfl rfl rfl (fun a=>by rw[aL]; rfl) rfl (fun v133_110 h=> ?_)
 exact geo
 exact gec
 obtain⟨v12_98,v122_99,w10_100,w10_101,w10_102,w10_103,w10_104,w1000000_105,w1000000_106,w1000000_107⟩:=q
 exact gec
 refine gco 7 rfl<|xC1 h (ih_spec_l4Draw ·) rfl (fun c140_111 h=> ?_)
 refine cY (L:=([aA.mk c140_111.1 c140_111.2.1 c140_111.2.2.1 c140_111.2.2.2.1 c140_111.2.2.2.2.1]:List aA)) (f:=aE) rfl rfl rfl rfl (by simp only[List.map,aP]<;>rfl) rfl rfl<|wBd [.int .i64 9, .int .i64 0, .str [], .sl ([aA.mk c140_111.1 c140_111.2.1 c140_111.2.2.1 c140_111.2.2.2.1 c140_111.2.2.2.2.1].map aE), .sl ([].map aD)] rfl rfl rfl rfl rfl rfl<|xAz [.int .i64 0, .int .i64 0, .str [], .sl ([].map aE), .sl ([].map aD)] rfl<|goo 6 rfl<|xC1 h (aK ·) rfl (fun c144_112 h=> ?_)
 refine goc 3 rfl<|cLp h [(14,16),(146,168)] [(13,13),(15,16),(1000000,1000000)] (fun(v14_113,w13_114,w13_115,w13_116,w13_117,w13_118,w1000000_119,w1000000_120,w1000000_121)=>([(14,I64 v14_113)],[(13,[.int .i64 w13_114, .int .i64 w13_115, .str w13_116, .sl (w13_117.map aE), .sl (w13_118.map aD)]),(1000000,[.sl (w1000000_119.map rI_u8), .int .i64 w1000000_120, .int .i64 w1000000_121])])) (fun(v14_122,v147_123,w13_124,w13_125,w13_126,w13_127,w13_128,w1000000_129,w1000000_130,w1000000_131)=>(.e 5,[(14,I64 v14_122),(147,Bo v147_123)],[(13,[.int .i64 w13_124, .int .i64 w13_125, .str w13_126, .sl (w13_127.map aE), .sl (w13_128.map aD)]),(1000000,[.sl (w1000000_129.map rI_u8), .int .i64 w1000000_130, .int .i64 w1000000_131])])) rfl (fun st _ h=> ?_) (fun q h=> ?_)
 obtain⟨v14_113,w13_114,w13_115,w13_116,w13_117,w13_118,w1000000_119,w1000000_120,w1000000_121⟩:=st
 unfold sV at h
 refine gcc 6 rfl<|cIf h rfl (fun q132 h=> ?_) (fun q132 h=> ?_)
 refine gco 5 rfl<|cY (L:=([]:List (List UInt8))) (f:=dN) rfl rfl rfl rfl rfl rfl rfl<|xAz [.sl ([].map dN)] rfl<|goo 5 rfl<|xCk h (nG ·) rfl (fun c152_133 h=> ?_)
 refine xAz [.int .i64 0, .int .i64 0, .str [], .sl ([].map aE), .sl ([].map aD)] rfl<|goo 9 rfl<|cY (L:=([]:List (List UInt8))) (f:=dN) rfl rfl rfl rfl rfl rfl rfl<|xMv rfl<|wAp (f:=dN) h rfl rfl rfl rfl rfl rfl rfl rfl rfl (fun _=>rfl) rfl (fun v161_134 h=> ?_)
 refine xLd rfl<|wAp (f:=dN) h rfl rfl rfl rfl rfl rfl rfl rfl rfl (fun _=>rfl) rfl (fun v163_135 h=> ?_)
 refine xC1 h (ih_spec_l4Draw ·) rfl (fun c164_136 h=> ?_)
 refine wBd [.int .i64 c152_133.1, .int .i64 c152_133.2.1, .str c152_133.2.2.1, .sl (c152_133.2.2.2.1.map aE), .sl (c152_133.2.2.2.2.1.map aD), .int .i64 c164_136.1, .int .i64 c164_136.2.1, .str c164_136.2.2.1, .sl (c164_136.2.2.2.1.map aE), .sl (c164_136.2.2.2.2.1.map aD)] rfl rfl rfl rfl rfl rfl<|cY (L:=([aC.mk c152_133.1 c152_133.2.1 c152_133.2.2.1 c152_133.2.2.2.1 c152_133.2.2.2.2.1 c164_136.1 c164_136.2.1 c164_136.2.2.1 c164_136.2.2.2.1 c164_136.2.2.2.2.1]:List aC)) (f:=aD) rfl rfl rfl rfl (by simp only[List.map,dL]<;>rfl) rfl rfl<|wAp (f:=aD) h rfl rfl rfl rfl rfl rfl rfl rfl rfl (fun a=>by rw[aW]; rfl) rfl (fun v167_137 h=> ?_)
 exact geo
 exact gec
 obtain⟨v14_122,v147_123,w13_124,w13_125,w13_126,w13_127,w13_128,w1000000_129,w1000000_130,w1000000_131⟩:=q
 refine gco 4 rfl<|xC1 h (mN ·) rfl (fun c170_138 h=> ?_)
 refine oNl<|cIf h rfl (fun q139 h=> ?_) (fun q139 h=> ?_)
 refine gco 3 rfl<|wBd [.int .i64 3, .int .i64 0, .str [95], .sl ([].map aE), .sl ([].map aD)] rfl rfl rfl rfl rfl rfl<|goo 4 rfl<|xC1 h (ih_spec_l4Draw ·) rfl (fun c178_140 h=> ?_)
 refine wBd [.int .i64 3, .int .i64 0, .str [95], .sl ([].map aE), .sl ([].map aD), .int .i64 c178_140.1, .int .i64 c178_140.2.1, .str c178_140.2.2.1, .sl (c178_140.2.2.2.1.map aE), .sl (c178_140.2.2.2.2.1.map aD)] rfl rfl rfl rfl rfl rfl<|cY (L:=([aC.mk (3:Int) (0:Int) ([95]:List UInt8) ([]:List aA) ([]:List aC) c178_140.1 c178_140.2.1 c178_140.2.2.1 c178_140.2.2.2.1 c178_140.2.2.2.2.1]:List aC)) (f:=aD) rfl rfl rfl rfl (by simp only[List.map,dL]<;>rfl) rfl rfl<|wAp (f:=aD) h rfl rfl rfl rfl rfl rfl rfl rfl rfl (fun a=>by rw[aW]; rfl) rfl (fun v181_141 h=> ?_)
 exact geo
 exact gec
 refine gcc 12 rfl<|cIf h rfl (fun q142 h=> ?_) (fun q142 h=> ?_)
 refine gco 3 rfl<|cY (L:=([(0:Int),(1:Int),(2:Int),(5:Int),(40:Int)]:List Int)) (f:=qN) rfl rfl rfl rfl rfl rfl rfl<|xC1 h (cK ·) rfl (fun c28_143 h=> ?_)
 refine xC0 h (cA ·) rfl (fun c29_144 h=> ?_)
 exact geo
 refine gcc 5 rfl<|cIf h rfl (fun q145 h=> ?_) (fun q145 h=> ?_)
 refine gco 3 rfl<|cY (L:=([([111,107]:List UInt8),([97]:List UInt8),([115,116,111,112]:List UInt8),([116,114,117,101]:List UInt8)]:List (List UInt8))) (f:=dN) rfl rfl rfl rfl rfl rfl rfl<|xC1 h (bD ·) rfl (fun c34_146 h=> ?_)
 refine xC0 h (sO ·) rfl (fun c35_147 h=> ?_)
 exact geo
 refine gcc 6 rfl<|cIf h rfl (fun q148 h=> ?_) (fun q148 h=> ?_)
 refine gco 6 rfl<|xLn rfl<|goc 2 rfl<|cIf h rfl (fun q149 h=> ?_) (fun q149 h=> ?_)
 refine gco 5 rfl<|xLn rfl<|xC1 h (aK ·) rfl (fun c47_150 h=> ?_)
 refine xIx h oF rfl (fun e48_151 h=> ?_)
 exact xLd rfl<|wBd [.int .i64 3, .int .i64 0, .str e48_151, .sl ([].map aE), .sl ([].map aD)] rfl rfl rfl rfl rfl rfl<|geo
 refine gco 4 rfl<|xC1 h (aK ·) rfl (fun c52_152 h=> ?_)
 refine xC0 h (cA ·) rfl (fun c53_153 h=> ?_)
 exact geo
 refine gcc 5 rfl<|cIf h rfl (fun q154 h=> ?_) (fun q154 h=> ?_)
 refine gco 6 rfl<|xLn rfl<|goc 2 rfl<|cIf h rfl (fun q155 h=> ?_) (fun q155 h=> ?_)
 refine gco 5 rfl<|xLn rfl<|xC1 h (aK ·) rfl (fun c47_156 h=> ?_)
 refine xIx h oF rfl (fun e48_157 h=> ?_)
 exact xLd rfl<|wBd [.int .i64 3, .int .i64 0, .str e48_157, .sl ([].map aE), .sl ([].map aD)] rfl rfl rfl rfl rfl rfl<|geo
 refine gco 4 rfl<|xC1 h (aK ·) rfl (fun c52_158 h=> ?_)
 refine xC0 h (cA ·) rfl (fun c53_159 h=> ?_)
 exact geo
 refine gcc 4 rfl<|cIf h rfl (fun q160 h=> ?_) (fun q160 h=> ?_)
 refine gco 4 rfl<|xLn rfl<|goc 2 rfl<|cIf h rfl (fun q161 h=> ?_) (fun q161 h=> ?_)
 refine gco 5 rfl<|xLn rfl<|xC1 h (aK ·) rfl (fun c47_162 h=> ?_)
 refine xIx h oF rfl (fun e48_163 h=> ?_)
 exact xLd rfl<|wBd [.int .i64 3, .int .i64 0, .str e48_163, .sl ([].map aE), .sl ([].map aD)] rfl rfl rfl rfl rfl rfl<|geo
 refine gco 4 rfl<|xC1 h (aK ·) rfl (fun c52_164 h=> ?_)
 refine xC0 h (cA ·) rfl (fun c53_165 h=> ?_)
 exact geo
 refine gcc 6 rfl<|cIf h rfl (fun q166 h=> ?_) (fun q166 h=> ?_)
 refine gco 5 rfl<|cY (L:=([([43]:List UInt8),([45]:List UInt8),([42]:List UInt8),([61,61]:List UInt8),([60]:List UInt8),([43]:List UInt8)]:List (List UInt8))) (f:=dN) rfl rfl rfl rfl rfl rfl rfl<|xC1 h (bD ·) rfl (fun c59_167 h=> ?_)
 refine goo 4 rfl<|xC1 h (ih_spec_l4Draw ·) rfl (fun c64_168 h=> ?_)
 refine goo 4 rfl<|xC1 h (ih_spec_l4Draw ·) rfl (fun c69_169 h=> ?_)
 exact cY (L:=([aA.mk c64_168.1 c64_168.2.1 c64_168.2.2.1 c64_168.2.2.2.1 c64_168.2.2.2.2.1,aA.mk c69_169.1 c69_169.2.1 c69_169.2.2.1 c69_169.2.2.2.1 c69_169.2.2.2.2.1]:List aA)) (f:=aE) rfl rfl rfl rfl (by simp only[List.map,aP]<;>rfl) rfl rfl<|wBd [.int .i64 7, .int .i64 0, .str c59_167.1, .sl ([aA.mk c64_168.1 c64_168.2.1 c64_168.2.2.1 c64_168.2.2.2.1 c64_168.2.2.2.2.1,aA.mk c69_169.1 c69_169.2.1 c69_169.2.2.1 c69_169.2.2.2.1 c69_169.2.2.2.2.1].map aE), .sl ([].map aD)] rfl rfl rfl rfl rfl rfl<|geo
 refine gcc 4 rfl<|cIf h rfl (fun q170 h=> ?_) (fun q170 h=> ?_)
 refine gco 3 rfl<|cY (L:=([([43]:List UInt8),([45]:List UInt8),([42]:List UInt8),([61,61]:List UInt8),([60]:List UInt8),([43]:List UInt8)]:List (List UInt8))) (f:=dN) rfl rfl rfl rfl rfl rfl rfl<|xC1 h (bD ·) rfl (fun c59_171 h=> ?_)
 refine goo 4 rfl<|xC1 h (ih_spec_l4Draw ·) rfl (fun c64_172 h=> ?_)
 refine goo 4 rfl<|xC1 h (ih_spec_l4Draw ·) rfl (fun c69_173 h=> ?_)
 exact cY (L:=([aA.mk c64_172.1 c64_172.2.1 c64_172.2.2.1 c64_172.2.2.2.1 c64_172.2.2.2.2.1,aA.mk c69_173.1 c69_173.2.1 c69_173.2.2.1 c69_173.2.2.2.1 c69_173.2.2.2.2.1]:List aA)) (f:=aE) rfl rfl rfl rfl (by simp only[List.map,aP]<;>rfl) rfl rfl<|wBd [.int .i64 7, .int .i64 0, .str c59_171.1, .sl ([aA.mk c64_172.1 c64_172.2.1 c64_172.2.2.1 c64_172.2.2.2.1 c64_172.2.2.2.2.1,aA.mk c69_173.1 c69_173.2.1 c69_173.2.2.1 c69_173.2.2.2.1 c69_173.2.2.2.2.1].map aE), .sl ([].map aD)] rfl rfl rfl rfl rfl rfl<|geo
 refine gcc 5 rfl<|cIf h rfl (fun q174 h=> ?_) (fun q174 h=> ?_)
 refine gco 3 rfl<|cY (L:=([(4:Int),(5:Int)]:List Int)) (f:=qN) rfl rfl rfl rfl rfl rfl rfl<|xC1 h (cK ·) rfl (fun c76_175 h=> ?_)
 refine wBd [.int .i64 c76_175.1, .int .i64 0, .str [], .sl ([].map aE), .sl ([].map aD)] rfl rfl rfl rfl rfl rfl<|xAz [.int .i64 0, .int .i64 0, .str [], .sl ([].map aE), .sl ([].map aD)] rfl<|goo 6 rfl<|xC1 h (aK ·) rfl (fun c79_176 h=> ?_)
 refine goc 2 rfl<|cLp h [(9,9),(80,93)] [(8,8),(1000000,1000000)] (fun(v9_177,w8_178,w8_179,w8_180,w8_181,w8_182,w1000000_183,w1000000_184,w1000000_185)=>([(9,I64 v9_177)],[(8,[.int .i64 w8_178, .int .i64 w8_179, .str w8_180, .sl (w8_181.map aE), .sl (w8_182.map aD)]),(1000000,[.sl (w1000000_183.map rI_u8), .int .i64 w1000000_184, .int .i64 w1000000_185])])) (fun(v9_186,v81_187,w8_188,w8_189,w8_190,w8_191,w8_192,w1000000_193,w1000000_194,w1000000_195)=>(.e 1,[(9,I64 v9_186),(81,Bo v81_187)],[(8,[.int .i64 w8_188, .int .i64 w8_189, .str w8_190, .sl (w8_191.map aE), .sl (w8_192.map aD)]),(1000000,[.sl (w1000000_193.map rI_u8), .int .i64 w1000000_194, .int .i64 w1000000_195])])) rfl (fun st _ h=> ?_) (fun q h=> ?_)
 obtain⟨v9_177,w8_178,w8_179,w8_180,w8_181,w8_182,w1000000_183,w1000000_184,w1000000_185⟩:=st
 unfold kV at h
 refine gcc 6 rfl<|cIf h rfl (fun q196 h=> ?_) (fun q196 h=> ?_)
 refine gco 10 rfl<|xC1 h (ih_spec_l4Draw ·) rfl (fun c90_197 h=> ?_)
 refine cY (L:=([aA.mk c90_197.1 c90_197.2.1 c90_197.2.2.1 c90_197.2.2.2.1 c90_197.2.2.2.2.1]:List aA)) (f:=aE) rfl rfl rfl rfl (by simp only[List.map,aP]<;>rfl) rfl rfl<|wAp (f:=aE) h rfl rfl rfl rfl rfl rfl rfl rfl rfl (fun a=>by rw[aL]; rfl) rfl (fun v92_198 h=> ?_)
 exact geo
 exact gec
 obtain⟨v9_186,v81_187,w8_188,w8_189,w8_190,w8_191,w8_192,w1000000_193,w1000000_194,w1000000_195⟩:=q
 exact gec
 refine gcc 5 rfl<|cIf h rfl (fun q199 h=> ?_) (fun q199 h=> ?_)
 refine gco 6 rfl<|xC1 h (ih_spec_l4Draw ·) rfl (fun c101_200 h=> ?_)
 refine goo 4 rfl<|xC1 h (ih_spec_l4Draw ·) rfl (fun c106_201 h=> ?_)
 exact cY (L:=([aA.mk c106_201.1 c106_201.2.1 c106_201.2.2.1 c106_201.2.2.2.1 c106_201.2.2.2.2.1]:List aA)) (f:=aE) rfl rfl rfl rfl (by simp only[List.map,aP]<;>rfl) rfl rfl<|wBd [.int .i64 5, .int .i64 0, .str [], .sl ([aA.mk c106_201.1 c106_201.2.1 c106_201.2.2.1 c106_201.2.2.2.1 c106_201.2.2.2.2.1].map aE), .sl ([].map aD)] rfl rfl rfl rfl rfl rfl<|cY (L:=([aA.mk c101_200.1 c101_200.2.1 c101_200.2.2.1 c101_200.2.2.2.1 c101_200.2.2.2.2.1,aA.mk (5:Int) (0:Int) ([]:List UInt8) ([aA.mk c106_201.1 c106_201.2.1 c106_201.2.2.1 c106_201.2.2.2.1 c106_201.2.2.2.2.1]:List aA) ([]:List aC)]:List aA)) (f:=aE) rfl rfl rfl rfl (by simp only[List.map,aP]<;>rfl) rfl rfl<|wBd [.int .i64 6, .int .i64 0, .str [], .sl ([aA.mk c101_200.1 c101_200.2.1 c101_200.2.2.1 c101_200.2.2.2.1 c101_200.2.2.2.2.1,aA.mk (5:Int) (0:Int) ([]:List UInt8) ([aA.mk c106_201.1 c106_201.2.1 c106_201.2.2.1 c106_201.2.2.2.1 c106_201.2.2.2.2.1]:List aA) ([]:List aC)].map aE), .sl ([].map aD)] rfl rfl rfl rfl rfl rfl<|geo
 refine gcc 5 rfl<|cIf h rfl (fun q202 h=> ?_) (fun q202 h=> ?_)
 refine gco 3 rfl<|cY (L:=([([102]:List UInt8),([103]:List UInt8),([104]:List UInt8)]:List (List UInt8))) (f:=dN) rfl rfl rfl rfl rfl rfl rfl<|xC1 h (bD ·) rfl (fun c115_203 h=> ?_)
 refine wBd [.int .i64 8, .int .i64 0, .str c115_203.1, .sl ([].map aE), .sl ([].map aD)] rfl rfl rfl rfl rfl rfl<|xAz [.int .i64 0, .int .i64 0, .str [], .sl ([].map aE), .sl ([].map aD)] rfl<|goc 13 rfl<|cIf h rfl (fun q204 h=> ?_) (fun q204 h=> ?_)
 refine gcc 8 rfl<|cLp h [(12,12),(120,134)] [(10,10),(1000000,1000000)] (fun(v12_205,w10_206,w10_207,w10_208,w10_209,w10_210,w1000000_211,w1000000_212,w1000000_213)=>([(12,I64 v12_205)],[(10,[.int .i64 w10_206, .int .i64 w10_207, .str w10_208, .sl (w10_209.map aE), .sl (w10_210.map aD)]),(1000000,[.sl (w1000000_211.map rI_u8), .int .i64 w1000000_212, .int .i64 w1000000_213])])) (fun(v12_214,v122_215,w10_216,w10_217,w10_218,w10_219,w10_220,w1000000_221,w1000000_222,w1000000_223)=>(.e 3,[(12,I64 v12_214),(122,Bo v122_215)],[(10,[.int .i64 w10_216, .int .i64 w10_217, .str w10_218, .sl (w10_219.map aE), .sl (w10_220.map aD)]),(1000000,[.sl (w1000000_221.map rI_u8), .int .i64 w1000000_222, .int .i64 w1000000_223])])) rfl (fun st _ h=> ?_) (fun q h=> ?_)
 obtain⟨v12_205,w10_206,w10_207,w10_208,w10_209,w10_210,w1000000_211,w1000000_212,w1000000_213⟩:=st
 unfold kU at h
 refine gcc 7 rfl<|cIf h rfl (fun q224 h=> ?_) (fun q224 h=> ?_)
 refine gco 10 rfl<|xC1 h (ih_spec_l4Draw ·) rfl (fun c131_225 h=> ?_)
 refine cY (L:=([aA.mk c131_225.1 c131_225.2.1 c131_225.2.2.1 c131_225.2.2.2.1 c131_225.2.2.2.2.1]:List aA)) (f:=aE) rfl rfl rfl rfl (by simp only[List.map,aP]<;>rfl) rfl rfl<|wAp (f:=aE) h rfl rfl rfl rfl rfl rfl rfl rfl rfl (fun a=>by rw[aL]; rfl) rfl (fun v133_226 h=> ?_)
 exact geo
 exact gec
 obtain⟨v12_214,v122_215,w10_216,w10_217,w10_218,w10_219,w10_220,w1000000_221,w1000000_222,w1000000_223⟩:=q
 exact gec
 refine gcc 6 rfl<|cLp h [(12,12),(120,134)] [(10,10),(1000000,1000000)] (fun(v12_227,w10_228,w10_229,w10_230,w10_231,w10_232,w1000000_233,w1000000_234,w1000000_235)=>([(12,I64 v12_227)],[(10,[.int .i64 w10_228, .int .i64 w10_229, .str w10_230, .sl (w10_231.map aE), .sl (w10_232.map aD)]),(1000000,[.sl (w1000000_233.map rI_u8), .int .i64 w1000000_234, .int .i64 w1000000_235])])) (fun(v12_236,v122_237,w10_238,w10_239,w10_240,w10_241,w10_242,w1000000_243,w1000000_244,w1000000_245)=>(.e 3,[(12,I64 v12_236),(122,Bo v122_237)],[(10,[.int .i64 w10_238, .int .i64 w10_239, .str w10_240, .sl (w10_241.map aE), .sl (w10_242.map aD)]),(1000000,[.sl (w1000000_243.map rI_u8), .int .i64 w1000000_244, .int .i64 w1000000_245])])) rfl (fun st _ h=> ?_) (fun q h=> ?_)
 obtain⟨v12_227,w10_228,w10_229,w10_230,w10_231,w10_232,w1000000_233,w1000000_234,w1000000_235⟩:=st
 unfold kT at h
 refine gcc 7 rfl<|cIf h rfl (fun q246 h=> ?_) (fun q246 h=> ?_)
 refine gco 10 rfl<|xC1 h (ih_spec_l4Draw ·) rfl (fun c131_247 h=> ?_)
 refine cY (L:=([aA.mk c131_247.1 c131_247.2.1 c131_247.2.2.1 c131_247.2.2.2.1 c131_247.2.2.2.2.1]:List aA)) (f:=aE) rfl rfl rfl rfl (by simp only[List.map,aP]<;>rfl) rfl rfl<|wAp (f:=aE) h rfl rfl rfl rfl rfl rfl rfl rfl rfl (fun a=>by rw[aL]; rfl) rfl (fun v133_248 h=> ?_)
 exact geo
 exact gec
 obtain⟨v12_236,v122_237,w10_238,w10_239,w10_240,w10_241,w10_242,w1000000_243,w1000000_244,w1000000_245⟩:=q
 exact gec
 refine gco 7 rfl<|xC1 h (ih_spec_l4Draw ·) rfl (fun c140_249 h=> ?_)
 refine cY (L:=([aA.mk c140_249.1 c140_249.2.1 c140_249.2.2.1 c140_249.2.2.2.1 c140_249.2.2.2.2.1]:List aA)) (f:=aE) rfl rfl rfl rfl (by simp only[List.map,aP]<;>rfl) rfl rfl<|wBd [.int .i64 9, .int .i64 0, .str [], .sl ([aA.mk c140_249.1 c140_249.2.1 c140_249.2.2.1 c140_249.2.2.2.1 c140_249.2.2.2.2.1].map aE), .sl ([].map aD)] rfl rfl rfl rfl rfl rfl<|xAz [.int .i64 0, .int .i64 0, .str [], .sl ([].map aE), .sl ([].map aD)] rfl<|goo 6 rfl<|xC1 h (aK ·) rfl (fun c144_250 h=> ?_)
 refine goc 3 rfl<|cLp h [(14,16),(146,168)] [(13,13),(15,16),(1000000,1000000)] (fun(v14_251,w13_252,w13_253,w13_254,w13_255,w13_256,w1000000_257,w1000000_258,w1000000_259)=>([(14,I64 v14_251)],[(13,[.int .i64 w13_252, .int .i64 w13_253, .str w13_254, .sl (w13_255.map aE), .sl (w13_256.map aD)]),(1000000,[.sl (w1000000_257.map rI_u8), .int .i64 w1000000_258, .int .i64 w1000000_259])])) (fun(v14_260,v147_261,w13_262,w13_263,w13_264,w13_265,w13_266,w1000000_267,w1000000_268,w1000000_269)=>(.e 5,[(14,I64 v14_260),(147,Bo v147_261)],[(13,[.int .i64 w13_262, .int .i64 w13_263, .str w13_264, .sl (w13_265.map aE), .sl (w13_266.map aD)]),(1000000,[.sl (w1000000_267.map rI_u8), .int .i64 w1000000_268, .int .i64 w1000000_269])])) rfl (fun st _ h=> ?_) (fun q h=> ?_)
 obtain⟨v14_251,w13_252,w13_253,w13_254,w13_255,w13_256,w1000000_257,w1000000_258,w1000000_259⟩:=st
 unfold kR at h
 refine gcc 6 rfl<|cIf h rfl (fun q270 h=> ?_) (fun q270 h=> ?_)
 refine gco 5 rfl<|cY (L:=([]:List (List UInt8))) (f:=dN) rfl rfl rfl rfl rfl rfl rfl<|xAz [.sl ([].map dN)] rfl<|goo 5 rfl<|xCk h (nG ·) rfl (fun c152_271 h=> ?_)
 refine xAz [.int .i64 0, .int .i64 0, .str [], .sl ([].map aE), .sl ([].map aD)] rfl<|goo 9 rfl<|cY (L:=([]:List (List UInt8))) (f:=dN) rfl rfl rfl rfl rfl rfl rfl<|xMv rfl<|wAp (f:=dN) h rfl rfl rfl rfl rfl rfl rfl rfl rfl (fun _=>rfl) rfl (fun v161_272 h=> ?_)
 refine xLd rfl<|wAp (f:=dN) h rfl rfl rfl rfl rfl rfl rfl rfl rfl (fun _=>rfl) rfl (fun v163_273 h=> ?_)
 refine xC1 h (ih_spec_l4Draw ·) rfl (fun c164_274 h=> ?_)
 refine wBd [.int .i64 c152_271.1, .int .i64 c152_271.2.1, .str c152_271.2.2.1, .sl (c152_271.2.2.2.1.map aE), .sl (c152_271.2.2.2.2.1.map aD), .int .i64 c164_274.1, .int .i64 c164_274.2.1, .str c164_274.2.2.1, .sl (c164_274.2.2.2.1.map aE), .sl (c164_274.2.2.2.2.1.map aD)] rfl rfl rfl rfl rfl rfl<|cY (L:=([aC.mk c152_271.1 c152_271.2.1 c152_271.2.2.1 c152_271.2.2.2.1 c152_271.2.2.2.2.1 c164_274.1 c164_274.2.1 c164_274.2.2.1 c164_274.2.2.2.1 c164_274.2.2.2.2.1]:List aC)) (f:=aD) rfl rfl rfl rfl (by simp only[List.map,dL]<;>rfl) rfl rfl<|wAp (f:=aD) h rfl rfl rfl rfl rfl rfl rfl rfl rfl (fun a=>by rw[aW]; rfl) rfl (fun v167_275 h=> ?_)
 exact geo
 exact gec
 obtain⟨v14_260,v147_261,w13_262,w13_263,w13_264,w13_265,w13_266,w1000000_267,w1000000_268,w1000000_269⟩:=q
 refine gco 4 rfl<|xC1 h (mN ·) rfl (fun c170_276 h=> ?_)
 refine oNl<|cIf h rfl (fun q277 h=> ?_) (fun q277 h=> ?_)
 refine gco 3 rfl<|wBd [.int .i64 3, .int .i64 0, .str [95], .sl ([].map aE), .sl ([].map aD)] rfl rfl rfl rfl rfl rfl<|goo 4 rfl<|xC1 h (ih_spec_l4Draw ·) rfl (fun c178_278 h=> ?_)
 refine wBd [.int .i64 3, .int .i64 0, .str [95], .sl ([].map aE), .sl ([].map aD), .int .i64 c178_278.1, .int .i64 c178_278.2.1, .str c178_278.2.2.1, .sl (c178_278.2.2.2.1.map aE), .sl (c178_278.2.2.2.2.1.map aD)] rfl rfl rfl rfl rfl rfl<|cY (L:=([aC.mk (3:Int) (0:Int) ([95]:List UInt8) ([]:List aA) ([]:List aC) c178_278.1 c178_278.2.1 c178_278.2.2.1 c178_278.2.2.2.1 c178_278.2.2.2.2.1]:List aC)) (f:=aD) rfl rfl rfl rfl (by simp only[List.map,dL]<;>rfl) rfl rfl<|wAp (f:=aD) h rfl rfl rfl rfl rfl rfl rfl rfl rfl (fun a=>by rw[aW]; rfl) rfl (fun v181_279 h=> ?_)
 exact geo
 exact gec
def yC:Nat→(cG)
  | 0=>(fun _ _ _ _ _=>none)
  | n+1=>lR n (yC n)
def bH(n:Nat):cG:=yC n
theorem BN(n:Nat):oO (bH n):=by
  induction n with
  | zero=>exact(fun h=>nomatch h)
  | succ n ih=>exact BE (n:=n) ih
theorem DB{n:Nat}:oO (bH n):=(BN n)
theorem zB(n:Nat):bH (n+1)=lR n (bH n):=rfl
abbrev EA(p:(List (List UInt8))→(List Int)→Int→Int→Option (Int×Int×(List UInt8)×(List aA)×(List aC)×(List Int)×Int×Int)):Prop:= ∀ {t1_0:List (List UInt8)} {o0_0:List Int} {o0_1 o0_2:Int} {r:Int×Int×(List UInt8)×(List aA)×(List aC)×(List Int)×Int×Int},p t1_0 o0_0 o0_1 o0_2=some r→Big Try.prog τ An (.fn 238 [.one (.ptr 1000000 0), .one (.c (.sl (t1_0.map dN)))] [[.sl (o0_0.map rI_u8), .int .i64 o0_1, .int .i64 o0_2]] (.one (.ag [.int .i64 r.1, .int .i64 r.2.1, .str r.2.2.1, .sl (r.2.2.2.1.map aE), .sl (r.2.2.2.2.1.map aD)])) none [[.sl (r.2.2.2.2.2.1.map rI_u8), .int .i64 r.2.2.2.2.2.2.1, .int .i64 r.2.2.2.2.2.2.2]] none)
def kC(n:Nat)(t1_0:List (List UInt8))(o0_0:List Int)(o0_1:Int)(o0_2:Int):Option (Int×Int×(List UInt8)×(List aA)×(List aC)×(List Int)×Int×Int):=
  (bH n (3:Int) t1_0 o0_0 o0_1 o0_2).bind fun c8_1=>(oK n c8_1.1 c8_1.2.1 c8_1.2.2.1 c8_1.2.2.2.1 c8_1.2.2.2.2.1).bind fun c10_2=>bif !c10_2 then(bN n (1:Int)).bind fun c12_4=>some (c12_4.1,c12_4.2.1,c12_4.2.2.1,c12_4.2.2.2.1,c12_4.2.2.2.2,c8_1.2.2.2.2.2.1,c8_1.2.2.2.2.2.2.1,c8_1.2.2.2.2.2.2.2)else some (c8_1.1,c8_1.2.1,c8_1.2.2.1,c8_1.2.2.2.1,c8_1.2.2.2.2.1,c8_1.2.2.2.2.2.1,c8_1.2.2.2.2.2.2.1,c8_1.2.2.2.2.2.2.2)
theorem BW{n:Nat}:EA (kC n):=by
 intro t1_0 o0_0 o0_1 o0_2 r h
 unfold kC at h
 refine bF Try.func238 rfl rfl<|cRs<|xAz [.int .i64 0, .int .i64 0, .str [], .sl ([].map aE), .sl ([].map aD)] rfl<|goo 5 rfl<|xC1 h (DB ·) rfl (fun c8_1 h=> ?_)
 refine xAz [.int .i64 0, .int .i64 0, .str [], .sl ([].map aE), .sl ([].map aD)] rfl<|goo 6 rfl<|xC0 h (DG ·) rfl (fun c10_2 h=> ?_)
 refine goc 2 rfl<|cIf h rfl (fun q3 h=> ?_) (fun q3 h=> ?_)
 refine cRs<|xC0 h (cA ·) rfl (fun c12_4 h=> ?_)
 exact geo
 exact gec
abbrev IQ(p:(List Int)→Int→Int→Option (Int×Int×(List UInt8)×(List aA)×(List aC)×(List Int)×Int×Int)):Prop:= ∀ {o0_0:List Int} {o0_1 o0_2:Int} {r:Int×Int×(List UInt8)×(List aA)×(List aC)×(List Int)×Int×Int},p o0_0 o0_1 o0_2=some r→Big Try.prog τ An (.fn 202 [.one (.ptr 1000000 0)] [[.sl (o0_0.map rI_u8), .int .i64 o0_1, .int .i64 o0_2]] (.one (.ag [.int .i64 r.1, .int .i64 r.2.1, .str r.2.2.1, .sl (r.2.2.2.1.map aE), .sl (r.2.2.2.2.1.map aD)])) none [[.sl (r.2.2.2.2.2.1.map rI_u8), .int .i64 r.2.2.2.2.2.2.1, .int .i64 r.2.2.2.2.2.2.2]] none)
def nM(n:Nat)(o0_0:List Int)(o0_1:Int)(o0_2:Int):Option (Int×Int×(List UInt8)×(List aA)×(List aC)×(List Int)×Int×Int):=
  (kC n ([([88]:List UInt8),([89]:List UInt8)]:List (List UInt8)) o0_0 o0_1 o0_2).bind fun c6_1=>(fU n (4:Int) c6_1.2.2.2.2.2.1 c6_1.2.2.2.2.2.2.1 c6_1.2.2.2.2.2.2.2).bind fun c8_2=>bif c8_2.1 then(jL n c6_1.1 c6_1.2.1 c6_1.2.2.1 c6_1.2.2.2.1 c6_1.2.2.2.2.1 c8_2.2.1 c8_2.2.2.1 c8_2.2.2.2).bind fun c11_4=>some (c11_4.1,c11_4.2.1,c11_4.2.2.1,c11_4.2.2.2.1,c11_4.2.2.2.2.1,c11_4.2.2.2.2.2.1,c11_4.2.2.2.2.2.2.1,c11_4.2.2.2.2.2.2.2)else some (c6_1.1,c6_1.2.1,c6_1.2.2.1,c6_1.2.2.2.1,c6_1.2.2.2.2.1,c8_2.2.1,c8_2.2.2.1,c8_2.2.2.2)
theorem Dr{n:Nat}:IQ (nM n):=by
 intro o0_0 o0_1 o0_2 r h
 unfold nM at h
 refine bF Try.func202 rfl rfl<|cRs<|xAz [.int .i64 0, .int .i64 0, .str [], .sl ([].map aE), .sl ([].map aD)] rfl<|goo 4 rfl<|cY (L:=([([88]:List UInt8),([89]:List UInt8)]:List (List UInt8))) (f:=dN) rfl rfl rfl rfl rfl rfl rfl<|xC1 h (BW ·) rfl (fun c6_1 h=> ?_)
 refine xAz [.int .i64 0, .int .i64 0, .str [], .sl ([].map aE), .sl ([].map aD)] rfl<|goo 6 rfl<|xC1 h (mN ·) rfl (fun c8_2 h=> ?_)
 refine oNl<|cIf h rfl (fun q3 h=> ?_) (fun q3 h=> ?_)
 refine gco 3 rfl<|xC1 h (uH ·) rfl (fun c11_4 h=> ?_)
 exact geo
 exact gec
abbrev DQ(p:(List Int)→Int→Int→Option (Int×Int×(List UInt8)×(List aA)×(List aC)×(List Int)×Int×Int)):Prop:= ∀ {o0_0:List Int} {o0_1 o0_2:Int} {r:Int×Int×(List UInt8)×(List aA)×(List aC)×(List Int)×Int×Int},p o0_0 o0_1 o0_2=some r→Big Try.prog τ An (.fn 131 [.one (.ptr 1000000 0)] [[.sl (o0_0.map rI_u8), .int .i64 o0_1, .int .i64 o0_2]] (.one (.ag [.int .i64 r.1, .int .i64 r.2.1, .str r.2.2.1, .sl (r.2.2.2.1.map aE), .sl (r.2.2.2.2.1.map aD)])) none [[.sl (r.2.2.2.2.2.1.map rI_u8), .int .i64 r.2.2.2.2.2.2.1, .int .i64 r.2.2.2.2.2.2.2]] none)
def jE(n:Nat)(o0_0:List Int)(o0_1:Int)(o0_2:Int):Option (Int×Int×(List UInt8)×(List aA)×(List aC)×(List Int)×Int×Int):=
  (cJ n (2:Int) o0_0 o0_1 o0_2 ([]:List (List UInt8))).bind fun c7_1=>(aJ n (8:Int) c7_1.2.2.2.2.2.1 c7_1.2.2.2.2.2.2.1 c7_1.2.2.2.2.2.2.2.1).bind fun c9_2=>bif decide (c9_2.1=(0:Int))then(jL n c7_1.1 c7_1.2.1 c7_1.2.2.1 c7_1.2.2.2.1 c7_1.2.2.2.2.1 c9_2.2.1 c9_2.2.2.1 c9_2.2.2.2).bind fun c14_4=>some (c14_4.1,c14_4.2.1,c14_4.2.2.1,c14_4.2.2.2.1,c14_4.2.2.2.2.1,c14_4.2.2.2.2.2.1,c14_4.2.2.2.2.2.2.1,c14_4.2.2.2.2.2.2.2)else bif decide (c9_2.1=(1:Int))then(cE n c7_1.1 c7_1.2.1 c7_1.2.2.1 c7_1.2.2.2.1 c7_1.2.2.2.2.1).bind fun c19_6=>some ((4:Int),(0:Int),([]:List UInt8),([aA.mk c7_1.1 c7_1.2.1 c7_1.2.2.1 c7_1.2.2.2.1 c7_1.2.2.2.2.1,aA.mk c19_6.1 c19_6.2.1 c19_6.2.2.1 c19_6.2.2.2.1 c19_6.2.2.2.2]:List aA),([]:List aC),c9_2.2.1,c9_2.2.2.1,c9_2.2.2.2)else bif decide (c9_2.1=(2:Int))then(nM n c9_2.2.1 c9_2.2.2.1 c9_2.2.2.2).bind fun c25_8=>some (c25_8.1,c25_8.2.1,c25_8.2.2.1,c25_8.2.2.2.1,c25_8.2.2.2.2.1,c25_8.2.2.2.2.2.1,c25_8.2.2.2.2.2.2.1,c25_8.2.2.2.2.2.2.2)else some (c7_1.1,c7_1.2.1,c7_1.2.2.1,c7_1.2.2.2.1,c7_1.2.2.2.2.1,c9_2.2.1,c9_2.2.2.1,c9_2.2.2.2)
theorem AO{n:Nat}:DQ (jE n):=by
 intro o0_0 o0_1 o0_2 r h
 unfold jE at h
 refine bF Try.func131 rfl rfl<|cRs<|xAz [.int .i64 0, .int .i64 0, .str [], .sl ([].map aE), .sl ([].map aD)] rfl<|oRs<|cY (L:=([]:List (List UInt8))) (f:=dN) rfl rfl rfl rfl rfl rfl rfl<|xAz [.sl ([].map dN)] rfl<|goo 5 rfl<|xCk h (nG ·) rfl (fun c7_1 h=> ?_)
 refine xAz [.int .i64 0, .int .i64 0, .str [], .sl ([].map aE), .sl ([].map aD)] rfl<|goo 6 rfl<|xC1 h (aK ·) rfl (fun c9_2 h=> ?_)
 refine goc 7 rfl<|cIf h rfl (fun q3 h=> ?_) (fun q3 h=> ?_)
 refine gco 3 rfl<|xC1 h (uH ·) rfl (fun c14_4 h=> ?_)
 exact geo
 refine gcc 5 rfl<|cIf h rfl (fun q5 h=> ?_) (fun q5 h=> ?_)
 refine gco 3 rfl<|xC0 h (pM ·) rfl (fun c19_6 h=> ?_)
 exact cY (L:=([aA.mk c7_1.1 c7_1.2.1 c7_1.2.2.1 c7_1.2.2.2.1 c7_1.2.2.2.2.1,aA.mk c19_6.1 c19_6.2.1 c19_6.2.2.1 c19_6.2.2.2.1 c19_6.2.2.2.2]:List aA)) (f:=aE) rfl rfl rfl rfl (by simp only[List.map,aP]<;>rfl) rfl rfl<|wBd [.int .i64 4, .int .i64 0, .str [], .sl ([aA.mk c7_1.1 c7_1.2.1 c7_1.2.2.1 c7_1.2.2.2.1 c7_1.2.2.2.2.1,aA.mk c19_6.1 c19_6.2.1 c19_6.2.2.1 c19_6.2.2.2.1 c19_6.2.2.2.2].map aE), .sl ([].map aD)] rfl rfl rfl rfl rfl rfl<|geo
 refine gcc 5 rfl<|cIf h rfl (fun q7 h=> ?_) (fun q7 h=> ?_)
 refine gco 2 rfl<|xC1 h (Dr ·) rfl (fun c25_8 h=> ?_)
 exact geo
 exact gec
abbrev Be(p:(List Int)→Option (Int×Int×(List UInt8)×(List aA)×(List aC)×Int×Int×(List UInt8)×(List aB))):Prop:= ∀ {t0_0:List Int} {r:Int×Int×(List UInt8)×(List aA)×(List aC)×Int×Int×(List UInt8)×(List aB)},p t0_0=some r→Big Try.prog τ An (.fn 58 [.one (.c (.sl (t0_0.map rI_u8)))] [] (.tup [.ag [.int .i64 r.1, .int .i64 r.2.1, .str r.2.2.1, .sl (r.2.2.2.1.map aE), .sl (r.2.2.2.2.1.map aD)], .ag [.int .i64 r.2.2.2.2.2.1, .int .i64 r.2.2.2.2.2.2.1, .str r.2.2.2.2.2.2.2.1, .sl (r.2.2.2.2.2.2.2.2.map aF)]]) none [] none)
def iG(n:Nat)(t0_0:List Int):Option (Int×Int×(List UInt8)×(List aA)×(List aC)×Int×Int×(List UInt8)×(List aB)):=
  (nO n t0_0).bind fun c9_1=>(cJ n (2:Int) c9_1.1 c9_1.2.1 c9_1.2.2 ([]:List (List UInt8))).bind fun c12_2=>(cR n c12_2.1 c12_2.2.1 c12_2.2.2.1 c12_2.2.2.2.1 c12_2.2.2.2.2.1 c12_2.2.2.2.2.2.1 c12_2.2.2.2.2.2.2.1 c12_2.2.2.2.2.2.2.2.1).bind fun c15_3=>(aJ n (8:Int) c15_3.2.2.2.2.1 c15_3.2.2.2.2.2.1 c15_3.2.2.2.2.2.2).bind fun c17_4=>bif decide (c17_4.1=(0:Int))then(nN n c17_4.2.1 c17_4.2.2.1 c17_4.2.2.2).bind fun c21_6=>some (c12_2.1,c12_2.2.1,c12_2.2.2.1,c12_2.2.2.2.1,c12_2.2.2.2.2.1,c21_6.1,c21_6.2.1,c21_6.2.2.1,c21_6.2.2.2.1)else bif decide (c17_4.1=(1:Int))then(jE n c17_4.2.1 c17_4.2.2.1 c17_4.2.2.2).bind fun c25_8=>some (c25_8.1,c25_8.2.1,c25_8.2.2.1,c25_8.2.2.2.1,c25_8.2.2.2.2.1,c15_3.1,c15_3.2.1,c15_3.2.2.1,c15_3.2.2.2.1)else some (c12_2.1,c12_2.2.1,c12_2.2.2.1,c12_2.2.2.2.1,c12_2.2.2.2.2.1,c15_3.1,c15_3.2.1,c15_3.2.2.1,c15_3.2.2.2.1)
theorem zI{n:Nat}:Be (iG n):=by
 intro t0_0 r h
 unfold iG at h
 refine bF Try.func58 rfl rfl<|cRs<|xAz [.int .i64 0, .int .i64 0, .str [], .sl ([].map aE), .sl ([].map aD)] rfl<|xAz [.int .i64 0, .int .i64 0, .str [], .sl ([].map aF)] rfl<|goo 4 rfl<|wCn h (fun _=>(Dt ·)) rfl rfl rfl rfl rfl rfl rfl (fun _=>rfl) (fun c9_1 h=> ?_)
 refine goo 4 rfl<|cY (L:=([]:List (List UInt8))) (f:=dN) rfl rfl rfl rfl rfl rfl rfl<|xAz [.sl ([].map dN)] rfl<|goo 5 rfl<|xCk h (nG ·) rfl (fun c12_2 h=> ?_)
 refine xAz [.int .i64 0, .int .i64 0, .str [], .sl ([].map aE), .sl ([].map aD)] rfl<|goo 6 rfl<|xC1 h (Dq ·) rfl (fun c15_3 h=> ?_)
 refine xAz [.int .i64 0, .int .i64 0, .str [], .sl ([].map aF)] rfl<|goo 6 rfl<|xC1 h (aK ·) rfl (fun c17_4 h=> ?_)
 refine goc 7 rfl<|cIf h rfl (fun q5 h=> ?_) (fun q5 h=> ?_)
 refine gco 2 rfl<|xC1 h (Ds ·) rfl (fun c21_6 h=> ?_)
 exact geo
 refine gcc 5 rfl<|cIf h rfl (fun q7 h=> ?_) (fun q7 h=> ?_)
 refine gco 2 rfl<|xC1 h (AO ·) rfl (fun c25_8 h=> ?_)
 exact geo
 exact gec
abbrev jT:Type:=Int→Int→(List UInt8)→(List aA)→(List aC)→Option ((List (List UInt8)))
abbrev oU(p:jT):Prop:= ∀ {t0_0 t0_1:Int} {t0_2:List UInt8} {t0_3:List aA} {t0_4:List aC} {r:(List (List UInt8))},p t0_0 t0_1 t0_2 t0_3 t0_4=some r→Big Try.prog τ An (.fn 59 [.one (.ag [.int .i64 t0_0, .int .i64 t0_1, .str t0_2, .sl (t0_3.map aE), .sl (t0_4.map aD)])] [] (.one (.c (.sl (r.map dN)))) none [] none)
def iH(n:Nat)(r_impl_VarsOf:jT)(t0_3:List aA):((List (List UInt8))×Int)→Option (((List (List UInt8))×Int)⊕(((List (List UInt8))×Int×Bool)))
  | (v3_5,v23_6)=>bif decide (v23_6<(t0_3.length:Int))then(ix t0_3 v23_6).bind fun e25_11=>(r_impl_VarsOf e25_11.f0 e25_11.f1 e25_11.f2 e25_11.f3 e25_11.f4).bind fun c29_12=>(gA 16 v3_5 c29_12).bind fun v30_13=>some (.inl (v30_13,(IntKind.wrap .i64 (v23_6+(1:Int)))))else some (.inr (v3_5,v23_6,false))
def lX(n:Nat)(r_impl_VarsOf:jT)(t0_0:Int)(t0_1:Int)(t0_2:List UInt8)(t0_3:List aA)(t0_4:List aC):Option ((List (List UInt8))):=
  (bif decide (t0_0=(3:Int))then some (!decide (t0_2=([95]:List UInt8)))else some false).bind fun v13_1=>bif v13_1 then some ([t0_2]:List (List UInt8))else bif decide (t0_0=(3:Int))then some ([]:List (List UInt8))else(loopN (iH n r_impl_VarsOf t0_3) n (([]:List (List UInt8)),(0:Int))).bind fun(v3_7,v23_8,v24_9)=>some v3_7
theorem BK{n:Nat}{r_impl_VarsOf:jT}(ih_impl_VarsOf:oU r_impl_VarsOf):oU (lX n r_impl_VarsOf):=by
 intro t0_0 t0_1 t0_2 t0_3 t0_4 r h
 unfold lX at h
 refine bF Try.func59 rfl rfl<|gco 3 rfl<|wAe (Li dN []) rfl rfl rfl rfl<|goo 4 rfl<|oJn h [(6,13)] [] (fun v13_1=>(.n,[(13,Bo v13_1)],[])) (fun _ h=> ?_) (fun v13_1 h=> ?_)
 refine goo 4 rfl<|oIf 9 h rfl (fun q2 h=> ?_) (fun q2 h=> ?_)
 exact geo
 exact geo
 refine cIf h rfl (fun q3 h=> ?_) (fun q3 h=> ?_)
 exact gco 4 rfl<|cY (L:=([t0_2]:List (List UInt8))) (f:=dN) rfl rfl rfl rfl rfl rfl rfl<|geo
 refine gcc 8 rfl<|cIf h rfl (fun q4 h=> ?_) (fun q4 h=> ?_)
 exact cRs<|wAe (Li dN []) rfl rfl rfl rfl<|geo
 refine gco 3 rfl<|wAe (Li dN []) rfl rfl rfl rfl<|goo 6 rfl<|xLn rfl<|goc 2 rfl<|cLp h [(3,3),(5,5),(23,31)] [(5,5)] (fun(v3_5,v23_6)=>([(3,Li dN v3_5),(23,I64 v23_6)],[])) (fun(v3_7,v23_8,v24_9)=>(.e 0,[(3,Li dN v3_7),(23,I64 v23_8),(24,Bo v24_9)],[])) rfl (fun st _ h=> ?_) (fun q h=> ?_)
 obtain⟨v3_5,v23_6⟩:=st
 unfold iH at h
 refine gcc 5 rfl<|cIf h rfl (fun q10 h=> ?_) (fun q10 h=> ?_)
 refine gco 5 rfl<|xIx h aL rfl (fun e25_11 h=> ?_)
 refine xLd rfl<|xAz [.int .i64 0, .int .i64 0, .str [], .sl ([].map aE), .sl ([].map aD)] rfl<|goo 5 rfl<|xC0 h (ih_impl_VarsOf ·) rfl (fun c29_12 h=> ?_)
 refine wAp (f:=dN) h rfl rfl rfl rfl rfl rfl rfl rfl rfl (fun _=>rfl) rfl (fun v30_13 h=> ?_)
 exact geo
 exact gec
 obtain⟨v3_7,v23_8,v24_9⟩:=q
 exact gec
def yI:Nat→(jT)
  | 0=>(fun _ _ _ _ _=>none)
  | n+1=>lX n (yI n)
def fW(n:Nat):jT:=yI n
theorem BT(n:Nat):oU (fW n):=by
  induction n with
  | zero=>exact(fun h=>nomatch h)
  | succ n ih=>exact BK (n:=n) ih
theorem DI{n:Nat}:oU (fW n):=(BT n)
theorem zH(n:Nat):fW (n+1)=lX n (fW n):=rfl
abbrev GY(p:(List aG)→(List UInt8)→Option (Int×Int×(List UInt8)×(List aB)×Bool)):Prop:= ∀ {t0_0:List aG} {t1_0:List UInt8} {r:Int×Int×(List UInt8)×(List aB)×Bool},p t0_0 t1_0=some r→Big Try.prog τ An (.fn 60 [.one (.c (.sl (t0_0.map aM))), .one (.c (.str t1_0))] [] (.tup [.ag [.int .i64 r.1, .int .i64 r.2.1, .str r.2.2.1, .sl (r.2.2.2.1.map aF)], .c (.bool r.2.2.2.2)]) none [] none)
def fR(n:Nat)(t0_0:List aG)(t1_0:List UInt8):(Int×Int×Int×(List UInt8)×(List aB))→Option ((Int×Int×Int×(List UInt8)×(List aB))⊕((Bool×Int×Int×(List UInt8)×(List aB))⊕(Int×Bool×Int×Int×(List UInt8)×(List aB))))
  | (v10_1,w4_2,w4_3,w4_4,w4_5)=>bif decide (v10_1<(t0_0.length:Int))then(ix t0_0 v10_1).bind fun e12_18=>bif decide (e12_18.f0=t1_0)then(bZ n e12_18.f1 e12_18.f2 e12_18.f3 e12_18.f4).bind fun c20_20=>some (.inr (.inl (true,c20_20.1,c20_20.2.1,c20_20.2.2.1,c20_20.2.2.2)))else some (.inl ((IntKind.wrap .i64 (v10_1+(1:Int))),w4_2,w4_3,w4_4,w4_5))else some (.inr (.inr (v10_1,false,w4_2,w4_3,w4_4,w4_5)))
def gQ(n:Nat)(t0_0:List aG)(t1_0:List UInt8):Option (Int×Int×(List UInt8)×(List aB)×Bool):=
  (loopN (fR n t0_0 t1_0) n ((0:Int),(0:Int),(0:Int),([]:List UInt8),([]:List aB))).bind fun q=>(match q with | .inl (v5_6,w4_7,w4_8,w4_9,w4_10)=>some (w4_7,w4_8,w4_9,w4_10,v5_6) | .inr (v10_11,v11_12,w4_13,w4_14,w4_15,w4_16)=>some ((0:Int),(0:Int),([]:List UInt8),([]:List aB),false))
theorem uN{n:Nat}:GY (gQ n):=by
 intro t0_0 t1_0 r h
 unfold gQ at h
 refine bF Try.func60 rfl rfl<|cRs<|xAz [.int .i64 0, .int .i64 0, .str [], .sl ([].map aF)] rfl<|goo 6 rfl<|xLn rfl<|goc 2 rfl<|cLp h [(4,5),(7,7),(10,21)] [(4,4),(7,7)] (fun(v10_1,w4_2,w4_3,w4_4,w4_5)=>([(4,Pt 4),(10,I64 v10_1)],[(4,[.int .i64 w4_2, .int .i64 w4_3, .str w4_4, .sl (w4_5.map aF)])])) (fun q=>match q with | .inl (v5_6,w4_7,w4_8,w4_9,w4_10)=>(.r,[(4,Pt 4),(5,Bo v5_6)],[(4,[.int .i64 w4_7, .int .i64 w4_8, .str w4_9, .sl (w4_10.map aF)])]) | .inr (v10_11,v11_12,w4_13,w4_14,w4_15,w4_16)=>(.e 0,[(4,Pt 4),(10,I64 v10_11),(11,Bo v11_12)],[(4,[.int .i64 w4_13, .int .i64 w4_14, .str w4_15, .sl (w4_16.map aF)])])) rfl (fun st _ h=> ?_) (fun q h=> ?_)
 obtain⟨v10_1,w4_2,w4_3,w4_4,w4_5⟩:=st
 unfold fR at h
 refine gcc 5 rfl<|cIf h rfl (fun q17 h=> ?_) (fun q17 h=> ?_)
 refine gco 5 rfl<|xIx h mG rfl (fun e12_18 h=> ?_)
 refine xLd rfl<|xAz [.str [], .int .i64 0, .int .i64 0, .str [], .sl ([].map aF)] rfl<|goc 9 rfl<|cIf h rfl (fun q19 h=> ?_) (fun q19 h=> ?_)
 refine gco 4 rfl<|xC0 h (sC ·) rfl (fun c20_20 h=> ?_)
 exact geo
 exact gec
 exact gec
 rcases q with⟨v5_6,w4_7,w4_8,w4_9,w4_10⟩ | ⟨v10_11,v11_12,w4_13,w4_14,w4_15,w4_16⟩
 exact en
 exact cRs<|wBd [.int .i64 0, .int .i64 0, .str [], .sl ([].map aF)] rfl rfl rfl rfl rfl rfl<|geo
abbrev zL(p:(List aB)→Int→Option ((List aB))):Prop:= ∀ {t0_0:List aB} {t1_0:Int} {r:(List aB)},p t0_0 t1_0=some r→Big Try.prog τ An (.fn 266 [.one (.c (.sl (t0_0.map aF))), .one (.c (.int .i64 t1_0))] [] (.one (.c (.sl (r.map aF)))) none [] none)
def fX(n:Nat)(t0_0:List aB)(t1_0:Int):Option (List aB):=bif t0_0.isEmpty&&(decide (0≤t1_0)&&decide (t1_0*56≤140737488355328))then some []else none
set_option maxRecDepth 100000 in
theorem vP{n:Nat}:zL (fX n):=by
 intro t0_0 t1_0 r h
 unfold fX at h
 cases hc:(t0_0.isEmpty&&(decide (0≤t1_0)&&decide (t1_0*56≤140737488355328)))with
 | false=>rw[hc]at h; cases h
 | true=>
  rw[hc]at h
  cases h
  simp only[Bool.and_eq_true,List.isEmpty_iff,decide_eq_true_eq]at hc
  obtain⟨rfl,h1,h2⟩:=hc
  exact Big.lib Try.func266 rfl rfl (UH Qs rfl rfl rfl rfl rfl rfl h1 h2 (by omega))

abbrev vQ(p:(List (List aB))→Option ((List aB))):Prop:= ∀ {t0_0:List (List aB)} {r:(List aB)},p t0_0=some r→Big Try.prog τ An (.fn 239 [.one (.c (.sl (t0_0.map qY)))] [] (.one (.c (.sl (r.map aF)))) none [] none)
def bL(n:Nat)(t0_0:List (List aB)):(Int×Int)→Option ((Int×Int)⊕((Int×Int×Bool)))
  | (v3_1,v11_2)=>bif decide (v11_2<(t0_0.length:Int))then(ix t0_0 v11_2).bind fun e13_7=>bif decide ((IntKind.wrap .i64 (v3_1+(e13_7.length:Int)))<(0:Int))then none else some (.inl ((IntKind.wrap .i64 (v3_1+(e13_7.length:Int))),(IntKind.wrap .i64 (v11_2+(1:Int)))))else some (.inr (v3_1,v11_2,false))
def bK(n:Nat)(t0_0:List (List aB)):((List aB)×Int)→Option (((List aB)×Int)⊕(((List aB)×Int×Bool)))
  | (v6_10,v27_11)=>bif decide (v27_11<(t0_0.length:Int))then(ix t0_0 v27_11).bind fun e29_16=>(gA 56 v6_10 e29_16).bind fun v33_17=>some (.inl (v33_17,(IntKind.wrap .i64 (v27_11+(1:Int)))))else some (.inr (v6_10,v27_11,false))
def eD(n:Nat)(t0_0:List (List aB)):Option ((List aB)):=
  (loopN (bL n t0_0) n ((0:Int),(0:Int))).bind fun(v3_3,v11_4,v12_5)=>(fX n ([]:List aB) v3_3).bind fun c24_9=>(loopN (bK n t0_0) n (c24_9,(0:Int))).bind fun(v6_12,v27_13,v28_14)=>some v6_12
theorem tJ{n:Nat}:vQ (eD n):=by
 intro t0_0 r h
 unfold eD at h
 refine bF Try.func239 rfl rfl<|cRs<|wAe (Li aF []) rfl rfl rfl rfl<|goo 9 rfl<|xLn rfl<|goc 2 rfl<|cLp h [(3,3),(5,5),(11,22)] [] (fun(v3_1,v11_2)=>([(3,I64 v3_1),(11,I64 v11_2)],[])) (fun(v3_3,v11_4,v12_5)=>(.e 0,[(3,I64 v3_3),(11,I64 v11_4),(12,Bo v12_5)],[])) rfl (fun st _ h=> ?_) (fun q h=> ?_)
 obtain⟨v3_1,v11_2⟩:=st
 unfold bL at h
 refine gcc 5 rfl<|cIf h rfl (fun q6 h=> ?_) (fun q6 h=> ?_)
 refine gco 5 rfl<|xIx h rV rfl (fun e13_7 h=> ?_)
 refine goo 7 rfl<|xLn rfl<|goc 8 rfl<|cIf h rfl (fun q8 h=> ?_) (fun q8 h=> ?_)
 cases h
 exact gec
 exact gec
 obtain⟨v3_3,v11_4,v12_5⟩:=q
 refine gco 3 rfl<|xC0 h (vP ·) rfl (fun c24_9 h=> ?_)
 refine goo 6 rfl<|xLn rfl<|goc 2 rfl<|cLp h [(6,6),(8,8),(27,34)] [] (fun(v6_10,v27_11)=>([(6,Li aF v6_10),(27,I64 v27_11)],[])) (fun(v6_12,v27_13,v28_14)=>(.e 2,[(6,Li aF v6_12),(27,I64 v27_13),(28,Bo v28_14)],[])) rfl (fun st _ h=> ?_) (fun q h=> ?_)
 obtain⟨v6_10,v27_11⟩:=st
 unfold bK at h
 refine gcc 5 rfl<|cIf h rfl (fun q15 h=> ?_) (fun q15 h=> ?_)
 refine gco 5 rfl<|xIx h rV rfl (fun e29_16 h=> ?_)
 refine goo 6 rfl<|wAp (f:=aF) h rfl rfl rfl rfl rfl rfl rfl rfl rfl (fun a=>by rw[aO]; rfl) rfl (fun v33_17 h=> ?_)
 exact geo
 exact gec
 obtain⟨v6_12,v27_13,v28_14⟩:=q
 exact gec
abbrev GW(p:(List aB)→Option (Int×Int×(List UInt8)×(List aB)×Bool)):Prop:= ∀ {t0_0:List aB} {r:Int×Int×(List UInt8)×(List aB)×Bool},p t0_0=some r→Big Try.prog τ An (.fn 204 [.one (.c (.sl (t0_0.map aF)))] [] (.tup [.ag [.int .i64 r.1, .int .i64 r.2.1, .str r.2.2.1, .sl (r.2.2.2.1.map aF)], .c (.bool r.2.2.2.2)]) none [] none)
def mC(n:Nat)(t0_0:List aB):Option (Int×Int×(List UInt8)×(List aB)×Bool):=
  (ix t0_0 (IntKind.wrap .i64 ((t0_0.length:Int) - (1:Int)))).bind fun e9_1=>bif !decide (e9_1.f0=(5:Int))then some ((0:Int),(0:Int),([]:List UInt8),([]:List aB),false)else(sub t0_0 none (some (IntKind.wrap .i64 ((t0_0.length:Int) - (1:Int))))).bind fun v19_3=>(eD n ([v19_3,e9_1.f3]:List (List aB))).bind fun c23_4=>some ((5:Int),(0:Int),([]:List UInt8),c23_4,true)
theorem DH{n:Nat}:GW (mC n):=by
 intro t0_0 r h
 unfold mC at h
 refine bF Try.func204 rfl rfl<|cRs<|xAz [.int .i64 0, .int .i64 0, .str [], .sl ([].map aF)] rfl<|goo 6 rfl<|xLn rfl<|xSub rfl<|xIx h aO rfl (fun e9_1 h=> ?_)
 refine xLd rfl<|xAz [.int .i64 0, .int .i64 0, .str [], .sl ([].map aF)] rfl<|goc 9 rfl<|cIf h rfl (fun q2 h=> ?_) (fun q2 h=> ?_)
 exact cRs<|wBd [.int .i64 0, .int .i64 0, .str [], .sl ([].map aF)] rfl rfl rfl rfl rfl rfl<|geo
 refine gco 5 rfl<|xLn rfl<|xSub rfl<|wSl (rf:=aF) h rfl rfl rfl rfl .no (.so rfl) (fun a=>by rw[aO]; rfl) rfl (fun v19_3 h=> ?_)
 refine goo 2 rfl<|cY (L:=([v19_3,e9_1.f3]:List (List aB))) (f:=qY) rfl rfl rfl rfl rfl rfl rfl<|xC0 h (tJ ·) rfl (fun c23_4 h=> ?_)
 exact wBd [.int .i64 5, .int .i64 0, .str [], .sl (c23_4.map aF)] rfl rfl rfl rfl rfl rfl<|geo
abbrev mY:Type:=Int→Int→(List UInt8)→(List aA)→(List aC)→(List aG)→Option (Int×Int×(List UInt8)×(List aB)×Bool)
abbrev sM(p:mY):Prop:= ∀ {t0_0 t0_1:Int} {t0_2:List UInt8} {t0_3:List aA} {t0_4:List aC} {t1_0:List aG} {r:Int×Int×(List UInt8)×(List aB)×Bool},p t0_0 t0_1 t0_2 t0_3 t0_4 t1_0=some r→Big Try.prog τ An (.fn 134 [.one (.ag [.int .i64 t0_0, .int .i64 t0_1, .str t0_2, .sl (t0_3.map aE), .sl (t0_4.map aD)]), .one (.c (.sl (t1_0.map aM)))] [] (.tup [.ag [.int .i64 r.1, .int .i64 r.2.1, .str r.2.2.1, .sl (r.2.2.2.1.map aF)], .c (.bool r.2.2.2.2)]) none [] none)
def gE(n:Nat)(r_impl_fill:mY)(t1_0:List aG)(t0_3:List aA):((List aB)×Int×Int×Int×(List UInt8)×(List aB))→Option (((List aB)×Int×Int×Int×(List UInt8)×(List aB))⊕((Bool×Int×Int×(List UInt8)×(List aB))⊕((List aB)×Int×Bool×Int×Int×(List UInt8)×(List aB))))
  | (v6_5,v34_6,w4_7,w4_8,w4_9,w4_10)=>bif decide (v34_6<(t0_3.length:Int))then(ix t0_3 v34_6).bind fun e36_24=>(r_impl_fill e36_24.f0 e36_24.f1 e36_24.f2 e36_24.f3 e36_24.f4 t1_0).bind fun c41_25=>bif !c41_25.2.2.2.2 then some (.inr (.inl (false,(0:Int),(0:Int),([]:List UInt8),([]:List aB))))else(gA 56 v6_5 ([aB.mk c41_25.1 c41_25.2.1 c41_25.2.2.1 c41_25.2.2.2.1]:List aB)).bind fun v50_27=>some (.inl (v50_27,(IntKind.wrap .i64 (v34_6+(1:Int))),w4_7,w4_8,w4_9,w4_10))else some (.inr (.inr (v6_5,v34_6,false,w4_7,w4_8,w4_9,w4_10)))
def pC(n:Nat)(r_impl_fill:mY)(t0_0:Int)(t0_1:Int)(t0_2:List UInt8)(t0_3:List aA)(t0_4:List aC)(t1_0:List aG):Option (Int×Int×(List UInt8)×(List aB)×Bool):=
  bif decide (t0_0=(1:Int))then some ((1:Int),t0_1,([]:List UInt8),([]:List aB),true)else bif decide (t0_0=(2:Int))then some ((2:Int),(0:Int),t0_2,([]:List aB),true)else bif decide (t0_0=(3:Int))then(gQ n t1_0 t0_2).bind fun c28_4=>some (c28_4.1,c28_4.2.1,c28_4.2.2.1,c28_4.2.2.2.1,c28_4.2.2.2.2)else(loopN (gE n r_impl_fill t1_0 t0_3) n (([]:List aB),(0:Int),(0:Int),(0:Int),([]:List UInt8),([]:List aB))).bind fun q=>(match q with | .inl (v5_11,w4_12,w4_13,w4_14,w4_15)=>some (w4_12,w4_13,w4_14,w4_15,v5_11) | .inr (v6_16,v34_17,v35_18,w4_19,w4_20,w4_21,w4_22)=>bif decide (t0_0=(4:Int))then some ((4:Int),(0:Int),([]:List UInt8),v6_16,true)else bif decide (t0_0=(5:Int))then some ((5:Int),(0:Int),([]:List UInt8),v6_16,true)else(mC n v6_16).bind fun c63_30=>some (c63_30.1,c63_30.2.1,c63_30.2.2.1,c63_30.2.2.2.1,c63_30.2.2.2.2))
theorem Dk{n:Nat}{r_impl_fill:mY}(ih_impl_fill:sM r_impl_fill):sM (pC n r_impl_fill):=by
 intro t0_0 t0_1 t0_2 t0_3 t0_4 t1_0 r h
 unfold pC at h
 refine bF Try.func134 rfl rfl<|gco 3 rfl<|xAz [.int .i64 0, .int .i64 0, .str [], .sl ([].map aF)] rfl<|goc 14 rfl<|cIf h rfl (fun q1 h=> ?_) (fun q1 h=> ?_)
 exact gco 4 rfl<|wBd [.int .i64 1, .int .i64 t0_1, .str [], .sl ([].map aF)] rfl rfl rfl rfl rfl rfl<|geo
 refine gcc 5 rfl<|cIf h rfl (fun q2 h=> ?_) (fun q2 h=> ?_)
 exact gco 4 rfl<|wBd [.int .i64 2, .int .i64 0, .str t0_2, .sl ([].map aF)] rfl rfl rfl rfl rfl rfl<|geo
 refine gcc 5 rfl<|cIf h rfl (fun q3 h=> ?_) (fun q3 h=> ?_)
 refine gco 5 rfl<|xC0 h (uN ·) rfl (fun c28_4 h=> ?_)
 exact geo
 refine gco 3 rfl<|wAe (Li aF []) rfl rfl rfl rfl<|goo 6 rfl<|xLn rfl<|goc 2 rfl<|cLp h [(4,6),(8,10),(34,51)] [(4,4),(8,9)] (fun(v6_5,v34_6,w4_7,w4_8,w4_9,w4_10)=>([(4,Pt 4),(6,Li aF v6_5),(34,I64 v34_6)],[(4,[.int .i64 w4_7, .int .i64 w4_8, .str w4_9, .sl (w4_10.map aF)])])) (fun q=>match q with | .inl (v5_11,w4_12,w4_13,w4_14,w4_15)=>(.r,[(4,Pt 4),(5,Bo v5_11)],[(4,[.int .i64 w4_12, .int .i64 w4_13, .str w4_14, .sl (w4_15.map aF)])]) | .inr (v6_16,v34_17,v35_18,w4_19,w4_20,w4_21,w4_22)=>(.e 1,[(4,Pt 4),(6,Li aF v6_16),(34,I64 v34_17),(35,Bo v35_18)],[(4,[.int .i64 w4_19, .int .i64 w4_20, .str w4_21, .sl (w4_22.map aF)])])) rfl (fun st _ h=> ?_) (fun q h=> ?_)
 obtain⟨v6_5,v34_6,w4_7,w4_8,w4_9,w4_10⟩:=st
 unfold gE at h
 refine gcc 5 rfl<|cIf h rfl (fun q23 h=> ?_) (fun q23 h=> ?_)
 refine gco 5 rfl<|xIx h aL rfl (fun e36_24 h=> ?_)
 refine xLd rfl<|xAz [.int .i64 0, .int .i64 0, .str [], .sl ([].map aE), .sl ([].map aD)] rfl<|goo 6 rfl<|xC0 h (ih_impl_fill ·) rfl (fun c41_25 h=> ?_)
 refine goo 3 rfl<|xAz [.int .i64 0, .int .i64 0, .str [], .sl ([].map aF)] rfl<|goc 9 rfl<|cIf h rfl (fun q26 h=> ?_) (fun q26 h=> ?_)
 exact cRs<|wBd [.int .i64 0, .int .i64 0, .str [], .sl ([].map aF)] rfl rfl rfl rfl rfl rfl<|geo
 refine gco 4 rfl<|cY (L:=([aB.mk c41_25.1 c41_25.2.1 c41_25.2.2.1 c41_25.2.2.2.1]:List aB)) (f:=aF) rfl rfl rfl rfl (by simp only[List.map,dC]<;>rfl) rfl rfl<|wAp (f:=aF) h rfl rfl rfl rfl rfl rfl rfl rfl rfl (fun a=>by rw[aO]; rfl) rfl (fun v50_27 h=> ?_)
 exact geo
 exact gec
 rcases q with⟨v5_11,w4_12,w4_13,w4_14,w4_15⟩ | ⟨v6_16,v34_17,v35_18,w4_19,w4_20,w4_21,w4_22⟩
 exact en
 refine gcc 12 rfl<|cIf h rfl (fun q28 h=> ?_) (fun q28 h=> ?_)
 exact gco 3 rfl<|wBd [.int .i64 4, .int .i64 0, .str [], .sl (v6_16.map aF)] rfl rfl rfl rfl rfl rfl<|geo
 refine gcc 5 rfl<|cIf h rfl (fun q29 h=> ?_) (fun q29 h=> ?_)
 exact gco 3 rfl<|wBd [.int .i64 5, .int .i64 0, .str [], .sl (v6_16.map aF)] rfl rfl rfl rfl rfl rfl<|geo
 refine gco 4 rfl<|xC0 h (DH ·) rfl (fun c63_30 h=> ?_)
 exact geo
def Cb:Nat→(mY)
  | 0=>(fun _ _ _ _ _ _=>none)
  | n+1=>pC n (Cb n)
def fY(n:Nat):mY:=Cb n
theorem Dp(n:Nat):sM (fY n):=by
  induction n with
  | zero=>exact(fun h=>nomatch h)
  | succ n ih=>exact Dk (n:=n) ih
theorem GL{n:Nat}:sM (fY n):=(Dp n)
theorem BL(n:Nat):fY (n+1)=pC n (fY n):=rfl
abbrev KN(p:Int→Int→(List UInt8)→(List aA)→(List aC)→(List aG)→Option (Int×Int×(List UInt8)×(List aB)×Bool)):Prop:= ∀ {t0_0 t0_1:Int} {t0_2:List UInt8} {t0_3:List aA} {t0_4:List aC} {t1_0:List aG} {r:Int×Int×(List UInt8)×(List aB)×Bool},p t0_0 t0_1 t0_2 t0_3 t0_4 t1_0=some r→Big Try.prog τ An (.fn 62 [.one (.ag [.int .i64 t0_0, .int .i64 t0_1, .str t0_2, .sl (t0_3.map aE), .sl (t0_4.map aD)]), .one (.c (.sl (t1_0.map aM)))] [] (.tup [.ag [.int .i64 r.1, .int .i64 r.2.1, .str r.2.2.1, .sl (r.2.2.2.1.map aF)], .c (.bool r.2.2.2.2)]) none [] none)
def sK(n:Nat)(t0_0:Int)(t0_1:Int)(t0_2:List UInt8)(t0_3:List aA)(t0_4:List aC)(t1_0:List aG):Option (Int×Int×(List UInt8)×(List aB)×Bool):=
  (iU n t0_0 t0_1 t0_2 t0_3 t0_4).bind fun c9_1=>bif !c9_1 then some ((0:Int),(0:Int),([]:List UInt8),([]:List aB),false)else(fY n t0_0 t0_1 t0_2 t0_3 t0_4 t1_0).bind fun c15_3=>(bif !c15_3.2.2.2.2 then some true else(eH n c15_3.1 c15_3.2.1 c15_3.2.2.1 c15_3.2.2.2.1).bind fun c22_6=>some (!c22_6)).bind fun v24_4=>bif v24_4 then some ((0:Int),(0:Int),([]:List UInt8),([]:List aB),false)else some (c15_3.1,c15_3.2.1,c15_3.2.2.1,c15_3.2.2.2.1,true)
theorem GM{n:Nat}:KN (sK n):=by
 intro t0_0 t0_1 t0_2 t0_3 t0_4 t1_0 r h
 unfold sK at h
 refine bF Try.func62 rfl rfl<|gco 3 rfl<|xAz [.int .i64 0, .int .i64 0, .str [], .sl ([].map aF)] rfl<|goo 6 rfl<|xC0 h (vX ·) rfl (fun c9_1 h=> ?_)
 refine goc 2 rfl<|cIf h rfl (fun q2 h=> ?_) (fun q2 h=> ?_)
 exact cRs<|wBd [.int .i64 0, .int .i64 0, .str [], .sl ([].map aF)] rfl rfl rfl rfl rfl rfl<|geo
 refine gco 5 rfl<|xC0 h (GL ·) rfl (fun c15_3 h=> ?_)
 refine goo 3 rfl<|xAz [.int .i64 0, .int .i64 0, .str [], .sl ([].map aF)] rfl<|goo 6 rfl<|oJn h [(18,24)] [] (fun v24_4=>(.n,[(24,Bo v24_4)],[])) (fun _ h=> ?_) (fun v24_4 h=> ?_)
 refine goo 3 rfl<|oIf 20 h rfl (fun q5 h=> ?_) (fun q5 h=> ?_)
 exact geo
 refine xLd rfl<|xC0 h (pN ·) rfl (fun c22_6 h=> ?_)
 exact geo
 refine cIf h rfl (fun q7 h=> ?_) (fun q7 h=> ?_)
 exact cRs<|wBd [.int .i64 0, .int .i64 0, .str [], .sl ([].map aF)] rfl rfl rfl rfl rfl rfl<|geo
 exact gec
abbrev Bf(p:(List Int)→Option (Bool)):Prop:= ∀ {t0_0:List Int} {r:Bool},p t0_0=some r→Big Try.prog τ An (.fn 10 [.one (.c (.sl (t0_0.map rI_u8)))] [] (.one (.c (.bool r))) none [] none)
def gV(n:Nat)(c25_4:(List aG)×Bool)(c50_11:(List (List UInt8))):(Int)→Option ((Int)⊕((Bool)⊕(Int×Bool)))
  | v10_13=>bif decide (v10_13<(c25_4.1.length:Int))then(ix c25_4.1 v10_13).bind fun e66_18=>(gQ n c25_4.1 e66_18.f0).bind fun c69_19=>((ix c25_4.1 v10_13).bind fun e74_21=>(ix c50_11 v10_13).bind fun e79_22=>bif !decide (e74_21.f0=e79_22)then some true else bif !c69_19.2.2.2.2 then some true else(ix c25_4.1 v10_13).bind fun e90_25=>(cM n c69_19.1 c69_19.2.1 c69_19.2.2.1 c69_19.2.2.2.1 e90_25.f1 e90_25.f2 e90_25.f3 e90_25.f4).bind fun c93_26=>bif !c93_26 then some true else(eH n c69_19.1 c69_19.2.1 c69_19.2.2.1 c69_19.2.2.2.1).bind fun c98_28=>some (!c98_28)).bind fun v100_20=>bif v100_20 then some (.inr (.inl false))else some (.inl (IntKind.wrap .i64 (v10_13+(1:Int))))else some (.inr (.inr (v10_13,false)))
def kZ(n:Nat)(t0_0:List Int):Option (Bool):=
  (uR n t0_0).bind fun c16_1=>bif c16_1 then some true else(iG n t0_0).bind fun c19_3=>(lI n c19_3.1 c19_3.2.1 c19_3.2.2.1 c19_3.2.2.2.1 c19_3.2.2.2.2.1 c19_3.2.2.2.2.2.1 c19_3.2.2.2.2.2.2.1 c19_3.2.2.2.2.2.2.2.1 c19_3.2.2.2.2.2.2.2.2).bind fun c25_4=>(lH n c19_3.1 c19_3.2.1 c19_3.2.2.1 c19_3.2.2.2.1 c19_3.2.2.2.2.1 c19_3.2.2.2.2.2.1 c19_3.2.2.2.2.2.2.1 c19_3.2.2.2.2.2.2.2.1 c19_3.2.2.2.2.2.2.2.2).bind fun c31_5=>(bif !(c25_4.2 == c31_5.2)then some true else some (!c25_4.2)).bind fun v40_6=>bif v40_6 then(bif (c25_4.2 == c31_5.2)then some (decide ((c25_4.1.length:Int)=(0:Int)))else some false).bind fun v2_9=>some v2_9 else(fW n c19_3.1 c19_3.2.1 c19_3.2.2.1 c19_3.2.2.2.1 c19_3.2.2.2.2.1).bind fun c50_11=>bif !decide ((c25_4.1.length:Int)=(c50_11.length:Int))then some false else(loopN (gV n c25_4 c50_11) n (0:Int)).bind fun q=>(match q with | .inl v2_14=>some v2_14 | .inr (v10_15,v59_16)=>(sK n c19_3.1 c19_3.2.1 c19_3.2.2.1 c19_3.2.2.2.1 c19_3.2.2.2.2.1 c25_4.1).bind fun c104_30=>(bif !c104_30.2.2.2.2 then some true else(cM n c104_30.1 c104_30.2.1 c104_30.2.2.1 c104_30.2.2.2.1 c19_3.2.2.2.2.2.1 c19_3.2.2.2.2.2.2.1 c19_3.2.2.2.2.2.2.2.1 c19_3.2.2.2.2.2.2.2.2).bind fun c112_33=>some c112_33).bind fun v2_31=>some v2_31)
theorem zJ{n:Nat}:Bf (kZ n):=by
 intro t0_0 r h
 unfold kZ at h
 refine bF Try.func10 rfl rfl<|gco 8 rfl<|xC0 h (IL ·) rfl (fun c16_1 h=> ?_)
 refine oNl<|cIf h rfl (fun q2 h=> ?_) (fun q2 h=> ?_)
 exact gec
 refine gco 4 rfl<|xC0 h (zI ·) rfl (fun c19_3 h=> ?_)
 refine goo 3 rfl<|xAz [.int .i64 0, .int .i64 0, .str [], .sl ([].map aE), .sl ([].map aD)] rfl<|xAz [.int .i64 0, .int .i64 0, .str [], .sl ([].map aF)] rfl<|goo 7 rfl<|xC0 h (Dy ·) rfl (fun c25_4 h=> ?_)
 refine goo 10 rfl<|xC0 h (Dv ·) rfl (fun c31_5 h=> ?_)
 refine goo 9 rfl<|oJn h [(34,40)] [] (fun v40_6=>(.n,[(40,Bo v40_6)],[])) (fun _ h=> ?_) (fun v40_6 h=> ?_)
 refine goo 2 rfl<|wBi (.bool (!(c25_4.2 == c31_5.2))) rfl rfl rfl rfl rfl<|xMv rfl<|oIf 37 h rfl (fun q7 h=> ?_) (fun q7 h=> ?_)
 exact geo
 exact geo
 refine cIf h rfl (fun q8 h=> ?_) (fun q8 h=> ?_)
 refine cRs<|oJn h [(2,2),(41,48)] [] (fun v2_9=>(.n,[(2,Bo v2_9)],[])) (fun _ h=> ?_) (fun v2_9 h=> ?_)
 refine goo 2 rfl<|wBi (.bool ((c25_4.2 == c31_5.2))) rfl rfl rfl rfl rfl<|xMv rfl<|oIf 44 h rfl (fun q10 h=> ?_) (fun q10 h=> ?_)
 exact xMv rfl<|xLn rfl<|geo
 exact geo
 exact gec
 refine gco 4 rfl<|xC0 h (DI ·) rfl (fun c50_11 h=> ?_)
 refine goo 6 rfl<|xLn rfl<|xMv rfl<|xLn rfl<|goc 2 rfl<|cIf h rfl (fun q12 h=> ?_) (fun q12 h=> ?_)
 exact gec
 refine gcc 6 rfl<|cLp h [(2,2),(10,12),(56,100)] [(11,11)] (fun v10_13=>([(10,I64 v10_13)],[])) (fun q=>match q with | .inl v2_14=>(.r,[(2,Bo v2_14)],[]) | .inr (v10_15,v59_16)=>(.e 0,[(10,I64 v10_15),(59,Bo v59_16)],[])) rfl (fun v10_13 _ h=> ?_) (fun q h=> ?_)
 unfold gV at h
 refine gco 5 rfl<|xLn rfl<|goc 2 rfl<|cIf h rfl (fun q17 h=> ?_) (fun q17 h=> ?_)
 refine gco 8 rfl<|xIx h mG rfl (fun e66_18 h=> ?_)
 refine goo 2 rfl<|xC0 h (uN ·) rfl (fun c69_19 h=> ?_)
 refine goo 3 rfl<|xAz [.int .i64 0, .int .i64 0, .str [], .sl ([].map aF)] rfl<|goo 5 rfl<|oJn h [(72,100)] [] (fun v100_20=>(.n,[(100,Bo v100_20)],[])) (fun _ h=> ?_) (fun v100_20 h=> ?_)
 refine goo 2 rfl<|xIx h mG rfl (fun e74_21 h=> ?_)
 refine goo 4 rfl<|xIx h oF rfl (fun e79_22 h=> ?_)
 refine goo 3 rfl<|oIf 82 h rfl (fun q23 h=> ?_) (fun q23 h=> ?_)
 exact geo
 refine goo 4 rfl<|oIf 86 h rfl (fun q24 h=> ?_) (fun q24 h=> ?_)
 exact geo
 refine goo 3 rfl<|xIx h mG rfl (fun e90_25 h=> ?_)
 refine goo 2 rfl<|xC0 h (sD ·) rfl (fun c93_26 h=> ?_)
 refine goo 3 rfl<|oIf 96 h rfl (fun q27 h=> ?_) (fun q27 h=> ?_)
 exact geo
 refine xLd rfl<|xC0 h (pN ·) rfl (fun c98_28 h=> ?_)
 exact geo
 refine cIf h rfl (fun q29 h=> ?_) (fun q29 h=> ?_)
 exact gec
 exact gec
 exact gec
 rcases q with v2_14 | ⟨v10_15,v59_16⟩
 exact en
 refine gco 4 rfl<|xC0 h (GM ·) rfl (fun c104_30 h=> ?_)
 refine goo 3 rfl<|xAz [.int .i64 0, .int .i64 0, .str [], .sl ([].map aF)] rfl<|goo 5 rfl<|oJn h [(2,2),(107,113)] [] (fun v2_31=>(.n,[(2,Bo v2_31)],[])) (fun _ h=> ?_) (fun v2_31 h=> ?_)
 refine goo 3 rfl<|oIf 109 h rfl (fun q32 h=> ?_) (fun q32 h=> ?_)
 exact geo
 refine goo 2 rfl<|xC0 h (sD ·) rfl (fun c112_33 h=> ?_)
 exact geo
 exact gec
end Go.Own
