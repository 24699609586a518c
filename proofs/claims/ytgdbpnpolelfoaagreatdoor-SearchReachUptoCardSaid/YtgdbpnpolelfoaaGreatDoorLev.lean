/- The law over the program. -/
import Derived.Test.YtgdbpnpolelfoaaGreatDoorMe
import Derived.Test.YtgdbpnpolelfoaaGreatDoorUc
import Derived.Test.YtgdbpnpolelfoaaGreatDoorD
import Derived.KernelRfl
set_option linter.all false
namespace Go.AJ
open Go Go.Proofs Go.Proofs.Tryz
set_option maxRecDepth 100000
variable [BE]
noncomputable section
def Xe:Cx:=⟨tyOf tyT plz true,isExt⟩
theorem Xe_ok:POK Tryz.prog Xe:=POK.of plz_ok tyT_ok (fun n h=>Nat.eq_of_beq_eq_true h) func308 rfl rfl rfl rfl
def g6:D8:=memo [] [] (.bool true)
theorem g6_ok:CL Tryz.prog Xe 6 g6:=memo_ok Ey D5 EzD_ok m6
abbrev cE (f:Func):Option AFn:=cFn Xe.T Xe.ext f
abbrev Fl (i:Nat) (a:Option AFn):Prop:=FnOK Tryz.prog Xe (K.of i) (.fn a)
theorem fl {i : Nat} {fn : Func} (hf : Tryz.prog.funcs[i]? = some fn) (hn : (fn.name == "runtime.NumGoroutine") = false) : Fl i (cE fn) := FnOK.code rfl hf hn
theorem nm {p:K→K}:∀k,FnOK Tryz.prog Xe (p k) (T.get .no k .l):=T.all_l fun _=>FnOK.no _
theorem ny {k:K}:FnOK Tryz.prog Xe k .no:=FnOK.no _
def e4:=cE f4
theorem e4_eq:e4=some ⟨c1004,r1004⟩:=by kernel_rfl
theorem l4:Fl 4 e4:=fl func4 rfl
def e5:=cE f5
theorem e5_eq:e5=some ⟨c1005,r1005⟩:=by kernel_rfl
theorem l5:Fl 5 e5:=fl func5 rfl
def e7:=cE f7
theorem e7_eq:e7=some ⟨c1007,r1007⟩:=by kernel_rfl
theorem l7:Fl 7 e7:=fl func7 rfl
def e8:=cE f8
theorem e8_eq:e8=some ⟨c29,r29⟩:=by kernel_rfl
theorem l8:Fl 8 e8:=fl func8 rfl
def e16:=cE f16
theorem e16_eq:e16=some ⟨c1016,r1016⟩:=by kernel_rfl
theorem l16:Fl 16 e16:=fl func16 rfl
def e24:=cE f24
theorem e24_eq:e24=some ⟨c1024,r1024⟩:=by kernel_rfl
theorem l24:Fl 24 e24:=fl func24 rfl
def e25:=cE f25
theorem e25_eq:e25=some ⟨c1025,r1025⟩:=by kernel_rfl
theorem l25:Fl 25 e25:=fl func25 rfl
def e26:=cE f26
theorem e26_eq:e26=some ⟨c313,r313⟩:=by kernel_rfl
theorem l26:Fl 26 e26:=fl func26 rfl
def e27:=cE f27
theorem e27_eq:e27=some ⟨c1027,r1027⟩:=by kernel_rfl
theorem l27:Fl 27 e27:=fl func27 rfl
def e28:=cE f28
theorem e28_eq:e28=some ⟨c1028,r1028⟩:=by kernel_rfl
theorem l28:Fl 28 e28:=fl func28 rfl
def e29:=cE f29
theorem e29_eq:e29=some ⟨c1029,r1029⟩:=by kernel_rfl
theorem l29:Fl 29 e29:=fl func29 rfl
def e30:=cE f30
theorem e30_eq:e30=some ⟨c1030,r1030⟩:=by kernel_rfl
theorem l30:Fl 30 e30:=fl func30 rfl
def e45:=cE f45
theorem e45_eq:e45=some ⟨c31,r31⟩:=by kernel_rfl
theorem l45:Fl 45 e45:=fl func45 rfl
def e46:=cE f46
theorem e46_eq:e46=some ⟨c61,r61⟩:=by kernel_rfl
theorem l46:Fl 46 e46:=fl func46 rfl
def e47:=cE f47
theorem e47_eq:e47=some ⟨c62,r62⟩:=by kernel_rfl
theorem l47:Fl 47 e47:=fl func47 rfl
def e52:=cE f52
theorem e52_eq:e52=some ⟨c1052,r1052⟩:=by kernel_rfl
theorem l52:Fl 52 e52:=fl func52 rfl
def e53:=cE f53
theorem e53_eq:e53=some ⟨c1053,r1053⟩:=by kernel_rfl
theorem l53:Fl 53 e53:=fl func53 rfl
def e54:=cE f54
theorem e54_eq:e54=some ⟨c1054,r1054⟩:=by kernel_rfl
theorem l54:Fl 54 e54:=fl func54 rfl
def e61:=cE f61
theorem e61_eq:e61=some ⟨c1061,r1061⟩:=by kernel_rfl
theorem l61:Fl 61 e61:=fl func61 rfl
def e62:=cE f62
theorem e62_eq:e62=some ⟨c1062,r1062⟩:=by kernel_rfl
theorem l62:Fl 62 e62:=fl func62 rfl
def e63:=cE f63
theorem e63_eq:e63=some ⟨c1063,r1063⟩:=by kernel_rfl
theorem l63:Fl 63 e63:=fl func63 rfl
def e64:=cE f64
theorem e64_eq:e64=some ⟨c453,r453⟩:=by kernel_rfl
theorem l64:Fl 64 e64:=fl func64 rfl
def e65:=cE f65
theorem e65_eq:e65=some ⟨c1065,r1065⟩:=by kernel_rfl
theorem l65:Fl 65 e65:=fl func65 rfl
def e66:=cE f66
theorem e66_eq:e66=some ⟨c1066,r1066⟩:=by kernel_rfl
theorem l66:Fl 66 e66:=fl func66 rfl
def e67:=cE f67
theorem e67_eq:e67=some ⟨c1067,r1067⟩:=by kernel_rfl
theorem l67:Fl 67 e67:=fl func67 rfl
def e85:=cE f85
theorem e85_eq:e85=some ⟨c64,r64⟩:=by kernel_rfl
theorem l85:Fl 85 e85:=fl func85 rfl
def e86:=cE f86
theorem e86_eq:e86=some ⟨c99,r99⟩:=by kernel_rfl
theorem l86:Fl 86 e86:=fl func86 rfl
def e87:=cE f87
theorem e87_eq:e87=some ⟨c100,r100⟩:=by kernel_rfl
theorem l87:Fl 87 e87:=fl func87 rfl
def e88:=cE f88
theorem e88_eq:e88=some ⟨c101,r101⟩:=by kernel_rfl
theorem l88:Fl 88 e88:=fl func88 rfl
def e89:=cE f89
theorem e89_eq:e89=some ⟨c102,r102⟩:=by kernel_rfl
theorem l89:Fl 89 e89:=fl func89 rfl
def e90:=cE f90
theorem e90_eq:e90=some ⟨c103,r103⟩:=by kernel_rfl
theorem l90:Fl 90 e90:=fl func90 rfl
def e92:=cE f92
theorem e92_eq:e92=some ⟨c1092,r1092⟩:=by kernel_rfl
theorem l92:Fl 92 e92:=fl func92 rfl
def e93:=cE f93
theorem e93_eq:e93=some ⟨c1093,r1093⟩:=by kernel_rfl
theorem l93:Fl 93 e93:=fl func93 rfl
def e94:=cE f94
theorem e94_eq:e94=some ⟨c34,r34⟩:=by kernel_rfl
theorem l94:Fl 94 e94:=fl func94 rfl
def e95:=cE f95
theorem e95_eq:e95=some ⟨c1095,r1095⟩:=by kernel_rfl
theorem l95:Fl 95 e95:=fl func95 rfl
def e96:=cE f96
theorem e96_eq:e96=some ⟨c1096,r1096⟩:=by kernel_rfl
theorem l96:Fl 96 e96:=fl func96 rfl
def e97:=cE f97
theorem e97_eq:e97=some ⟨c1097,r1097⟩:=by kernel_rfl
theorem l97:Fl 97 e97:=fl func97 rfl
def e98:=cE f98
theorem e98_eq:e98=some ⟨c63,r63⟩:=by kernel_rfl
theorem l98:Fl 98 e98:=fl func98 rfl
def e126:=cE f126
theorem e126_eq:e126=some ⟨c104,r104⟩:=by kernel_rfl
theorem l126:Fl 126 e126:=fl func126 rfl
def e127:=cE f127
theorem e127_eq:e127=some ⟨c105,r105⟩:=by kernel_rfl
theorem l127:Fl 127 e127:=fl func127 rfl
def e128:=cE f128
theorem e128_eq:e128=some ⟨c106,r106⟩:=by kernel_rfl
theorem l128:Fl 128 e128:=fl func128 rfl
def e129:=cE f129
theorem e129_eq:e129=some ⟨c159,r159⟩:=by kernel_rfl
theorem l129:Fl 129 e129:=fl func129 rfl
def e130:=cE f130
theorem e130_eq:e130=some ⟨c160,r160⟩:=by kernel_rfl
theorem l130:Fl 130 e130:=fl func130 rfl
def e131:=cE f131
theorem e131_eq:e131=some ⟨c161,r161⟩:=by kernel_rfl
theorem l131:Fl 131 e131:=fl func131 rfl
def e133:=cE f133
theorem e133_eq:e133=some ⟨c67,r67⟩:=by kernel_rfl
theorem l133:Fl 133 e133:=fl func133 rfl
def e134:=cE f134
theorem e134_eq:e134=some ⟨c30,r30⟩:=by kernel_rfl
theorem l134:Fl 134 e134:=fl func134 rfl
def e135:=cE f135
theorem e135_eq:e135=some ⟨c1135,r1135⟩:=by kernel_rfl
theorem l135:Fl 135 e135:=fl func135 rfl
def e136:=cE f136
theorem e136_eq:e136=some ⟨c1136,r1136⟩:=by kernel_rfl
theorem l136:Fl 136 e136:=fl func136 rfl
def e137:=cE f137
theorem e137_eq:e137=some ⟨c1137,r1137⟩:=by kernel_rfl
theorem l137:Fl 137 e137:=fl func137 rfl
def e138:=cE f138
theorem e138_eq:e138=some ⟨c1138,r1138⟩:=by kernel_rfl
theorem l138:Fl 138 e138:=fl func138 rfl
def e139:=cE f139
theorem e139_eq:e139=some ⟨c1139,r1139⟩:=by kernel_rfl
theorem l139:Fl 139 e139:=fl func139 rfl
def e140:=cE f140
theorem e140_eq:e140=some ⟨c1140,r1140⟩:=by kernel_rfl
theorem l140:Fl 140 e140:=fl func140 rfl
def e141:=cE f141
theorem e141_eq:e141=some ⟨c1141,r1141⟩:=by kernel_rfl
theorem l141:Fl 141 e141:=fl func141 rfl
def e142:=cE f142
theorem e142_eq:e142=some ⟨c1142,r1142⟩:=by kernel_rfl
theorem l142:Fl 142 e142:=fl func142 rfl
def e143:=cE f143
theorem e143_eq:e143=some ⟨c1143,r1143⟩:=by kernel_rfl
theorem l143:Fl 143 e143:=fl func143 rfl
def e144:=cE f144
theorem e144_eq:e144=some ⟨c1144,r1144⟩:=by kernel_rfl
theorem l144:Fl 144 e144:=fl func144 rfl
def e145:=cE f145
theorem e145_eq:e145=some ⟨c68,r68⟩:=by kernel_rfl
theorem l145:Fl 145 e145:=fl func145 rfl
def e146:=cE f146
theorem e146_eq:e146=some ⟨c69,r69⟩:=by kernel_rfl
theorem l146:Fl 146 e146:=fl func146 rfl
def e147:=cE f147
theorem e147_eq:e147=some ⟨c70,r70⟩:=by kernel_rfl
theorem l147:Fl 147 e147:=fl func147 rfl
def e148:=cE f148
theorem e148_eq:e148=some ⟨c1148,r1148⟩:=by kernel_rfl
theorem l148:Fl 148 e148:=fl func148 rfl
def e149:=cE f149
theorem e149_eq:e149=some ⟨c1149,r1149⟩:=by kernel_rfl
theorem l149:Fl 149 e149:=fl func149 rfl
def e150:=cE f150
theorem e150_eq:e150=some ⟨c1150,r1150⟩:=by kernel_rfl
theorem l150:Fl 150 e150:=fl func150 rfl
def e151:=cE f151
theorem e151_eq:e151=some ⟨c1151,r1151⟩:=by kernel_rfl
theorem l151:Fl 151 e151:=fl func151 rfl
def e152:=cE f152
theorem e152_eq:e152=some ⟨c1152,r1152⟩:=by kernel_rfl
theorem l152:Fl 152 e152:=fl func152 rfl
def e153:=cE f153
theorem e153_eq:e153=some ⟨c1153,r1153⟩:=by kernel_rfl
theorem l153:Fl 153 e153:=fl func153 rfl
def e190:=cE f190
theorem e190_eq:e190=some ⟨c163,r163⟩:=by kernel_rfl
theorem l190:Fl 190 e190:=fl func190 rfl
def e191:=cE f191
theorem e191_eq:e191=some ⟨c164,r164⟩:=by kernel_rfl
theorem l191:Fl 191 e191:=fl func191 rfl
def e192:=cE f192
theorem e192_eq:e192=some ⟨c276,r276⟩:=by kernel_rfl
theorem l192:Fl 192 e192:=fl func192 rfl
def e193:=cE f193
theorem e193_eq:e193=some ⟨c277,r277⟩:=by kernel_rfl
theorem l193:Fl 193 e193:=fl func193 rfl
def e194:=cE f194
theorem e194_eq:e194=some ⟨c278,r278⟩:=by kernel_rfl
theorem l194:Fl 194 e194:=fl func194 rfl
def e195:=cE f195
theorem e195_eq:e195=some ⟨c279,r279⟩:=by kernel_rfl
theorem l195:Fl 195 e195:=fl func195 rfl
def e196:=cE f196
theorem e196_eq:e196=some ⟨c280,r280⟩:=by kernel_rfl
theorem l196:Fl 196 e196:=fl func196 rfl
def e198:=cE f198
theorem e198_eq:e198=some ⟨c1198,r1198⟩:=by kernel_rfl
theorem l198:Fl 198 e198:=fl func198 rfl
def e199:=cE f199
theorem e199_eq:e199=some ⟨c1199,r1199⟩:=by kernel_rfl
theorem l199:Fl 199 e199:=fl func199 rfl
def e200:=cE f200
theorem e200_eq:e200=some ⟨c1200,r1200⟩:=by kernel_rfl
theorem l200:Fl 200 e200:=fl func200 rfl
def e201:=cE f201
theorem e201_eq:e201=some ⟨c1201,r1201⟩:=by kernel_rfl
theorem l201:Fl 201 e201:=fl func201 rfl
def e202:=cE f202
theorem e202_eq:e202=some ⟨c1202,r1202⟩:=by kernel_rfl
theorem l202:Fl 202 e202:=fl func202 rfl
def e203:=cE f203
theorem e203_eq:e203=some ⟨c117,r117⟩:=by kernel_rfl
theorem l203:Fl 203 e203:=fl func203 rfl
def e204:=cE f204
theorem e204_eq:e204=some ⟨c1204,r1204⟩:=by kernel_rfl
theorem l204:Fl 204 e204:=fl func204 rfl
def e205:=cE f205
theorem e205_eq:e205=some ⟨c1205,r1205⟩:=by kernel_rfl
theorem l205:Fl 205 e205:=fl func205 rfl
def e206:=cE f206
theorem e206_eq:e206=some ⟨c1206,r1206⟩:=by kernel_rfl
theorem l206:Fl 206 e206:=fl func206 rfl
def e207:=cE f207
theorem e207_eq:e207=some ⟨c1207,r1207⟩:=by kernel_rfl
theorem l207:Fl 207 e207:=fl func207 rfl
def e292:=cE f292
theorem e292_eq:e292=some ⟨c282,r282⟩:=by kernel_rfl
theorem l292:Fl 292 e292:=fl func292 rfl
def e293:=cE f293
theorem e293_eq:e293=some ⟨c283,r283⟩:=by kernel_rfl
theorem l293:Fl 293 e293:=fl func293 rfl
def e294:=cE f294
theorem e294_eq:e294=some ⟨c424,r424⟩:=by kernel_rfl
theorem l294:Fl 294 e294:=fl func294 rfl
def e295:=cE f295
theorem e295_eq:e295=some ⟨c425,r425⟩:=by kernel_rfl
theorem l295:Fl 295 e295:=fl func295 rfl
def e296:=cE f296
theorem e296_eq:e296=some ⟨c426,r426⟩:=by kernel_rfl
theorem l296:Fl 296 e296:=fl func296 rfl
def e297:=cE f297
theorem e297_eq:e297=some ⟨c427,r427⟩:=by kernel_rfl
theorem l297:Fl 297 e297:=fl func297 rfl
def e298:=cE f298
theorem e298_eq:e298=some ⟨c428,r428⟩:=by kernel_rfl
theorem l298:Fl 298 e298:=fl func298 rfl
def e299:=cE f299
theorem e299_eq:e299=some ⟨c429,r429⟩:=by kernel_rfl
theorem l299:Fl 299 e299:=fl func299 rfl
def e300:=cE f300
theorem e300_eq:e300=some ⟨c430,r430⟩:=by kernel_rfl
theorem l300:Fl 300 e300:=fl func300 rfl
def e301:=cE f301
theorem e301_eq:e301=some ⟨c431,r431⟩:=by kernel_rfl
theorem l301:Fl 301 e301:=fl func301 rfl
def e302:=cE f302
theorem e302_eq:e302=some ⟨c158,r158⟩:=by kernel_rfl
theorem l302:Fl 302 e302:=fl func302 rfl
def e303:=cE f303
theorem e303_eq:e303=some ⟨c432,r432⟩:=by kernel_rfl
theorem l303:Fl 303 e303:=fl func303 rfl
def e304:=cE f304
theorem e304_eq:e304=some ⟨c433,r433⟩:=by kernel_rfl
theorem l304:Fl 304 e304:=fl func304 rfl
def e305:=cE f305
theorem e305_eq:e305=some ⟨c397,r397⟩:=by kernel_rfl
theorem l305:Fl 305 e305:=fl func305 rfl
def e307:=cE f307
theorem e307_eq:e307=some ⟨c1307,r1307⟩:=by kernel_rfl
theorem l307:Fl 307 e307:=fl func307 rfl
def e309:=cE f309
theorem e309_eq:e309=some ⟨c1309,r1309⟩:=by kernel_rfl
theorem l309:Fl 309 e309:=fl func309 rfl
def e310:=cE f310
theorem e310_eq:e310=some ⟨c1310,r1310⟩:=by kernel_rfl
theorem l310:Fl 310 e310:=fl func310 rfl
def e311:=cE f311
theorem e311_eq:e311=some ⟨c1311,r1311⟩:=by kernel_rfl
theorem l311:Fl 311 e311:=fl func311 rfl
def e312:=cE f312
theorem e312_eq:e312=some ⟨c1312,r1312⟩:=by kernel_rfl
theorem l312:Fl 312 e312:=fl func312 rfl
def e422:=cE f422
theorem e422_eq:e422=some ⟨c567,r567⟩:=by kernel_rfl
theorem l422:Fl 422 e422:=fl func422 rfl
def e423:=cE f423
theorem e423_eq:e423=some ⟨c568,r568⟩:=by kernel_rfl
theorem l423:Fl 423 e423:=fl func423 rfl
def e424:=cE f424
theorem e424_eq:e424=some ⟨c569,r569⟩:=by kernel_rfl
theorem l424:Fl 424 e424:=fl func424 rfl
def e425:=cE f425
theorem e425_eq:e425=some ⟨c570,r570⟩:=by kernel_rfl
theorem l425:Fl 425 e425:=fl func425 rfl
def e426:=cE f426
theorem e426_eq:e426=some ⟨c571,r571⟩:=by kernel_rfl
theorem l426:Fl 426 e426:=fl func426 rfl
def e427:=cE f427
theorem e427_eq:e427=some ⟨c543,r543⟩:=by kernel_rfl
theorem l427:Fl 427 e427:=fl func427 rfl
def e518:=cE f518
theorem e518_eq:e518=some ⟨c683,r683⟩:=by kernel_rfl
theorem l518:Fl 518 e518:=fl func518 rfl
def e520:=cE f520
theorem e520_eq:e520=some ⟨c685,r685⟩:=by kernel_rfl
theorem l520:Fl 520 e520:=fl func520 rfl
def e580:=cE f580
theorem e580_eq:e580=some ⟨c761,r761⟩:=by kernel_rfl
theorem l580:Fl 580 e580:=fl func580 rfl
theorem l6:FnOK Tryz.prog Xe (K.of 6) (.prim g6):=FnOK.prim rfl g6_ok
def fnTL:T FnE:=(.n (.n (.n (.n (.n (.n (.n (.n .l (.fn e127) .l) (.fn e63) (.n .l (.fn e191) .l)) .no (.n .l (.fn e95) .l)) .no (.n (.n (.n .l (.fn e143) .l) .no (.n .l (.fn e207) .l)) (.fn e47) (.n (.n (.n .l (.fn e303) .l) .no .l) .no .l))) (.fn e7) (.n (.n (.n (.n .l (.fn e135) .l) .no (.n .l (.fn e199) .l)) .no (.n (.n (.n .l (.fn e295) .l) .no (.n .l (.fn e423) .l)) .no .l)) .no (.n (.n (.n .l (.fn e151) .l) (.fn e87) .l) .no (.n (.n (.n .l (.fn e311) .l) .no .l) .no .l)))) .no (.n (.n (.n (.n (.n .l (.fn e131) .l) (.fn e67) (.n .l (.fn e195) .l)) .no .l) .no (.n (.n (.n .l (.fn e147) .l) .no .l) .no (.n (.n (.n .l (.fn e307) .l) .no .l) .no .l))) .no (.n (.n (.n (.n .l (.fn e139) .l) .no (.n .l (.fn e203) .l)) .no (.n (.n (.n .l (.fn e299) .l) .no (.n .l (.fn e427) .l)) .no .l)) (.fn e27) .l))) .no (.n (.n (.n (.n (.n (.n .l (.fn e129) .l) (.fn e65) (.n .l (.fn e193) .l)) .no (.n .l (.fn e97) .l)) .no (.n (.n (.n .l (.fn e145) .l) .no .l) .no (.n (.n (.n .l (.fn e305) .l) .no .l) .no .l))) .no (.n (.n (.n (.n .l (.fn e137) .l) .no (.n .l (.fn e201) .l)) .no (.n (.n (.n .l (.fn e297) .l) .no (.n .l (.fn e425) .l)) .no .l)) (.fn e25) (.n (.n (.n .l (.fn e153) .l) (.fn e89) .l) .no .l))) (.fn e5) (.n (.n (.n (.n (.n .l (.fn e133) .l) .no .l) .no (.n (.n (.n .l (.fn e293) .l) .no .l) .no .l)) .no (.n (.n (.n .l (.fn e149) .l) (.fn e85) .l) (.fn e53) (.n (.n (.n .l (.fn e309) .l) .no .l) .no .l))) .no (.n (.n (.n (.n .l (.fn e141) .l) .no (.n .l (.fn e205) .l)) (.fn e45) (.n (.n (.n .l (.fn e301) .l) .no .l) .no .l)) (.fn e29) (.n (.n .l (.fn e93) .l) (.fn e61) .l))))) .no (.n (.n (.n (.n (.n (.n (.n .l (.fn e128) .l) (.fn e64) (.n .l (.fn e192) .l)) .no (.n .l (.fn e96) .l)) (.fn e16) (.n (.n (.n .l (.fn e144) .l) .no .l) .no (.n (.n (.n .l (.fn e304) .l) .no .l) .no .l))) (.fn e8) (.n (.n (.n (.n (.n (.n .l (.fn e520) .l) .no .l) (.fn e136) .l) .no (.n .l (.fn e200) .l)) .no (.n (.n (.n .l (.fn e296) .l) .no (.n .l (.fn e424) .l)) .no .l)) (.fn e24) (.n (.n (.n .l (.fn e152) .l) (.fn e88) .l) .no (.n (.n (.n .l (.fn e312) .l) .no .l) .no .l)))) (.fn e4) (.n (.n (.n (.n .l .no (.n (.n (.n .l (.fn e580) .l) .no .l) (.fn e196) .l)) .no (.n (.n (.n .l (.fn e292) .l) .no .l) .no .l)) .no (.n (.n (.n .l (.fn e148) .l) .no .l) (.fn e52) .l)) .no (.n (.n (.n (.n .l (.fn e140) .l) .no (.n .l (.fn e204) .l)) .no (.n (.n (.n .l (.fn e300) .l) .no .l) .no .l)) (.fn e28) (.n (.n .l (.fn e92) .l) .no .l)))) .no (.n (.n (.n (.n (.n (.n .l (.fn e130) .l) (.fn e66) (.n .l (.fn e194) .l)) .no (.n .l (.fn e98) .l)) .no (.n (.n (.n .l (.fn e146) .l) .no .l) .no .l)) .no (.n (.n (.n (.n .l (.fn e138) .l) .no (.n .l (.fn e202) .l)) .no (.n (.n (.n .l (.fn e298) .l) .no (.n .l (.fn e426) .l)) .no .l)) (.fn e26) (.n (.n .l (.fn e90) .l) .no .l))) (.prim g6) (.n (.n (.n (.n (.n (.n (.n .l (.fn e518) .l) .no .l) (.fn e134) .l) .no (.n .l (.fn e198) .l)) .no (.n (.n (.n .l (.fn e294) .l) .no (.n .l (.fn e422) .l)) .no .l)) .no (.n (.n (.n .l (.fn e150) .l) (.fn e86) .l) (.fn e54) (.n (.n (.n .l (.fn e310) .l) .no .l) .no .l))) .no (.n (.n (.n (.n .l (.fn e142) .l) .no (.n .l (.fn e206) .l)) (.fn e46) (.n (.n (.n .l (.fn e302) .l) .no .l) .no .l)) (.fn e30) (.n (.n .l (.fn e94) .l) (.fn e62) (.n (.n .l (.fn e190) .l) (.fn e126) .l)))))))
def EzL:Env:=⟨fnTL⟩
theorem fnTL_ok:∀k,FnOK Tryz.prog Xe k (T.get .no k fnTL):=(T.all_n (T.all_n (T.all_n (T.all_n (T.all_n (T.all_n (T.all_n (T.all_n nm l127 nm) l63 (T.all_n nm l191 nm)) ny (T.all_n nm l95 nm)) ny (T.all_n (T.all_n (T.all_n nm l143 nm) ny (T.all_n nm l207 nm)) l47 (T.all_n (T.all_n (T.all_n nm l303 nm) ny nm) ny nm))) l7 (T.all_n (T.all_n (T.all_n (T.all_n nm l135 nm) ny (T.all_n nm l199 nm)) ny (T.all_n (T.all_n (T.all_n nm l295 nm) ny (T.all_n nm l423 nm)) ny nm)) ny (T.all_n (T.all_n (T.all_n nm l151 nm) l87 nm) ny (T.all_n (T.all_n (T.all_n nm l311 nm) ny nm) ny nm)))) ny (T.all_n (T.all_n (T.all_n (T.all_n (T.all_n nm l131 nm) l67 (T.all_n nm l195 nm)) ny nm) ny (T.all_n (T.all_n (T.all_n nm l147 nm) ny nm) ny (T.all_n (T.all_n (T.all_n nm l307 nm) ny nm) ny nm))) ny (T.all_n (T.all_n (T.all_n (T.all_n nm l139 nm) ny (T.all_n nm l203 nm)) ny (T.all_n (T.all_n (T.all_n nm l299 nm) ny (T.all_n nm l427 nm)) ny nm)) l27 nm))) ny (T.all_n (T.all_n (T.all_n (T.all_n (T.all_n (T.all_n nm l129 nm) l65 (T.all_n nm l193 nm)) ny (T.all_n nm l97 nm)) ny (T.all_n (T.all_n (T.all_n nm l145 nm) ny nm) ny (T.all_n (T.all_n (T.all_n nm l305 nm) ny nm) ny nm))) ny (T.all_n (T.all_n (T.all_n (T.all_n nm l137 nm) ny (T.all_n nm l201 nm)) ny (T.all_n (T.all_n (T.all_n nm l297 nm) ny (T.all_n nm l425 nm)) ny nm)) l25 (T.all_n (T.all_n (T.all_n nm l153 nm) l89 nm) ny nm))) l5 (T.all_n (T.all_n (T.all_n (T.all_n (T.all_n nm l133 nm) ny nm) ny (T.all_n (T.all_n (T.all_n nm l293 nm) ny nm) ny nm)) ny (T.all_n (T.all_n (T.all_n nm l149 nm) l85 nm) l53 (T.all_n (T.all_n (T.all_n nm l309 nm) ny nm) ny nm))) ny (T.all_n (T.all_n (T.all_n (T.all_n nm l141 nm) ny (T.all_n nm l205 nm)) l45 (T.all_n (T.all_n (T.all_n nm l301 nm) ny nm) ny nm)) l29 (T.all_n (T.all_n nm l93 nm) l61 nm))))) ny (T.all_n (T.all_n (T.all_n (T.all_n (T.all_n (T.all_n (T.all_n nm l128 nm) l64 (T.all_n nm l192 nm)) ny (T.all_n nm l96 nm)) l16 (T.all_n (T.all_n (T.all_n nm l144 nm) ny nm) ny (T.all_n (T.all_n (T.all_n nm l304 nm) ny nm) ny nm))) l8 (T.all_n (T.all_n (T.all_n (T.all_n (T.all_n (T.all_n nm l520 nm) ny nm) l136 nm) ny (T.all_n nm l200 nm)) ny (T.all_n (T.all_n (T.all_n nm l296 nm) ny (T.all_n nm l424 nm)) ny nm)) l24 (T.all_n (T.all_n (T.all_n nm l152 nm) l88 nm) ny (T.all_n (T.all_n (T.all_n nm l312 nm) ny nm) ny nm)))) l4 (T.all_n (T.all_n (T.all_n (T.all_n nm ny (T.all_n (T.all_n (T.all_n nm l580 nm) ny nm) l196 nm)) ny (T.all_n (T.all_n (T.all_n nm l292 nm) ny nm) ny nm)) ny (T.all_n (T.all_n (T.all_n nm l148 nm) ny nm) l52 nm)) ny (T.all_n (T.all_n (T.all_n (T.all_n nm l140 nm) ny (T.all_n nm l204 nm)) ny (T.all_n (T.all_n (T.all_n nm l300 nm) ny nm) ny nm)) l28 (T.all_n (T.all_n nm l92 nm) ny nm)))) ny (T.all_n (T.all_n (T.all_n (T.all_n (T.all_n (T.all_n nm l130 nm) l66 (T.all_n nm l194 nm)) ny (T.all_n nm l98 nm)) ny (T.all_n (T.all_n (T.all_n nm l146 nm) ny nm) ny nm)) ny (T.all_n (T.all_n (T.all_n (T.all_n nm l138 nm) ny (T.all_n nm l202 nm)) ny (T.all_n (T.all_n (T.all_n nm l298 nm) ny (T.all_n nm l426 nm)) ny nm)) l26 (T.all_n (T.all_n nm l90 nm) ny nm))) l6 (T.all_n (T.all_n (T.all_n (T.all_n (T.all_n (T.all_n (T.all_n nm l518 nm) ny nm) l134 nm) ny (T.all_n nm l198 nm)) ny (T.all_n (T.all_n (T.all_n nm l294 nm) ny (T.all_n nm l422 nm)) ny nm)) ny (T.all_n (T.all_n (T.all_n nm l150 nm) l86 nm) l54 (T.all_n (T.all_n (T.all_n nm l310 nm) ny nm) ny nm))) ny (T.all_n (T.all_n (T.all_n (T.all_n nm l142 nm) ny (T.all_n nm l206 nm)) l46 (T.all_n (T.all_n (T.all_n nm l302 nm) ny nm) ny nm)) l30 (T.all_n (T.all_n nm l94 nm) l62 (T.all_n (T.all_n nm l190 nm) l126 nm)))))))
theorem EzL_ok:Dk Tryz.prog Xe EzL:=Dk.of fnTL_ok
theorem fns:Fns EzL where
  f31:=congrArg FnE.fn e45_eq
  f64:=congrArg FnE.fn e85_eq
  f104:=congrArg FnE.fn e126_eq
  f105:=congrArg FnE.fn e127_eq
  f163:=congrArg FnE.fn e190_eq
  f164:=congrArg FnE.fn e191_eq
  f282:=congrArg FnE.fn e292_eq
  f283:=congrArg FnE.fn e293_eq
  f106:=congrArg FnE.fn e128_eq
  f29:=congrArg FnE.fn e8_eq
  f61:=congrArg FnE.fn e46_eq
  f62:=congrArg FnE.fn e47_eq
  f30:=congrArg FnE.fn e134_eq
  f63:=congrArg FnE.fn e98_eq
  f67:=congrArg FnE.fn e133_eq
  f68:=congrArg FnE.fn e145_eq
  f69:=congrArg FnE.fn e146_eq
  f117:=congrArg FnE.fn e203_eq
  f70:=congrArg FnE.fn e147_eq
  f34:=congrArg FnE.fn e94_eq
  f99:=congrArg FnE.fn e86_eq
  f159:=congrArg FnE.fn e129_eq
  f100:=congrArg FnE.fn e87_eq
  f101:=congrArg FnE.fn e88_eq
  f160:=congrArg FnE.fn e130_eq
  f276:=congrArg FnE.fn e192_eq
  f424:=congrArg FnE.fn e294_eq
  f277:=congrArg FnE.fn e193_eq
  f425:=congrArg FnE.fn e295_eq
  f426:=congrArg FnE.fn e296_eq
  f278:=congrArg FnE.fn e194_eq
  f427:=congrArg FnE.fn e297_eq
  f567:=congrArg FnE.fn e422_eq
  f313:=congrArg FnE.fn e26_eq
  f453:=congrArg FnE.fn e64_eq
  f428:=congrArg FnE.fn e298_eq
  f429:=congrArg FnE.fn e299_eq
  f430:=congrArg FnE.fn e300_eq
  f568:=congrArg FnE.fn e423_eq
  f569:=congrArg FnE.fn e424_eq
  f102:=congrArg FnE.fn e89_eq
  f103:=congrArg FnE.fn e90_eq
  f161:=congrArg FnE.fn e131_eq
  f158:=congrArg FnE.fn e302_eq
  f279:=congrArg FnE.fn e195_eq
  f397:=congrArg FnE.fn e305_eq
  f543:=congrArg FnE.fn e427_eq
  f280:=congrArg FnE.fn e196_eq
  f431:=congrArg FnE.fn e301_eq
  f432:=congrArg FnE.fn e303_eq
  f433:=congrArg FnE.fn e304_eq
  f570:=congrArg FnE.fn e425_eq
  f571:=congrArg FnE.fn e426_eq
  f685:=congrArg FnE.fn e520_eq
  f761:=congrArg FnE.fn e580_eq
  f683:=congrArg FnE.fn e518_eq
theorem hns:Hns EzL where
  f1005:=congrArg FnE.fn e5_eq
  f1007:=congrArg FnE.fn e7_eq
  f1024:=congrArg FnE.fn e24_eq
  f1029:=congrArg FnE.fn e29_eq
  f1030:=congrArg FnE.fn e30_eq
  f1066:=congrArg FnE.fn e66_eq
  f1067:=congrArg FnE.fn e67_eq
  f1061:=congrArg FnE.fn e61_eq
  f1062:=congrArg FnE.fn e62_eq
  f1063:=congrArg FnE.fn e63_eq
  f1097:=congrArg FnE.fn e97_eq
  f1095:=congrArg FnE.fn e95_eq
  f1096:=congrArg FnE.fn e96_eq
  f1148:=congrArg FnE.fn e148_eq
  f1149:=congrArg FnE.fn e149_eq
  f1150:=congrArg FnE.fn e150_eq
  f1151:=congrArg FnE.fn e151_eq
  f1152:=congrArg FnE.fn e152_eq
  f1153:=congrArg FnE.fn e153_eq
  f1204:=congrArg FnE.fn e204_eq
  f1205:=congrArg FnE.fn e205_eq
  f1206:=congrArg FnE.fn e206_eq
  f1207:=congrArg FnE.fn e207_eq
  f1309:=congrArg FnE.fn e309_eq
  f1310:=congrArg FnE.fn e310_eq
  f1311:=congrArg FnE.fn e311_eq
  f1312:=congrArg FnE.fn e312_eq
theorem sns:Sns EzL where
  f1004:=congrArg FnE.fn e4_eq
  f1016:=congrArg FnE.fn e16_eq
  f1025:=congrArg FnE.fn e25_eq
  f1027:=congrArg FnE.fn e27_eq
  f1028:=congrArg FnE.fn e28_eq
  f1052:=congrArg FnE.fn e52_eq
  f1053:=congrArg FnE.fn e53_eq
  f1054:=congrArg FnE.fn e54_eq
  f1065:=congrArg FnE.fn e65_eq
  f1093:=congrArg FnE.fn e93_eq
  f1092:=congrArg FnE.fn e92_eq
  f1143:=congrArg FnE.fn e143_eq
  f1144:=congrArg FnE.fn e144_eq
  f1135:=congrArg FnE.fn e135_eq
  f1136:=congrArg FnE.fn e136_eq
  f1137:=congrArg FnE.fn e137_eq
  f1138:=congrArg FnE.fn e138_eq
  f1139:=congrArg FnE.fn e139_eq
  f1140:=congrArg FnE.fn e140_eq
  f1141:=congrArg FnE.fn e141_eq
  f1142:=congrArg FnE.fn e142_eq
  f1198:=congrArg FnE.fn e198_eq
  f1199:=congrArg FnE.fn e199_eq
  f1200:=congrArg FnE.fn e200_eq
  f1201:=congrArg FnE.fn e201_eq
  f1202:=congrArg FnE.fn e202_eq
  f1307:=congrArg FnE.fn e307_eq
theorem saneOK:SaneOK EzL:=fun {L n h kc}=>call_prim (f:=6) (g:=g6) rfl
end
end Go.AJ
namespace Go.AJ
open Go Go.Proofs
set_option maxRecDepth 100000
theorem gty:GTy Tryz.prog 3 4 9 60 57 23 58 22 45 24 26 where
  i:=Tryz.underlying3
  b:=Tryz.underlying4
  s:=Tryz.underlying9
  v:=⟨_,Tryz.underlying60,by kernel_rfl⟩
  n:=⟨_,Tryz.underlying57,by kernel_rfl⟩
  is:=Tryz.underlying23
  vs:=Tryz.underlying58
  ss:=Tryz.underlying22
  e:=⟨_,Tryz.underlying45,by kernel_rfl⟩
  es:=Tryz.underlying24
  g:=⟨_,Tryz.underlying26,by kernel_rfl⟩
  cI:=by kernel_rfl
  cB:=by kernel_rfl
  cS:=by kernel_rfl
  cV:=by kernel_rfl
  cIn:=by kernel_rfl
  cIs:=by kernel_rfl
  cVs:=by kernel_rfl
  cSs:=by kernel_rfl
  cE:=by kernel_rfl
  cEs:=by kernel_rfl
  cG:=by kernel_rfl
theorem slR_one {b:Bool} {c:Nat} {l:List V} {n:Nat}:(slR b c l n).one=true:=by unfold slR;split<;>rfl
theorem Gr.one (g:Gr):∀v∈g.cells,v.one=true:=by intro v hv;simp only[Gr.cells,List.mem_cons,List.not_mem_nil,or_false] at hv;rcases hv with rfl|rfl|rfl<;>exact slR_one
theorem reach_calls {H:Type} {enc:TypeId×Value→H} {W:World} {sp:Nat→Bool} {held:Bool} {f1 f2 f3:Nat} {v1 v2 v3:Value} {d1 d2 d3:DataW H} {p1 p2 p3:List MemPlace} (h1:DataW.trod enc Tryz.prog W 0 sp held f1 26 v1.cells.toList=some (d1,p1)) (h2:DataW.trod enc Tryz.prog W 0 sp held f2 23 [v2]=some (d2,p2)) (h3:DataW.trod enc Tryz.prog W 0 sp held f3 23 [v3]=some (d3,p3)) (hb:bulkD d1≤20000000) (hb2:bulkD d2≤20000000) (hb3:bulkD d3≤20000000):
    Calls Tryz.prog 4 #[v1,v2,v3] W fun r w'=>r=.returned (.bool true)∧W.heap.size≤w'.heap.size∧(∀i,i<W.heap.size→w'.heap[i]? =W.heap[i]?)∧w'.os=W.os∧w'.tape=W.tape∧w'.output=W.output:=by
  letI:BE:=⟨W⟩
  obtain ⟨g,hg,hgb,hsc⟩:=door_graph (ρ:=fun _=>none) gty (show DataW.trod enc Tryz.prog BE.w0 0 sp held f1 26 v1.cells.toList=some (d1,p1) from h1);have h3l:v1.cells.toList.length=3:=by rw[←hg.length];exact g.cells_length
  obtain ⟨a,rfl⟩:∃a,v1=.agg a:=by
    cases v1 with
    |agg a=>exact ⟨a,rfl⟩
    |_=>cases h3l
  obtain ⟨f2,rfl⟩:∃m,f2=m+1:=by
    cases f2 with
    |zero=>cases h2
    |succ m=>exact ⟨m,rfl⟩
  obtain ⟨f3,rfl⟩:∃m,f3=m+1:=by
    cases f3 with
    |zero=>cases h3
    |succ m=>exact ⟨m,rfl⟩
  obtain ⟨fb,fc,f,hf,hfl⟩:=FG (ρ:=fun _=>none) gty (show DataW.trod enc Tryz.prog BE.w0 0 sp held (f2+1) 23 [v2]=some (d2,p2) from h2);obtain ⟨sb,sc,s,hs,hsl⟩:=FG (ρ:=fun _=>none) gty (show DataW.trod enc Tryz.prog BE.w0 0 sp held (f3+1) 23 [v3]=some (d3,p3) from h3);have hgb2:g.states.length+D7 g.states+g.init.length+2*g.edges.length≤20000000:=Nat.le_trans hgb hb;have hrun:call EzL (20000000+8) (70000000+8) (.fn 4) [.agg g.cells,slR fb fc (AL f) f.length,slR sb sc (AL s) s.length] none (.mk .l .h) (retK fun v _=>isT v)=true:=
    law4 fns hns sns saneOK (by decide) (by decide) (D:=20000000) (by omega) (by decide) (fun s hs=>by have:=Ge s.l;have:=Ev hs;omega) hsc (by omega) (by omega) (by omega) (by omega) (fun _ _=>rfl)
  have hv:VR (fun _=>none) (.agg g.cells) (.agg a):=.agg _ _ hg g.one;intro cs;obtain ⟨e,w',fr,⟨v,h',ρ',v',hg,rfl,hv,H,E⟩,hc⟩:=call_calls Xe_ok D5 EzL_ok _ _ hrun HR.empty (.cons _ _ _ _ hv (.cons _ _ _ _ hf (.cons _ _ _ _ hs .nil))) cs;refine ⟨_,w',fr,⟨?_,E.size,H.bas,E.os,E.tape,E.out⟩,hc⟩;cases hv<;>simp_all [isT]
end Go.AJ
