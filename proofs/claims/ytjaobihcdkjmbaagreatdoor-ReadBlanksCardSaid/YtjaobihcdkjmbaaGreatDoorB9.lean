/- The law ReadBlanks answers true for every argument; a part of its proof. -/
import Derived.Test.YtjaobihcdkjmbaaGreatDoorBa
import Derived.Test.YtjaobihcdkjmbaaGreatDoorBb
import Derived.Test.YtjaobihcdkjmbaaGreatDoorB0
import Derived.Test.YtjaobihcdkjmbaaGreatDoorB7
set_option linter.unusedVariables false
set_option linter.unusedSimpArgs false
namespace Go.Proofs.YtjaobihcdkjmbaaGreatDoor.PReadTokens
end Go.Proofs.YtjaobihcdkjmbaaGreatDoor.PReadTokens
namespace Go.Proofs.YtjaobihcdkjmbaaGreatDoorW.PrintWords
end Go.Proofs.YtjaobihcdkjmbaaGreatDoorW.PrintWords
set_option maxRecDepth 100000
set_option maxHeartbeats 4000000
section
namespace Go.Proofs
open Go.Shelf
def Tryz.lays156_ren:Go.Shelf.Ren:=⟨fun | 156=>137 | 165=>162 | 166=>163 | 169=>164 | 240=>181 | 241=>182 | 276=>218 | 277=>219 | n=>n,fun | 31=>34 | 9=>9 | 3=>3 | 4=>4 | 0=>0 | 20=>20 | 72=>227 | 76=>228 | 70=>225 | 37=>84 | 75=>134 | 127=>246 | 164=>180 | 5=>5 | 80=>151 | n=>n,fun | n=>n⟩
theorem Tryz.lays156:Go.Proofs.Lays.n156 Tryz.prog Tryz.lays156_ren:={
 mixed:=kCU
 f156:=Tryz.func137.trans (congrArg some kCU)
 f165:=Tryz.func162.trans (congrArg some kCU)
 f166:=Tryz.func163.trans (congrArg some kCU)
 f169:=Tryz.func164.trans (congrArg some kCU)
 f240:=Tryz.func181.trans (congrArg some kCU)
 f241:=Tryz.func182.trans (congrArg some kCU)
 f276:=Tryz.func218.trans (congrArg some kCU)
 f277:=Tryz.func219.trans (congrArg some kCU)
 t0:=Tryz.underlying0
 a0:=Tryz.isAgg0
 z0:=Tryz.sizeOf0
 v0:=Tryz.zeroValue0
 t3:=Tryz.underlying3
 a3:=Tryz.isAgg3
 z3:=Tryz.sizeOf3
 v3:=Tryz.zeroValue3
 t4:=Tryz.underlying4
 a4:=Tryz.isAgg4
 z4:=Tryz.sizeOf4
 v4:=Tryz.zeroValue4
 t9:=Tryz.underlying9
 a9:=Tryz.isAgg9
 z9:=Tryz.sizeOf9
 v9:=Tryz.zeroValue9
 t20:=Tryz.underlying20
 a20:=Tryz.isAgg20
 z20:=Tryz.sizeOf20
 v20:=Tryz.zeroValue20
 t31:=Tryz.underlying34
 a31:=Tryz.isAgg34
 z31:=Tryz.sizeOf34
 v31:=Tryz.zeroValue34
 t37:=Tryz.underlying84
 a37:=Tryz.isAgg84
 z37:=Tryz.sizeOf84
 v37:=Tryz.zeroValue84
 t70:=Tryz.underlying225
 a70:=Tryz.isAgg225
 z70:=Tryz.sizeOf225
 v70:=Tryz.zeroValue225
 t72:=Tryz.underlying227
 a72:=Tryz.isAgg227
 z72:=Tryz.sizeOf227
 v72:=Tryz.zeroValue227
 t75:=Tryz.underlying134
 a75:=Tryz.isAgg134
 z75:=Tryz.sizeOf134
 v75:=Tryz.zeroValue134
 t76:=Tryz.underlying228
 a76:=Tryz.isAgg228
 z76:=Tryz.sizeOf228
 v76:=Tryz.zeroValue228
 t127:=Tryz.underlying246
 a127:=Tryz.isAgg246
 z127:=Tryz.sizeOf246
 v127:=Tryz.zeroValue246
 t164:=Tryz.underlying180
 a164:=Tryz.isAgg180
 z164:=Tryz.sizeOf180
 v164:=Tryz.zeroValue180 }
theorem Tryz.Builder_Extra_156:Builder.Extra Tryz.prog Tryz.lays156_ren:={
 sizeBuilder:=kCU
 liesBuilder:=kCU
 t5:=Tryz.underlying5
 a5:=Tryz.isAgg5
 z5:=Tryz.sizeOf5
 v5:=Tryz.zeroValue5
 infoByte:=kCU
 cellsByte:=kCU
 sizeByte:=kCU
 neB5:=by decide }
open Go.RowKit in
theorem Tryz.strings_Join (bk o c:Nat) (xs:List ByteArray) (sep:ByteArray) (w:World) (hcells:∀(j:Nat) x,xs[j]?=some x→w.cell? ⟨bk,o+j,none⟩=some (.string x)) (hbk:bk<w.heap.size) (hN:xs.length≤140737488355328) (hcap:xs.length≤c) (hlen:(Lib.join (xs.map (·.data.toList)) sep.data.toList).length≤140737488355328) :
  Calls Tryz.prog 137 #[.slice (some ⟨bk,o,none⟩) xs.length c,.string sep] w fun e w'=>e=.returned (.string ⟨(Lib.join (xs.map (·.data.toList)) sep.data.toList).toArray⟩)∧Below w.heap.size w w':=Any.strings_Join Tryz.lays156 Tryz.Builder_Extra_156 bk o c xs sep w hcells hbk hN hcap hlen
def Tryz.laysM171_ren:Go.Shelf.Ren:=⟨fun | 171=>100 | 243=>138 | 246=>165 | 283=>183 | 284=>184 | 285=>185 | 286=>186 | 129=>211 | 317=>220 | 318=>221 | 319=>222 | 320=>223 | 337=>253 | 338=>254 | n=>n,fun | 3=>3 | 9=>9 | 2=>2 | 4=>4 | 171=>247 | 0=>0 | 53=>75 | 37=>84 | 5=>5 | 173=>250 | 212=>275 | 51=>270 | 20=>20 | 213=>276 | 46=>157 | 232=>325 | 233=>326 | n=>n,fun | 17=>2 | 18=>3 | 19=>4 | n=>n⟩
theorem Tryz.laysM171:Go.Proofs.LaysM.n171 Tryz.prog Tryz.laysM171_ren:={
 mixed:=kCU
 f129:=Tryz.func211.trans (congrArg some kCU)
 f171:=Tryz.func100.trans (congrArg some kCU)
 f243:=Tryz.func138.trans (congrArg some kCU)
 f246:=Tryz.func165.trans (congrArg some kCU)
 f283:=Tryz.func183.trans (congrArg some kCU)
 f284:=Tryz.func184.trans (congrArg some kCU)
 f285:=Tryz.func185.trans (congrArg some kCU)
 f286:=Tryz.func186.trans (congrArg some kCU)
 f317:=Tryz.func220.trans (congrArg some kCU)
 f318:=Tryz.func221.trans (congrArg some kCU)
 f319:=Tryz.func222.trans (congrArg some kCU)
 f320:=Tryz.func223.trans (congrArg some kCU)
 f337:=Tryz.func253.trans (congrArg some kCU)
 f338:=Tryz.func254.trans (congrArg some kCU)
 t0:=Tryz.underlying0
 a0:=Tryz.isAgg0
 z0:=Tryz.sizeOf0
 v0:=Tryz.zeroValue0
 t2:=Tryz.underlying2
 a2:=Tryz.isAgg2
 z2:=Tryz.sizeOf2
 v2:=Tryz.zeroValue2
 t3:=Tryz.underlying3
 a3:=Tryz.isAgg3
 z3:=Tryz.sizeOf3
 v3:=Tryz.zeroValue3
 t4:=Tryz.underlying4
 a4:=Tryz.isAgg4
 z4:=Tryz.sizeOf4
 v4:=Tryz.zeroValue4
 t5:=Tryz.underlying5
 a5:=Tryz.isAgg5
 z5:=Tryz.sizeOf5
 v5:=Tryz.zeroValue5
 t9:=Tryz.underlying9
 a9:=Tryz.isAgg9
 z9:=Tryz.sizeOf9
 v9:=Tryz.zeroValue9
 t20:=Tryz.underlying20
 a20:=Tryz.isAgg20
 z20:=Tryz.sizeOf20
 v20:=Tryz.zeroValue20
 t37:=Tryz.underlying84
 a37:=Tryz.isAgg84
 z37:=Tryz.sizeOf84
 v37:=Tryz.zeroValue84
 t46:=Tryz.underlying157
 a46:=Tryz.isAgg157
 z46:=Tryz.sizeOf157
 v46:=Tryz.zeroValue157
 t51:=Tryz.underlying270
 a51:=Tryz.isAgg270
 z51:=Tryz.sizeOf270
 v51:=Tryz.zeroValue270
 t53:=Tryz.underlying75
 a53:=Tryz.isAgg75
 z53:=Tryz.sizeOf75
 v53:=Tryz.zeroValue75
 t171:=Tryz.underlying247
 a171:=Tryz.isAgg247
 z171:=Tryz.sizeOf247
 v171:=Tryz.zeroValue247
 t173:=Tryz.underlying250
 a173:=Tryz.isAgg250
 z173:=Tryz.sizeOf250
 v173:=Tryz.zeroValue250
 t212:=Tryz.underlying275
 a212:=Tryz.isAgg275
 z212:=Tryz.sizeOf275
 v212:=Tryz.zeroValue275
 t213:=Tryz.underlying276
 a213:=Tryz.isAgg276
 z213:=Tryz.sizeOf276
 t232:=Tryz.underlying325
 a232:=Tryz.isAgg325
 z232:=Tryz.sizeOf325
 v232:=Tryz.zeroValue325
 t233:=Tryz.underlying326
 a233:=Tryz.isAgg326
 z233:=Tryz.sizeOf326
 v233:=Tryz.zeroValue326
 g17:=kCU
 g18:=kCU
 g19:=kCU
 i0:=kCU
 i2:=kCU
 i3:=kCU
 i4:=kCU
 i5:=kCU
 i9:=kCU
 i20:=kCU
 i37:=kCU
 i46:=kCU
 i51:=kCU
 i53:=kCU
 i171:=kCU
 i173:=kCU
 i212:=kCU
 i232:=kCU
 i233:=kCU
 m17:=kCU
 m18:=kCU
 m19:=by kernel_rfl }
open Go.RowKit Go.Sort Go.Lib in
theorem Tryz.strconv_Itoa (n : Int) (h0 : -9223372036854775808 ≤ n) (h1 : n ≤ 9223372036854775807) (w : World) (htab : Lib.TabIs Tryz.prog w "internal/strconv.uint64pow10" .u64 Lib.pow10Tab) :
  Calls Tryz.prog 100 #[.int .i64 n] w fun e w'=>e=.returned (.string ⟨(Lib.itoa n).toArray⟩)∧∃k os,w'=grow (w.drewN k) os:=Any.strconv_Itoa Tryz.laysM171 n h0 h1 w htab
def Tryz.laysC172_ren:Go.Shelf.Ren:=⟨fun | 172=>216 | 244=>250 | 245=>251 | 247=>273 | 279=>274 | 280=>275 | 281=>276 | 282=>277 | 287=>285 | 316=>286 | 171=>100 | 205=>287 | 321=>288 | 322=>289 | 243=>138 | 246=>165 | 283=>183 | 284=>184 | 285=>185 | 286=>186 | 129=>211 | 317=>220 | 318=>221 | 319=>222 | 320=>223 | 337=>253 | 338=>254 | n=>n,fun | 9=>9 | 3=>3 | 75=>134 | 76=>228 | 4=>4 | 5=>5 | 167=>318 | 37=>84 | 0=>0 | 85=>319 | 2=>2 | 168=>321 | 53=>75 | 175=>331 | 46=>157 | 210=>334 | 127=>246 | 145=>339 | 143=>337 | 21=>21 | 171=>247 | 173=>250 | 212=>275 | 51=>270 | 20=>20 | 213=>276 | 232=>325 | 233=>326 | 80=>151 | n=>n,fun | 15=>5 | 16=>6 | 17=>2 | 18=>3 | 19=>4 | n=>n⟩
theorem Tryz.laysC172:Go.Proofs.LaysC.n172 Tryz.prog Tryz.laysC172_ren:={
 mixed:=kCU
 f129:=Tryz.func211.trans (congrArg some kCU)
 f171:=Tryz.func100.trans (congrArg some kCU)
 f172:=Tryz.func216.trans (congrArg some kCU)
 f205:=Tryz.func287.trans (congrArg some kCU)
 f243:=Tryz.func138.trans (congrArg some kCU)
 f244:=Tryz.func250.trans (congrArg some kCU)
 f245:=Tryz.func251.trans (congrArg some kCU)
 f246:=Tryz.func165.trans (congrArg some kCU)
 f247:=Tryz.func273.trans (congrArg some kCU)
 f279:=Tryz.func274.trans (congrArg some kCU)
 f280:=Tryz.func275.trans (congrArg some kCU)
 f281:=Tryz.func276.trans (congrArg some kCU)
 f282:=Tryz.func277.trans (congrArg some kCU)
 f283:=Tryz.func183.trans (congrArg some kCU)
 f284:=Tryz.func184.trans (congrArg some kCU)
 f285:=Tryz.func185.trans (congrArg some kCU)
 f286:=Tryz.func186.trans (congrArg some kCU)
 f287:=Tryz.func285.trans (congrArg some kCU)
 f316:=Tryz.func286.trans (congrArg some kCU)
 f317:=Tryz.func220.trans (congrArg some kCU)
 f318:=Tryz.func221.trans (congrArg some kCU)
 f319:=Tryz.func222.trans (congrArg some kCU)
 f320:=Tryz.func223.trans (congrArg some kCU)
 f321:=Tryz.func288.trans (congrArg some kCU)
 f322:=Tryz.func289.trans (congrArg some kCU)
 f337:=Tryz.func253.trans (congrArg some kCU)
 f338:=Tryz.func254.trans (congrArg some kCU)
 t0:=Tryz.underlying0
 a0:=Tryz.isAgg0
 z0:=Tryz.sizeOf0
 v0:=Tryz.zeroValue0
 t2:=Tryz.underlying2
 a2:=Tryz.isAgg2
 z2:=Tryz.sizeOf2
 v2:=Tryz.zeroValue2
 t3:=Tryz.underlying3
 a3:=Tryz.isAgg3
 z3:=Tryz.sizeOf3
 v3:=Tryz.zeroValue3
 t4:=Tryz.underlying4
 a4:=Tryz.isAgg4
 z4:=Tryz.sizeOf4
 v4:=Tryz.zeroValue4
 t5:=Tryz.underlying5
 a5:=Tryz.isAgg5
 z5:=Tryz.sizeOf5
 v5:=Tryz.zeroValue5
 t9:=Tryz.underlying9
 a9:=Tryz.isAgg9
 z9:=Tryz.sizeOf9
 v9:=Tryz.zeroValue9
 t20:=Tryz.underlying20
 a20:=Tryz.isAgg20
 z20:=Tryz.sizeOf20
 v20:=Tryz.zeroValue20
 t21:=Tryz.underlying21
 a21:=Tryz.isAgg21
 z21:=Tryz.sizeOf21
 v21:=Tryz.zeroValue21
 t37:=Tryz.underlying84
 a37:=Tryz.isAgg84
 z37:=Tryz.sizeOf84
 v37:=Tryz.zeroValue84
 t46:=Tryz.underlying157
 a46:=Tryz.isAgg157
 z46:=Tryz.sizeOf157
 v46:=Tryz.zeroValue157
 t51:=Tryz.underlying270
 a51:=Tryz.isAgg270
 z51:=Tryz.sizeOf270
 v51:=Tryz.zeroValue270
 t53:=Tryz.underlying75
 a53:=Tryz.isAgg75
 z53:=Tryz.sizeOf75
 v53:=Tryz.zeroValue75
 t75:=Tryz.underlying134
 a75:=Tryz.isAgg134
 z75:=Tryz.sizeOf134
 v75:=Tryz.zeroValue134
 t76:=Tryz.underlying228
 a76:=Tryz.isAgg228
 z76:=Tryz.sizeOf228
 v76:=Tryz.zeroValue228
 t85:=Tryz.underlying319
 a85:=Tryz.isAgg319
 z85:=Tryz.sizeOf319
 v85:=Tryz.zeroValue319
 t127:=Tryz.underlying246
 a127:=Tryz.isAgg246
 z127:=Tryz.sizeOf246
 v127:=Tryz.zeroValue246
 t143:=Tryz.underlying337
 a143:=Tryz.isAgg337
 z143:=Tryz.sizeOf337
 v143:=Tryz.zeroValue337
 t145:=Tryz.underlying339
 a145:=Tryz.isAgg339
 z145:=Tryz.sizeOf339
 v145:=Tryz.zeroValue339
 t167:=Tryz.underlying318
 a167:=Tryz.isAgg318
 z167:=Tryz.sizeOf318
 v167:=Tryz.zeroValue318
 t168:=Tryz.underlying321
 a168:=Tryz.isAgg321
 z168:=Tryz.sizeOf321
 v168:=Tryz.zeroValue321
 t171:=Tryz.underlying247
 a171:=Tryz.isAgg247
 z171:=Tryz.sizeOf247
 v171:=Tryz.zeroValue247
 t173:=Tryz.underlying250
 a173:=Tryz.isAgg250
 z173:=Tryz.sizeOf250
 v173:=Tryz.zeroValue250
 t175:=Tryz.underlying331
 a175:=Tryz.isAgg331
 z175:=Tryz.sizeOf331
 v175:=Tryz.zeroValue331
 t210:=Tryz.underlying334
 a210:=Tryz.isAgg334
 z210:=Tryz.sizeOf334
 v210:=Tryz.zeroValue334
 t212:=Tryz.underlying275
 a212:=Tryz.isAgg275
 z212:=Tryz.sizeOf275
 v212:=Tryz.zeroValue275
 t213:=Tryz.underlying276
 a213:=Tryz.isAgg276
 z213:=Tryz.sizeOf276
 t232:=Tryz.underlying325
 a232:=Tryz.isAgg325
 z232:=Tryz.sizeOf325
 v232:=Tryz.zeroValue325
 t233:=Tryz.underlying326
 a233:=Tryz.isAgg326
 z233:=Tryz.sizeOf326
 v233:=Tryz.zeroValue326
 g15:=kCU
 g16:=kCU
 g17:=kCU
 g18:=kCU
 g19:=kCU
 t80:=Tryz.underlying151
 a80:=Tryz.isAgg151
 z80:=Tryz.sizeOf151
 v80:=Tryz.zeroValue151
 i0:=kCU
 i2:=kCU
 i3:=kCU
 i4:=kCU
 i5:=kCU
 i9:=kCU
 i20:=kCU
 i21:=kCU
 i37:=kCU
 i46:=kCU
 i51:=kCU
 i53:=kCU
 i75:=kCU
 i76:=kCU
 i80:=kCU
 i85:=kCU
 i127:=kCU
 i143:=kCU
 i145:=kCU
 i167:=kCU
 i168:=kCU
 i171:=kCU
 i173:=kCU
 i175:=kCU
 i210:=kCU
 i212:=kCU
 i232:=kCU
 i233:=kCU
 m15:=kCU
 m16:=kCU
 m17:=kCU
 m18:=kCU
 m19:=kCU
 c0:=kCU
 c2:=kCU
 c3:=kCU
 c4:=kCU
 c5:=kCU
 c9:=kCU
 c20:=kCU
 c21:=kCU
 c37:=kCU
 c46:=kCU
 c51:=kCU
 c53:=kCU
 c75:=kCU
 c76:=kCU
 c80:=kCU
 c85:=kCU
 c127:=kCU
 c143:=kCU
 c145:=kCU
 c167:=kCU
 c168:=kCU
 c171:=kCU
 c173:=kCU
 c175:=kCU
 c210:=kCU
 c212:=kCU
 c213:=kCU
 c232:=kCU
 c233:=by kernel_rfl }
open Go.RowKit in
theorem Tryz.strconv_Atoi_ok (s:ByteArray) (hmax:s.size≤9223372036854775806) (v:Int) (h:Lib.atoiAll s.data.toList=.ok v) (w:World) :
  Calls Tryz.prog 216 #[.string s] w fun e w'=>e=.returned (.tuple #[.int .i64 v,.nilIface])∧(w'=w∨∃t,w'=Lib.bytesWorld w 5 t):=Any.strconv_Atoi_ok Tryz.laysC172 s hmax v h w
def Tryz.lays219_ren:Go.Shelf.Ren:=⟨fun | 219=>176 | 217=>212 | 225=>213 | 224=>214 | 267=>215 | 266=>248 | 314=>249 | n=>n,fun | 9=>9 | 3=>3 | 4=>4 | 5=>5 | 46=>157 | 146=>296 | 51=>270 | n=>n,fun | 1=>1 | n=>n⟩
theorem Tryz.lays219:Go.Proofs.Lays.n219 Tryz.prog Tryz.lays219_ren:={
 mixed:=kCU
 f217:=Tryz.func212.trans (congrArg some kCU)
 f219:=Tryz.func176.trans (congrArg some kCU)
 f224:=Tryz.func214.trans (congrArg some kCU)
 f225:=Tryz.func213.trans (congrArg some kCU)
 f266:=Tryz.func248.trans (congrArg some kCU)
 f267:=Tryz.func215.trans (congrArg some kCU)
 f314:=Tryz.func249.trans (congrArg some kCU)
 t3:=Tryz.underlying3
 a3:=Tryz.isAgg3
 z3:=Tryz.sizeOf3
 v3:=Tryz.zeroValue3
 t4:=Tryz.underlying4
 a4:=Tryz.isAgg4
 z4:=Tryz.sizeOf4
 v4:=Tryz.zeroValue4
 t5:=Tryz.underlying5
 a5:=Tryz.isAgg5
 z5:=Tryz.sizeOf5
 v5:=Tryz.zeroValue5
 t9:=Tryz.underlying9
 a9:=Tryz.isAgg9
 z9:=Tryz.sizeOf9
 v9:=Tryz.zeroValue9
 t46:=Tryz.underlying157
 a46:=Tryz.isAgg157
 z46:=Tryz.sizeOf157
 v46:=Tryz.zeroValue157
 t51:=Tryz.underlying270
 a51:=Tryz.isAgg270
 z51:=Tryz.sizeOf270
 v51:=Tryz.zeroValue270
 t146:=Tryz.underlying296
 a146:=Tryz.isAgg296
 z146:=Tryz.sizeOf296
 v146:=Tryz.zeroValue296
 g1:=by kernel_rfl }
open Go.RowKit Go.Lib in
theorem Tryz.stringslite_Index_one (s:ByteArray) (c:UInt8) (w:World) :
  Calls Tryz.prog 176 #[.string s,.string ⟨#[c]⟩] w fun e w'=>e=.returned (.int .i64 (Lib.indexByte s.data.toList c))∧w'=w:=Any.stringslite_Index_one Tryz.lays219 s c w
end Go.Proofs
end
section
namespace Go.Proofs.YtjaobihcdkjmbaaGreatDoor
open Go.RowKit Go.Proofs.YtjaobihcdkjmbaaGreatDoorW.PrintWords Go.Proofs.YtjaobihcdkjmbaaGreatDoor.PReadTokens
def uchk (b:UInt8):Bool:=decide (32≤b.toNat)&&decide (b.toNat≤126)&&decide (b.toNat≠123)&&decide (b.toNat≠125)
def zCw (s:ByteArray):Bool:=decide (1≤s.size)&&decide (s.size≤20)&&s.data.toList.all uchk
theorem wrap_nat (n:Nat) (h:n<9223372036854775807):wrap64 ((n:Int)+1)=((n+1:Nat):Int):=by unfold wrap64;omega
theorem bt_nat (s:ByteArray) (n:Nat) (h:n<s.size):bt s (n:Int)=((s[n]'h).toNat:Int):=by
 simp[bt,h]
theorem unit_loop (s:ByteArray) (hs:s.size<9223372036854775807) (d:Nat):∀(k pos:Nat),pos+d=s.size→d<k→read_unit.l0 k s (s.size:Int) (pos:Int)=some ((s.data.toList.drop pos).all uchk):=by
 induction d with
 | zero =>
  intro k pos hp hk;obtain⟨k,rfl⟩:∃m,k=m+1:=⟨k-1,kCT⟩;simp only[read_unit.l0];rw[kA9 kCT,kBx (show s.data.toList.length≤pos by have:s.data.toList.length=s.size:=rfl;omega)];rfl
 | succ d ih =>
  intro k pos hp hk;obtain⟨k,rfl⟩:∃m,k=m+1:=⟨k-1,kCT⟩;have hlt:pos<s.size:=kCT
  have hl:pos<s.data.toList.length:=hlt;simp only[read_unit.l0];rw[kAa kCT,kAa kCT,kAa kCT,bt_nat s pos hlt,wrap_nat pos kCT,ih k (pos+1) kCT kCT,kAr hl,List.all_cons];have e:s.data.toList[pos]=s[pos]:=rfl;rw[e];unfold uchk;generalize (s[pos]).toNat=c;split
  ·rw[kA8 (by omega:¬32≤c)];rfl
  ·split
   ·rw[kA8 (by omega:¬c≤126)];simp
   ·split
    ·rw[kA8 (by omega:¬c≠123)];simp
    ·split
     ·rw[kA8 (by omega:¬c≠125)];simp
     ·rw[kA7 (by omega:32≤c),kA7 (by omega:c≤126),kA7 (by omega:c≠123),kA7 (by omega:c≠125)];rfl
theorem unit_f (s:ByteArray) (hs:s.size<9223372036854775807):read_unit.f (s.size+1) s=some (zCw s):=by
 unfold read_unit.f zCU.f zCw;by_cases h1:1≤s.size
 ·rw[kAa kCT,Option.bind_some];by_cases h2:s.size≤20
  ·rw[kAa kCX];have:=unit_loop s hs s.size (s.size+1) 0 kCT kCT;rw[show ((0:Nat):Int)=0 from rfl,kBZ] at this;rw[this,kA7 h1,kA7 h2];rfl
  ·rw[kA9 kCX,kA8 h2];simp
 ·rw[kA9 kCT,Option.bind_some,kA9 kCV,kA8 h1];rfl
theorem unit_any (s:ByteArray) (hs:s.size<9223372036854775807) (w:World):Calls Tryz.prog 125 #[.string s] w fun e w'=>e=.returned (.bool (zCw s))∧Below w.heap.size w w' :=
 (read_unit.calls _ s (zCw s) w (unit_f s hs)).mono fun _ _ ⟨h1,h2⟩=>⟨h1,h2.below⟩
theorem slcut_some (s:ByteArray) (c:UInt8) (i:Nat) (w:World) (hs:s.size<4611686018427387904) (hi:Lib.indexByte s.data.toList c=(i:Int)) (hl:i<s.size) :
  Calls Tryz.prog 151 #[.string s,.string ⟨#[c]⟩] w fun e w'=>e=.returned (.tuple #[.string (s.extract 0 i),.string (s.extract (i+1) s.size),.bool true])∧∃n,w'=w.drewN n:=by
 have hx:∀w,Calls Tryz.prog 176 #[.string s,.string ⟨#[c]⟩] w fun e w'=>e=.returned (.int .i64 i)∧w'=w:=fun w=>by
  have:=Tryz.stringslite_Index_one s c w;rwa [hi] at this
 clear hi;have h0:(0:Int)≤(i:Int):=kCT
 go_enter Tryz.func151,Tryz.ntmps151;go_wp2_with (go_at_call 176;refine (hx _).mono ?_;rintro e w' ⟨rfl,rfl⟩)
 go_quiet (fail)
 go_wp2
 go_ret3
 exact⟨rfl,_,rfl⟩
theorem slcut_none (s:ByteArray) (c:UInt8) (w:World) (hi:Lib.indexByte s.data.toList c=-1) :
  Calls Tryz.prog 151 #[.string s,.string ⟨#[c]⟩] w fun e w'=>e=.returned (.tuple #[.string s,.string ⟨#[]⟩,.bool false])∧∃n,w'=w.drewN n:=by
 have hx:∀w,Calls Tryz.prog 176 #[.string s,.string ⟨#[c]⟩] w fun e w'=>e=.returned (.int .i64 (-1))∧w'=w:=fun w=>by
  have:=Tryz.stringslite_Index_one s c w;rwa [hi] at this
 clear hi;go_enter Tryz.func151,Tryz.ntmps151;go_wp2_with (go_at_call 176;refine (hx _).mono ?_;rintro e w' ⟨rfl,rfl⟩)
 go_ret3
 exact⟨rfl,0,rfl⟩
theorem cut_some (s:ByteArray) (c:UInt8) (i:Nat) (w:World) (hs:s.size<4611686018427387904) (hi:Lib.indexByte s.data.toList c=(i:Int)) (hl:i<s.size) :
  Calls Tryz.prog 123 #[.string s,.string ⟨#[c]⟩] w fun e w'=>e=.returned (.tuple #[.string (s.extract 0 i),.string (s.extract (i+1) s.size),.bool true])∧∃n,w'=w.drewN n:=by
 have hx:=slcut_some s c i w hs hi hl;clear hi;go_enter Tryz.func123,Tryz.ntmps123;go_wp2_with (go_at_call 151;refine hx.mono ?_;rintro e w' ⟨rfl,n,rfl⟩)
 go_ret3
 exact⟨rfl,_,rfl⟩
theorem cut_none (s:ByteArray) (c:UInt8) (w:World) (hi:Lib.indexByte s.data.toList c=-1) :
  Calls Tryz.prog 123 #[.string s,.string ⟨#[c]⟩] w fun e w'=>e=.returned (.tuple #[.string s,.string ⟨#[]⟩,.bool false])∧∃n,w'=w.drewN n:=by
 have hx:=slcut_none s c w hi;clear hi;go_enter Tryz.func123,Tryz.ntmps123;go_wp2_with (go_at_call 151;refine hx.mono ?_;rintro e w' ⟨rfl,n,rfl⟩)
 go_ret3
 exact⟨rfl,_,rfl⟩
theorem zEl (S g:Nat) (s:ByteArray) (a n:Nat) (x:ByteArray) (w:World) (ha:a≤s.size) (hs:s.size≤9223372036854775807) (hS:Scan w S s a)
  (hg:w.heap[g]?=some (.cells #[.int .i64 4] 162 (0,0))) (hgS:g≠S) (hn:Hid (zC4 s a=n)) (hx:Hid (s.extract a n=x)) :
  Calls Tryz.prog 122 #[.pointer (some ⟨S,0,none⟩),.slice (some ⟨g,0,none⟩) 1 1] w fun e w' =>
   e=.returned (.string x)∧w.grownBy w' (some S)∧Scan w' S s n:=by
 have:=run_one S g s a 4 rfl 162 w ha hs hS hg hgS;have e:=hn.out;unfold zC4 at e;rw[e,hx.out] at this;exact this
theorem next_digit (S:Nat) (s:ByteArray) (a b n:Nat) (x:ByteArray) (k:Int) (w:World) (ha:a≤s.size) (hs:s.size≤2147483648) (hS:Scan w S s a) (hb:zAv s a=b) (hbl:b<s.size) (hk:srt (s[b]'hbl).toNat=4)
  (Hn:Hid (zC4 s b=n)) (Hx:Hid (s.extract b n=x)) (hc:((s[b]'hbl).toNat≠48∧x.size≤400∧k=2)∨((s[b]'hbl).toNat=48∧x.size=1∧k=2)∨((s[b]'hbl).toNat≠48∧400<x.size∧k=-1)∨((s[b]'hbl).toNat=48∧x.size≠1∧k=-1)) :
  Calls Tryz.prog 88 #[.pointer (some ⟨S,0,none⟩)] w fun e w'=>e=.returned (.tuple #[tokV ⟨k,x,b⟩,.bool true])∧w.grownBy w' (some S)∧Scan w' S s n:=by
 have hSw:=hS.cells.2.2.2;have hcall:=fun o=>zDw S s a b w o ha hs hS hb
 have hsort:∀w,Calls Tryz.prog 107 #[.int .i32 (s[b]'hbl).toNat] w fun e w'=>e=.returned (.int .i64 4)∧Below w.heap.size w w':=fun w=>by
  have:=zCD (s[b]'hbl).toNat w;rwa [hk] at this
 have hw32:wrap32 ((s[b]'hbl).toNat:Int)=(s[b]'hbl).toNat:=by have:=(s[b]'hbl).toNat_lt;unfold wrap32;omega
 have hne:((b:Int)==(s.size:Int))=false:=by rw[kAd];omega
 have Hle:x.size≤s.size:=by rw[← Hx.out,kBy];omega
 clear hb hk;have h48:((s[b]'hbl).toNat≠48→(((s[b]'hbl).toNat:Int) != 48)=true)∧((s[b]'hbl).toNat=48→(((s[b]'hbl).toNat:Int) != 48)=false):=by
  constructor
  ·intro h;rw[kCR];omega
  ·intro h;rw[bne_eq_false_iff_eq];omega
 have h1:(x.size=1→((x.size:Int)==1)=true)∧(x.size≠1→((x.size:Int)==1)=false):=by
  constructor
  ·intro h;rw[kAx];omega
  ·intro h;rw[kAd];omega
 have hle:(x.size≤400→decide ((x.size:Int)≤400)=true)∧(400<x.size→decide ((x.size:Int)≤400)=false):=by
  constructor
  ·intro h;rw[kAN];omega
  ·intro h;rw[kBE];omega
 rcases hc with⟨hc,hz,rfl⟩ | ⟨hc,hz,rfl⟩ | ⟨hc,hz,rfl⟩ | ⟨hc,hz,rfl⟩
 ·have q1:=h48.1 hc;have q2:=hle.1 hz;clear hc hz h48 hle h1;go_enter Tryz.func88,Tryz.ntmps88;go_wp2_with (go_at_call 122;refine (hcall _).mono ?_;rintro e w1 ⟨rfl,hg,hsc⟩;obtain⟨c0,c1,f1,lt⟩:=hsc.cells;have hN:=NextAt.start hg hsc hSw;have hd1:=kAq hN.hT;have hd2:=kB4 hN.hT)
  go_quiet (fail)
  generalize nq=n0 at *;go_wp2
  go_quiet (fail)
  generalize nq=n1 at *;have hN1:=hN.drew (n0+n1);go_wp2_with (go_at_call 107;refine (hsort _).mono ?_;rintro e w2 ⟨rfl,hb2⟩;have hN2:=hN1.below hb2);refine (zEl S _ s b n x _ kCT kCT (hN2.alloc _).scan (zA4 _ _) kDs Hn Hx).mono ?_;rintro e w3 ⟨rfl,hg3,hs3⟩;have hN3:=(hN2.alloc _).step hSw hg3 hs3;obtain⟨⟨t0,t1,t2⟩,⟨ft0,ft1,ft2⟩,⟨r0,r1,r2⟩,⟨fr0,fr1,fr2⟩,lr,lt3⟩:=hN3.cells;clear hsort hcall c0 c1 f1 hN hN1 hN2 hg hsc;go_wp2;obtain⟨h1,h2,h3⟩:=((hN3.text hSw x).kind hSw 2).fin hSw (.int .i64 2) (.string x) (.int .i64 b);exact kAi (results88 rfl rfl h1) rfl ⟨rfl,h2,h3⟩
 ·have q1:=h48.2 hc;have q3:=h1.1 hz;have q2:=hle.1 kCT;clear hc hz h48 hle h1;go_enter Tryz.func88,Tryz.ntmps88;go_wp2_with (go_at_call 122;refine (hcall _).mono ?_;rintro e w1 ⟨rfl,hg,hsc⟩;obtain⟨c0,c1,f1,lt⟩:=hsc.cells;have hN:=NextAt.start hg hsc hSw;have hd1:=kAq hN.hT;have hd2:=kB4 hN.hT)
  go_quiet (fail)
  generalize nq=n0 at *;go_wp2
  go_quiet (fail)
  generalize nq=n1 at *;have hN1:=hN.drew (n0+n1);go_wp2_with (go_at_call 107;refine (hsort _).mono ?_;rintro e w2 ⟨rfl,hb2⟩;have hN2:=hN1.below hb2);refine (zEl S _ s b n x _ kCT kCT (hN2.alloc _).scan (zA4 _ _) kDs Hn Hx).mono ?_;rintro e w3 ⟨rfl,hg3,hs3⟩;have hN3:=(hN2.alloc _).step hSw hg3 hs3;obtain⟨⟨t0,t1,t2⟩,⟨ft0,ft1,ft2⟩,⟨r0,r1,r2⟩,⟨fr0,fr1,fr2⟩,lr,lt3⟩:=hN3.cells;clear hsort hcall c0 c1 f1 hN hN1 hN2 hg hsc;go_wp2;obtain⟨h1,h2,h3⟩:=((hN3.text hSw x).kind hSw 2).fin hSw (.int .i64 2) (.string x) (.int .i64 b);exact kAi (results88 rfl rfl h1) rfl ⟨rfl,h2,h3⟩
 ·have q1:=h48.1 hc;have q2:=hle.2 hz;clear hc hz h48 hle h1;go_enter Tryz.func88,Tryz.ntmps88;go_wp2_with (go_at_call 122;refine (hcall _).mono ?_;rintro e w1 ⟨rfl,hg,hsc⟩;obtain⟨c0,c1,f1,lt⟩:=hsc.cells;have hN:=NextAt.start hg hsc hSw;have hd1:=kAq hN.hT;have hd2:=kB4 hN.hT)
  go_quiet (fail)
  generalize nq=n0 at *;go_wp2
  go_quiet (fail)
  generalize nq=n1 at *;have hN1:=hN.drew (n0+n1);go_wp2_with (go_at_call 107;refine (hsort _).mono ?_;rintro e w2 ⟨rfl,hb2⟩;have hN2:=hN1.below hb2);refine (zEl S _ s b n x _ kCT kCT (hN2.alloc _).scan (zA4 _ _) kDs Hn Hx).mono ?_;rintro e w3 ⟨rfl,hg3,hs3⟩;have hN3:=(hN2.alloc _).step hSw hg3 hs3;obtain⟨⟨t0,t1,t2⟩,⟨ft0,ft1,ft2⟩,⟨r0,r1,r2⟩,⟨fr0,fr1,fr2⟩,lr,lt3⟩:=hN3.cells;clear hsort hcall c0 c1 f1 hN hN1 hN2 hg hsc;go_wp2;obtain⟨h1,h2,h3⟩:=(hN3.text hSw x).fin hSw (.int .i64 (-1)) (.string x) (.int .i64 b);exact kAi (results88 rfl rfl h1) rfl ⟨rfl,h2,h3⟩
 ·have q1:=h48.2 hc;have q3:=h1.2 hz;clear hc hz h48 hle h1;go_enter Tryz.func88,Tryz.ntmps88;go_wp2_with (go_at_call 122;refine (hcall _).mono ?_;rintro e w1 ⟨rfl,hg,hsc⟩;obtain⟨c0,c1,f1,lt⟩:=hsc.cells;have hN:=NextAt.start hg hsc hSw;have hd1:=kAq hN.hT;have hd2:=kB4 hN.hT)
  go_quiet (fail)
  generalize nq=n0 at *;go_wp2
  go_quiet (fail)
  generalize nq=n1 at *;have hN1:=hN.drew (n0+n1);go_wp2_with (go_at_call 107;refine (hsort _).mono ?_;rintro e w2 ⟨rfl,hb2⟩;have hN2:=hN1.below hb2);refine (zEl S _ s b n x _ kCT kCT (hN2.alloc _).scan (zA4 _ _) kDs Hn Hx).mono ?_;rintro e w3 ⟨rfl,hg3,hs3⟩;have hN3:=(hN2.alloc _).step hSw hg3 hs3;obtain⟨⟨t0,t1,t2⟩,⟨ft0,ft1,ft2⟩,⟨r0,r1,r2⟩,⟨fr0,fr1,fr2⟩,lr,lt3⟩:=hN3.cells;clear hsort hcall c0 c1 f1 hN hN1 hN2 hg hsc;go_wp2;obtain⟨h1,h2,h3⟩:=(hN3.text hSw x).fin hSw (.int .i64 (-1)) (.string x) (.int .i64 b);exact kAi (results88 rfl rfl h1) rfl ⟨rfl,h2,h3⟩
theorem NextAt.at_ {w:World} {S T:Nat} {s:ByteArray} {n:Nat} {t:S47} {W:World} (h:NextAt w S T s n t W) (hSw:S<w.heap.size) (n':Nat):NextAt w S T s n' t (W.setCell ⟨S,1,none⟩ (.int .i64 n')) :=
 h.step hSw (kAf _ _ _ _) (zA7 h.scan 1 _)
theorem encode_ascii (c:UInt8) (h:c.toNat<128):Utf8.encode (c.toNat:Int)=⟨#[c]⟩:=by
 have hv:Utf8.valid (c.toNat:Int)=true:=by
  unfold Utf8.valid;simp;omega
 simp only[Utf8.encode,hv,if_true,Int.toNat_natCast,kAa h,UInt8.ofNat_toNat]
theorem mark_small {c:Nat} (h:srt c=5):c<128:=by
 rcases kBW c 128 with h1 | h1
 ·exact h1
 ·rw[zEj _ kCT] at h;cases h
theorem next_mark (S:Nat) (s:ByteArray) (a b:Nat) (w:World) (ha:a≤s.size) (hs:s.size≤2147483648) (hS:Scan w S s a) (hb:zAv s a=b) (hbl:b<s.size) (hk:srt (s[b]'hbl).toNat=5) :
  Calls Tryz.prog 88 #[.pointer (some ⟨S,0,none⟩)] w fun e w'=>e=.returned (.tuple #[tokV ⟨4,⟨#[s[b]'hbl]⟩,b⟩,.bool true])∧w.grownBy w' (some S)∧Scan w' S s (b+1):=by
 have hSw:=hS.cells.2.2.2;have hcall:=fun o=>zDw S s a b w o ha hs hS hb
 have hsort:∀w,Calls Tryz.prog 107 #[.int .i32 (s[b]'hbl).toNat] w fun e w'=>e=.returned (.int .i64 5)∧Below w.heap.size w w':=fun w=>by
  have:=zCD (s[b]'hbl).toNat w;rwa [hk] at this
 have hw32:wrap32 ((s[b]'hbl).toNat:Int)=(s[b]'hbl).toNat:=by have:=(s[b]'hbl).toNat_lt;unfold wrap32;omega
 have hne:((b:Int)==(s.size:Int))=false:=by rw[kAd];omega
 have Henc:=kA1 (encode_ascii (s[b]'hbl) (mark_small hk));clear hb hk;go_enter Tryz.func88,Tryz.ntmps88;go_wp2_with (go_at_call 122;refine (hcall _).mono ?_;rintro e w1 ⟨rfl,hg,hsc⟩;obtain⟨c0,c1,f1,lt⟩:=hsc.cells;have hN:=NextAt.start hg hsc hSw;have hd1:=kAq hN.hT;have hd2:=kB4 hN.hT)
 go_quiet (fail)
 generalize nq=n0 at *;go_wp2
 go_quiet (fail)
 generalize nq=n1 at *;have hN1:=hN.drew (n0+n1);go_wp2_with (go_at_call 107;refine (hsort _).mono ?_;rintro e w2 ⟨rfl,hb2⟩;have hN2:=hN1.below hb2;obtain⟨⟨t0,t1,t2⟩,⟨ft0,ft1,ft2⟩,⟨r0,r1,r2⟩,⟨fr0,fr1,fr2⟩,lr,lt3⟩:=hN2.cells;obtain⟨c0,c1,f1,lt⟩:=hN2.scan.cells);have hN3:=(((hN2.kind hSw 4).text hSw (Utf8.encode ((s[b]'hbl).toNat:Int))).at_ hSw (b+1));rw[show (((b+1:Nat)):Int)=(b:Int)+1 by omega] at hN3;obtain⟨h1,h2,h3⟩:=hN3.fin hSw (.int .i64 4) (.string (Utf8.encode ((s[b]'hbl).toNat:Int))) (.int .i64 b);exact kAi (results88 rfl rfl h1) rfl ⟨by rw[Henc.out];rfl,h2,h3⟩
theorem trim_q (x r:ByteArray) (h:strings_TrimPrefix.f x ⟨#[123]⟩=some r) (w:World):Calls Tryz.prog 124 #[.string x,.string ⟨#[123]⟩] w fun e w'=>e=.returned (.string r)∧∃n,w'=w.drewN n :=
 (strings_TrimPrefix.calls x _ r w h).mono fun _ _ ⟨h1,h2⟩=>⟨h1,h2.out⟩
theorem unit_is (x:ByteArray) (r:Bool) (hs:x.size<9223372036854775807) (h:zCw x=r) (w:World):Calls Tryz.prog 125 #[.string x] w fun e w'=>e=.returned (.bool r)∧Below w.heap.size w w':=by rw[← h];exact unit_any x hs w
theorem zDO (S:Nat) (s:ByteArray) (a b:Nat) (r i o:ByteArray) (f:Bool) (w:World) (ha:a≤s.size) (hs:s.size≤2147483648) (hS:Scan w S s a) (hb:zAv s a=b) (hbl:b<s.size) (k:Int) (hk:srt (s[b]'hbl).toNat=k) (hk2:(k==2)=false) (hk4:(k==4)=false) (hk5:(k==5)=false)
  (ht:strings_TrimPrefix.f (s.extract b s.size) ⟨#[123]⟩=some r) (hi:i.size≤s.size)
  (hcut:∀w,Calls Tryz.prog 123 #[.string r,.string ⟨#[125]⟩] w fun e w'=>e=.returned (.tuple #[.string i,.string o,.bool f])∧∃n,w'=w.drewN n) (t:S47) (n:Nat)
  (hc:((s[b]'hbl).toNat≠123∧t=⟨-1,⟨#[]⟩,b⟩∧n=b)∨((s[b]'hbl).toNat=123∧f=false∧t=⟨-1,⟨#[]⟩,b⟩∧n=b)∨((s[b]'hbl).toNat=123∧f=true∧zCw i=false∧t=⟨-1,⟨#[]⟩,b⟩∧n=b) ∨
   ((s[b]'hbl).toNat=123∧f=true∧zCw i=true∧t=⟨3,i,b⟩∧n=b+(i.size+2))) :
  Calls Tryz.prog 88 #[.pointer (some ⟨S,0,none⟩)] w fun e w'=>e=.returned (.tuple #[tokV t,.bool true])∧w.grownBy w' (some S)∧Scan w' S s n:=by
 have hSw:=hS.cells.2.2.2;have hcall:=fun o=>zDw S s a b w o ha hs hS hb
 have hsort:∀w,Calls Tryz.prog 107 #[.int .i32 (s[b]'hbl).toNat] w fun e w'=>e=.returned (.int .i64 k)∧Below w.heap.size w w':=fun w=>by
  have:=zCD (s[b]'hbl).toNat w;rwa [hk] at this
 have htrim:=trim_q _ _ ht;have hw32:wrap32 ((s[b]'hbl).toNat:Int)=(s[b]'hbl).toNat:=by have:=(s[b]'hbl).toNat_lt;unfold wrap32;omega
 have hne:((b:Int)==(s.size:Int))=false:=by rw[kAd];omega
 have h123:((s[b]'hbl).toNat≠123→(((s[b]'hbl).toNat:Int)==123)=false)∧((s[b]'hbl).toNat=123→(((s[b]'hbl).toNat:Int)==123)=true):=by
  constructor
  ·intro h;rw[kAd];omega
  ·intro h;rw[kAx];omega
 clear hb hk ht;rcases hc with⟨hc,rfl,rfl⟩ | ⟨hc,rfl,rfl,rfl⟩ | ⟨hc,rfl,hu,rfl,rfl⟩ | ⟨hc,rfl,hu,rfl,rfl⟩
 all_goals
  first
   | have q1:=h123.1 hc
   | have q1:=h123.2 hc
  try have hunit:=unit_is i _ kCT hu
  try clear hu
  clear hc h123;go_enter Tryz.func88,Tryz.ntmps88;go_wp2_with (go_at_call 122;refine (hcall _).mono ?_;rintro e w1 ⟨rfl,hg,hsc⟩;obtain⟨c0,c1,f1,lt⟩:=hsc.cells;have hN:=NextAt.start hg hsc hSw;have hd1:=kAq hN.hT;have hd2:=kB4 hN.hT)
  go_quiet (fail)
  generalize nq=n0 at *;go_wp2
  go_quiet (fail)
  generalize nq=n1 at *;have hN1:=hN.drew (n0+n1);go_wp2_with (go_at_call 107;refine (hsort _).mono ?_;rintro e w2 ⟨rfl,hb2⟩;have hN2:=hN1.below hb2;obtain⟨⟨t0,t1,t2⟩,⟨ft0,ft1,ft2⟩,⟨r0,r1,r2⟩,⟨fr0,fr1,fr2⟩,lr,lt3⟩:=hN2.cells;obtain⟨c0,c1,f1,lt⟩:=hN2.scan.cells)
  go_quiet ((first | (go_at_call 124;exact kCE (htrim _)) | (go_at_call 123;exact kCE (hcut _))))
  generalize nq=n2 at *;have hN3:=hN2.drew n2;clear hsort hcall hN hN1 hN2 hg hsc htrim hcut
 ·go_wp2;obtain⟨h1,h2,h3⟩:=hN3.fin hSw (.int .i64 (-1)) (.string ⟨#[]⟩) (.int .i64 n);exact kAi (results88 rfl rfl h1) rfl ⟨rfl,h2,h3⟩
 ·go_wp2;obtain⟨h1,h2,h3⟩:=hN3.fin hSw (.int .i64 (-1)) (.string ⟨#[]⟩) (.int .i64 n);exact kAi (results88 rfl rfl h1) rfl ⟨rfl,h2,h3⟩
 ·go_wp2_with (go_at_call 125;refine (hunit _).mono ?_;rintro e w4 ⟨rfl,hb4⟩;have hN4:=hN3.below hb4;obtain⟨⟨t0,t1,t2⟩,⟨ft0,ft1,ft2⟩,⟨r0,r1,r2⟩,⟨fr0,fr1,fr2⟩,lr,lt4⟩:=hN4.cells);obtain⟨h1,h2,h3⟩:=hN4.fin hSw (.int .i64 (-1)) (.string ⟨#[]⟩) (.int .i64 n);exact kAi (results88 rfl rfl h1) rfl ⟨rfl,h2,h3⟩
 ·go_wp2_with (go_at_call 125;refine (hunit _).mono ?_;rintro e w4 ⟨rfl,hb4⟩;have hN4:=hN3.below hb4;obtain⟨⟨t0,t1,t2⟩,⟨ft0,ft1,ft2⟩,⟨r0,r1,r2⟩,⟨fr0,fr1,fr2⟩,lr,lt4⟩:=hN4.cells;obtain⟨c0,c1,f1,lt⟩:=hN4.scan.cells);have hN5:=((hN4.kind hSw 3).text hSw i).at_ hSw (b+(i.size+2));rw[show (((b+(i.size+2):Nat)):Int)=(b:Int)+((i.size:Int)+2) by omega] at hN5;obtain⟨h1,h2,h3⟩:=hN5.fin hSw (.int .i64 3) (.string i) (.int .i64 b);exact kAi (results88 rfl rfl h1) rfl ⟨rfl,h2,h3⟩
def brk (l:List UInt8):Nat:=(l.takeWhile (fun c=>c != 125)).length
def zBc (s:ByteArray) (b:Nat):Nat:=b+1+brk (zAz s (b+1))
def zBQ (x:ByteArray):Int:=if zE5 x then 1 else if zC0 x then 0 else -1
def zE9 (c:Nat) (x:ByteArray):Int:=if (c≠48∨x.size=1)∧x.size≤400 then 2 else -1
def zB6 (s:ByteArray) (b:Nat):S47×Nat :=
 if h:b<s.size then
  if srt (s[b]'h).toNat=2 then (⟨zBQ (s.extract b (zBo s b)),s.extract b (zBo s b),b⟩,zBo s b)
  else if srt (s[b]'h).toNat=4 then (⟨zE9 (s[b]'h).toNat (s.extract b (zC4 s b)),s.extract b (zC4 s b),b⟩,zC4 s b)
  else if srt (s[b]'h).toNat=5 then (⟨4,⟨#[s[b]'h]⟩,b⟩,b+1)
  else if (s[b]'h).toNat=123∧zBc s b<s.size∧zCw (s.extract (b+1) (zBc s b))=true then (⟨3,s.extract (b+1) (zBc s b),b⟩,zBc s b+1)
  else (⟨-1,⟨#[]⟩,b⟩,b)
 else (⟨-1,⟨#[]⟩,b⟩,b)
theorem indexByte_brk (l:List UInt8):Lib.indexByte l 125=if brk l<l.length then (brk l:Int) else -1:=by
 induction l with
 | nil=>rfl
 | cons c l ih =>
  unfold brk at ih⊢;unfold Lib.indexByte;rw[ih];by_cases h:c=125
  ·subst h;simp
  ·have hc:(c==125)=false:=kDy
   have hc':(c != 125)=true:=kDy
   rw[hc,kBc,hc'];simp only[kBY,if_false,if_true,List.length_cons];generalize (l.takeWhile (fun c=>c != 125)).length=T;by_cases hl:T<l.length
   ·rw[kAa hl,kAa (show T+1<l.length+1 by omega),kA9 (show ¬(((T:Int) == -1)=true) by rw[kAx];omega)];omega
   ·rw[kA9 hl,kA9 (show ¬T+1<l.length+1 by omega)];rfl
theorem bytesAt_length (s:ByteArray) (a:Nat):(zAz s a).length=s.size-a:=by
 unfold zAz;rw[kAn];rfl
theorem zCA (s:ByteArray) (a:Nat):(s.extract a s.size).data.toList=zAz s a:=by
 rw[kBp];exact kBw kCV
theorem trim_brace (s:ByteArray) (b:Nat) (h:b<s.size):strings_TrimPrefix.f (s.extract b s.size) ⟨#[123]⟩=some (if (s[b]'h).toNat=123 then s.extract (b+1) s.size else s.extract b s.size):=by
 have hsz:(s.extract b s.size).size=s.size-b:=kCV
 have h1:((⟨#[123]⟩:ByteArray).size:Int)=1:=rfl;have hx:((s.extract b s.size).extract 0 1).toList=[s[b]'h]:=by
  rw[kAR,kBp,zCA,kBZ];unfold zAz;rw[kAr (show b<s.data.toList.length from h)];rfl
 unfold strings_TrimPrefix.f stringslite_TrimPrefix.f stringslite_HasPrefix.f;rw[h1,hsz,kAa kCT,kAa kCT,kAa kCT];rw[show ((1:Int):Int).toNat=1 from rfl,hx];simp only[Option.bind_some];have e2:(⟨#[123]⟩:ByteArray).toList=[123]:=by rw[kAR]
 rw[e2];by_cases hc:(s[b]'h).toNat=123
 ·have hc':s[b]'h=123:=kCO.1 hc;rw[kAa hc,hc',kAa kCY,kAa kCT,kAa kCT,Option.bind_some];congr 1;apply kBX;apply kBV.1;have hs1:(s.extract b s.size).size-1=s.size-b-1:=by rw[hsz]
  rw[kBp,zCA,← hsz];rw[show (s.extract (b+1) s.size).data.toList=zAz s (b+1) from zCA s (b+1)];unfold zAz;rw[kC0,kBw (by rw[kAn,hs1];have:s.data.toList.length=s.size:=rfl;omega)]
 ·rw[kA9 hc,kA9 (by intro h2;apply hc;rw[kAx,List.cons.injEq] at h2;rw[h2.1];rfl)];rfl
theorem next_unit (S:Nat) (s:ByteArray) (a b:Nat) (w:World) (ha:a≤s.size) (hs:s.size≤2147483648) (hS:Scan w S s a) (hb:zAv s a=b) (hbl:b<s.size)
  (k:Int) (hk:srt (s[b]'hbl).toNat=k) (hk2:(k==2)=false) (hk4:(k==4)=false) (hk5:(k==5)=false) :
  Calls Tryz.prog 88 #[.pointer (some ⟨S,0,none⟩)] w fun e w'=>e=.returned (.tuple #[tokV (zB6 s b).1,.bool true])∧w.grownBy w' (some S)∧Scan w' S s (zB6 s b).2:=by
 have ht:=trim_brace s b hbl;have n2:¬srt (s[b]'hbl).toNat=2:=by rw[hk];exact kAd.1 hk2
 have n4:¬srt (s[b]'hbl).toNat=4:=by rw[hk];exact kAd.1 hk4
 have n5:¬srt (s[b]'hbl).toNat=5:=by rw[hk];exact kAd.1 hk5
 have hT:zB6 s b=if (s[b]'hbl).toNat=123∧zBc s b<s.size∧zCw (s.extract (b+1) (zBc s b))=true then (⟨3,s.extract (b+1) (zBc s b),b⟩,zBc s b+1) else (⟨-1,⟨#[]⟩,b⟩,b):=by
  unfold zB6;rw[kCI hbl,kA9 n2,kA9 n4,kA9 n5]
 have cutv:∀r:ByteArray,r.size≤s.size→∃(i o:ByteArray) (f:Bool),i.size≤s.size∧(∀w,Calls Tryz.prog 123 #[.string r,.string ⟨#[125]⟩] w fun e w'=>e=.returned (.tuple #[.string i,.string o,.bool f])∧∃n,w'=w.drewN n) ∧
   f=decide (brk r.data.toList<r.size)∧(f=true→i=r.extract 0 (brk r.data.toList)):=by
  intro r hr;have hx:=indexByte_brk r.data.toList;by_cases hl:brk r.data.toList<r.size
  ·rw[kAa (show brk r.data.toList<r.data.toList.length from hl)] at hx;exact⟨_,_,true,by rw[kBy];omega,fun w=>cut_some r 125 _ w kCT hx hl,by simp[hl],fun _=>rfl⟩
  ·rw[kA9 (show ¬brk r.data.toList<r.data.toList.length from hl)] at hx;exact⟨_,_,false,hr,fun w=>cut_none r 125 w hx,by simp[hl],fun h=>by cases h⟩
 by_cases hc:(s[b]'hbl).toNat=123
 ·rw[kAa hc] at ht;obtain⟨i,o,f,hi,hcut,hf,hfi⟩:=cutv (s.extract (b+1) s.size) (by rw[kBy];omega);rw[zCA] at hf hfi;have hsz:(s.extract (b+1) s.size).size=s.size-(b+1):=kCV
  rw[hsz] at hf;by_cases hl:zBc s b<s.size
  ·have hf':f=true:=by rw[hf];unfold zBc at hl;simp;omega
   have hie:i=s.extract (b+1) (zBc s b):=by
    rw[hfi hf',ByteArray.extract_extract];unfold zBc;congr 1;unfold zBc at hl;omega
   cases hu:zCw i
   ·rw[hT,kA9 (by rw[← hie,hu];simp)];exact zDO S s a b _ i o f w ha hs hS hb hbl k hk hk2 hk4 hk5 ht hi hcut _ _ (.inr (.inr (.inl ⟨hc,hf',hu,rfl,rfl⟩)))
   ·rw[hT,kAa ⟨hc,hl,by rw[← hie];exact hu⟩,← hie];refine zDO S s a b _ i o f w ha hs hS hb hbl k hk hk2 hk4 hk5 ht hi hcut _ _ (.inr (.inr (.inr ⟨hc,hf',hu,rfl,?_⟩)));have:i.size=zBc s b-(b+1):=by rw[hie,kBy];omega
    unfold zBc at this⊢;omega
  ·have hf':f=false:=by rw[hf];unfold zBc at hl;simp;omega
   rw[hT,kA9 (by simp[hl])];exact zDO S s a b _ i o f w ha hs hS hb hbl k hk hk2 hk4 hk5 ht hi hcut _ _ (.inr (.inl ⟨hc,hf',rfl,rfl⟩))
 ·rw[kA9 hc] at ht;obtain⟨i,o,f,hi,hcut,_,_⟩:=cutv (s.extract b s.size) (by rw[kBy];omega);rw[hT,kA9 (by simp[hc])];exact zDO S s a b _ i o f w ha hs hS hb hbl k hk hk2 hk4 hk5 ht hi hcut _ _ (.inl ⟨hc,rfl,rfl⟩)
theorem next_any (S:Nat) (s:ByteArray) (a:Nat) (w:World) (ha:a≤s.size) (hs:s.size≤2147483648) (hS:Scan w S s a) :
  Calls Tryz.prog 88 #[.pointer (some ⟨S,0,none⟩)] w fun e w'=>e=.returned (.tuple #[tokV (zB6 s (zAv s a)).1,.bool (decide (zAv s a<s.size))])∧w.grownBy w' (some S)∧Scan w' S s (zB6 s (zAv s a)).2:=by
 have hle:zAv s a≤s.size:=run_le [1] s a ha;by_cases hbl:zAv s a<s.size
 ·rw[kA7 hbl];by_cases h2:srt (s[zAv s a]'hbl).toNat=2
  ·have hT:zB6 s (zAv s a)=(⟨zBQ (s.extract (zAv s a) (zBo s (zAv s a))),s.extract (zAv s a) (zBo s (zAv s a)),zAv s a⟩,zBo s (zAv s a)):=by
    unfold zB6;rw[kCI hbl,kAa h2]
   rw[hT];refine next_small S s a _ _ _ _ w ha hs hS rfl hbl h2 rfl rfl ?_;unfold zBQ
   cases zE5 (s.extract (zAv s a) (zBo s (zAv s a)))<;>cases zC0 (s.extract (zAv s a) (zBo s (zAv s a)))<;>simp
  ·by_cases h4:srt (s[zAv s a]'hbl).toNat=4
   ·have hT:zB6 s (zAv s a)=(⟨zE9 (s[zAv s a]'hbl).toNat (s.extract (zAv s a) (zC4 s (zAv s a))),s.extract (zAv s a) (zC4 s (zAv s a)),zAv s a⟩,zC4 s (zAv s a)):=by
     unfold zB6;rw[kCI hbl,kA9 h2,kAa h4]
    rw[hT];refine next_digit S s a _ _ _ _ w ha hs hS rfl hbl h4 rfl rfl ?_;generalize s.extract (zAv s a) (zC4 s (zAv s a))=x;generalize (s[zAv s a]'hbl).toNat=c;unfold zE9;by_cases hc:c=48
    ·by_cases hx:x.size=1
     ·exact .inr (.inl ⟨hc,hx,by rw[kAa kCT]⟩)
     ·exact .inr (.inr (.inr ⟨hc,hx,by rw[kA9 kCT]⟩))
    ·by_cases hx:x.size≤400
     ·exact .inl ⟨hc,hx,by rw[kAa kCT]⟩
     ·exact .inr (.inr (.inl ⟨hc,kCT,by rw[kA9 kCT]⟩))
   ·by_cases h5:srt (s[zAv s a]'hbl).toNat=5
    ·have hT:zB6 s (zAv s a)=(⟨4,⟨#[s[zAv s a]'hbl]⟩,zAv s a⟩,zAv s a+1):=by
      unfold zB6;rw[kCI hbl,kA9 h2,kA9 h4,kAa h5]
     rw[hT];exact next_mark S s a _ w ha hs hS rfl hbl h5
    ·exact next_unit S s a _ w ha hs hS rfl hbl _ rfl (kAd.2 h2) (kAd.2 h4) (kAd.2 h5)
 ·have he:zAv s a=s.size:=kCT
  have hT:zB6 s (zAv s a)=(⟨-1,⟨#[]⟩,zAv s a⟩,zAv s a):=by unfold zB6;rw[dif_neg hbl]
  rw[kA8 hbl,hT,he];exact next_end S s a w ha hs hS he
def zBZ:Nat→ByteArray→Nat→List S47
 | 0,_,_=>[]
 | n+1,s,a=>if zAv s a<s.size then (if (zB6 s (zAv s a)).1.f0=-1 then [(zB6 s (zAv s a)).1] else (zB6 s (zAv s a)).1 :: zBZ n s (zB6 s (zAv s a)).2) else []
theorem runLen_pos {ks:List Int} {s:ByteArray} {b:Nat} (h:b<s.size) (hk:ks.contains (srt (s[b]'h).toNat)=true):1≤zBb ks (zAz s b):=by
 unfold zAz zBb;rw[kAr (show b<s.data.toList.length from h),kBc];have:okC ks (s.data.toList[b]'(show b<s.data.toList.length from h))=true:=hk;rw[kAa this,List.length_cons];omega
theorem zDI (s:ByteArray) (b:Nat) (h:b<s.size) (hk:(zB6 s b).1.f0≠-1):b<(zB6 s b).2∧(zB6 s b).2≤s.size:=by
 unfold zB6 at hk⊢;rw[kCI h] at hk⊢;split
 ·rename_i h2;have h1:=runLen_pos (ks:=[2,3,4]) h (by rw[h2];rfl);have h3:=run_le [2,3,4] s b kCT;unfold zBo;exact⟨kCT,h3⟩
 ·split
  ·rename_i h4;have h1:=runLen_pos (ks:=[4]) h (by rw[h4];rfl);have h3:=run_le [4] s b kCT;unfold zC4;exact⟨kCT,h3⟩
  ·split
   ·exact⟨kDf,h⟩
   ·split
    ·rename_i h6;unfold zBc at h6⊢;exact⟨kDf,kDf⟩
    ·rename_i h2 h4 h5 h6;rw[kA9 h2,kA9 h4,kA9 h5,kA9 h6] at hk;exact absurd rfl hk
theorem zEB {p:Prop} (h:Fence.wide.depth.isSome=true):p:=by simp[Fence.wide] at h
theorem tokens1_in (n l:Nat) (box:Addr) (s:ByteArray) (hs:s.size≤2147483648) (J Jx:List S47→World→Prop) (W:World) (hbox:W.cell? box=some (.string s))
  (hJ:∀pre A B,J pre A→A.grownBy B (some W.heap.size)→J pre B) (hJx:∀pre A B,Jx pre A→A.grownBy B (some W.heap.size)→Jx pre B)
  (hY:∀pre t A,J pre A→(∃rest,zBZ (s.size+1) s 0=pre++t :: rest)→W.heap.size<A.heap.size →
   YieldAt Fence.wide (n-1) Tryz.prog l #[tokV t] (A.alloc (.cells #[.int .i64 t.f0,.string t.f1,.int .i64 t.f2] 47)) fun e B =>
    (e=.returned (.bool true)∧J (pre++[t]) B∧B.heap[W.heap.size]?=A.heap[W.heap.size]?∧B.heap[A.heap.size]?=some (.cells #[.int .i64 t.f0,.string t.f1,.int .i64 t.f2] 47 (0,0))) ∨
    (e=.returned (.bool false)∧Jx (pre++[t]) B))
  (h0:J [] W) :
  CallsIn Fence.wide n Tryz.prog 87 #[.func (.yield l) #[] #[],.pointer (some box)] W fun e W'=>e=.returned (.tuple #[])∧(J (zBZ (s.size+1) s 0) W'∨∃pre rest,zBZ (s.size+1) s 0=pre++rest∧Jx pre W'):=by
 have H0:=kA1 h0;clear h0;have hD:Fence.wide.depth.isSome=false:=rfl;have hF88:Fence.wide.fn 88:=trivial;unfold tokV at hY;have HJJ:=kA1 hJ;have HJX:=kA1 hJx;have HY:=kA1 hY;clear hJ hJx hY;refine kCu Tryz.func87 rfl trivial ?_ rfl;simp only[Tryz.ntmps87,kAc,List.length_cons,List.length_nil,Nat.reduceAdd,Nat.reduceSub,kAY,Array.replicate_zero,kBj,kAP,List.nil_append,List.cons_append]
 gi_wp2
 have hS0:Scan (W.alloc (.cells #[.string s,.int .i64 0] 129)) W.heap.size s 0:=zA4 W _;have HS0:=kA1 hS0;clear hS0
 gi_loopg [] (s.size+1) (fun k wr=>∃pre a,s.size-a+1≤k∧a≤s.size∧Scan wr W.heap.size s a∧Hid (J pre wr)∧Hid (zBZ (s.size+1) s 0=pre++zBZ k s a))
 case atStart=>exact⟨[],0,kCT,kCT,HS0.out,HJJ.out _ _ _ H0.out (kAC _ _ _),rfl⟩
 case round =>
  obtain⟨pre,a,hka,ha,hsc,HJ,Hf⟩:=hrel;have hnext:=(kBl (n:=n-1)).2 (next_any W.heap.size s a wr ha hs hsc)
  cases gk with
  | zero=>omega
  | succ m =>
   by_cases hb:zAv s a<s.size
   ·obtain⟨t,ht⟩:∃t,t=(zB6 s (zAv s a)).1:=⟨_,rfl⟩;obtain⟨a',ha'⟩:∃a',a'=(zB6 s (zAv s a)).2:=⟨_,rfl⟩;have Hun:Hid (zBZ (m+1) s a=if t.f0=-1 then [t] else t :: zBZ m s a'):=by
     show zBZ (m+1) s a=_;rw[zBZ,kAa hb,← ht,← ha']
    have hmore:=zDI s (zAv s a) hb;rw[← ht,← ha'] at hmore;rw[← ht,← ha',kA7 hb] at hnext;have Hmore:=kA1 hmore;have hba:a≤zAv s a:=by unfold zAv;omega
    have Hba:=kA1 hba;clear ht ha' hmore hba;unfold tokV at hnext
    gi_wp2_with (gi_at_call 88;refine hnext.mono ?_;rintro e w1 ⟨rfl,hg,hsc1⟩)
    have HJ1:=kA1 (HJJ.out pre wr w1 HJ.out hg);have hlt1:W.heap.size<w1.heap.size:=zA5 hsc1;have Hfull:Hid (∃rest,zBZ (s.size+1) s 0=pre++t :: rest):=by
     have h1:=Hf.out;rw[Hun.out] at h1;by_cases ht:t.f0=-1
     ·rw[kAa ht] at h1;exact⟨_,h1⟩
     ·rw[kA9 ht] at h1;exact⟨_,h1⟩
    have hsplit:(t.f0=-1∧(t.f0 == -1)=true)∨(t.f0≠-1∧(t.f0 == -1)=false):=by
     by_cases ht:t.f0=-1
     ·exact .inl ⟨ht,by rw[kAx];exact ht⟩
     ·exact .inr ⟨ht,by rw[kAd];exact ht⟩
    obtain⟨fn,tmps,assign,body,hy,hR⟩:=HY.out pre t w1 HJ1.out Hfull.out hlt1;have hsc2:=kA1 hsc1;clear hsc hsc1;rw[hy]
    gi_wp2
    refine hR.mono ?_;rintro e W3 (⟨rfl,hJ3,hkS,hkT⟩ | ⟨rfl,hJx3⟩)
    ·have HJ3:=kA1 hJ3;have hsc3:Scan W3 W.heap.size s a':=by
      show W3.heap[W.heap.size]?=_;rw[hkS];exact hsc2.out
     have hT0:=zA1 hkT 0;have HT:=kA1 hkT;clear hy hR hJ3 hkS hkT;rcases hsplit with⟨hb1,hb2⟩ | ⟨hb1,hb2⟩
     ·have Hres:Hid (zBZ (s.size+1) s 0=pre++[t]):=by
       show _=_;rw[Hf.out,Hun.out,kAa hb1]
      clear hb1
      gi_wp2
      refine kAi (kB0 rfl _ _ _) rfl ⟨rfl,.inl ?_⟩;rw[Hres.out];exact HJ3.out
     ·have Hres:Hid (zBZ (s.size+1) s 0=(pre++[t])++zBZ m s a'):=by
       show _=_;rw[Hf.out,Hun.out,kA9 hb1,kAV];rfl
      have hm:=Hmore.out hb1;clear hb1
      gi_wp2
      gi_roundg m
      case measure=>omega
      case rel=>exact⟨pre++[t],a',by have:=Hba.out;omega,kCT,hsc3,HJ3,Hres⟩
    ·have HJ3:=kA1 hJx3;clear hy hR hJx3
     gi_wp2
     obtain⟨rest,hrest⟩:=Hfull.out;refine kAi (kB0 rfl _ _ _) rfl ⟨rfl,.inr ⟨pre++[t],rest,?_,HJ3.out⟩⟩;rw[hrest,kAV];rfl
   ·have Hres:Hid (zBZ (s.size+1) s 0=pre):=by
     show _=_;rw[Hf.out,zBZ,kA9 hb,kCg]
    rw[kA8 hb] at hnext;unfold tokV at hnext
    gi_wp2_with (gi_at_call 88;refine hnext.mono ?_;rintro e w1 ⟨rfl,hg,hsc1⟩)
    refine⟨fun f hf=>(by cases hf),?_⟩
    gi_wp2
    refine kAi (kB0 rfl _ _ _) rfl ⟨rfl,.inl ?_⟩;rw[Hres.out];exact HJJ.out _ _ _ (HJJ.out pre wr w1 HJ.out hg) (kAC _ _ _)
def tokO (t:S47):Obj:=.cells #[.int .i64 t.f0,.string t.f1,.int .i64 t.f2] 47
def zA8 (s:ByteArray):List S47:=zBZ (s.size+1) s 0
def tokPost (S T:Nat) (I Ix:List S47→World→Prop) (xs:List S47) (W:World):Exit→Act→World→Prop
 | .normal,_,W'=>KeepsOthers W W'∧I xs W'∧W'.heap[S]?=W.heap[S]?∧W'.heap[T]?=W.heap[T]?
 | .ret,_,W'=>KeepsOthers W W'∧Ix xs W'
 | _,_,_=>False
theorem zAt (W:World) (l:Nat) (o:Obj):W.grownBy (W.putObj l o) (some l) :=
 ⟨rfl,rfl,rfl,kCV,fun k _ hk=>kAp (fun e=>hk (by rw[e]))⟩
theorem zCp (w:World) (o o':Obj) (row:Option Nat):w.grownBy ((w.alloc o).alloc o') row:=kCc (kAC w o row) o'
theorem zDr {n:Nat} {g:Operand} {p:Tmp} {assign body:Code} {Q:Exit→Act→World→Prop} {a:Act} {w:World} {box:Addr} {s:ByteArray} (tm:S47→Nat→Array Value)
  (hg:a.eval g=.func (.func 87) #[] #[.pointer (some box)]) (hs:s.size≤2147483648) (hbox:w.cell? box=some (.string s))
  (I Ix:List S47→World→Prop)
  (hI:∀pre A B k,I pre A→(k=w.heap.size+1∨k=w.heap.size+2)→A.grownBy B (some k)→I pre B)
  (hIx:∀pre A B k,Ix pre A→(k=w.heap.size+1∨k=w.heap.size+2)→A.grownBy B (some k)→Ix pre B) (h0:I [] w)
  (hassign:∀(l:Nat) (t:S47) (A:World) (K:Act→World→Prop),K { tmps:=tm t A.heap.size,defers:=[] } (A.alloc (tokO t)) →
   assign.wpIn (Fence.wide.inRound l) (n-1-1) Tryz.prog (Exit.then K (fun _ _ _=>False)) { tmps:=a.tmps.setIfInBounds p (tokV t),defers:=[] } A)
  (hbody:∀(pre:List S47) (t:S47) (A W0:World),I pre A→(∃rest,zA8 s=pre++t :: rest)→w.heap.size+2<A.heap.size →
   ((A.alloc (tokO t)).alloc (tokO t)).grownBy W0 (some (w.heap.size+1))→W0.heap.size=A.heap.size+2 →
   body.wpIn (Fence.wide.inRound (w.heap.size+1)) (n-1-1) Tryz.prog (tokPost (w.heap.size+2) A.heap.size I Ix (pre++[t]) W0) { tmps:=tm t (A.heap.size+1),defers:=[] } W0)
  (hdone:∀(W:World),I (zA8 s) W→W.heap[w.heap.size]?=some (.deferred (some []))→Q .normal { a with defers:={ target:=.collected w.heap.size,args:=#[] } :: a.defers } W)
  (hstop:∀(pre rest:List S47) (W:World),zA8 s=pre++rest→Ix pre W→W.heap[w.heap.size]?=some (.deferred (some [])) →
   Code.ret.wpIn Fence.wide n Tryz.prog Q { a with defers:={ target:=.collected w.heap.size,args:=#[] } :: a.defers } W) :
  (Code.rangeFunc g #[p] assign body).wpIn Fence.wide n Tryz.prog Q a w:=by
 refine wpIn_rangeFunc ?_;intro fn _;obtain⟨rec,hrec⟩:∃rec:LoopState→Option Code→Loop,rec=fun st pe=>{ state:=st,pending:=pe,fn,tmps:=a.tmps,params:=#[p],assign,body,defers:=w.heap.size }:=⟨_,rfl⟩
 obtain⟨W1,hW1⟩:∃W1,(w.alloc (.deferred (some []))).alloc (.loop (rec .ready none))=W1:=⟨_,rfl⟩;have hsz1:W1.heap.size=w.heap.size+2:=by rw[← hW1];simp
 have hL1:W1.heap[w.heap.size+1]?=some (.loop (rec .ready none)):=by
  rw[← hW1];have:=kBL (w.alloc (.deferred (some []))) (.loop (rec .ready none));rwa [kAz] at this
 have hK1:W1.heap[w.heap.size]?=some (.deferred (some [])):=by
  rw[← hW1];exact (kA4 _ _ _ kCV).trans (kBL w _)
 have hI1:I [] W1:=by rw[← hW1];exact hI _ _ _ _ h0 (.inl rfl) (zCp _ _ _ _)
 have hbx:box.block<w.heap.size:=kAE w box hbox;have hb1:W1.cell? box=some (.string s):=by
  rw[← hW1];have hb:Below w.heap.size w ((w.alloc (.deferred (some []))).alloc (.loop (rec .ready none))):=((kA3 _ w).alloc (kA2 _) _).alloc kCV _;exact (hb.cell hbx).trans hbox
 refine⟨w.heap.size+1,[{ target:=.collected w.heap.size,args:=#[] }],W1,{ target:=.fn (.func 87) #[.pointer (some box)],args:=#[.func (.yield (w.heap.size+1)) #[] #[]] },W1,87,
  #[.func (.yield (w.heap.size+1)) #[] #[],.pointer (some box)],W1,?_,?_,?_,?_,zEB,?_⟩
 ·rw[← hW1,hrec];exact run_enterLoop_outer _ _ _ _ _
 ·simp only[resolve,hg];simp[go_sem]
 ·intro f' _;trivial
 ·simp only[invoke];simp[go_sem]
 ·have hS:∀B:World,w.heap.size+2<B.heap.size→w.heap.size+2<B.heap.size:=fun _ h=>h
  refine (tokens1_in (n-1) (w.heap.size+1) box s hs
   (fun pre W=>I pre W∧W.heap[w.heap.size+1]?=some (.loop (rec .ready none))∧W.heap[w.heap.size]?=some (.deferred (some [])))
   (fun pre W=>Ix pre W∧W.heap[w.heap.size+1]?=some (.loop (rec .done (some .ret)))∧W.heap[w.heap.size]?=some (.deferred (some [])))
   W1 hb1 ?_ ?_ ?_ ⟨hI1,hL1,hK1⟩).mono ?_
  ·rintro pre A B⟨hi,hl,hk⟩ hgr;rw[hsz1] at hgr;have hlA:=zA5 hl;exact⟨hI _ _ _ _ hi (.inr rfl) hgr,(hgr.block _ hlA kCZ).trans hl,(hgr.block _ kCT kCZ).trans hk⟩
  ·rintro pre A B⟨hi,hl,hk⟩ hgr;rw[hsz1] at hgr;have hlA:=zA5 hl;exact⟨hIx _ _ _ _ hi (.inr rfl) hgr,(hgr.block _ hlA kCZ).trans hl,(hgr.block _ kCT kCZ).trans hk⟩
  ·-- one round
   rintro pre t A⟨hi,hl,hk⟩ hrest hAS;rw[hsz1] at hAS⊢;have hlA:=zA5 hl;have hl0:(A.alloc (tokO t)).heap[w.heap.size+1]?=some (.loop (rec .ready none)):=(kA4 _ _ _ hlA).trans hl;have hy:=run_yield (P:=Tryz.prog) (args:=#[tokV t]) hl0 (by rw[hrec];rfl);rw[hrec] at hy;refine⟨fn,_,assign,body,hy,roundIn_of_wpIn trivial ?_⟩;have hzip:(#[p].zip #[tokV t]).foldl (fun tmps (x:Tmp×Value)=>tmps.setIfInBounds x.1 x.2) a.tmps=a.tmps.setIfInBounds p (tokV t):=kCV
   show assign.wpIn _ _ _ _ { tmps:=(#[p].zip #[tokV t]).foldl (fun tmps (x:Tmp×Value)=>tmps.setIfInBounds x.1 x.2) a.tmps,defers:=[] } _;rw[hzip];refine hassign _ t _ _ ?_;have hl1:((A.alloc (tokO t)).alloc (tokO t)).heap[w.heap.size+1]?=some (.loop (rec .ready none)):=(kA4 _ _ _ kCX).trans hl0;refine⟨_,run_beginRound hl1 (by rw[hrec]),?_⟩;obtain⟨W0,hW0⟩:∃W0,W0=((A.alloc (tokO t)).alloc (tokO t)).putObj (w.heap.size+1) (.loop { rec .ready none with state:=.busy }):=⟨_,rfl⟩;show Code.wpIn _ _ _ body _ _ (((A.alloc (tokO t)).alloc (tokO t)).putObj (w.heap.size+1) (.loop { rec .ready none with state:=.busy }));rw[← hW0];have hgr0:((A.alloc (tokO t)).alloc (tokO t)).grownBy W0 (some (w.heap.size+1)):=by rw[hW0];exact zAt _ _ _
   have hz0:W0.heap.size=A.heap.size+2:=by rw[hW0];simp
   have hl2:W0.heap[w.heap.size+1]?=some (.loop { rec .ready none with state:=.busy }):=by rw[hW0];exact kBg kCX
   have hk2:W0.heap[w.heap.size]?=some (.deferred (some [])):=(hgr0.block _ kCX kCZ).trans ((kA4 _ _ _ kCX).trans ((kA4 _ _ _ kCT).trans hk));have hT2:W0.heap[A.heap.size]?=some (tokO t):=(hgr0.block _ kCX kCZ).trans ((kA4 _ _ _ kCV).trans (zA4 A _));have hS2:W0.heap[w.heap.size+2]?=A.heap[w.heap.size+2]?:=(hgr0.block _ kCX kCZ).trans ((kA4 _ _ _ kCX).trans (kA4 _ _ _ kCT));have hz:(A.alloc (tokO t)).heap.size=A.heap.size+1:=kCV
   show Code.wpIn _ _ _ body _ { tmps:=tm t (A.alloc (tokO t)).heap.size,defers:=[] } _;rw[hz];refine wpIn_mono (hbody pre t A W0 hi hrest hAS hgr0 hz0) ?_;rintro e a3 W3 hp
   cases e with
   | normal =>
    obtain⟨hk3,hi3,hS3,hT3⟩:=hp;have hl3:=hk3.same _ _ hl2 rfl;have hd3:=hk3.same _ _ hk2 rfl;have hr:=run_endRound (P:=Tryz.prog) none hl3;rw[hrec] at hr hl3;refine⟨_,_,hr,.inl ⟨rfl,⟨hI _ _ _ _ hi3 (.inl rfl) (zAt _ _ _),?_,(kAp kCT).trans hd3⟩,(kAp kCT).trans (hS3.trans hS2),(kAp kCT).trans (hT3.trans hT2)⟩⟩;rw[hrec];exact kBg (zA5 hl3)
   | ret =>
    obtain⟨hk3,hi3⟩:=hp;have hl3:=hk3.same _ _ hl2 rfl;have hd3:=hk3.same _ _ hk2 rfl;have hr:=run_endRound (P:=Tryz.prog) (some .ret) hl3;rw[hrec] at hr hl3;refine⟨_,_,hr,.inr ⟨rfl,hIx _ _ _ _ hi3 (.inl rfl) (zAt _ _ _),?_,(kAp kCT).trans hd3⟩⟩;rw[hrec];exact kBg (zA5 hl3)
   | exit id=>exact hp.elim
   | goto t=>exact hp.elim
   | panic ch=>exact hp.elim
   | outgrown=>exact hp.elim
  ·rintro e W2⟨rfl,(⟨hi,hl,hk⟩ |⟨pre,rest,hpr,hi,hl,hk⟩)⟩
   ·have he:=run_endLoop (P:=Tryz.prog) hl kDv;rw[hrec] at he;exact⟨none,_,he,hdone _ (hI _ _ _ _ hi (.inl rfl) (zAt _ _ _)) ((kAp kCT).trans hk)⟩
   ·have he:=run_endLoop (P:=Tryz.prog) hl kDv;rw[hrec] at he;exact⟨some .ret,_,he,hstop pre rest _ hpr (hIx _ _ _ _ hi (.inl rfl) (zAt _ _ _)) ((kAp kCT).trans hk)⟩
theorem tokens_in (n:Nat) (s:ByteArray) (w:World):CallsIn Fence.wide n Tryz.prog 53 #[.string s] w fun e w'=>e=.returned (.func (.func 87) #[] #[.pointer (some ⟨w.heap.size,0,none⟩)])∧w'=w.alloc (.cells #[.string s] 9):=by
 refine kCu Tryz.func53 rfl trivial ?_ rfl;simp only[Tryz.ntmps53,kAc,List.length_cons,List.length_nil,Nat.reduceAdd,Nat.reduceSub,kAY,Array.replicate_zero,kBj,kAP,List.nil_append,List.cons_append]
 gi_wp2
 go_ret;exact⟨rfl,rfl⟩
section
attribute [local go_sem] Oper.semAt_some
def tokC (t:S47):List Value:=[.int .i64 t.f0,.string t.f1,.int .i64 t.f2]
def flat (ts:List S47):List Value:=ts.flatMap tokC
theorem zFV (ts:List S47) (t:S47):flat (ts++[t])=flat ts++tokC t:=by simp[flat]
theorem zDs (n:Nat) (s:ByteArray):∀a,(zBZ n s a).length≤n:=by
 induction n with
 | zero=>intro a;exact kA2 _
 | succ n ih =>
  intro a;rw[zBZ];split
  ·split
   ·simp
   ·rw[List.length_cons];have:=ih (zB6 s (zAv s a)).2;omega
  ·simp
def zAJ (W:World) (base:Nat) (v:Value) (ts:List S47):Prop:=W.ownsRow base 47 3 v ts.length (flat ts)
theorem zAJ.kept {W W':World} {base:Nat} {v:Value} {ts:List S47} (h:zAJ W base v ts) {k:Nat} (hk:k<base) (hg:W.grownBy W' (some k)):zAJ W' base v ts:=by
 refine World.ownsRow.kept h hg ?_
 cases hv:v.ownBlock with
 | none=>exact .inl rfl
 | some b=>refine .inr (fun e=>?_);injection e with e;have:=(kBo h b hv).1;omega
theorem results133 {tmps:Array Value} {W:World} {R:Nat} {cs:Array Value} (h2:tmps.getD 2 undef=.pointer (some ⟨R,0,none⟩)) (hs:cs.size=3) (hR:W.heap[R]?=some (.cells cs 93 (0,0))) :
  (results Tryz.f133 tmps).run Tryz.prog W=.ok (.agg cs) W:=by
 have hp':tmps[2]?.getD undef=.pointer (some ⟨R,0,none⟩):=by simpa using h2
 have hi:(Tryz.prog.info? 93).map (·.size)=some cs.size:=by rw[hs];kernel_rfl
 simp[results,Tryz.results133,hp',asAddr,kC1 W R 93 93 cs (0,0) _ hR Tryz.underlying93 rfl hi]
theorem newQueue_in (n:Nat) (s:ByteArray) (hs:s.size≤2000) (w:World):CallsIn Fence.wide n Tryz.prog 133 #[.string s] w fun e w' =>
  ∃v,e=.returned (.agg #[v,.int .i64 0,.int .i64 s.size])∧zAJ w' w.heap.size v (zA8 s)∧Below w.heap.size w w':=by
 have hD:Fence.wide.depth.isSome=false:=rfl;have hF53:Fence.wide.fn 53:=trivial;refine kCp Tryz.func133 rfl trivial ?_ rfl;simp only[Tryz.ntmps133,kAc,List.length_cons,List.length_nil,Nat.reduceAdd,Nat.reduceSub,kAY,Array.replicate_zero,kBj,kAP,List.nil_append,List.cons_append]
 gi_wp2_with (gi_at_call 53;refine (tokens_in (n-1) s _).mono ?_;rintro e w' ⟨rfl,rfl⟩)
 obtain⟨W,hW⟩:∃W,W=(((w.alloc (Obj.cells #[Value.slice none 0 0,Value.int IntKind.i64 0,Value.int IntKind.i64 0] 93)).alloc (Obj.cells #[Value.slice none 0 0,Value.int IntKind.i64 0,Value.int IntKind.i64 s.size] 93)).alloc (Obj.cells #[Value.string s] 9)):=⟨_,rfl⟩;have hz:W.heap.size=w.heap.size+3:=by rw[hW];simp
 have hbW:Below w.heap.size w W:=by rw[hW];exact (((kA3 _ w).alloc (kA2 _) _).alloc kCV _).alloc kCX _
 have hR:W.heap[w.heap.size]?=some (.cells #[.slice none 0 0,.int .i64 0,.int .i64 0] 93 (0,0)):=by
  rw[hW];exact (kA4 _ _ _ kCX).trans ((kA4 _ _ _ kCV).trans (zA4 w _))
 have hQ:W.heap[w.heap.size+1]?=some (.cells #[.slice none 0 0,.int .i64 0,.int .i64 s.size] 93 (0,0)):=by
  rw[hW];have:=zA4 (w.alloc (Obj.cells #[Value.slice none 0 0,Value.int IntKind.i64 0,Value.int IntKind.i64 0] 93)) (Obj.cells #[Value.slice none 0 0,Value.int IntKind.i64 0,Value.int IntKind.i64 s.size] 93);rw[kAz] at this;exact (kA4 _ _ _ kCV).trans this
 have hB:W.heap[w.heap.size+2]?=some (.cells #[.string s] 9 (0,0)):=by
  rw[hW];have:=zA4 ((w.alloc (Obj.cells #[Value.slice none 0 0,Value.int IntKind.i64 0,Value.int IntKind.i64 0] 93)).alloc (Obj.cells #[Value.slice none 0 0,Value.int IntKind.i64 0,Value.int IntKind.i64 s.size] 93)) (Obj.cells #[Value.string s] 9);rw[kAz,kAz] at this;exact this
 rw[← hW];clear hW;refine zDr (box:=⟨w.heap.size+2,0,none⟩) (s:=s)
  (fun t U=>#[Value.string s,undef,Value.pointer (some ⟨w.heap.size,0,none⟩),Value.pointer (some ⟨w.heap.size+1,0,none⟩),Value.pointer (some ⟨U,0,none⟩),Value.string s,Value.int IntKind.i64 s.size,
     Value.agg #[Value.slice none 0 0,Value.int IntKind.i64 0,Value.int IntKind.i64 s.size],Value.string s,Value.func (Fn.func 87) #[] #[Value.pointer (some ⟨w.heap.size+1+1,0,none⟩)],tokV t,undef,undef,undef,undef,undef,undef,undef])
  rfl kCT (zA1 hB 0)
  (fun pre X=>∃v,zAJ X (W.heap.size+3) v pre∧X.heap[w.heap.size+1]?=some (.cells #[v,.int .i64 0,.int .i64 s.size] 93 (0,0))∧X.heap[w.heap.size]?=some (.cells #[.slice none 0 0,.int .i64 0,.int .i64 0] 93 (0,0))∧Below w.heap.size w X)
  (fun _ _=>False) ?hI (fun _ _ _ _ h _ _=>h) ⟨_,kCh _ _ _ _,hQ,hR,hbW⟩ ?assign ?body ?done (fun _ _ _ _ h _=>h.elim)
 case hI =>
  rintro pre A B k⟨v,ho,hq,hr,hb⟩ hk hg;exact⟨v,ho.kept kCT hg,(hg.block _ (zA5 hq) kCZ).trans hq,(hg.block _ (zA5 hr) kCZ).trans hr,hb.grown hg hb.size (fun j e=>by injection e with e;omega)⟩
 case assign =>
  intro l t A K hK;unfold tokV at hK⊢;unfold tokO at hK
  gi_wp2
  exact hK
 case body =>
  rintro pre t A W0⟨v,ho,hq,hr,hb⟩ hrest hlt hg hz0;unfold tokV;have hq0:W0.heap[w.heap.size+1]?=some (.cells #[v,.int .i64 0,.int .i64 s.size] 93 (0,0)) :=
   (hg.block _ (by simp;have:=zA5 hq;omega) kCZ).trans ((kA4 _ _ _ (by simp;have:=zA5 hq;omega)).trans ((kA4 _ _ _ (zA5 hq)).trans hq))
  have hU:W0.heap[A.heap.size+1]?=some (tokO t):=by
   have:=zA4 (A.alloc (tokO t)) (tokO t);rw[kAz] at this;exact (hg.block _ kCV kCZ).trans this
  have q0:=zA1 hq0 0;have q1:=zA2 hq0 0;have u0:=zA1 hU 0;have u1:=zA1 hU 1;have u2:=zA1 hU 2;obtain⟨i0,hi,iz0,iz1,iz2⟩:=info_parts info47;have HO:(W0.alloc (tokO t)).ownsRow (W.heap.size+3) 47 3 v pre.length (flat pre) :=
   zAJ.kept (k:=W.heap.size+1) (zAJ.kept (k:=W.heap.size+1) ho kCT (kA6 (zCp A (tokO t) (tokO t) _) hg)) kCT (kAC _ _ _)
  have HN:(W0.alloc (tokO t)).heap[A.heap.size+2]?=some (.cells (tokC t).toArray 47 (0,0)):=by
   have:=zA4 W0 (tokO t);rw[hz0] at this;exact this
  have HC:∀j u,(tokC t)[j]?=some u→(W0.alloc (tokO t)).cell? ((⟨A.heap.size+2,0,none⟩:Addr).add j)=some u:=by simpa using kBP HN
  have hlen:pre.length≤s.size:=by
   obtain⟨rest,hrest⟩:=hrest;have h1:=zDs (s.size+1) s 0;unfold zA8 at hrest;rw[hrest,kAv,List.length_cons] at h1;omega
  have hzc:(Value.agg #[.int .i64 0,.string ⟨#[]⟩,.int .i64 0]).cells.size=3:=rfl;have hone:∀u∈tokC t,u.oneCell'=true:=by simp[tokC,Value.oneCell']
  have hb1:pre.length+1≤maxLen:=kDb
  have hb2:(pre.length+1)*32≤140737488355328:=kCT
  have hb3:W.heap.size+3≤(W0.alloc (tokO t)).heap.size:=kDl
  have hqlt:w.heap.size+1<(W0.alloc (tokO t)).heap.size:=kDl
  have hqa:(W0.alloc (tokO t)).heap[w.heap.size+1]?=some (.cells #[v,.int .i64 0,.int .i64 s.size] 93 (0,0)):=(kA4 _ _ _ kCT).trans hq0;have hqne:some (w.heap.size+1)≠v.ownBlock:=fun e=>by have:=(kBo HO _ e.symm).1;omega
  have hne:∀k,(k<W.heap.size+3∨A.heap.size≤k)→some k≠v.ownBlock:=fun k hk e=>by have:=kBo ho _ e.symm;omega
  have H1:=kA1 HO;have H2:=kA1 HC;have HQ:=kA1 hq;have HQ0:=kA1 hq0;have HU:=kA1 hU;clear hq hq0 hU HO HC HN hrest
  gi_wp2_with (gi_at_builtin;go_loud (refine kC4 _ rfl _ _ 35 rfl (W.heap.size+3) 47 i0 (.agg #[.int .i64 0,.string ⟨#[]⟩,.int .i64 0]) 3 32 Tryz.underlying35 hi iz0 iz1 iz2 hzc (kCn 2) v pre.length (flat pre) rfl H1.out ⟨A.heap.size+2,0,none⟩ 1 1 (tokC t) rfl rfl H2.out hone hb1 hb2 hb3 ?_);intro v' w1 hown' hgrow _;obtain⟨Av,cv,rfl⟩:=zC3 hown';have hq1:=(hgrow.block (w.heap.size+1) hqlt hqne).trans hqa;have c1:=zA1 hq1 0;have c2:=zA2 hq1 0;have HW:=kA1 hown';clear hown')
  have hQne:w.heap.size+1<W.heap.size+3:=kCT
  refine⟨?_,⟨.slice Av (pre.length+1) cv,?_,?_,?_,?_⟩,?_,?_⟩
  ·exact ((kCz W0 (tokO t)).trans (kCb hgrow (fun j o hj ho=>by
    obtain⟨cells,hc⟩:=zD6 H1.out j hj;rw[hc] at ho;cases ho;rfl))).trans (kBA _ _ _)
  ·exact zAJ.kept (ts:=pre++[t]) (k:=w.heap.size+1) (by unfold zAJ;rw[kAv,zFV];exact HW.out) hQne (kAf _ _ _ _)
  ·exact zA7 hq1 0 _
  ·exact (kA5 _ _ _ _ kCV).trans ((hgrow.block _ kDl (hne _ (.inl kCT))).trans ((kA4 _ _ _ kCT).trans ((hg.block _ kCX kCZ).trans ((kA4 _ _ _ kCX).trans ((kA4 _ _ _ kCT).trans hr)))))
  ·have h1:=((hb.alloc kCT (tokO t)).alloc kCX (tokO t)).grown hg kCX (fun k e=>by injection e with e;omega);exact ((h1.alloc kCT (tokO t)).grown hgrow kCX (fun k e=>by have:=(kBo H1.out k e).1;omega)).setCell (p:=⟨w.heap.size+1,0,none⟩) kCV _
  ·exact (kA5 _ _ _ _ kCX).trans ((hgrow.block _ kDl (hne _ (.inl kCT))).trans (kA4 _ _ _ kCT))
  ·exact (kA5 _ _ _ _ kCX).trans ((hgrow.block _ kDl (hne _ (.inr (kA2 _)))).trans (kA4 _ _ _ kCT))
 case done =>
  rintro X⟨v,ho,hq,hr,hb⟩ hdef;obtain⟨Av,cv,rfl⟩:=zC3 ho;have q0:=zA1 hq 0;have q1:=zA1 hq 1;have q2:=zA1 hq 2;have r0:=zA1 hr 0;have r1:=zA1 hr 1;have r2:=zA1 hr 2;have f0:=zA2 hr 0;have f1:=zA2 hr 1;have f2:=zA2 hr 2;have HQ:=kA1 hq;have HR:=kA1 hr;clear hq hr
  gi_wp2
  have hX:((((X.setCell ⟨w.heap.size,0,none⟩ (.slice Av (zA8 s).length cv)).setCell ⟨w.heap.size,1,none⟩ (.int .i64 0)).setCell ⟨w.heap.size,2,none⟩ (.int .i64 s.size))).heap[w.heap.size]?=some (.cells #[.slice Av (zA8 s).length cv,.int .i64 0,.int .i64 s.size] 93 (0,0)):=zA7 (zA7 (zA7 HR.out 0 _) 1 _) 2 _;have hd:((((X.setCell ⟨w.heap.size,0,none⟩ (.slice Av (zA8 s).length cv)).setCell ⟨w.heap.size,1,none⟩ (.int .i64 0)).setCell ⟨w.heap.size,2,none⟩ (.int .i64 s.size))).heap[W.heap.size]?=some (.deferred (some [])) :=
   (kA5 _ _ _ _ kCX).trans ((kA5 _ _ _ _ kCX).trans ((kA5 _ _ _ _ kCX).trans hdef))
  have hbb:Below w.heap.size w ((((X.setCell ⟨w.heap.size,0,none⟩ (.slice Av (zA8 s).length cv)).setCell ⟨w.heap.size,1,none⟩ (.int .i64 0)).setCell ⟨w.heap.size,2,none⟩ (.int .i64 s.size))) :=
   ((hb.setCell (p:=⟨w.heap.size,0,none⟩) (kA2 _) _).setCell (p:=⟨w.heap.size,1,none⟩) (kA2 _) _).setCell (p:=⟨w.heap.size,2,none⟩) (kA2 _) _
  have hoo:zAJ ((((X.setCell ⟨w.heap.size,0,none⟩ (.slice Av (zA8 s).length cv)).setCell ⟨w.heap.size,1,none⟩ (.int .i64 0)).setCell ⟨w.heap.size,2,none⟩ (.int .i64 s.size))) (W.heap.size+3) (.slice Av (zA8 s).length cv) (zA8 s) :=
   zAJ.kept (k:=w.heap.size) (zAJ.kept (k:=w.heap.size) (zAJ.kept (k:=w.heap.size) ho kCT (kAf _ _ _ _)) kCT (kAf _ _ _ _)) kCT (kAf _ _ _ _)
  generalize ((((X.setCell ⟨w.heap.size,0,none⟩ (.slice Av (zA8 s).length cv)).setCell ⟨w.heap.size,1,none⟩ (.int .i64 0)).setCell ⟨w.heap.size,2,none⟩ (.int .i64 s.size)))=X' at *;refine⟨kCV,.inl ⟨_,_,rfl,kC8 hd,?_⟩⟩;refine⟨_,results133 rfl rfl ((kAp kCT).trans hX),_,rfl,?_,?_⟩
  ·exact zDK (zAJ.kept (k:=W.heap.size) hoo kCT (zAt _ _ _)) kCT
  ·exact hbb.grown (zAt _ _ _) (by have:=hbb.size;exact this) (fun k e=>by injection e with e;omega)
end
end Go.Proofs.YtjaobihcdkjmbaaGreatDoor
end
