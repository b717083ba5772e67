/- The law ReadPlace answers true for every argument; a part of its proof. -/
import Derived.Test.YtjaobihcdkjmbaaGreatDoorCa
import Derived.Test.YtjaobihcdkjmbaaGreatDoorCb
import Derived.Test.YtjaobihcdkjmbaaGreatDoorC0
import Derived.Test.YtjaobihcdkjmbaaGreatDoorC7
import Derived.Test.YtjaobihcdkjmbaaGreatDoorC8
set_option linter.unusedVariables false
set_option linter.unusedSimpArgs false
namespace Go.Proofs.YtjaobihcdkjmbaaGreatDoor.PReadTokens
end Go.Proofs.YtjaobihcdkjmbaaGreatDoor.PReadTokens
namespace Go.Proofs.YtjaobihcdkjmbaaGreatDoorW.PrintWords
end Go.Proofs.YtjaobihcdkjmbaaGreatDoorW.PrintWords
set_option maxRecDepth 100000
set_option maxHeartbeats 4000000
section
namespace Go.Proofs
open Go.Shelf
def Tryz.lays156_ren:Go.Shelf.Ren:=⟨fun | 156=>137 | 165=>162 | 166=>163 | 169=>164 | 240=>181 | 241=>182 | 276=>218 | 277=>219 | n=>n,fun | 31=>34 | 9=>9 | 3=>3 | 4=>4 | 0=>0 | 20=>20 | 72=>227 | 76=>228 | 70=>225 | 37=>84 | 75=>134 | 127=>246 | 164=>180 | 5=>5 | 80=>151 | n=>n,fun | n=>n⟩
theorem Tryz.lays156:Go.Proofs.Lays.n156 Tryz.prog Tryz.lays156_ren:={
 mixed:=kCX
 f156:=Tryz.func137.trans (congrArg some kCX)
 f165:=Tryz.func162.trans (congrArg some kCX)
 f166:=Tryz.func163.trans (congrArg some kCX)
 f169:=Tryz.func164.trans (congrArg some kCX)
 f240:=Tryz.func181.trans (congrArg some kCX)
 f241:=Tryz.func182.trans (congrArg some kCX)
 f276:=Tryz.func218.trans (congrArg some kCX)
 f277:=Tryz.func219.trans (congrArg some kCX)
 t0:=Tryz.underlying0
 a0:=Tryz.isAgg0
 z0:=Tryz.sizeOf0
 v0:=Tryz.zeroValue0
 t3:=Tryz.underlying3
 a3:=Tryz.isAgg3
 z3:=Tryz.sizeOf3
 v3:=Tryz.zeroValue3
 t4:=Tryz.underlying4
 a4:=Tryz.isAgg4
 z4:=Tryz.sizeOf4
 v4:=Tryz.zeroValue4
 t9:=Tryz.underlying9
 a9:=Tryz.isAgg9
 z9:=Tryz.sizeOf9
 v9:=Tryz.zeroValue9
 t20:=Tryz.underlying20
 a20:=Tryz.isAgg20
 z20:=Tryz.sizeOf20
 v20:=Tryz.zeroValue20
 t31:=Tryz.underlying34
 a31:=Tryz.isAgg34
 z31:=Tryz.sizeOf34
 v31:=Tryz.zeroValue34
 t37:=Tryz.underlying84
 a37:=Tryz.isAgg84
 z37:=Tryz.sizeOf84
 v37:=Tryz.zeroValue84
 t70:=Tryz.underlying225
 a70:=Tryz.isAgg225
 z70:=Tryz.sizeOf225
 v70:=Tryz.zeroValue225
 t72:=Tryz.underlying227
 a72:=Tryz.isAgg227
 z72:=Tryz.sizeOf227
 v72:=Tryz.zeroValue227
 t75:=Tryz.underlying134
 a75:=Tryz.isAgg134
 z75:=Tryz.sizeOf134
 v75:=Tryz.zeroValue134
 t76:=Tryz.underlying228
 a76:=Tryz.isAgg228
 z76:=Tryz.sizeOf228
 v76:=Tryz.zeroValue228
 t127:=Tryz.underlying246
 a127:=Tryz.isAgg246
 z127:=Tryz.sizeOf246
 v127:=Tryz.zeroValue246
 t164:=Tryz.underlying180
 a164:=Tryz.isAgg180
 z164:=Tryz.sizeOf180
 v164:=Tryz.zeroValue180 }
theorem Tryz.Builder_Extra_156:Builder.Extra Tryz.prog Tryz.lays156_ren:={
 sizeBuilder:=kCX
 liesBuilder:=kCX
 t5:=Tryz.underlying5
 a5:=Tryz.isAgg5
 z5:=Tryz.sizeOf5
 v5:=Tryz.zeroValue5
 infoByte:=kCX
 cellsByte:=kCX
 sizeByte:=kCX
 neB5:=by decide }
open Go.RowKit in
theorem Tryz.strings_Join (bk o c:Nat) (xs:List ByteArray) (sep:ByteArray) (w:World) (hcells:∀(j:Nat) x,xs[j]?=some x→w.cell? ⟨bk,o+j,none⟩=some (.string x)) (hbk:bk<w.heap.size) (hN:xs.length≤140737488355328) (hcap:xs.length≤c) (hlen:(Lib.join (xs.map (·.data.toList)) sep.data.toList).length≤140737488355328) :
  Calls Tryz.prog 137 #[.slice (some ⟨bk,o,none⟩) xs.length c,.string sep] w fun e w'=>e=.returned (.string ⟨(Lib.join (xs.map (·.data.toList)) sep.data.toList).toArray⟩)∧Below w.heap.size w w':=Any.strings_Join Tryz.lays156 Tryz.Builder_Extra_156 bk o c xs sep w hcells hbk hN hcap hlen
def Tryz.laysM171_ren:Go.Shelf.Ren:=⟨fun | 171=>100 | 243=>138 | 246=>165 | 283=>183 | 284=>184 | 285=>185 | 286=>186 | 129=>211 | 317=>220 | 318=>221 | 319=>222 | 320=>223 | 337=>253 | 338=>254 | n=>n,fun | 3=>3 | 9=>9 | 2=>2 | 4=>4 | 171=>247 | 0=>0 | 53=>75 | 37=>84 | 5=>5 | 173=>250 | 212=>275 | 51=>270 | 20=>20 | 213=>276 | 46=>157 | 232=>325 | 233=>326 | n=>n,fun | 17=>2 | 18=>3 | 19=>4 | n=>n⟩
theorem Tryz.laysM171:Go.Proofs.LaysM.n171 Tryz.prog Tryz.laysM171_ren:={
 mixed:=kCX
 f129:=Tryz.func211.trans (congrArg some kCX)
 f171:=Tryz.func100.trans (congrArg some kCX)
 f243:=Tryz.func138.trans (congrArg some kCX)
 f246:=Tryz.func165.trans (congrArg some kCX)
 f283:=Tryz.func183.trans (congrArg some kCX)
 f284:=Tryz.func184.trans (congrArg some kCX)
 f285:=Tryz.func185.trans (congrArg some kCX)
 f286:=Tryz.func186.trans (congrArg some kCX)
 f317:=Tryz.func220.trans (congrArg some kCX)
 f318:=Tryz.func221.trans (congrArg some kCX)
 f319:=Tryz.func222.trans (congrArg some kCX)
 f320:=Tryz.func223.trans (congrArg some kCX)
 f337:=Tryz.func253.trans (congrArg some kCX)
 f338:=Tryz.func254.trans (congrArg some kCX)
 t0:=Tryz.underlying0
 a0:=Tryz.isAgg0
 z0:=Tryz.sizeOf0
 v0:=Tryz.zeroValue0
 t2:=Tryz.underlying2
 a2:=Tryz.isAgg2
 z2:=Tryz.sizeOf2
 v2:=Tryz.zeroValue2
 t3:=Tryz.underlying3
 a3:=Tryz.isAgg3
 z3:=Tryz.sizeOf3
 v3:=Tryz.zeroValue3
 t4:=Tryz.underlying4
 a4:=Tryz.isAgg4
 z4:=Tryz.sizeOf4
 v4:=Tryz.zeroValue4
 t5:=Tryz.underlying5
 a5:=Tryz.isAgg5
 z5:=Tryz.sizeOf5
 v5:=Tryz.zeroValue5
 t9:=Tryz.underlying9
 a9:=Tryz.isAgg9
 z9:=Tryz.sizeOf9
 v9:=Tryz.zeroValue9
 t20:=Tryz.underlying20
 a20:=Tryz.isAgg20
 z20:=Tryz.sizeOf20
 v20:=Tryz.zeroValue20
 t37:=Tryz.underlying84
 a37:=Tryz.isAgg84
 z37:=Tryz.sizeOf84
 v37:=Tryz.zeroValue84
 t46:=Tryz.underlying157
 a46:=Tryz.isAgg157
 z46:=Tryz.sizeOf157
 v46:=Tryz.zeroValue157
 t51:=Tryz.underlying270
 a51:=Tryz.isAgg270
 z51:=Tryz.sizeOf270
 v51:=Tryz.zeroValue270
 t53:=Tryz.underlying75
 a53:=Tryz.isAgg75
 z53:=Tryz.sizeOf75
 v53:=Tryz.zeroValue75
 t171:=Tryz.underlying247
 a171:=Tryz.isAgg247
 z171:=Tryz.sizeOf247
 v171:=Tryz.zeroValue247
 t173:=Tryz.underlying250
 a173:=Tryz.isAgg250
 z173:=Tryz.sizeOf250
 v173:=Tryz.zeroValue250
 t212:=Tryz.underlying275
 a212:=Tryz.isAgg275
 z212:=Tryz.sizeOf275
 v212:=Tryz.zeroValue275
 t213:=Tryz.underlying276
 a213:=Tryz.isAgg276
 z213:=Tryz.sizeOf276
 t232:=Tryz.underlying325
 a232:=Tryz.isAgg325
 z232:=Tryz.sizeOf325
 v232:=Tryz.zeroValue325
 t233:=Tryz.underlying326
 a233:=Tryz.isAgg326
 z233:=Tryz.sizeOf326
 v233:=Tryz.zeroValue326
 g17:=kCX
 g18:=kCX
 g19:=kCX
 i0:=kCX
 i2:=kCX
 i3:=kCX
 i4:=kCX
 i5:=kCX
 i9:=kCX
 i20:=kCX
 i37:=kCX
 i46:=kCX
 i51:=kCX
 i53:=kCX
 i171:=kCX
 i173:=kCX
 i212:=kCX
 i232:=kCX
 i233:=kCX
 m17:=kCX
 m18:=kCX
 m19:=by kernel_rfl }
open Go.RowKit Go.Sort Go.Lib in
theorem Tryz.strconv_Itoa (n : Int) (h0 : -9223372036854775808 ≤ n) (h1 : n ≤ 9223372036854775807) (w : World) (htab : Lib.TabIs Tryz.prog w "internal/strconv.uint64pow10" .u64 Lib.pow10Tab) :
  Calls Tryz.prog 100 #[.int .i64 n] w fun e w'=>e=.returned (.string ⟨(Lib.itoa n).toArray⟩)∧∃k os,w'=grow (w.drewN k) os:=Any.strconv_Itoa Tryz.laysM171 n h0 h1 w htab
def Tryz.laysC172_ren:Go.Shelf.Ren:=⟨fun | 172=>216 | 244=>250 | 245=>251 | 247=>273 | 279=>274 | 280=>275 | 281=>276 | 282=>277 | 287=>285 | 316=>286 | 171=>100 | 205=>287 | 321=>288 | 322=>289 | 243=>138 | 246=>165 | 283=>183 | 284=>184 | 285=>185 | 286=>186 | 129=>211 | 317=>220 | 318=>221 | 319=>222 | 320=>223 | 337=>253 | 338=>254 | n=>n,fun | 9=>9 | 3=>3 | 75=>134 | 76=>228 | 4=>4 | 5=>5 | 167=>318 | 37=>84 | 0=>0 | 85=>319 | 2=>2 | 168=>321 | 53=>75 | 175=>331 | 46=>157 | 210=>334 | 127=>246 | 145=>339 | 143=>337 | 21=>21 | 171=>247 | 173=>250 | 212=>275 | 51=>270 | 20=>20 | 213=>276 | 232=>325 | 233=>326 | 80=>151 | n=>n,fun | 15=>5 | 16=>6 | 17=>2 | 18=>3 | 19=>4 | n=>n⟩
theorem Tryz.laysC172:Go.Proofs.LaysC.n172 Tryz.prog Tryz.laysC172_ren:={
 mixed:=kCX
 f129:=Tryz.func211.trans (congrArg some kCX)
 f171:=Tryz.func100.trans (congrArg some kCX)
 f172:=Tryz.func216.trans (congrArg some kCX)
 f205:=Tryz.func287.trans (congrArg some kCX)
 f243:=Tryz.func138.trans (congrArg some kCX)
 f244:=Tryz.func250.trans (congrArg some kCX)
 f245:=Tryz.func251.trans (congrArg some kCX)
 f246:=Tryz.func165.trans (congrArg some kCX)
 f247:=Tryz.func273.trans (congrArg some kCX)
 f279:=Tryz.func274.trans (congrArg some kCX)
 f280:=Tryz.func275.trans (congrArg some kCX)
 f281:=Tryz.func276.trans (congrArg some kCX)
 f282:=Tryz.func277.trans (congrArg some kCX)
 f283:=Tryz.func183.trans (congrArg some kCX)
 f284:=Tryz.func184.trans (congrArg some kCX)
 f285:=Tryz.func185.trans (congrArg some kCX)
 f286:=Tryz.func186.trans (congrArg some kCX)
 f287:=Tryz.func285.trans (congrArg some kCX)
 f316:=Tryz.func286.trans (congrArg some kCX)
 f317:=Tryz.func220.trans (congrArg some kCX)
 f318:=Tryz.func221.trans (congrArg some kCX)
 f319:=Tryz.func222.trans (congrArg some kCX)
 f320:=Tryz.func223.trans (congrArg some kCX)
 f321:=Tryz.func288.trans (congrArg some kCX)
 f322:=Tryz.func289.trans (congrArg some kCX)
 f337:=Tryz.func253.trans (congrArg some kCX)
 f338:=Tryz.func254.trans (congrArg some kCX)
 t0:=Tryz.underlying0
 a0:=Tryz.isAgg0
 z0:=Tryz.sizeOf0
 v0:=Tryz.zeroValue0
 t2:=Tryz.underlying2
 a2:=Tryz.isAgg2
 z2:=Tryz.sizeOf2
 v2:=Tryz.zeroValue2
 t3:=Tryz.underlying3
 a3:=Tryz.isAgg3
 z3:=Tryz.sizeOf3
 v3:=Tryz.zeroValue3
 t4:=Tryz.underlying4
 a4:=Tryz.isAgg4
 z4:=Tryz.sizeOf4
 v4:=Tryz.zeroValue4
 t5:=Tryz.underlying5
 a5:=Tryz.isAgg5
 z5:=Tryz.sizeOf5
 v5:=Tryz.zeroValue5
 t9:=Tryz.underlying9
 a9:=Tryz.isAgg9
 z9:=Tryz.sizeOf9
 v9:=Tryz.zeroValue9
 t20:=Tryz.underlying20
 a20:=Tryz.isAgg20
 z20:=Tryz.sizeOf20
 v20:=Tryz.zeroValue20
 t21:=Tryz.underlying21
 a21:=Tryz.isAgg21
 z21:=Tryz.sizeOf21
 v21:=Tryz.zeroValue21
 t37:=Tryz.underlying84
 a37:=Tryz.isAgg84
 z37:=Tryz.sizeOf84
 v37:=Tryz.zeroValue84
 t46:=Tryz.underlying157
 a46:=Tryz.isAgg157
 z46:=Tryz.sizeOf157
 v46:=Tryz.zeroValue157
 t51:=Tryz.underlying270
 a51:=Tryz.isAgg270
 z51:=Tryz.sizeOf270
 v51:=Tryz.zeroValue270
 t53:=Tryz.underlying75
 a53:=Tryz.isAgg75
 z53:=Tryz.sizeOf75
 v53:=Tryz.zeroValue75
 t75:=Tryz.underlying134
 a75:=Tryz.isAgg134
 z75:=Tryz.sizeOf134
 v75:=Tryz.zeroValue134
 t76:=Tryz.underlying228
 a76:=Tryz.isAgg228
 z76:=Tryz.sizeOf228
 v76:=Tryz.zeroValue228
 t85:=Tryz.underlying319
 a85:=Tryz.isAgg319
 z85:=Tryz.sizeOf319
 v85:=Tryz.zeroValue319
 t127:=Tryz.underlying246
 a127:=Tryz.isAgg246
 z127:=Tryz.sizeOf246
 v127:=Tryz.zeroValue246
 t143:=Tryz.underlying337
 a143:=Tryz.isAgg337
 z143:=Tryz.sizeOf337
 v143:=Tryz.zeroValue337
 t145:=Tryz.underlying339
 a145:=Tryz.isAgg339
 z145:=Tryz.sizeOf339
 v145:=Tryz.zeroValue339
 t167:=Tryz.underlying318
 a167:=Tryz.isAgg318
 z167:=Tryz.sizeOf318
 v167:=Tryz.zeroValue318
 t168:=Tryz.underlying321
 a168:=Tryz.isAgg321
 z168:=Tryz.sizeOf321
 v168:=Tryz.zeroValue321
 t171:=Tryz.underlying247
 a171:=Tryz.isAgg247
 z171:=Tryz.sizeOf247
 v171:=Tryz.zeroValue247
 t173:=Tryz.underlying250
 a173:=Tryz.isAgg250
 z173:=Tryz.sizeOf250
 v173:=Tryz.zeroValue250
 t175:=Tryz.underlying331
 a175:=Tryz.isAgg331
 z175:=Tryz.sizeOf331
 v175:=Tryz.zeroValue331
 t210:=Tryz.underlying334
 a210:=Tryz.isAgg334
 z210:=Tryz.sizeOf334
 v210:=Tryz.zeroValue334
 t212:=Tryz.underlying275
 a212:=Tryz.isAgg275
 z212:=Tryz.sizeOf275
 v212:=Tryz.zeroValue275
 t213:=Tryz.underlying276
 a213:=Tryz.isAgg276
 z213:=Tryz.sizeOf276
 t232:=Tryz.underlying325
 a232:=Tryz.isAgg325
 z232:=Tryz.sizeOf325
 v232:=Tryz.zeroValue325
 t233:=Tryz.underlying326
 a233:=Tryz.isAgg326
 z233:=Tryz.sizeOf326
 v233:=Tryz.zeroValue326
 g15:=kCX
 g16:=kCX
 g17:=kCX
 g18:=kCX
 g19:=kCX
 t80:=Tryz.underlying151
 a80:=Tryz.isAgg151
 z80:=Tryz.sizeOf151
 v80:=Tryz.zeroValue151
 i0:=kCX
 i2:=kCX
 i3:=kCX
 i4:=kCX
 i5:=kCX
 i9:=kCX
 i20:=kCX
 i21:=kCX
 i37:=kCX
 i46:=kCX
 i51:=kCX
 i53:=kCX
 i75:=kCX
 i76:=kCX
 i80:=kCX
 i85:=kCX
 i127:=kCX
 i143:=kCX
 i145:=kCX
 i167:=kCX
 i168:=kCX
 i171:=kCX
 i173:=kCX
 i175:=kCX
 i210:=kCX
 i212:=kCX
 i232:=kCX
 i233:=kCX
 m15:=kCX
 m16:=kCX
 m17:=kCX
 m18:=kCX
 m19:=kCX
 c0:=kCX
 c2:=kCX
 c3:=kCX
 c4:=kCX
 c5:=kCX
 c9:=kCX
 c20:=kCX
 c21:=kCX
 c37:=kCX
 c46:=kCX
 c51:=kCX
 c53:=kCX
 c75:=kCX
 c76:=kCX
 c80:=kCX
 c85:=kCX
 c127:=kCX
 c143:=kCX
 c145:=kCX
 c167:=kCX
 c168:=kCX
 c171:=kCX
 c173:=kCX
 c175:=kCX
 c210:=kCX
 c212:=kCX
 c213:=kCX
 c232:=kCX
 c233:=by kernel_rfl }
open Go.RowKit in
theorem Tryz.strconv_Atoi_ok (s:ByteArray) (hmax:s.size≤9223372036854775806) (v:Int) (h:Lib.atoiAll s.data.toList=.ok v) (w:World) :
  Calls Tryz.prog 216 #[.string s] w fun e w'=>e=.returned (.tuple #[.int .i64 v,.nilIface])∧(w'=w∨∃t,w'=Lib.bytesWorld w 5 t):=Any.strconv_Atoi_ok Tryz.laysC172 s hmax v h w
def Tryz.lays219_ren:Go.Shelf.Ren:=⟨fun | 219=>176 | 217=>212 | 225=>213 | 224=>214 | 267=>215 | 266=>248 | 314=>249 | n=>n,fun | 9=>9 | 3=>3 | 4=>4 | 5=>5 | 46=>157 | 146=>296 | 51=>270 | n=>n,fun | 1=>1 | n=>n⟩
theorem Tryz.lays219:Go.Proofs.Lays.n219 Tryz.prog Tryz.lays219_ren:={
 mixed:=kCX
 f217:=Tryz.func212.trans (congrArg some kCX)
 f219:=Tryz.func176.trans (congrArg some kCX)
 f224:=Tryz.func214.trans (congrArg some kCX)
 f225:=Tryz.func213.trans (congrArg some kCX)
 f266:=Tryz.func248.trans (congrArg some kCX)
 f267:=Tryz.func215.trans (congrArg some kCX)
 f314:=Tryz.func249.trans (congrArg some kCX)
 t3:=Tryz.underlying3
 a3:=Tryz.isAgg3
 z3:=Tryz.sizeOf3
 v3:=Tryz.zeroValue3
 t4:=Tryz.underlying4
 a4:=Tryz.isAgg4
 z4:=Tryz.sizeOf4
 v4:=Tryz.zeroValue4
 t5:=Tryz.underlying5
 a5:=Tryz.isAgg5
 z5:=Tryz.sizeOf5
 v5:=Tryz.zeroValue5
 t9:=Tryz.underlying9
 a9:=Tryz.isAgg9
 z9:=Tryz.sizeOf9
 v9:=Tryz.zeroValue9
 t46:=Tryz.underlying157
 a46:=Tryz.isAgg157
 z46:=Tryz.sizeOf157
 v46:=Tryz.zeroValue157
 t51:=Tryz.underlying270
 a51:=Tryz.isAgg270
 z51:=Tryz.sizeOf270
 v51:=Tryz.zeroValue270
 t146:=Tryz.underlying296
 a146:=Tryz.isAgg296
 z146:=Tryz.sizeOf296
 v146:=Tryz.zeroValue296
 g1:=by kernel_rfl }
open Go.RowKit Go.Lib in
theorem Tryz.stringslite_Index_one (s:ByteArray) (c:UInt8) (w:World) :
  Calls Tryz.prog 176 #[.string s,.string ⟨#[c]⟩] w fun e w'=>e=.returned (.int .i64 (Lib.indexByte s.data.toList c))∧w'=w:=Any.stringslite_Index_one Tryz.lays219 s c w
end Go.Proofs
end
section
namespace Go.Proofs.YtjaobihcdkjmbaaGreatDoor
open Go.RowKit Go.Proofs.YtjaobihcdkjmbaaGreatDoorW.PrintWords Go.Proofs.YtjaobihcdkjmbaaGreatDoor.PReadTokens
def uchk (b:UInt8):Bool:=decide (32≤b.toNat)&&decide (b.toNat≤126)&&decide (b.toNat≠123)&&decide (b.toNat≠125)
def zCB (s:ByteArray):Bool:=decide (1≤s.size)&&decide (s.size≤20)&&s.data.toList.all uchk
theorem zDU (n:Nat) (h:n<9223372036854775807):wrap64 ((n:Int)+1)=((n+1:Nat):Int):=by unfold wrap64;omega
theorem zCc (s:ByteArray) (n:Nat) (h:n<s.size):bt s (n:Int)=((s[n]'h).toNat:Int):=by
 simp[bt,h]
theorem unit_loop (s:ByteArray) (hs:s.size<9223372036854775807) (d:Nat):∀(k pos:Nat),pos+d=s.size→d<k→read_unit.l0 k s (s.size:Int) (pos:Int)=some ((s.data.toList.drop pos).all uchk):=by
 induction d with
 | zero =>
  intro k pos hp hk;obtain⟨k,rfl⟩:∃m,k=m+1:=⟨k-1,kCW⟩;simp only[read_unit.l0];rw[kAa kCW,kAZ (show s.data.toList.length≤pos by have:s.data.toList.length=s.size:=rfl;omega)];rfl
 | succ d ih =>
  intro k pos hp hk;obtain⟨k,rfl⟩:∃m,k=m+1:=⟨k-1,kCW⟩;have hlt:pos<s.size:=kCW
  have hl:pos<s.data.toList.length:=hlt;simp only[read_unit.l0];rw[kAb kCW,kAb kCW,kAb kCW,zCc s pos hlt,zDU pos kCW,ih k (pos+1) kCW kCW,kAn hl,List.all_cons];have e:s.data.toList[pos]=s[pos]:=rfl;rw[e];unfold uchk;generalize (s[pos]).toNat=c;split
  ·rw[kA6 (by omega:¬32≤c)];rfl
  ·split
   ·rw[kA6 (by omega:¬c≤126)];simp
   ·split
    ·rw[kA6 (by omega:¬c≠123)];simp
    ·split
     ·rw[kA6 (by omega:¬c≠125)];simp
     ·rw[kA5 (by omega:32≤c),kA5 (by omega:c≤126),kA5 (by omega:c≠123),kA5 (by omega:c≠125)];rfl
theorem unit_f (s:ByteArray) (hs:s.size<9223372036854775807):read_unit.f (s.size+1) s=some (zCB s):=by
 unfold read_unit.f zD5.f zCB;by_cases h1:1≤s.size
 ·rw[kAb kCW,Option.bind_some];by_cases h2:s.size≤20
  ·rw[kAb kCZ];have:=unit_loop s hs s.size (s.size+1) 0 kCW kCW;rw[show ((0:Nat):Int)=0 from rfl,kBB] at this;rw[this,kA5 h1,kA5 h2];rfl
  ·rw[kAa kCZ,kA6 h2];simp
 ·rw[kAa kCW,Option.bind_some,kAa kCY,kA6 h1];rfl
theorem unit_any (s:ByteArray) (hs:s.size<9223372036854775807) (w:World):Calls Tryz.prog 125 #[.string s] w fun e w'=>e=.returned (.bool (zCB s))∧Below w.heap.size w w' :=
 (read_unit.calls _ s (zCB s) w (unit_f s hs)).mono fun _ _ ⟨h1,h2⟩=>⟨h1,h2.below⟩
theorem slcut_some (s:ByteArray) (c:UInt8) (i:Nat) (w:World) (hs:s.size<4611686018427387904) (hi:Lib.indexByte s.data.toList c=(i:Int)) (hl:i<s.size) :
  Calls Tryz.prog 151 #[.string s,.string ⟨#[c]⟩] w fun e w'=>e=.returned (.tuple #[.string (s.extract 0 i),.string (s.extract (i+1) s.size),.bool true])∧∃n,w'=w.drewN n:=by
 have hx:∀w,Calls Tryz.prog 176 #[.string s,.string ⟨#[c]⟩] w fun e w'=>e=.returned (.int .i64 i)∧w'=w:=fun w=>by
  have:=Tryz.stringslite_Index_one s c w;rwa [hi] at this
 clear hi;have h0:(0:Int)≤(i:Int):=kCW
 go_enter Tryz.func151,Tryz.ntmps151;go_wp2_with (go_at_call 176;refine (hx _).mono ?_;rintro e w' ⟨rfl,rfl⟩)
 go_quiet (fail)
 go_wp2
 go_ret3
 exact⟨rfl,_,rfl⟩
theorem slcut_none (s:ByteArray) (c:UInt8) (w:World) (hi:Lib.indexByte s.data.toList c=-1) :
  Calls Tryz.prog 151 #[.string s,.string ⟨#[c]⟩] w fun e w'=>e=.returned (.tuple #[.string s,.string ⟨#[]⟩,.bool false])∧∃n,w'=w.drewN n:=by
 have hx:∀w,Calls Tryz.prog 176 #[.string s,.string ⟨#[c]⟩] w fun e w'=>e=.returned (.int .i64 (-1))∧w'=w:=fun w=>by
  have:=Tryz.stringslite_Index_one s c w;rwa [hi] at this
 clear hi;go_enter Tryz.func151,Tryz.ntmps151;go_wp2_with (go_at_call 176;refine (hx _).mono ?_;rintro e w' ⟨rfl,rfl⟩)
 go_ret3
 exact⟨rfl,0,rfl⟩
theorem cut_some (s:ByteArray) (c:UInt8) (i:Nat) (w:World) (hs:s.size<4611686018427387904) (hi:Lib.indexByte s.data.toList c=(i:Int)) (hl:i<s.size) :
  Calls Tryz.prog 123 #[.string s,.string ⟨#[c]⟩] w fun e w'=>e=.returned (.tuple #[.string (s.extract 0 i),.string (s.extract (i+1) s.size),.bool true])∧∃n,w'=w.drewN n:=by
 have hx:=slcut_some s c i w hs hi hl;clear hi;go_enter Tryz.func123,Tryz.ntmps123;go_wp2_with (go_at_call 151;refine hx.mono ?_;rintro e w' ⟨rfl,n,rfl⟩)
 go_ret3
 exact⟨rfl,_,rfl⟩
theorem cut_none (s:ByteArray) (c:UInt8) (w:World) (hi:Lib.indexByte s.data.toList c=-1) :
  Calls Tryz.prog 123 #[.string s,.string ⟨#[c]⟩] w fun e w'=>e=.returned (.tuple #[.string s,.string ⟨#[]⟩,.bool false])∧∃n,w'=w.drewN n:=by
 have hx:=slcut_none s c w hi;clear hi;go_enter Tryz.func123,Tryz.ntmps123;go_wp2_with (go_at_call 151;refine hx.mono ?_;rintro e w' ⟨rfl,n,rfl⟩)
 go_ret3
 exact⟨rfl,_,rfl⟩
theorem zEw (S g:Nat) (s:ByteArray) (a n:Nat) (x:ByteArray) (w:World) (ha:a≤s.size) (hs:s.size≤9223372036854775807) (hS:Scan w S s a)
  (hg:w.heap[g]?=some (.cells #[.int .i64 4] 162 (0,0))) (hgS:g≠S) (hn:Hid (zBi s a=n)) (hx:Hid (s.extract a n=x)) :
  Calls Tryz.prog 122 #[.pointer (some ⟨S,0,none⟩),.slice (some ⟨g,0,none⟩) 1 1] w fun e w' =>
   e=.returned (.string x)∧w.grownBy w' (some S)∧Scan w' S s n:=by
 have:=run_one S g s a 4 rfl 162 w ha hs hS hg hgS;have e:=hn.out;unfold zBi at e;rw[e,hx.out] at this;exact this
theorem next_digit (S:Nat) (s:ByteArray) (a b n:Nat) (x:ByteArray) (k:Int) (w:World) (ha:a≤s.size) (hs:s.size≤2147483648) (hS:Scan w S s a) (hb:zAl s a=b) (hbl:b<s.size) (hk:srt (s[b]'hbl).toNat=4)
  (Hn:Hid (zBi s b=n)) (Hx:Hid (s.extract b n=x)) (hc:((s[b]'hbl).toNat≠48∧x.size≤400∧k=2)∨((s[b]'hbl).toNat=48∧x.size=1∧k=2)∨((s[b]'hbl).toNat≠48∧400<x.size∧k=-1)∨((s[b]'hbl).toNat=48∧x.size≠1∧k=-1)) :
  Calls Tryz.prog 88 #[.pointer (some ⟨S,0,none⟩)] w fun e w'=>e=.returned (.tuple #[tokV ⟨k,x,b⟩,.bool true])∧w.grownBy w' (some S)∧Scan w' S s n:=by
 have hSw:=hS.cells.2.2.2;have hcall:=fun o=>zDJ S s a b w o ha hs hS hb
 have hsort:∀w,Calls Tryz.prog 107 #[.int .i32 (s[b]'hbl).toNat] w fun e w'=>e=.returned (.int .i64 4)∧Below w.heap.size w w':=fun w=>by
  have:=zCL (s[b]'hbl).toNat w;rwa [hk] at this
 have hw32:wrap32 ((s[b]'hbl).toNat:Int)=(s[b]'hbl).toNat:=by have:=(s[b]'hbl).toNat_lt;unfold wrap32;omega
 have hne:((b:Int)==(s.size:Int))=false:=by rw[kAj];omega
 have Hle:x.size≤s.size:=by rw[← Hx.out,kAy];omega
 clear hb hk;have h48:((s[b]'hbl).toNat≠48→(((s[b]'hbl).toNat:Int) != 48)=true)∧((s[b]'hbl).toNat=48→(((s[b]'hbl).toNat:Int) != 48)=false):=by
  constructor
  ·intro h;rw[kCw];omega
  ·intro h;rw[bne_eq_false_iff_eq];omega
 have h1:(x.size=1→((x.size:Int)==1)=true)∧(x.size≠1→((x.size:Int)==1)=false):=by
  constructor
  ·intro h;rw[kAA];omega
  ·intro h;rw[kAj];omega
 have hle:(x.size≤400→decide ((x.size:Int)≤400)=true)∧(400<x.size→decide ((x.size:Int)≤400)=false):=by
  constructor
  ·intro h;rw[kB6];omega
  ·intro h;rw[kBw];omega
 rcases hc with⟨hc,hz,rfl⟩ | ⟨hc,hz,rfl⟩ | ⟨hc,hz,rfl⟩ | ⟨hc,hz,rfl⟩
 ·have q1:=h48.1 hc;have q2:=hle.1 hz;clear hc hz h48 hle h1;go_enter Tryz.func88,Tryz.ntmps88;go_wp2_with (go_at_call 122;refine (hcall _).mono ?_;rintro e w1 ⟨rfl,hg,hsc⟩;obtain⟨c0,c1,f1,lt⟩:=hsc.cells;have hN:=NextAt.start hg hsc hSw;have hd1:=kAq hN.hT;have hd2:=kB1 hN.hT)
  go_quiet (fail)
  generalize nq=n0 at *;go_wp2
  go_quiet (fail)
  generalize nq=n1 at *;have hN1:=hN.drew (n0+n1);go_wp2_with (go_at_call 107;refine (hsort _).mono ?_;rintro e w2 ⟨rfl,hb2⟩;have hN2:=hN1.below hb2);refine (zEw S _ s b n x _ kCW kCW (hN2.alloc _).scan (zA4 _ _) kDs Hn Hx).mono ?_;rintro e w3 ⟨rfl,hg3,hs3⟩;have hN3:=(hN2.alloc _).step hSw hg3 hs3;obtain⟨⟨t0,t1,t2⟩,⟨ft0,ft1,ft2⟩,⟨r0,r1,r2⟩,⟨fr0,fr1,fr2⟩,lr,lt3⟩:=hN3.cells;clear hsort hcall c0 c1 f1 hN hN1 hN2 hg hsc;go_wp2;obtain⟨h1,h2,h3⟩:=((hN3.text hSw x).kind hSw 2).fin hSw (.int .i64 2) (.string x) (.int .i64 b);exact kAg (results88 rfl rfl h1) rfl ⟨rfl,h2,h3⟩
 ·have q1:=h48.2 hc;have q3:=h1.1 hz;have q2:=hle.1 kCW;clear hc hz h48 hle h1;go_enter Tryz.func88,Tryz.ntmps88;go_wp2_with (go_at_call 122;refine (hcall _).mono ?_;rintro e w1 ⟨rfl,hg,hsc⟩;obtain⟨c0,c1,f1,lt⟩:=hsc.cells;have hN:=NextAt.start hg hsc hSw;have hd1:=kAq hN.hT;have hd2:=kB1 hN.hT)
  go_quiet (fail)
  generalize nq=n0 at *;go_wp2
  go_quiet (fail)
  generalize nq=n1 at *;have hN1:=hN.drew (n0+n1);go_wp2_with (go_at_call 107;refine (hsort _).mono ?_;rintro e w2 ⟨rfl,hb2⟩;have hN2:=hN1.below hb2);refine (zEw S _ s b n x _ kCW kCW (hN2.alloc _).scan (zA4 _ _) kDs Hn Hx).mono ?_;rintro e w3 ⟨rfl,hg3,hs3⟩;have hN3:=(hN2.alloc _).step hSw hg3 hs3;obtain⟨⟨t0,t1,t2⟩,⟨ft0,ft1,ft2⟩,⟨r0,r1,r2⟩,⟨fr0,fr1,fr2⟩,lr,lt3⟩:=hN3.cells;clear hsort hcall c0 c1 f1 hN hN1 hN2 hg hsc;go_wp2;obtain⟨h1,h2,h3⟩:=((hN3.text hSw x).kind hSw 2).fin hSw (.int .i64 2) (.string x) (.int .i64 b);exact kAg (results88 rfl rfl h1) rfl ⟨rfl,h2,h3⟩
 ·have q1:=h48.1 hc;have q2:=hle.2 hz;clear hc hz h48 hle h1;go_enter Tryz.func88,Tryz.ntmps88;go_wp2_with (go_at_call 122;refine (hcall _).mono ?_;rintro e w1 ⟨rfl,hg,hsc⟩;obtain⟨c0,c1,f1,lt⟩:=hsc.cells;have hN:=NextAt.start hg hsc hSw;have hd1:=kAq hN.hT;have hd2:=kB1 hN.hT)
  go_quiet (fail)
  generalize nq=n0 at *;go_wp2
  go_quiet (fail)
  generalize nq=n1 at *;have hN1:=hN.drew (n0+n1);go_wp2_with (go_at_call 107;refine (hsort _).mono ?_;rintro e w2 ⟨rfl,hb2⟩;have hN2:=hN1.below hb2);refine (zEw S _ s b n x _ kCW kCW (hN2.alloc _).scan (zA4 _ _) kDs Hn Hx).mono ?_;rintro e w3 ⟨rfl,hg3,hs3⟩;have hN3:=(hN2.alloc _).step hSw hg3 hs3;obtain⟨⟨t0,t1,t2⟩,⟨ft0,ft1,ft2⟩,⟨r0,r1,r2⟩,⟨fr0,fr1,fr2⟩,lr,lt3⟩:=hN3.cells;clear hsort hcall c0 c1 f1 hN hN1 hN2 hg hsc;go_wp2;obtain⟨h1,h2,h3⟩:=(hN3.text hSw x).fin hSw (.int .i64 (-1)) (.string x) (.int .i64 b);exact kAg (results88 rfl rfl h1) rfl ⟨rfl,h2,h3⟩
 ·have q1:=h48.2 hc;have q3:=h1.2 hz;clear hc hz h48 hle h1;go_enter Tryz.func88,Tryz.ntmps88;go_wp2_with (go_at_call 122;refine (hcall _).mono ?_;rintro e w1 ⟨rfl,hg,hsc⟩;obtain⟨c0,c1,f1,lt⟩:=hsc.cells;have hN:=NextAt.start hg hsc hSw;have hd1:=kAq hN.hT;have hd2:=kB1 hN.hT)
  go_quiet (fail)
  generalize nq=n0 at *;go_wp2
  go_quiet (fail)
  generalize nq=n1 at *;have hN1:=hN.drew (n0+n1);go_wp2_with (go_at_call 107;refine (hsort _).mono ?_;rintro e w2 ⟨rfl,hb2⟩;have hN2:=hN1.below hb2);refine (zEw S _ s b n x _ kCW kCW (hN2.alloc _).scan (zA4 _ _) kDs Hn Hx).mono ?_;rintro e w3 ⟨rfl,hg3,hs3⟩;have hN3:=(hN2.alloc _).step hSw hg3 hs3;obtain⟨⟨t0,t1,t2⟩,⟨ft0,ft1,ft2⟩,⟨r0,r1,r2⟩,⟨fr0,fr1,fr2⟩,lr,lt3⟩:=hN3.cells;clear hsort hcall c0 c1 f1 hN hN1 hN2 hg hsc;go_wp2;obtain⟨h1,h2,h3⟩:=(hN3.text hSw x).fin hSw (.int .i64 (-1)) (.string x) (.int .i64 b);exact kAg (results88 rfl rfl h1) rfl ⟨rfl,h2,h3⟩
theorem NextAt.at_ {w:World} {S T:Nat} {s:ByteArray} {n:Nat} {t:S47} {W:World} (h:NextAt w S T s n t W) (hSw:S<w.heap.size) (n':Nat):NextAt w S T s n' t (W.setCell ⟨S,1,none⟩ (.int .i64 n')) :=
 h.step hSw (kAh _ _ _ _) (zAa h.scan 1 _)
theorem encode_ascii (c:UInt8) (h:c.toNat<128):Utf8.encode (c.toNat:Int)=⟨#[c]⟩:=by
 have hv:Utf8.valid (c.toNat:Int)=true:=by
  unfold Utf8.valid;simp;omega
 simp only[Utf8.encode,hv,if_true,Int.toNat_natCast,kAb h,UInt8.ofNat_toNat]
theorem mark_small {c:Nat} (h:srt c=5):c<128:=by
 rcases kBL c 128 with h1 | h1
 ·exact h1
 ·rw[zEt _ kCW] at h;cases h
theorem next_mark (S:Nat) (s:ByteArray) (a b:Nat) (w:World) (ha:a≤s.size) (hs:s.size≤2147483648) (hS:Scan w S s a) (hb:zAl s a=b) (hbl:b<s.size) (hk:srt (s[b]'hbl).toNat=5) :
  Calls Tryz.prog 88 #[.pointer (some ⟨S,0,none⟩)] w fun e w'=>e=.returned (.tuple #[tokV ⟨4,⟨#[s[b]'hbl]⟩,b⟩,.bool true])∧w.grownBy w' (some S)∧Scan w' S s (b+1):=by
 have hSw:=hS.cells.2.2.2;have hcall:=fun o=>zDJ S s a b w o ha hs hS hb
 have hsort:∀w,Calls Tryz.prog 107 #[.int .i32 (s[b]'hbl).toNat] w fun e w'=>e=.returned (.int .i64 5)∧Below w.heap.size w w':=fun w=>by
  have:=zCL (s[b]'hbl).toNat w;rwa [hk] at this
 have hw32:wrap32 ((s[b]'hbl).toNat:Int)=(s[b]'hbl).toNat:=by have:=(s[b]'hbl).toNat_lt;unfold wrap32;omega
 have hne:((b:Int)==(s.size:Int))=false:=by rw[kAj];omega
 have Henc:=kA1 (encode_ascii (s[b]'hbl) (mark_small hk));clear hb hk;go_enter Tryz.func88,Tryz.ntmps88;go_wp2_with (go_at_call 122;refine (hcall _).mono ?_;rintro e w1 ⟨rfl,hg,hsc⟩;obtain⟨c0,c1,f1,lt⟩:=hsc.cells;have hN:=NextAt.start hg hsc hSw;have hd1:=kAq hN.hT;have hd2:=kB1 hN.hT)
 go_quiet (fail)
 generalize nq=n0 at *;go_wp2
 go_quiet (fail)
 generalize nq=n1 at *;have hN1:=hN.drew (n0+n1);go_wp2_with (go_at_call 107;refine (hsort _).mono ?_;rintro e w2 ⟨rfl,hb2⟩;have hN2:=hN1.below hb2;obtain⟨⟨t0,t1,t2⟩,⟨ft0,ft1,ft2⟩,⟨r0,r1,r2⟩,⟨fr0,fr1,fr2⟩,lr,lt3⟩:=hN2.cells;obtain⟨c0,c1,f1,lt⟩:=hN2.scan.cells);have hN3:=(((hN2.kind hSw 4).text hSw (Utf8.encode ((s[b]'hbl).toNat:Int))).at_ hSw (b+1));rw[show (((b+1:Nat)):Int)=(b:Int)+1 by omega] at hN3;obtain⟨h1,h2,h3⟩:=hN3.fin hSw (.int .i64 4) (.string (Utf8.encode ((s[b]'hbl).toNat:Int))) (.int .i64 b);exact kAg (results88 rfl rfl h1) rfl ⟨by rw[Henc.out];rfl,h2,h3⟩
theorem trim_q (x r:ByteArray) (h:strings_TrimPrefix.f x ⟨#[123]⟩=some r) (w:World):Calls Tryz.prog 124 #[.string x,.string ⟨#[123]⟩] w fun e w'=>e=.returned (.string r)∧∃n,w'=w.drewN n :=
 (strings_TrimPrefix.calls x _ r w h).mono fun _ _ ⟨h1,h2⟩=>⟨h1,h2.out⟩
theorem unit_is (x:ByteArray) (r:Bool) (hs:x.size<9223372036854775807) (h:zCB x=r) (w:World):Calls Tryz.prog 125 #[.string x] w fun e w'=>e=.returned (.bool r)∧Below w.heap.size w w':=by rw[← h];exact unit_any x hs w
theorem zDY (S:Nat) (s:ByteArray) (a b:Nat) (r i o:ByteArray) (f:Bool) (w:World) (ha:a≤s.size) (hs:s.size≤2147483648) (hS:Scan w S s a) (hb:zAl s a=b) (hbl:b<s.size) (k:Int) (hk:srt (s[b]'hbl).toNat=k) (hk2:(k==2)=false) (hk4:(k==4)=false) (hk5:(k==5)=false)
  (ht:strings_TrimPrefix.f (s.extract b s.size) ⟨#[123]⟩=some r) (hi:i.size≤s.size)
  (hcut:∀w,Calls Tryz.prog 123 #[.string r,.string ⟨#[125]⟩] w fun e w'=>e=.returned (.tuple #[.string i,.string o,.bool f])∧∃n,w'=w.drewN n) (t:S47) (n:Nat)
  (hc:((s[b]'hbl).toNat≠123∧t=⟨-1,⟨#[]⟩,b⟩∧n=b)∨((s[b]'hbl).toNat=123∧f=false∧t=⟨-1,⟨#[]⟩,b⟩∧n=b)∨((s[b]'hbl).toNat=123∧f=true∧zCB i=false∧t=⟨-1,⟨#[]⟩,b⟩∧n=b) ∨
   ((s[b]'hbl).toNat=123∧f=true∧zCB i=true∧t=⟨3,i,b⟩∧n=b+(i.size+2))) :
  Calls Tryz.prog 88 #[.pointer (some ⟨S,0,none⟩)] w fun e w'=>e=.returned (.tuple #[tokV t,.bool true])∧w.grownBy w' (some S)∧Scan w' S s n:=by
 have hSw:=hS.cells.2.2.2;have hcall:=fun o=>zDJ S s a b w o ha hs hS hb
 have hsort:∀w,Calls Tryz.prog 107 #[.int .i32 (s[b]'hbl).toNat] w fun e w'=>e=.returned (.int .i64 k)∧Below w.heap.size w w':=fun w=>by
  have:=zCL (s[b]'hbl).toNat w;rwa [hk] at this
 have htrim:=trim_q _ _ ht;have hw32:wrap32 ((s[b]'hbl).toNat:Int)=(s[b]'hbl).toNat:=by have:=(s[b]'hbl).toNat_lt;unfold wrap32;omega
 have hne:((b:Int)==(s.size:Int))=false:=by rw[kAj];omega
 have h123:((s[b]'hbl).toNat≠123→(((s[b]'hbl).toNat:Int)==123)=false)∧((s[b]'hbl).toNat=123→(((s[b]'hbl).toNat:Int)==123)=true):=by
  constructor
  ·intro h;rw[kAj];omega
  ·intro h;rw[kAA];omega
 clear hb hk ht;rcases hc with⟨hc,rfl,rfl⟩ | ⟨hc,rfl,rfl,rfl⟩ | ⟨hc,rfl,hu,rfl,rfl⟩ | ⟨hc,rfl,hu,rfl,rfl⟩
 all_goals
  first
   | have q1:=h123.1 hc
   | have q1:=h123.2 hc
  try have hunit:=unit_is i _ kCW hu
  try clear hu
  clear hc h123;go_enter Tryz.func88,Tryz.ntmps88;go_wp2_with (go_at_call 122;refine (hcall _).mono ?_;rintro e w1 ⟨rfl,hg,hsc⟩;obtain⟨c0,c1,f1,lt⟩:=hsc.cells;have hN:=NextAt.start hg hsc hSw;have hd1:=kAq hN.hT;have hd2:=kB1 hN.hT)
  go_quiet (fail)
  generalize nq=n0 at *;go_wp2
  go_quiet (fail)
  generalize nq=n1 at *;have hN1:=hN.drew (n0+n1);go_wp2_with (go_at_call 107;refine (hsort _).mono ?_;rintro e w2 ⟨rfl,hb2⟩;have hN2:=hN1.below hb2;obtain⟨⟨t0,t1,t2⟩,⟨ft0,ft1,ft2⟩,⟨r0,r1,r2⟩,⟨fr0,fr1,fr2⟩,lr,lt3⟩:=hN2.cells;obtain⟨c0,c1,f1,lt⟩:=hN2.scan.cells)
  go_quiet ((first | (go_at_call 124;exact kCI (htrim _)) | (go_at_call 123;exact kCI (hcut _))))
  generalize nq=n2 at *;have hN3:=hN2.drew n2;clear hsort hcall hN hN1 hN2 hg hsc htrim hcut
 ·go_wp2;obtain⟨h1,h2,h3⟩:=hN3.fin hSw (.int .i64 (-1)) (.string ⟨#[]⟩) (.int .i64 n);exact kAg (results88 rfl rfl h1) rfl ⟨rfl,h2,h3⟩
 ·go_wp2;obtain⟨h1,h2,h3⟩:=hN3.fin hSw (.int .i64 (-1)) (.string ⟨#[]⟩) (.int .i64 n);exact kAg (results88 rfl rfl h1) rfl ⟨rfl,h2,h3⟩
 ·go_wp2_with (go_at_call 125;refine (hunit _).mono ?_;rintro e w4 ⟨rfl,hb4⟩;have hN4:=hN3.below hb4;obtain⟨⟨t0,t1,t2⟩,⟨ft0,ft1,ft2⟩,⟨r0,r1,r2⟩,⟨fr0,fr1,fr2⟩,lr,lt4⟩:=hN4.cells);obtain⟨h1,h2,h3⟩:=hN4.fin hSw (.int .i64 (-1)) (.string ⟨#[]⟩) (.int .i64 n);exact kAg (results88 rfl rfl h1) rfl ⟨rfl,h2,h3⟩
 ·go_wp2_with (go_at_call 125;refine (hunit _).mono ?_;rintro e w4 ⟨rfl,hb4⟩;have hN4:=hN3.below hb4;obtain⟨⟨t0,t1,t2⟩,⟨ft0,ft1,ft2⟩,⟨r0,r1,r2⟩,⟨fr0,fr1,fr2⟩,lr,lt4⟩:=hN4.cells;obtain⟨c0,c1,f1,lt⟩:=hN4.scan.cells);have hN5:=((hN4.kind hSw 3).text hSw i).at_ hSw (b+(i.size+2));rw[show (((b+(i.size+2):Nat)):Int)=(b:Int)+((i.size:Int)+2) by omega] at hN5;obtain⟨h1,h2,h3⟩:=hN5.fin hSw (.int .i64 3) (.string i) (.int .i64 b);exact kAg (results88 rfl rfl h1) rfl ⟨rfl,h2,h3⟩
def brk (l:List UInt8):Nat:=(l.takeWhile (fun c=>c != 125)).length
def zAx (s:ByteArray) (b:Nat):Nat:=b+1+brk (zAn s (b+1))
def zDZ (x:ByteArray):Int:=if zDe x then 1 else if zC7 x then 0 else -1
def zF2 (c:Nat) (x:ByteArray):Int:=if (c≠48∨x.size=1)∧x.size≤400 then 2 else -1
def zAE (s:ByteArray) (b:Nat):S47×Nat :=
 if h:b<s.size then
  if srt (s[b]'h).toNat=2 then (⟨zDZ (s.extract b (zAS s b)),s.extract b (zAS s b),b⟩,zAS s b)
  else if srt (s[b]'h).toNat=4 then (⟨zF2 (s[b]'h).toNat (s.extract b (zBi s b)),s.extract b (zBi s b),b⟩,zBi s b)
  else if srt (s[b]'h).toNat=5 then (⟨4,⟨#[s[b]'h]⟩,b⟩,b+1)
  else if (s[b]'h).toNat=123∧zAx s b<s.size∧zCB (s.extract (b+1) (zAx s b))=true then (⟨3,s.extract (b+1) (zAx s b),b⟩,zAx s b+1)
  else (⟨-1,⟨#[]⟩,b⟩,b)
 else (⟨-1,⟨#[]⟩,b⟩,b)
theorem indexByte_brk (l:List UInt8):Lib.indexByte l 125=if brk l<l.length then (brk l:Int) else -1:=by
 induction l with
 | nil=>rfl
 | cons c l ih =>
  unfold brk at ih⊢;unfold Lib.indexByte;rw[ih];by_cases h:c=125
  ·subst h;simp
  ·have hc:(c==125)=false:=by simpa using h
   have hc':(c != 125)=true:=by simpa using h
   rw[hc,kAQ,hc'];simp only[kCh,if_false,if_true,List.length_cons];generalize (l.takeWhile (fun c=>c != 125)).length=T;by_cases hl:T<l.length
   ·rw[kAb hl,kAb (show T+1<l.length+1 by omega),kAa (show ¬(((T:Int) == -1)=true) by rw[kAA];omega)];omega
   ·rw[kAa hl,kAa (show ¬T+1<l.length+1 by omega)];rfl
theorem zDb (s:ByteArray) (a:Nat):(zAn s a).length=s.size-a:=by
 unfold zAn;rw[kAl];rfl
theorem zCI (s:ByteArray) (a:Nat):(s.extract a s.size).data.toList=zAn s a:=by
 rw[kAS];exact kBp kCY
theorem trim_brace (s:ByteArray) (b:Nat) (h:b<s.size):strings_TrimPrefix.f (s.extract b s.size) ⟨#[123]⟩=some (if (s[b]'h).toNat=123 then s.extract (b+1) s.size else s.extract b s.size):=by
 have hsz:(s.extract b s.size).size=s.size-b:=kCY
 have h1:((⟨#[123]⟩:ByteArray).size:Int)=1:=rfl;have hx:((s.extract b s.size).extract 0 1).toList=[s[b]'h]:=by
  rw[kBm,kAS,zCI,kBB];unfold zAn;rw[kAn (show b<s.data.toList.length from h)];rfl
 unfold strings_TrimPrefix.f stringslite_TrimPrefix.f stringslite_HasPrefix.f;rw[h1,hsz,kAb kCW,kAb kCW,kAb kCW];rw[show ((1:Int):Int).toNat=1 from rfl,hx];simp only[Option.bind_some];have e2:(⟨#[123]⟩:ByteArray).toList=[123]:=by rw[kBm]
 rw[e2];by_cases hc:(s[b]'h).toNat=123
 ·have hc':s[b]'h=123:=kCT.1 hc;rw[kAb hc,hc',kAb kD9,kAb kCW,kAb kCW,Option.bind_some];congr 1;apply kC0;apply kBZ.1;have hs1:(s.extract b s.size).size-1=s.size-b-1:=by rw[hsz]
  rw[kAS,zCI,← hsz];rw[show (s.extract (b+1) s.size).data.toList=zAn s (b+1) from zCI s (b+1)];unfold zAn;rw[kCr,kBp (by rw[kAl,hs1];have:s.data.toList.length=s.size:=rfl;omega)]
 ·rw[kAa hc,kAa (by intro h2;apply hc;rw[kAA,List.cons.injEq] at h2;rw[h2.1];rfl)];rfl
theorem next_unit (S:Nat) (s:ByteArray) (a b:Nat) (w:World) (ha:a≤s.size) (hs:s.size≤2147483648) (hS:Scan w S s a) (hb:zAl s a=b) (hbl:b<s.size)
  (k:Int) (hk:srt (s[b]'hbl).toNat=k) (hk2:(k==2)=false) (hk4:(k==4)=false) (hk5:(k==5)=false) :
  Calls Tryz.prog 88 #[.pointer (some ⟨S,0,none⟩)] w fun e w'=>e=.returned (.tuple #[tokV (zAE s b).1,.bool true])∧w.grownBy w' (some S)∧Scan w' S s (zAE s b).2:=by
 have ht:=trim_brace s b hbl;have n2:¬srt (s[b]'hbl).toNat=2:=by rw[hk];exact kAj.1 hk2
 have n4:¬srt (s[b]'hbl).toNat=4:=by rw[hk];exact kAj.1 hk4
 have n5:¬srt (s[b]'hbl).toNat=5:=by rw[hk];exact kAj.1 hk5
 have hT:zAE s b=if (s[b]'hbl).toNat=123∧zAx s b<s.size∧zCB (s.extract (b+1) (zAx s b))=true then (⟨3,s.extract (b+1) (zAx s b),b⟩,zAx s b+1) else (⟨-1,⟨#[]⟩,b⟩,b):=by
  unfold zAE;rw[kCo hbl,kAa n2,kAa n4,kAa n5]
 have cutv:∀r:ByteArray,r.size≤s.size→∃(i o:ByteArray) (f:Bool),i.size≤s.size∧(∀w,Calls Tryz.prog 123 #[.string r,.string ⟨#[125]⟩] w fun e w'=>e=.returned (.tuple #[.string i,.string o,.bool f])∧∃n,w'=w.drewN n) ∧
   f=decide (brk r.data.toList<r.size)∧(f=true→i=r.extract 0 (brk r.data.toList)):=by
  intro r hr;have hx:=indexByte_brk r.data.toList;by_cases hl:brk r.data.toList<r.size
  ·rw[kAb (show brk r.data.toList<r.data.toList.length from hl)] at hx;exact⟨_,_,true,kDC,fun w=>cut_some r 125 _ w kCW hx hl,by simp[hl],fun _=>rfl⟩
  ·rw[kAa (show ¬brk r.data.toList<r.data.toList.length from hl)] at hx;exact⟨_,_,false,hr,fun w=>cut_none r 125 w hx,by simp[hl],fun h=>by cases h⟩
 by_cases hc:(s[b]'hbl).toNat=123
 ·rw[kAb hc] at ht;obtain⟨i,o,f,hi,hcut,hf,hfi⟩:=cutv (s.extract (b+1) s.size) kDC;rw[zCI] at hf hfi;have hsz:(s.extract (b+1) s.size).size=s.size-(b+1):=kCY
  rw[hsz] at hf;by_cases hl:zAx s b<s.size
  ·have hf':f=true:=by rw[hf];unfold zAx at hl;simp;omega
   have hie:i=s.extract (b+1) (zAx s b):=by
    rw[hfi hf',ByteArray.extract_extract];unfold zAx;congr 1;unfold zAx at hl;omega
   cases hu:zCB i
   ·rw[hT,kAa (by rw[← hie,hu];simp)];exact zDY S s a b _ i o f w ha hs hS hb hbl k hk hk2 hk4 hk5 ht hi hcut _ _ (.inr (.inr (.inl ⟨hc,hf',hu,rfl,rfl⟩)))
   ·rw[hT,kAb ⟨hc,hl,by rw[← hie];exact hu⟩,← hie];refine zDY S s a b _ i o f w ha hs hS hb hbl k hk hk2 hk4 hk5 ht hi hcut _ _ (.inr (.inr (.inr ⟨hc,hf',hu,rfl,?_⟩)));have:i.size=zAx s b-(b+1):=by rw[hie,kAy];omega
    unfold zAx at this⊢;omega
  ·have hf':f=false:=by rw[hf];unfold zAx at hl;simp;omega
   rw[hT,kAa (by simp[hl])];exact zDY S s a b _ i o f w ha hs hS hb hbl k hk hk2 hk4 hk5 ht hi hcut _ _ (.inr (.inl ⟨hc,hf',rfl,rfl⟩))
 ·rw[kAa hc] at ht;obtain⟨i,o,f,hi,hcut,_,_⟩:=cutv (s.extract b s.size) kDC;rw[hT,kAa (by simp[hc])];exact zDY S s a b _ i o f w ha hs hS hb hbl k hk hk2 hk4 hk5 ht hi hcut _ _ (.inl ⟨hc,rfl,rfl⟩)
theorem next_any (S:Nat) (s:ByteArray) (a:Nat) (w:World) (ha:a≤s.size) (hs:s.size≤2147483648) (hS:Scan w S s a) :
  Calls Tryz.prog 88 #[.pointer (some ⟨S,0,none⟩)] w fun e w'=>e=.returned (.tuple #[tokV (zAE s (zAl s a)).1,.bool (decide (zAl s a<s.size))])∧w.grownBy w' (some S)∧Scan w' S s (zAE s (zAl s a)).2:=by
 have hle:zAl s a≤s.size:=zDF [1] s a ha;by_cases hbl:zAl s a<s.size
 ·rw[kA5 hbl];by_cases h2:srt (s[zAl s a]'hbl).toNat=2
  ·have hT:zAE s (zAl s a)=(⟨zDZ (s.extract (zAl s a) (zAS s (zAl s a))),s.extract (zAl s a) (zAS s (zAl s a)),zAl s a⟩,zAS s (zAl s a)):=by
    unfold zAE;rw[kCo hbl,kAb h2]
   rw[hT];refine next_small S s a _ _ _ _ w ha hs hS rfl hbl h2 rfl rfl ?_;unfold zDZ
   cases zDe (s.extract (zAl s a) (zAS s (zAl s a)))<;>cases zC7 (s.extract (zAl s a) (zAS s (zAl s a)))<;>simp
  ·by_cases h4:srt (s[zAl s a]'hbl).toNat=4
   ·have hT:zAE s (zAl s a)=(⟨zF2 (s[zAl s a]'hbl).toNat (s.extract (zAl s a) (zBi s (zAl s a))),s.extract (zAl s a) (zBi s (zAl s a)),zAl s a⟩,zBi s (zAl s a)):=by
     unfold zAE;rw[kCo hbl,kAa h2,kAb h4]
    rw[hT];refine next_digit S s a _ _ _ _ w ha hs hS rfl hbl h4 rfl rfl ?_;generalize s.extract (zAl s a) (zBi s (zAl s a))=x;generalize (s[zAl s a]'hbl).toNat=c;unfold zF2;by_cases hc:c=48
    ·by_cases hx:x.size=1
     ·exact .inr (.inl ⟨hc,hx,by rw[kAb kCW]⟩)
     ·exact .inr (.inr (.inr ⟨hc,hx,by rw[kAa kCW]⟩))
    ·by_cases hx:x.size≤400
     ·exact .inl ⟨hc,hx,by rw[kAb kCW]⟩
     ·exact .inr (.inr (.inl ⟨hc,kCW,by rw[kAa kCW]⟩))
   ·by_cases h5:srt (s[zAl s a]'hbl).toNat=5
    ·have hT:zAE s (zAl s a)=(⟨4,⟨#[s[zAl s a]'hbl]⟩,zAl s a⟩,zAl s a+1):=by
      unfold zAE;rw[kCo hbl,kAa h2,kAa h4,kAb h5]
     rw[hT];exact next_mark S s a _ w ha hs hS rfl hbl h5
    ·exact next_unit S s a _ w ha hs hS rfl hbl _ rfl (kAj.2 h2) (kAj.2 h4) (kAj.2 h5)
 ·have he:zAl s a=s.size:=kCW
  have hT:zAE s (zAl s a)=(⟨-1,⟨#[]⟩,zAl s a⟩,zAl s a):=by unfold zAE;rw[dif_neg hbl]
  rw[kA6 hbl,hT,he];exact next_end S s a w ha hs hS he
def zBV:Nat→ByteArray→Nat→List S47
 | 0,_,_=>[]
 | n+1,s,a=>if zAl s a<s.size then (if (zAE s (zAl s a)).1.f0=-1 then [(zAE s (zAl s a)).1] else (zAE s (zAl s a)).1 :: zBV n s (zAE s (zAl s a)).2) else []
theorem runLen_pos {ks:List Int} {s:ByteArray} {b:Nat} (h:b<s.size) (hk:ks.contains (srt (s[b]'h).toNat)=true):1≤zBa ks (zAn s b):=by
 unfold zAn zBa;rw[kAn (show b<s.data.toList.length from h),kAQ];have:okC ks (s.data.toList[b]'(show b<s.data.toList.length from h))=true:=hk;rw[kAb this,List.length_cons];omega
theorem zDg (s:ByteArray) (b:Nat) (h:b<s.size) (hk:(zAE s b).1.f0≠-1):b<(zAE s b).2∧(zAE s b).2≤s.size:=by
 unfold zAE at hk⊢;rw[kCo h] at hk⊢;split
 ·rename_i h2;have h1:=runLen_pos (ks:=[2,3,4]) h (by rw[h2];rfl);have h3:=zDF [2,3,4] s b kCW;unfold zAS;exact⟨kCW,h3⟩
 ·split
  ·rename_i h4;have h1:=runLen_pos (ks:=[4]) h (by rw[h4];rfl);have h3:=zDF [4] s b kCW;unfold zBi;exact⟨kCW,h3⟩
  ·split
   ·exact⟨kDg,h⟩
   ·split
    ·rename_i h6;unfold zAx at h6⊢;exact⟨kDg,kDg⟩
    ·rename_i h2 h4 h5 h6;rw[kAa h2,kAa h4,kAa h5,kAa h6] at hk;exact absurd rfl hk
theorem zET {p:Prop} (h:Fence.wide.depth.isSome=true):p:=by simp[Fence.wide] at h
theorem tokens1_in (n l:Nat) (box:Addr) (s:ByteArray) (hs:s.size≤2147483648) (J Jx:List S47→World→Prop) (W:World) (hbox:W.cell? box=some (.string s))
  (hJ:∀pre A B,J pre A→A.grownBy B (some W.heap.size)→J pre B) (hJx:∀pre A B,Jx pre A→A.grownBy B (some W.heap.size)→Jx pre B)
  (hY:∀pre t A,J pre A→(∃rest,zBV (s.size+1) s 0=pre++t :: rest)→W.heap.size<A.heap.size →
   YieldAt Fence.wide (n-1) Tryz.prog l #[tokV t] (A.alloc (.cells #[.int .i64 t.f0,.string t.f1,.int .i64 t.f2] 47)) fun e B =>
    (e=.returned (.bool true)∧J (pre++[t]) B∧B.heap[W.heap.size]?=A.heap[W.heap.size]?∧B.heap[A.heap.size]?=some (.cells #[.int .i64 t.f0,.string t.f1,.int .i64 t.f2] 47 (0,0))) ∨
    (e=.returned (.bool false)∧Jx (pre++[t]) B))
  (h0:J [] W) :
  CallsIn Fence.wide n Tryz.prog 87 #[.func (.yield l) #[] #[],.pointer (some box)] W fun e W'=>e=.returned (.tuple #[])∧(J (zBV (s.size+1) s 0) W'∨∃pre rest,zBV (s.size+1) s 0=pre++rest∧Jx pre W'):=by
 have H0:=kA1 h0;clear h0;have hD:Fence.wide.depth.isSome=false:=rfl;have hF88:Fence.wide.fn 88:=trivial;unfold tokV at hY;have HJJ:=kA1 hJ;have HJX:=kA1 hJx;have HY:=kA1 hY;clear hJ hJx hY;refine kCA Tryz.func87 rfl trivial ?_ rfl;simp only[Tryz.ntmps87,kAf,List.length_cons,List.length_nil,Nat.reduceAdd,Nat.reduceSub,kAV,Array.replicate_zero,kBh,kAP,List.nil_append,List.cons_append]
 gi_wp2
 have hS0:Scan (W.alloc (.cells #[.string s,.int .i64 0] 129)) W.heap.size s 0:=zA4 W _;have HS0:=kA1 hS0;clear hS0
 gi_loopg [] (s.size+1) (fun k wr=>∃pre a,s.size-a+1≤k∧a≤s.size∧Scan wr W.heap.size s a∧Hid (J pre wr)∧Hid (zBV (s.size+1) s 0=pre++zBV k s a))
 case atStart=>exact⟨[],0,kCW,kCW,HS0.out,HJJ.out _ _ _ H0.out (kAE _ _ _),rfl⟩
 case round =>
  obtain⟨pre,a,hka,ha,hsc,HJ,Hf⟩:=hrel;have hnext:=(kBo (n:=n-1)).2 (next_any W.heap.size s a wr ha hs hsc)
  cases gk with
  | zero=>omega
  | succ m =>
   by_cases hb:zAl s a<s.size
   ·obtain⟨t,ht⟩:∃t,t=(zAE s (zAl s a)).1:=⟨_,rfl⟩;obtain⟨a',ha'⟩:∃a',a'=(zAE s (zAl s a)).2:=⟨_,rfl⟩;have Hun:Hid (zBV (m+1) s a=if t.f0=-1 then [t] else t :: zBV m s a'):=by
     show zBV (m+1) s a=_;rw[zBV,kAb hb,← ht,← ha']
    have hmore:=zDg s (zAl s a) hb;rw[← ht,← ha'] at hmore;rw[← ht,← ha',kA5 hb] at hnext;have Hmore:=kA1 hmore;have hba:a≤zAl s a:=kDN
    have Hba:=kA1 hba;clear ht ha' hmore hba;unfold tokV at hnext
    gi_wp2_with (gi_at_call 88;refine hnext.mono ?_;rintro e w1 ⟨rfl,hg,hsc1⟩)
    have HJ1:=kA1 (HJJ.out pre wr w1 HJ.out hg);have hlt1:W.heap.size<w1.heap.size:=zA5 hsc1;have Hfull:Hid (∃rest,zBV (s.size+1) s 0=pre++t :: rest):=by
     have h1:=Hf.out;rw[Hun.out] at h1;by_cases ht:t.f0=-1
     ·rw[kAb ht] at h1;exact⟨_,h1⟩
     ·rw[kAa ht] at h1;exact⟨_,h1⟩
    have hsplit:(t.f0=-1∧(t.f0 == -1)=true)∨(t.f0≠-1∧(t.f0 == -1)=false):=by
     by_cases ht:t.f0=-1
     ·exact .inl ⟨ht,by rw[kAA];exact ht⟩
     ·exact .inr ⟨ht,by rw[kAj];exact ht⟩
    obtain⟨fn,tmps,assign,body,hy,hR⟩:=HY.out pre t w1 HJ1.out Hfull.out hlt1;have hsc2:=kA1 hsc1;clear hsc hsc1;rw[hy]
    gi_wp2
    refine hR.mono ?_;rintro e W3 (⟨rfl,hJ3,hkS,hkT⟩ | ⟨rfl,hJx3⟩)
    ·have HJ3:=kA1 hJ3;have hsc3:Scan W3 W.heap.size s a':=by
      show W3.heap[W.heap.size]?=_;rw[hkS];exact hsc2.out
     have hT0:=zA1 hkT 0;have HT:=kA1 hkT;clear hy hR hJ3 hkS hkT;rcases hsplit with⟨hb1,hb2⟩ | ⟨hb1,hb2⟩
     ·have Hres:Hid (zBV (s.size+1) s 0=pre++[t]):=by
       show _=_;rw[Hf.out,Hun.out,kAb hb1]
      clear hb1
      gi_wp2
      refine kAg (kAX rfl _ _ _) rfl ⟨rfl,.inl ?_⟩;rw[Hres.out];exact HJ3.out
     ·have Hres:Hid (zBV (s.size+1) s 0=(pre++[t])++zBV m s a'):=by
       show _=_;rw[Hf.out,Hun.out,kAa hb1,kCm];rfl
      have hm:=Hmore.out hb1;clear hb1
      gi_wp2
      gi_roundg m
      case measure=>omega
      case rel=>exact⟨pre++[t],a',by have:=Hba.out;omega,kCW,hsc3,HJ3,Hres⟩
    ·have HJ3:=kA1 hJx3;clear hy hR hJx3
     gi_wp2
     obtain⟨rest,hrest⟩:=Hfull.out;refine kAg (kAX rfl _ _ _) rfl ⟨rfl,.inr ⟨pre++[t],rest,?_,HJ3.out⟩⟩;rw[hrest,kCm];rfl
   ·have Hres:Hid (zBV (s.size+1) s 0=pre):=by
     show _=_;rw[Hf.out,zBV,kAa hb,kBV]
    rw[kA6 hb] at hnext;unfold tokV at hnext
    gi_wp2_with (gi_at_call 88;refine hnext.mono ?_;rintro e w1 ⟨rfl,hg,hsc1⟩)
    refine⟨fun f hf=>(by cases hf),?_⟩
    gi_wp2
    refine kAg (kAX rfl _ _ _) rfl ⟨rfl,.inl ?_⟩;rw[Hres.out];exact HJJ.out _ _ _ (HJJ.out pre wr w1 HJ.out hg) (kAE _ _ _)
def tokO (t:S47):Obj:=.cells #[.int .i64 t.f0,.string t.f1,.int .i64 t.f2] 47
def zA6 (s:ByteArray):List S47:=zBV (s.size+1) s 0
def tokPost (S T:Nat) (I Ix:List S47→World→Prop) (xs:List S47) (W:World):Exit→Act→World→Prop
 | .normal,_,W'=>KeepsOthers W W'∧I xs W'∧W'.heap[S]?=W.heap[S]?∧W'.heap[T]?=W.heap[T]?
 | .ret,_,W'=>KeepsOthers W W'∧Ix xs W'
 | _,_,_=>False
theorem zAy (W:World) (l:Nat) (o:Obj):W.grownBy (W.putObj l o) (some l) :=
 ⟨rfl,rfl,rfl,kCY,fun k _ hk=>kAp (fun e=>hk (by rw[e]))⟩
theorem zCr (w:World) (o o':Obj) (row:Option Nat):w.grownBy ((w.alloc o).alloc o') row:=kCi (kAE w o row) o'
theorem zDH {n:Nat} {g:Operand} {p:Tmp} {assign body:Code} {Q:Exit→Act→World→Prop} {a:Act} {w:World} {box:Addr} {s:ByteArray} (tm:S47→Nat→Array Value)
  (hg:a.eval g=.func (.func 87) #[] #[.pointer (some box)]) (hs:s.size≤2147483648) (hbox:w.cell? box=some (.string s))
  (I Ix:List S47→World→Prop)
  (hI:∀pre A B k,I pre A→(k=w.heap.size+1∨k=w.heap.size+2)→A.grownBy B (some k)→I pre B)
  (hIx:∀pre A B k,Ix pre A→(k=w.heap.size+1∨k=w.heap.size+2)→A.grownBy B (some k)→Ix pre B) (h0:I [] w)
  (hassign:∀(l:Nat) (t:S47) (A:World) (K:Act→World→Prop),K { tmps:=tm t A.heap.size,defers:=[] } (A.alloc (tokO t)) →
   assign.wpIn (Fence.wide.inRound l) (n-1-1) Tryz.prog (Exit.then K (fun _ _ _=>False)) { tmps:=a.tmps.setIfInBounds p (tokV t),defers:=[] } A)
  (hbody:∀(pre:List S47) (t:S47) (A W0:World),I pre A→(∃rest,zA6 s=pre++t :: rest)→w.heap.size+2<A.heap.size →
   ((A.alloc (tokO t)).alloc (tokO t)).grownBy W0 (some (w.heap.size+1))→W0.heap.size=A.heap.size+2 →
   body.wpIn (Fence.wide.inRound (w.heap.size+1)) (n-1-1) Tryz.prog (tokPost (w.heap.size+2) A.heap.size I Ix (pre++[t]) W0) { tmps:=tm t (A.heap.size+1),defers:=[] } W0)
  (hdone:∀(W:World),I (zA6 s) W→W.heap[w.heap.size]?=some (.deferred (some []))→Q .normal { a with defers:={ target:=.collected w.heap.size,args:=#[] } :: a.defers } W)
  (hstop:∀(pre rest:List S47) (W:World),zA6 s=pre++rest→Ix pre W→W.heap[w.heap.size]?=some (.deferred (some [])) →
   Code.ret.wpIn Fence.wide n Tryz.prog Q { a with defers:={ target:=.collected w.heap.size,args:=#[] } :: a.defers } W) :
  (Code.rangeFunc g #[p] assign body).wpIn Fence.wide n Tryz.prog Q a w:=by
 refine wpIn_rangeFunc ?_;intro fn _;obtain⟨rec,hrec⟩:∃rec:LoopState→Option Code→Loop,rec=fun st pe=>{ state:=st,pending:=pe,fn,tmps:=a.tmps,params:=#[p],assign,body,defers:=w.heap.size }:=⟨_,rfl⟩
 obtain⟨W1,hW1⟩:∃W1,(w.alloc (.deferred (some []))).alloc (.loop (rec .ready none))=W1:=⟨_,rfl⟩;have hsz1:W1.heap.size=w.heap.size+2:=by rw[← hW1];simp
 have hL1:W1.heap[w.heap.size+1]?=some (.loop (rec .ready none)):=by
  rw[← hW1];have:=kBP (w.alloc (.deferred (some []))) (.loop (rec .ready none));rwa [kAC] at this
 have hK1:W1.heap[w.heap.size]?=some (.deferred (some [])):=by
  rw[← hW1];exact (kA4 _ _ _ kCY).trans (kBP w _)
 have hI1:I [] W1:=by rw[← hW1];exact hI _ _ _ _ h0 (.inl rfl) (zCr _ _ _ _)
 have hbx:box.block<w.heap.size:=kAG w box hbox;have hb1:W1.cell? box=some (.string s):=by
  rw[← hW1];have hb:Below w.heap.size w ((w.alloc (.deferred (some []))).alloc (.loop (rec .ready none))):=((kA3 _ w).alloc (kA2 _) _).alloc kCY _;exact (hb.cell hbx).trans hbox
 refine⟨w.heap.size+1,[{ target:=.collected w.heap.size,args:=#[] }],W1,{ target:=.fn (.func 87) #[.pointer (some box)],args:=#[.func (.yield (w.heap.size+1)) #[] #[]] },W1,87,
  #[.func (.yield (w.heap.size+1)) #[] #[],.pointer (some box)],W1,?_,?_,?_,?_,zET,?_⟩
 ·rw[← hW1,hrec];exact run_enterLoop_outer _ _ _ _ _
 ·simp only[resolve,hg];simp[go_sem]
 ·intro f' _;trivial
 ·simp only[invoke];simp[go_sem]
 ·have hS:∀B:World,w.heap.size+2<B.heap.size→w.heap.size+2<B.heap.size:=fun _ h=>h
  refine (tokens1_in (n-1) (w.heap.size+1) box s hs
   (fun pre W=>I pre W∧W.heap[w.heap.size+1]?=some (.loop (rec .ready none))∧W.heap[w.heap.size]?=some (.deferred (some [])))
   (fun pre W=>Ix pre W∧W.heap[w.heap.size+1]?=some (.loop (rec .done (some .ret)))∧W.heap[w.heap.size]?=some (.deferred (some [])))
   W1 hb1 ?_ ?_ ?_ ⟨hI1,hL1,hK1⟩).mono ?_
  ·rintro pre A B⟨hi,hl,hk⟩ hgr;rw[hsz1] at hgr;have hlA:=zA5 hl;exact⟨hI _ _ _ _ hi (.inr rfl) hgr,(hgr.block _ hlA kD2).trans hl,(hgr.block _ kCW kD2).trans hk⟩
  ·rintro pre A B⟨hi,hl,hk⟩ hgr;rw[hsz1] at hgr;have hlA:=zA5 hl;exact⟨hIx _ _ _ _ hi (.inr rfl) hgr,(hgr.block _ hlA kD2).trans hl,(hgr.block _ kCW kD2).trans hk⟩
  ·-- one round
   rintro pre t A⟨hi,hl,hk⟩ hrest hAS;rw[hsz1] at hAS⊢;have hlA:=zA5 hl;have hl0:(A.alloc (tokO t)).heap[w.heap.size+1]?=some (.loop (rec .ready none)):=(kA4 _ _ _ hlA).trans hl;have hy:=run_yield (P:=Tryz.prog) (args:=#[tokV t]) hl0 (by rw[hrec];rfl);rw[hrec] at hy;refine⟨fn,_,assign,body,hy,roundIn_of_wpIn trivial ?_⟩;have hzip:(#[p].zip #[tokV t]).foldl (fun tmps (x:Tmp×Value)=>tmps.setIfInBounds x.1 x.2) a.tmps=a.tmps.setIfInBounds p (tokV t):=kCY
   show assign.wpIn _ _ _ _ { tmps:=(#[p].zip #[tokV t]).foldl (fun tmps (x:Tmp×Value)=>tmps.setIfInBounds x.1 x.2) a.tmps,defers:=[] } _;rw[hzip];refine hassign _ t _ _ ?_;have hl1:((A.alloc (tokO t)).alloc (tokO t)).heap[w.heap.size+1]?=some (.loop (rec .ready none)):=(kA4 _ _ _ kCZ).trans hl0;refine⟨_,run_beginRound hl1 (by rw[hrec]),?_⟩;obtain⟨W0,hW0⟩:∃W0,W0=((A.alloc (tokO t)).alloc (tokO t)).putObj (w.heap.size+1) (.loop { rec .ready none with state:=.busy }):=⟨_,rfl⟩;show Code.wpIn _ _ _ body _ _ (((A.alloc (tokO t)).alloc (tokO t)).putObj (w.heap.size+1) (.loop { rec .ready none with state:=.busy }));rw[← hW0];have hgr0:((A.alloc (tokO t)).alloc (tokO t)).grownBy W0 (some (w.heap.size+1)):=by rw[hW0];exact zAy _ _ _
   have hz0:W0.heap.size=A.heap.size+2:=by rw[hW0];simp
   have hl2:W0.heap[w.heap.size+1]?=some (.loop { rec .ready none with state:=.busy }):=by rw[hW0];exact kBf kCZ
   have hk2:W0.heap[w.heap.size]?=some (.deferred (some [])):=(hgr0.block _ kCZ kD2).trans ((kA4 _ _ _ kCZ).trans ((kA4 _ _ _ kCW).trans hk));have hT2:W0.heap[A.heap.size]?=some (tokO t):=(hgr0.block _ kCZ kD2).trans ((kA4 _ _ _ kCY).trans (zA4 A _));have hS2:W0.heap[w.heap.size+2]?=A.heap[w.heap.size+2]?:=(hgr0.block _ kCZ kD2).trans ((kA4 _ _ _ kCZ).trans (kA4 _ _ _ kCW));have hz:(A.alloc (tokO t)).heap.size=A.heap.size+1:=kCY
   show Code.wpIn _ _ _ body _ { tmps:=tm t (A.alloc (tokO t)).heap.size,defers:=[] } _;rw[hz];refine wpIn_mono (hbody pre t A W0 hi hrest hAS hgr0 hz0) ?_;rintro e a3 W3 hp
   cases e with
   | normal =>
    obtain⟨hk3,hi3,hS3,hT3⟩:=hp;have hl3:=hk3.same _ _ hl2 rfl;have hd3:=hk3.same _ _ hk2 rfl;have hr:=run_endRound (P:=Tryz.prog) none hl3;rw[hrec] at hr hl3;refine⟨_,_,hr,.inl ⟨rfl,⟨hI _ _ _ _ hi3 (.inl rfl) (zAy _ _ _),?_,(kAp kCW).trans hd3⟩,(kAp kCW).trans (hS3.trans hS2),(kAp kCW).trans (hT3.trans hT2)⟩⟩;rw[hrec];exact kBf (zA5 hl3)
   | ret =>
    obtain⟨hk3,hi3⟩:=hp;have hl3:=hk3.same _ _ hl2 rfl;have hd3:=hk3.same _ _ hk2 rfl;have hr:=run_endRound (P:=Tryz.prog) (some .ret) hl3;rw[hrec] at hr hl3;refine⟨_,_,hr,.inr ⟨rfl,hIx _ _ _ _ hi3 (.inl rfl) (zAy _ _ _),?_,(kAp kCW).trans hd3⟩⟩;rw[hrec];exact kBf (zA5 hl3)
   | exit id=>exact hp.elim
   | goto t=>exact hp.elim
   | panic ch=>exact hp.elim
   | outgrown=>exact hp.elim
  ·rintro e W2⟨rfl,(⟨hi,hl,hk⟩ |⟨pre,rest,hpr,hi,hl,hk⟩)⟩
   ·have he:=run_endLoop (P:=Tryz.prog) hl kDu;rw[hrec] at he;exact⟨none,_,he,hdone _ (hI _ _ _ _ hi (.inl rfl) (zAy _ _ _)) ((kAp kCW).trans hk)⟩
   ·have he:=run_endLoop (P:=Tryz.prog) hl kDu;rw[hrec] at he;exact⟨some .ret,_,he,hstop pre rest _ hpr (hIx _ _ _ _ hi (.inl rfl) (zAy _ _ _)) ((kAp kCW).trans hk)⟩
theorem tokens_in (n:Nat) (s:ByteArray) (w:World):CallsIn Fence.wide n Tryz.prog 53 #[.string s] w fun e w'=>e=.returned (.func (.func 87) #[] #[.pointer (some ⟨w.heap.size,0,none⟩)])∧w'=w.alloc (.cells #[.string s] 9):=by
 refine kCA Tryz.func53 rfl trivial ?_ rfl;simp only[Tryz.ntmps53,kAf,List.length_cons,List.length_nil,Nat.reduceAdd,Nat.reduceSub,kAV,Array.replicate_zero,kBh,kAP,List.nil_append,List.cons_append]
 gi_wp2
 go_ret;exact⟨rfl,rfl⟩
section
attribute [local go_sem] Oper.semAt_some
def tokC (t:S47):List Value:=[.int .i64 t.f0,.string t.f1,.int .i64 t.f2]
def flat (ts:List S47):List Value:=ts.flatMap tokC
theorem zG3 (ts:List S47) (t:S47):flat (ts++[t])=flat ts++tokC t:=by simp[flat]
theorem zD2 (n:Nat) (s:ByteArray):∀a,(zBV n s a).length≤n:=by
 induction n with
 | zero=>intro a;exact kA2 _
 | succ n ih =>
  intro a;rw[zBV];split
  ·split
   ·simp
   ·rw[List.length_cons];have:=ih (zAE s (zAl s a)).2;omega
  ·simp
def zAT (W:World) (base:Nat) (v:Value) (ts:List S47):Prop:=W.ownsRow base 47 3 v ts.length (flat ts)
theorem zAT.kept {W W':World} {base:Nat} {v:Value} {ts:List S47} (h:zAT W base v ts) {k:Nat} (hk:k<base) (hg:W.grownBy W' (some k)):zAT W' base v ts:=by
 refine World.ownsRow.kept h hg ?_
 cases hv:v.ownBlock with
 | none=>exact .inl rfl
 | some b=>refine .inr (fun e=>?_);injection e with e;have:=(kBu h b hv).1;omega
theorem results133 {tmps:Array Value} {W:World} {R:Nat} {cs:Array Value} (h2:tmps.getD 2 undef=.pointer (some ⟨R,0,none⟩)) (hs:cs.size=3) (hR:W.heap[R]?=some (.cells cs 93 (0,0))) :
  (results Tryz.f133 tmps).run Tryz.prog W=.ok (.agg cs) W:=by
 have hp':tmps[2]?.getD undef=.pointer (some ⟨R,0,none⟩):=by simpa using h2
 have hi:(Tryz.prog.info? 93).map (·.size)=some cs.size:=by rw[hs];kernel_rfl
 simp[results,Tryz.results133,hp',asAddr,kC3 W R 93 93 cs (0,0) _ hR Tryz.underlying93 rfl hi]
theorem newQueue_in (n:Nat) (s:ByteArray) (hs:s.size≤2000) (w:World):CallsIn Fence.wide n Tryz.prog 133 #[.string s] w fun e w' =>
  ∃v,e=.returned (.agg #[v,.int .i64 0,.int .i64 s.size])∧zAT w' w.heap.size v (zA6 s)∧Below w.heap.size w w':=by
 have hD:Fence.wide.depth.isSome=false:=rfl;have hF53:Fence.wide.fn 53:=trivial;refine kCu Tryz.func133 rfl trivial ?_ rfl;simp only[Tryz.ntmps133,kAf,List.length_cons,List.length_nil,Nat.reduceAdd,Nat.reduceSub,kAV,Array.replicate_zero,kBh,kAP,List.nil_append,List.cons_append]
 gi_wp2_with (gi_at_call 53;refine (tokens_in (n-1) s _).mono ?_;rintro e w' ⟨rfl,rfl⟩)
 obtain⟨W,hW⟩:∃W,W=(((w.alloc (Obj.cells #[Value.slice none 0 0,Value.int IntKind.i64 0,Value.int IntKind.i64 0] 93)).alloc (Obj.cells #[Value.slice none 0 0,Value.int IntKind.i64 0,Value.int IntKind.i64 s.size] 93)).alloc (Obj.cells #[Value.string s] 9)):=⟨_,rfl⟩;have hz:W.heap.size=w.heap.size+3:=by rw[hW];simp
 have hbW:Below w.heap.size w W:=by rw[hW];exact (((kA3 _ w).alloc (kA2 _) _).alloc kCY _).alloc kCZ _
 have hR:W.heap[w.heap.size]?=some (.cells #[.slice none 0 0,.int .i64 0,.int .i64 0] 93 (0,0)):=by
  rw[hW];exact (kA4 _ _ _ kCZ).trans ((kA4 _ _ _ kCY).trans (zA4 w _))
 have hQ:W.heap[w.heap.size+1]?=some (.cells #[.slice none 0 0,.int .i64 0,.int .i64 s.size] 93 (0,0)):=by
  rw[hW];have:=zA4 (w.alloc (Obj.cells #[Value.slice none 0 0,Value.int IntKind.i64 0,Value.int IntKind.i64 0] 93)) (Obj.cells #[Value.slice none 0 0,Value.int IntKind.i64 0,Value.int IntKind.i64 s.size] 93);rw[kAC] at this;exact (kA4 _ _ _ kCY).trans this
 have hB:W.heap[w.heap.size+2]?=some (.cells #[.string s] 9 (0,0)):=by
  rw[hW];have:=zA4 ((w.alloc (Obj.cells #[Value.slice none 0 0,Value.int IntKind.i64 0,Value.int IntKind.i64 0] 93)).alloc (Obj.cells #[Value.slice none 0 0,Value.int IntKind.i64 0,Value.int IntKind.i64 s.size] 93)) (Obj.cells #[Value.string s] 9);rw[kAC,kAC] at this;exact this
 rw[← hW];clear hW;refine zDH (box:=⟨w.heap.size+2,0,none⟩) (s:=s)
  (fun t U=>#[Value.string s,undef,Value.pointer (some ⟨w.heap.size,0,none⟩),Value.pointer (some ⟨w.heap.size+1,0,none⟩),Value.pointer (some ⟨U,0,none⟩),Value.string s,Value.int IntKind.i64 s.size,
     Value.agg #[Value.slice none 0 0,Value.int IntKind.i64 0,Value.int IntKind.i64 s.size],Value.string s,Value.func (Fn.func 87) #[] #[Value.pointer (some ⟨w.heap.size+1+1,0,none⟩)],tokV t,undef,undef,undef,undef,undef,undef,undef])
  rfl kCW (zA1 hB 0)
  (fun pre X=>∃v,zAT X (W.heap.size+3) v pre∧X.heap[w.heap.size+1]?=some (.cells #[v,.int .i64 0,.int .i64 s.size] 93 (0,0))∧X.heap[w.heap.size]?=some (.cells #[.slice none 0 0,.int .i64 0,.int .i64 0] 93 (0,0))∧Below w.heap.size w X)
  (fun _ _=>False) ?hI (fun _ _ _ _ h _ _=>h) ⟨_,kCl _ _ _ _,hQ,hR,hbW⟩ ?assign ?body ?done (fun _ _ _ _ h _=>h.elim)
 case hI =>
  rintro pre A B k⟨v,ho,hq,hr,hb⟩ hk hg;exact⟨v,ho.kept kCW hg,(hg.block _ (zA5 hq) kD2).trans hq,(hg.block _ (zA5 hr) kD2).trans hr,hb.grown hg hb.size (fun j e=>by injection e with e;omega)⟩
 case assign =>
  intro l t A K hK;unfold tokV at hK⊢;unfold tokO at hK
  gi_wp2
  exact hK
 case body =>
  rintro pre t A W0⟨v,ho,hq,hr,hb⟩ hrest hlt hg hz0;unfold tokV;have hq0:W0.heap[w.heap.size+1]?=some (.cells #[v,.int .i64 0,.int .i64 s.size] 93 (0,0)) :=
   (hg.block _ (by simp;have:=zA5 hq;omega) kD2).trans ((kA4 _ _ _ (by simp;have:=zA5 hq;omega)).trans ((kA4 _ _ _ (zA5 hq)).trans hq))
  have hU:W0.heap[A.heap.size+1]?=some (tokO t):=by
   have:=zA4 (A.alloc (tokO t)) (tokO t);rw[kAC] at this;exact (hg.block _ kCY kD2).trans this
  have q0:=zA1 hq0 0;have q1:=zA2 hq0 0;have u0:=zA1 hU 0;have u1:=zA1 hU 1;have u2:=zA1 hU 2;obtain⟨i0,hi,iz0,iz1,iz2⟩:=info_parts info47;have HO:(W0.alloc (tokO t)).ownsRow (W.heap.size+3) 47 3 v pre.length (flat pre) :=
   zAT.kept (k:=W.heap.size+1) (zAT.kept (k:=W.heap.size+1) ho kCW (kA9 (zCr A (tokO t) (tokO t) _) hg)) kCW (kAE _ _ _)
  have HN:(W0.alloc (tokO t)).heap[A.heap.size+2]?=some (.cells (tokC t).toArray 47 (0,0)):=by
   have:=zA4 W0 (tokO t);rw[hz0] at this;exact this
  have HC:∀j u,(tokC t)[j]?=some u→(W0.alloc (tokO t)).cell? ((⟨A.heap.size+2,0,none⟩:Addr).add j)=some u:=by simpa using kBK HN
  have hlen:pre.length≤s.size:=by
   obtain⟨rest,hrest⟩:=hrest;have h1:=zD2 (s.size+1) s 0;unfold zA6 at hrest;rw[hrest,kAw,List.length_cons] at h1;omega
  have hzc:(Value.agg #[.int .i64 0,.string ⟨#[]⟩,.int .i64 0]).cells.size=3:=rfl;have hone:∀u∈tokC t,u.oneCell'=true:=by simp[tokC,Value.oneCell']
  have hb1:pre.length+1≤maxLen:=kDf
  have hb2:(pre.length+1)*32≤140737488355328:=kCW
  have hb3:W.heap.size+3≤(W0.alloc (tokO t)).heap.size:=kDl
  have hqlt:w.heap.size+1<(W0.alloc (tokO t)).heap.size:=kDl
  have hqa:(W0.alloc (tokO t)).heap[w.heap.size+1]?=some (.cells #[v,.int .i64 0,.int .i64 s.size] 93 (0,0)):=(kA4 _ _ _ kCW).trans hq0;have hqne:some (w.heap.size+1)≠v.ownBlock:=fun e=>by have:=(kBu HO _ e.symm).1;omega
  have hne:∀k,(k<W.heap.size+3∨A.heap.size≤k)→some k≠v.ownBlock:=fun k hk e=>by have:=kBu ho _ e.symm;omega
  have H1:=kA1 HO;have H2:=kA1 HC;have HQ:=kA1 hq;have HQ0:=kA1 hq0;have HU:=kA1 hU;clear hq hq0 hU HO HC HN hrest
  gi_wp2_with (gi_at_builtin;go_loud (refine kC7 _ rfl _ _ 35 rfl (W.heap.size+3) 47 i0 (.agg #[.int .i64 0,.string ⟨#[]⟩,.int .i64 0]) 3 32 Tryz.underlying35 hi iz0 iz1 iz2 hzc (kCs 2) v pre.length (flat pre) rfl H1.out ⟨A.heap.size+2,0,none⟩ 1 1 (tokC t) rfl rfl H2.out hone hb1 hb2 hb3 ?_);intro v' w1 hown' hgrow _;obtain⟨Av,cv,rfl⟩:=zC5 hown';have hq1:=(hgrow.block (w.heap.size+1) hqlt hqne).trans hqa;have c1:=zA1 hq1 0;have c2:=zA2 hq1 0;have HW:=kA1 hown';clear hown')
  have hQne:w.heap.size+1<W.heap.size+3:=kCW
  refine⟨?_,⟨.slice Av (pre.length+1) cv,?_,?_,?_,?_⟩,?_,?_⟩
  ·exact ((kCC W0 (tokO t)).trans (kCg hgrow (fun j o hj ho=>by
    obtain⟨cells,hc⟩:=zDi H1.out j hj;rw[hc] at ho;cases ho;rfl))).trans (kBE _ _ _)
  ·exact zAT.kept (ts:=pre++[t]) (k:=w.heap.size+1) (by unfold zAT;rw[kAw,zG3];exact HW.out) hQne (kAh _ _ _ _)
  ·exact zAa hq1 0 _
  ·exact (kA7 _ _ _ _ kCY).trans ((hgrow.block _ kDl (hne _ (.inl kCW))).trans ((kA4 _ _ _ kCW).trans ((hg.block _ kCZ kD2).trans ((kA4 _ _ _ kCZ).trans ((kA4 _ _ _ kCW).trans hr)))))
  ·have h1:=((hb.alloc kCW (tokO t)).alloc kCZ (tokO t)).grown hg kCZ (fun k e=>by injection e with e;omega);exact ((h1.alloc kCW (tokO t)).grown hgrow kCZ (fun k e=>by have:=(kBu H1.out k e).1;omega)).setCell (p:=⟨w.heap.size+1,0,none⟩) kCY _
  ·exact (kA7 _ _ _ _ kCZ).trans ((hgrow.block _ kDl (hne _ (.inl kCW))).trans (kA4 _ _ _ kCW))
  ·exact (kA7 _ _ _ _ kCZ).trans ((hgrow.block _ kDl (hne _ (.inr (kA2 _)))).trans (kA4 _ _ _ kCW))
 case done =>
  rintro X⟨v,ho,hq,hr,hb⟩ hdef;obtain⟨Av,cv,rfl⟩:=zC5 ho;have q0:=zA1 hq 0;have q1:=zA1 hq 1;have q2:=zA1 hq 2;have r0:=zA1 hr 0;have r1:=zA1 hr 1;have r2:=zA1 hr 2;have f0:=zA2 hr 0;have f1:=zA2 hr 1;have f2:=zA2 hr 2;have HQ:=kA1 hq;have HR:=kA1 hr;clear hq hr
  gi_wp2
  have hX:((((X.setCell ⟨w.heap.size,0,none⟩ (.slice Av (zA6 s).length cv)).setCell ⟨w.heap.size,1,none⟩ (.int .i64 0)).setCell ⟨w.heap.size,2,none⟩ (.int .i64 s.size))).heap[w.heap.size]?=some (.cells #[.slice Av (zA6 s).length cv,.int .i64 0,.int .i64 s.size] 93 (0,0)):=zAa (zAa (zAa HR.out 0 _) 1 _) 2 _;have hd:((((X.setCell ⟨w.heap.size,0,none⟩ (.slice Av (zA6 s).length cv)).setCell ⟨w.heap.size,1,none⟩ (.int .i64 0)).setCell ⟨w.heap.size,2,none⟩ (.int .i64 s.size))).heap[W.heap.size]?=some (.deferred (some [])) :=
   (kA7 _ _ _ _ kCZ).trans ((kA7 _ _ _ _ kCZ).trans ((kA7 _ _ _ _ kCZ).trans hdef))
  have hbb:Below w.heap.size w ((((X.setCell ⟨w.heap.size,0,none⟩ (.slice Av (zA6 s).length cv)).setCell ⟨w.heap.size,1,none⟩ (.int .i64 0)).setCell ⟨w.heap.size,2,none⟩ (.int .i64 s.size))) :=
   ((hb.setCell (p:=⟨w.heap.size,0,none⟩) (kA2 _) _).setCell (p:=⟨w.heap.size,1,none⟩) (kA2 _) _).setCell (p:=⟨w.heap.size,2,none⟩) (kA2 _) _
  have hoo:zAT ((((X.setCell ⟨w.heap.size,0,none⟩ (.slice Av (zA6 s).length cv)).setCell ⟨w.heap.size,1,none⟩ (.int .i64 0)).setCell ⟨w.heap.size,2,none⟩ (.int .i64 s.size))) (W.heap.size+3) (.slice Av (zA6 s).length cv) (zA6 s) :=
   zAT.kept (k:=w.heap.size) (zAT.kept (k:=w.heap.size) (zAT.kept (k:=w.heap.size) ho kCW (kAh _ _ _ _)) kCW (kAh _ _ _ _)) kCW (kAh _ _ _ _)
  generalize ((((X.setCell ⟨w.heap.size,0,none⟩ (.slice Av (zA6 s).length cv)).setCell ⟨w.heap.size,1,none⟩ (.int .i64 0)).setCell ⟨w.heap.size,2,none⟩ (.int .i64 s.size)))=X' at *;refine⟨kCY,.inl ⟨_,_,rfl,kCc hd,?_⟩⟩;refine⟨_,results133 rfl rfl ((kAp kCW).trans hX),_,rfl,?_,?_⟩
  ·exact zDW (zAT.kept (k:=W.heap.size) hoo kCW (zAy _ _ _)) kCW
  ·exact hbb.grown (zAy _ _ _) (by have:=hbb.size;exact this) (fun k e=>by injection e with e;omega)
end
end Go.Proofs.YtjaobihcdkjmbaaGreatDoor
end
