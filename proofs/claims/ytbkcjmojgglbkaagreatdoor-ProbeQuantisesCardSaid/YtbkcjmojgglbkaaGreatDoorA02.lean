/- Part A02. -/
import Derived.Shelf.Strings.Builder1
import Derived.Shelf.Strings.Builder2
import Derived.Shelf.Strings.Trim
import Derived.Shelf.Small.Utf8
import Derived.Shelf.Small.Bits
import Derived.Shelf.Small.Strs
import Derived.Shelf.Small.Wraps
import Derived.Shelf.Strings.BuilderF
import Derived.Shelf.Strings.BuilderK
import Derived.Shelf.Strconv.Atoi
import Derived.Shelf.Strconv.Itoa0
import Derived.Shelf.Strconv.Itoa1
import Derived.Shelf.LaysM
import Derived.Shelf.Strconv.Itoa2
import Derived.Shelf.Strconv.Itoa3
import Derived.Shelf.Strconv.AtoiErrFast
import Derived.Shelf.Strconv.ParseIntEmpty
import Derived.Shelf.Strconv.AtoiFail
import Derived.Shelf.Strconv.Clone
import Derived.Shelf.Strconv.SyntaxError
import Derived.Shelf.LaysC
import Derived.Shelf.Strconv.ToError
import Derived.Shelf.Strconv.Lower
import Derived.Shelf.Strconv.ParseUint10
import Derived.Shelf.Strconv.ParseUint10Empty
import Derived.Shelf.Strconv.ParseUint10Any
import Derived.Shelf.Strconv.ParseInt10
import Derived.Shelf.Strconv.AtoiLong
import Derived.Shelf.Strconv.AtoiInnerAll
import Derived.Shelf.Strconv.RangeError
import Derived.Shelf.Strconv.ToErrorRange
import Derived.Shelf.Strconv.AtoiAll
import Derived.Shelf.Strings.Search1
import Derived.Shelf.Strings.Search2
import Derived.Shelf.Strings.Cut
import Derived.Shelf.Strings.Shaped
import Derived.Shelf.Strings.Prefix
import Derived.Shelf.Strings.Runes
import Derived.Shelf.Strings.AsciiSet
import Derived.Shelf.Bits.Mul64
import Derived.Shelf.Strings.Repeat
import Derived.Shelf.Unicode.DecodeSlow
import Derived.Test.YtbkcjmojgglbkaaGreatDoorProg
import Derived.Test.YtbkcjmojgglbkaaGreatDoorA01
namespace Go.Proofs
set_option maxRecDepth 100000
set_option maxHeartbeats 8000000
open Go.Shelf
def Tryz.lays160_ren:Go.Shelf.Ren:=⟨fun | 160=>177 | 232=>211 | 231=>210 | 227=>212 | 234=>214 | 233=>213 | 236=>216 | 235=>215 | 228=>245 | 271=>248 | 151=>247 | 197=>246 | 120=>267 | 152=>266 | 260=>265 | 137=>276 | 119=>277 | 224=>243 | 225=>242 | 217=>241 | 266=>263 | n=>n,fun | 9=>9 | 4=>4 | 3=>3 | 5=>5 | 117=>245 | 116=>244 | 0=>0 | 124=>248 | 21=>21 | 105=>270 | 46=>250 | 119=>304 | 139=>307 | 138=>306 | n=>n,fun | 3=>7 | 4=>8 | n=>n⟩
theorem Tryz.lays160:Go.Proofs.Lays.n160 Tryz.prog Tryz.lays160_ren:={
 mixed:=by kernel_rfl
 f119:=Tryz.func277.trans (congrArg some (by kernel_rfl))
 f120:=Tryz.func267.trans (congrArg some (by kernel_rfl))
 f137:=Tryz.func276.trans (congrArg some (by kernel_rfl))
 f151:=Tryz.func247.trans (congrArg some (by kernel_rfl))
 f152:=Tryz.func266.trans (congrArg some (by kernel_rfl))
 f160:=Tryz.func177.trans (congrArg some (by kernel_rfl))
 f197:=Tryz.func246.trans (congrArg some (by kernel_rfl))
 f217:=Tryz.func241.trans (congrArg some (by kernel_rfl))
 f224:=Tryz.func243.trans (congrArg some (by kernel_rfl))
 f225:=Tryz.func242.trans (congrArg some (by kernel_rfl))
 f227:=Tryz.func212.trans (congrArg some (by kernel_rfl))
 f228:=Tryz.func245.trans (congrArg some (by kernel_rfl))
 f231:=Tryz.func210.trans (congrArg some (by kernel_rfl))
 f232:=Tryz.func211.trans (congrArg some (by kernel_rfl))
 f233:=Tryz.func213.trans (congrArg some (by kernel_rfl))
 f234:=Tryz.func214.trans (congrArg some (by kernel_rfl))
 f235:=Tryz.func215.trans (congrArg some (by kernel_rfl))
 f236:=Tryz.func216.trans (congrArg some (by kernel_rfl))
 f260:=Tryz.func265.trans (congrArg some (by kernel_rfl))
 f266:=Tryz.func263.trans (congrArg some (by kernel_rfl))
 f271:=Tryz.func248.trans (congrArg some (by kernel_rfl))
 t0:=Tryz.underlying0
 a0:=Tryz.isAgg0
 z0:=Tryz.sizeOf0
 v0:=Tryz.zeroValue0
 t3:=Tryz.underlying3
 a3:=Tryz.isAgg3
 z3:=Tryz.sizeOf3
 v3:=Tryz.zeroValue3
 t4:=Tryz.underlying4
 a4:=Tryz.isAgg4
 z4:=Tryz.sizeOf4
 v4:=Tryz.zeroValue4
 t5:=Tryz.underlying5
 a5:=Tryz.isAgg5
 z5:=Tryz.sizeOf5
 v5:=Tryz.zeroValue5
 t9:=Tryz.underlying9
 a9:=Tryz.isAgg9
 z9:=Tryz.sizeOf9
 v9:=Tryz.zeroValue9
 t21:=Tryz.underlying21
 a21:=Tryz.isAgg21
 z21:=Tryz.sizeOf21
 v21:=Tryz.zeroValue21
 t46:=Tryz.underlying250
 a46:=Tryz.isAgg250
 z46:=Tryz.sizeOf250
 v46:=Tryz.zeroValue250
 t105:=Tryz.underlying270
 a105:=Tryz.isAgg270
 z105:=Tryz.sizeOf270
 v105:=Tryz.zeroValue270
 t116:=Tryz.underlying244
 a116:=Tryz.isAgg244
 z116:=Tryz.sizeOf244
 t117:=Tryz.underlying245
 a117:=Tryz.isAgg245
 z117:=Tryz.sizeOf245
 v117:=Tryz.zeroValue245
 t119:=Tryz.underlying304
 a119:=Tryz.isAgg304
 z119:=Tryz.sizeOf304
 t124:=Tryz.underlying248
 a124:=Tryz.isAgg248
 z124:=Tryz.sizeOf248
 v124:=Tryz.zeroValue248
 t138:=Tryz.underlying306
 a138:=Tryz.isAgg306
 z138:=Tryz.sizeOf306
 v138:=Tryz.zeroValue306
 t139:=Tryz.underlying307
 a139:=Tryz.isAgg307
 z139:=Tryz.sizeOf307
 v139:=Tryz.zeroValue307
 g3:=by kernel_rfl
 g4:=by kernel_rfl}
def Tryz.lays134_ren:Go.Shelf.Ren:=⟨fun | 134=>233 | 129=>230 | n=>n,fun | 53=>221 | 3=>3 | 4=>4 | 46=>250 | 5=>5 | 9=>9 | n=>n,fun | n=>n⟩
theorem Tryz.lays134:Go.Proofs.Lays.n134 Tryz.prog Tryz.lays134_ren:={
 mixed:=by kernel_rfl
 f129:=Tryz.func230.trans (congrArg some (by kernel_rfl))
 f134:=Tryz.func233.trans (congrArg some (by kernel_rfl))
 t3:=Tryz.underlying3
 a3:=Tryz.isAgg3
 z3:=Tryz.sizeOf3
 v3:=Tryz.zeroValue3
 t4:=Tryz.underlying4
 a4:=Tryz.isAgg4
 z4:=Tryz.sizeOf4
 v4:=Tryz.zeroValue4
 t5:=Tryz.underlying5
 a5:=Tryz.isAgg5
 z5:=Tryz.sizeOf5
 v5:=Tryz.zeroValue5
 t9:=Tryz.underlying9
 a9:=Tryz.isAgg9
 z9:=Tryz.sizeOf9
 v9:=Tryz.zeroValue9
 t46:=Tryz.underlying250
 a46:=Tryz.isAgg250
 z46:=Tryz.sizeOf250
 v46:=Tryz.zeroValue250
 t53:=Tryz.underlying221
 a53:=Tryz.isAgg221
 z53:=Tryz.sizeOf221
 v53:=Tryz.zeroValue221}
theorem Tryz.bits_LeadingZeros64 (x:Int)(w:World)(h0:0≤x)(h1:x≤18446744073709551615):
  Calls Tryz.prog 233 #[.int .u64 x] w fun e w'=>e=.returned (.int .i64 (64 - (Lib.bitLen x.toNat:Int)))∧w'=w:=Any.bits_LeadingZeros64 Tryz.lays134 x w h0 h1
def Tryz.lays103_ren:Go.Shelf.Ren:=⟨fun | 103=>126 | 210=>175 | 206=>208 | n=>n,fun | 9=>9 | 4=>4 | 24=>176 | 3=>3 | n=>n,fun | n=>n⟩
theorem Tryz.lays103:Go.Proofs.Lays.n103 Tryz.prog Tryz.lays103_ren:={
 mixed:=by kernel_rfl
 f103:=Tryz.func126.trans (congrArg some (by kernel_rfl))
 f206:=Tryz.func208.trans (congrArg some (by kernel_rfl))
 f210:=Tryz.func175.trans (congrArg some (by kernel_rfl))
 t3:=Tryz.underlying3
 a3:=Tryz.isAgg3
 z3:=Tryz.sizeOf3
 v3:=Tryz.zeroValue3
 t4:=Tryz.underlying4
 a4:=Tryz.isAgg4
 z4:=Tryz.sizeOf4
 v4:=Tryz.zeroValue4
 t9:=Tryz.underlying9
 a9:=Tryz.isAgg9
 z9:=Tryz.sizeOf9
 v9:=Tryz.zeroValue9
 t24:=Tryz.underlying176
 a24:=Tryz.isAgg176
 z24:=Tryz.sizeOf176
 v24:=Tryz.zeroValue176}
open Go.RowKit in
theorem Tryz.strings_CutPrefix (s p:ByteArray)(w:World):
  Calls Tryz.prog 126 #[.string s,.string p] w fun e w'=>e=.returned (.tuple #[.string ⟨(Lib.trimPrefix s.data.toList p.data.toList).toArray⟩,.bool (Lib.hasPrefix s.data.toList p.data.toList)])∧w'=w:=Any.strings_CutPrefix Tryz.lays103 s p w
def Tryz.lays172_ren:Go.Shelf.Ren:=⟨fun | 172=>182 | 244=>218 | 245=>219 | 247=>249 | 279=>250 | 280=>251 | 281=>252 | 282=>253 | 287=>268 | 316=>269 | 171=>201 | 205=>270 | 321=>278 | 322=>279 | 243=>231 | 246=>255 | 283=>256 | 284=>257 | 285=>258 | 286=>259 | 129=>230 | 317=>271 | 318=>272 | 319=>273 | 320=>274 | 337=>280 | 338=>281 | n=>n,fun | 9=>9 | 3=>3 | 75=>215 | 76=>216 | 4=>4 | 5=>5 | 167=>273 | 37=>237 | 0=>0 | 85=>274 | 2=>2 | 168=>276 | 53=>221 | 175=>292 | 46=>250 | 210=>296 | 127=>267 | 145=>312 | 143=>310 | 21=>21 | 171=>281 | 173=>283 | 212=>299 | 51=>285 | 20=>20 | 213=>300 | 232=>314 | 233=>315 | 80=>202 | n=>n,fun | 15=>4 | 16=>5 | 17=>6 | 18=>9 | 19=>10 | n=>n⟩
theorem Tryz.lays172:Go.Proofs.Lays.n172 Tryz.prog Tryz.lays172_ren:={
 mixed:=by kernel_rfl
 f129:=Tryz.func230.trans (congrArg some (by kernel_rfl))
 f171:=Tryz.func201.trans (congrArg some (by kernel_rfl))
 f172:=Tryz.func182.trans (congrArg some (by kernel_rfl))
 f205:=Tryz.func270.trans (congrArg some (by kernel_rfl))
 f243:=Tryz.func231.trans (congrArg some (by kernel_rfl))
 f244:=Tryz.func218.trans (congrArg some (by kernel_rfl))
 f245:=Tryz.func219.trans (congrArg some (by kernel_rfl))
 f246:=Tryz.func255.trans (congrArg some (by kernel_rfl))
 f247:=Tryz.func249.trans (congrArg some (by kernel_rfl))
 f279:=Tryz.func250.trans (congrArg some (by kernel_rfl))
 f280:=Tryz.func251.trans (congrArg some (by kernel_rfl))
 f281:=Tryz.func252.trans (congrArg some (by kernel_rfl))
 f282:=Tryz.func253.trans (congrArg some (by kernel_rfl))
 f283:=Tryz.func256.trans (congrArg some (by kernel_rfl))
 f284:=Tryz.func257.trans (congrArg some (by kernel_rfl))
 f285:=Tryz.func258.trans (congrArg some (by kernel_rfl))
 f286:=Tryz.func259.trans (congrArg some (by kernel_rfl))
 f287:=Tryz.func268.trans (congrArg some (by kernel_rfl))
 f316:=Tryz.func269.trans (congrArg some (by kernel_rfl))
 f317:=Tryz.func271.trans (congrArg some (by kernel_rfl))
 f318:=Tryz.func272.trans (congrArg some (by kernel_rfl))
 f319:=Tryz.func273.trans (congrArg some (by kernel_rfl))
 f320:=Tryz.func274.trans (congrArg some (by kernel_rfl))
 f321:=Tryz.func278.trans (congrArg some (by kernel_rfl))
 f322:=Tryz.func279.trans (congrArg some (by kernel_rfl))
 f337:=Tryz.func280.trans (congrArg some (by kernel_rfl))
 f338:=Tryz.func281.trans (congrArg some (by kernel_rfl))
 t0:=Tryz.underlying0
 a0:=Tryz.isAgg0
 z0:=Tryz.sizeOf0
 v0:=Tryz.zeroValue0
 t2:=Tryz.underlying2
 a2:=Tryz.isAgg2
 z2:=Tryz.sizeOf2
 v2:=Tryz.zeroValue2
 t3:=Tryz.underlying3
 a3:=Tryz.isAgg3
 z3:=Tryz.sizeOf3
 v3:=Tryz.zeroValue3
 t4:=Tryz.underlying4
 a4:=Tryz.isAgg4
 z4:=Tryz.sizeOf4
 v4:=Tryz.zeroValue4
 t5:=Tryz.underlying5
 a5:=Tryz.isAgg5
 z5:=Tryz.sizeOf5
 v5:=Tryz.zeroValue5
 t9:=Tryz.underlying9
 a9:=Tryz.isAgg9
 z9:=Tryz.sizeOf9
 v9:=Tryz.zeroValue9
 t20:=Tryz.underlying20
 a20:=Tryz.isAgg20
 z20:=Tryz.sizeOf20
 v20:=Tryz.zeroValue20
 t21:=Tryz.underlying21
 a21:=Tryz.isAgg21
 z21:=Tryz.sizeOf21
 v21:=Tryz.zeroValue21
 t37:=Tryz.underlying237
 a37:=Tryz.isAgg237
 z37:=Tryz.sizeOf237
 v37:=Tryz.zeroValue237
 t46:=Tryz.underlying250
 a46:=Tryz.isAgg250
 z46:=Tryz.sizeOf250
 v46:=Tryz.zeroValue250
 t51:=Tryz.underlying285
 a51:=Tryz.isAgg285
 z51:=Tryz.sizeOf285
 v51:=Tryz.zeroValue285
 t53:=Tryz.underlying221
 a53:=Tryz.isAgg221
 z53:=Tryz.sizeOf221
 v53:=Tryz.zeroValue221
 t75:=Tryz.underlying215
 a75:=Tryz.isAgg215
 z75:=Tryz.sizeOf215
 v75:=Tryz.zeroValue215
 t76:=Tryz.underlying216
 a76:=Tryz.isAgg216
 z76:=Tryz.sizeOf216
 v76:=Tryz.zeroValue216
 t85:=Tryz.underlying274
 a85:=Tryz.isAgg274
 z85:=Tryz.sizeOf274
 v85:=Tryz.zeroValue274
 t127:=Tryz.underlying267
 a127:=Tryz.isAgg267
 z127:=Tryz.sizeOf267
 v127:=Tryz.zeroValue267
 t143:=Tryz.underlying310
 a143:=Tryz.isAgg310
 z143:=Tryz.sizeOf310
 v143:=Tryz.zeroValue310
 t145:=Tryz.underlying312
 a145:=Tryz.isAgg312
 z145:=Tryz.sizeOf312
 v145:=Tryz.zeroValue312
 t167:=Tryz.underlying273
 a167:=Tryz.isAgg273
 z167:=Tryz.sizeOf273
 v167:=Tryz.zeroValue273
 t168:=Tryz.underlying276
 a168:=Tryz.isAgg276
 z168:=Tryz.sizeOf276
 v168:=Tryz.zeroValue276
 t171:=Tryz.underlying281
 a171:=Tryz.isAgg281
 z171:=Tryz.sizeOf281
 v171:=Tryz.zeroValue281
 t173:=Tryz.underlying283
 a173:=Tryz.isAgg283
 z173:=Tryz.sizeOf283
 v173:=Tryz.zeroValue283
 t175:=Tryz.underlying292
 a175:=Tryz.isAgg292
 z175:=Tryz.sizeOf292
 v175:=Tryz.zeroValue292
 t210:=Tryz.underlying296
 a210:=Tryz.isAgg296
 z210:=Tryz.sizeOf296
 v210:=Tryz.zeroValue296
 t212:=Tryz.underlying299
 a212:=Tryz.isAgg299
 z212:=Tryz.sizeOf299
 v212:=Tryz.zeroValue299
 t213:=Tryz.underlying300
 a213:=Tryz.isAgg300
 z213:=Tryz.sizeOf300
 t232:=Tryz.underlying314
 a232:=Tryz.isAgg314
 z232:=Tryz.sizeOf314
 v232:=Tryz.zeroValue314
 t233:=Tryz.underlying315
 a233:=Tryz.isAgg315
 z233:=Tryz.sizeOf315
 v233:=Tryz.zeroValue315
 g15:=by kernel_rfl
 g16:=by kernel_rfl
 g17:=by kernel_rfl
 g18:=by kernel_rfl
 g19:=by kernel_rfl}
open Go.RowKit in
theorem Tryz.strconv_Atoi (s:ByteArray)(n:Int)(hl:s.size≤18)(h:Lib.atoi s.data.toList=some n)(w:World):
  Calls Tryz.prog 182 #[.string s] w fun e w'=>e=.returned (.tuple #[.int .i64 n,.nilIface])∧∃ t,w'=Lib.bytesWorld w 5 t:=Any.strconv_Atoi Tryz.lays172 s n hl h w
def Tryz.lays129_ren:Go.Shelf.Ren:=⟨fun | 129=>230 | n=>n,fun | 53=>221 | 3=>3 | 4=>4 | 46=>250 | 5=>5 | 9=>9 | n=>n,fun | n=>n⟩
theorem Tryz.lays129:Go.Proofs.Lays.n129 Tryz.prog Tryz.lays129_ren:={
 mixed:=by kernel_rfl
 f129:=Tryz.func230.trans (congrArg some (by kernel_rfl))
 t3:=Tryz.underlying3
 a3:=Tryz.isAgg3
 z3:=Tryz.sizeOf3
 v3:=Tryz.zeroValue3
 t4:=Tryz.underlying4
 a4:=Tryz.isAgg4
 z4:=Tryz.sizeOf4
 v4:=Tryz.zeroValue4
 t5:=Tryz.underlying5
 a5:=Tryz.isAgg5
 z5:=Tryz.sizeOf5
 v5:=Tryz.zeroValue5
 t9:=Tryz.underlying9
 a9:=Tryz.isAgg9
 z9:=Tryz.sizeOf9
 v9:=Tryz.zeroValue9
 t46:=Tryz.underlying250
 a46:=Tryz.isAgg250
 z46:=Tryz.sizeOf250
 v46:=Tryz.zeroValue250
 t53:=Tryz.underlying221
 a53:=Tryz.isAgg221
 z53:=Tryz.sizeOf221
 v53:=Tryz.zeroValue221}
theorem Tryz.bits_Len64 (x:Int)(w:World)(h0:0≤x)(h1:x≤18446744073709551615):
  Calls Tryz.prog 230 #[.int .u64 x] w fun e w'=>e=.returned (.int .i64 (Lib.bitLen x.toNat))∧w'=w:=Any.bits_Len64 Tryz.lays129 x w h0 h1
def Tryz.laysM171_ren:Go.Shelf.Ren:=⟨fun | 171=>201 | 243=>231 | 246=>255 | 283=>256 | 284=>257 | 285=>258 | 286=>259 | 129=>230 | 317=>271 | 318=>272 | 319=>273 | 320=>274 | 337=>280 | 338=>281 | n=>n,fun | 3=>3 | 9=>9 | 2=>2 | 4=>4 | 171=>281 | 0=>0 | 53=>221 | 37=>237 | 5=>5 | 173=>283 | 212=>299 | 51=>285 | 20=>20 | 213=>300 | 46=>250 | 232=>314 | 233=>315 | n=>n,fun | 17=>6 | 18=>9 | 19=>10 | n=>n⟩
theorem Tryz.laysM171:Go.Proofs.LaysM.n171 Tryz.prog Tryz.laysM171_ren:={
 mixed:=by kernel_rfl
 f129:=Tryz.func230.trans (congrArg some (by kernel_rfl))
 f171:=Tryz.func201.trans (congrArg some (by kernel_rfl))
 f243:=Tryz.func231.trans (congrArg some (by kernel_rfl))
 f246:=Tryz.func255.trans (congrArg some (by kernel_rfl))
 f283:=Tryz.func256.trans (congrArg some (by kernel_rfl))
 f284:=Tryz.func257.trans (congrArg some (by kernel_rfl))
 f285:=Tryz.func258.trans (congrArg some (by kernel_rfl))
 f286:=Tryz.func259.trans (congrArg some (by kernel_rfl))
 f317:=Tryz.func271.trans (congrArg some (by kernel_rfl))
 f318:=Tryz.func272.trans (congrArg some (by kernel_rfl))
 f319:=Tryz.func273.trans (congrArg some (by kernel_rfl))
 f320:=Tryz.func274.trans (congrArg some (by kernel_rfl))
 f337:=Tryz.func280.trans (congrArg some (by kernel_rfl))
 f338:=Tryz.func281.trans (congrArg some (by kernel_rfl))
 t0:=Tryz.underlying0
 a0:=Tryz.isAgg0
 z0:=Tryz.sizeOf0
 v0:=Tryz.zeroValue0
 t2:=Tryz.underlying2
 a2:=Tryz.isAgg2
 z2:=Tryz.sizeOf2
 v2:=Tryz.zeroValue2
 t3:=Tryz.underlying3
 a3:=Tryz.isAgg3
 z3:=Tryz.sizeOf3
 v3:=Tryz.zeroValue3
 t4:=Tryz.underlying4
 a4:=Tryz.isAgg4
 z4:=Tryz.sizeOf4
 v4:=Tryz.zeroValue4
 t5:=Tryz.underlying5
 a5:=Tryz.isAgg5
 z5:=Tryz.sizeOf5
 v5:=Tryz.zeroValue5
 t9:=Tryz.underlying9
 a9:=Tryz.isAgg9
 z9:=Tryz.sizeOf9
 v9:=Tryz.zeroValue9
 t20:=Tryz.underlying20
 a20:=Tryz.isAgg20
 z20:=Tryz.sizeOf20
 v20:=Tryz.zeroValue20
 t37:=Tryz.underlying237
 a37:=Tryz.isAgg237
 z37:=Tryz.sizeOf237
 v37:=Tryz.zeroValue237
 t46:=Tryz.underlying250
 a46:=Tryz.isAgg250
 z46:=Tryz.sizeOf250
 v46:=Tryz.zeroValue250
 t51:=Tryz.underlying285
 a51:=Tryz.isAgg285
 z51:=Tryz.sizeOf285
 v51:=Tryz.zeroValue285
 t53:=Tryz.underlying221
 a53:=Tryz.isAgg221
 z53:=Tryz.sizeOf221
 v53:=Tryz.zeroValue221
 t171:=Tryz.underlying281
 a171:=Tryz.isAgg281
 z171:=Tryz.sizeOf281
 v171:=Tryz.zeroValue281
 t173:=Tryz.underlying283
 a173:=Tryz.isAgg283
 z173:=Tryz.sizeOf283
 v173:=Tryz.zeroValue283
 t212:=Tryz.underlying299
 a212:=Tryz.isAgg299
 z212:=Tryz.sizeOf299
 v212:=Tryz.zeroValue299
 t213:=Tryz.underlying300
 a213:=Tryz.isAgg300
 z213:=Tryz.sizeOf300
 t232:=Tryz.underlying314
 a232:=Tryz.isAgg314
 z232:=Tryz.sizeOf314
 v232:=Tryz.zeroValue314
 t233:=Tryz.underlying315
 a233:=Tryz.isAgg315
 z233:=Tryz.sizeOf315
 v233:=Tryz.zeroValue315
 g17:=by kernel_rfl
 g18:=by kernel_rfl
 g19:=by kernel_rfl
 i0:=by kernel_rfl
 i2:=by kernel_rfl
 i3:=by kernel_rfl
 i4:=by kernel_rfl
 i5:=by kernel_rfl
 i9:=by kernel_rfl
 i20:=by kernel_rfl
 i37:=by kernel_rfl
 i46:=by kernel_rfl
 i51:=by kernel_rfl
 i53:=by kernel_rfl
 i171:=by kernel_rfl
 i173:=by kernel_rfl
 i212:=by kernel_rfl
 i232:=by kernel_rfl
 i233:=by kernel_rfl
 m17:=by kernel_rfl
 m18:=by kernel_rfl
 m19:=by kernel_rfl}
open Go.RowKit Go.Sort Go.Lib in
theorem Tryz.strconv_Itoa (n : Int) (h0 : -9223372036854775808 ≤ n) (h1 : n ≤ 9223372036854775807) (w : World) (htab : Lib.TabIs Tryz.prog w "internal/strconv.uint64pow10" .u64 Lib.pow10Tab) :
  Calls Tryz.prog 201 #[.int .i64 n] w fun e w'=>e=.returned (.string ⟨(Lib.itoa n).toArray⟩)∧∃ k os,w'=grow (w.drewN k) os:=Any.strconv_Itoa Tryz.laysM171 n h0 h1 w htab
def Tryz.lays145_ren:Go.Shelf.Ren:=⟨fun | 145=>127 | 220=>176 | 219=>209 | 217=>241 | 225=>242 | 224=>243 | 267=>244 | 266=>263 | 314=>264 | n=>n,fun | 9=>9 | 4=>4 | 59=>178 | 3=>3 | 5=>5 | 46=>250 | 146=>286 | 51=>285 | n=>n,fun | 1=>1 | n=>n⟩
theorem Tryz.lays145:Go.Proofs.Lays.n145 Tryz.prog Tryz.lays145_ren:={
 mixed:=by kernel_rfl
 f145:=Tryz.func127.trans (congrArg some (by kernel_rfl))
 f217:=Tryz.func241.trans (congrArg some (by kernel_rfl))
 f219:=Tryz.func209.trans (congrArg some (by kernel_rfl))
 f220:=Tryz.func176.trans (congrArg some (by kernel_rfl))
 f224:=Tryz.func243.trans (congrArg some (by kernel_rfl))
 f225:=Tryz.func242.trans (congrArg some (by kernel_rfl))
 f266:=Tryz.func263.trans (congrArg some (by kernel_rfl))
 f267:=Tryz.func244.trans (congrArg some (by kernel_rfl))
 f314:=Tryz.func264.trans (congrArg some (by kernel_rfl))
 t3:=Tryz.underlying3
 a3:=Tryz.isAgg3
 z3:=Tryz.sizeOf3
 v3:=Tryz.zeroValue3
 t4:=Tryz.underlying4
 a4:=Tryz.isAgg4
 z4:=Tryz.sizeOf4
 v4:=Tryz.zeroValue4
 t5:=Tryz.underlying5
 a5:=Tryz.isAgg5
 z5:=Tryz.sizeOf5
 v5:=Tryz.zeroValue5
 t9:=Tryz.underlying9
 a9:=Tryz.isAgg9
 z9:=Tryz.sizeOf9
 v9:=Tryz.zeroValue9
 t46:=Tryz.underlying250
 a46:=Tryz.isAgg250
 z46:=Tryz.sizeOf250
 v46:=Tryz.zeroValue250
 t51:=Tryz.underlying285
 a51:=Tryz.isAgg285
 z51:=Tryz.sizeOf285
 v51:=Tryz.zeroValue285
 t59:=Tryz.underlying178
 a59:=Tryz.isAgg178
 z59:=Tryz.sizeOf178
 v59:=Tryz.zeroValue178
 t146:=Tryz.underlying286
 a146:=Tryz.isAgg286
 z146:=Tryz.sizeOf286
 v146:=Tryz.zeroValue286
 g1:=by kernel_rfl}
open Go.RowKit Go.Lib in
theorem Tryz.strings_Cut (s sep:ByteArray)(m:Int)(w:World)(hs:s.size < 4294967281)(hm:w.cell? ⟨1,0,none⟩=some (.int .i64 m)):
  Calls Tryz.prog 127 #[.string s,.string sep] w fun e w'=>e=.returned (.tuple #[.string ⟨(Lib.cut s.data.toList sep.data.toList).1.toArray⟩,.string ⟨(Lib.cut s.data.toList sep.data.toList).2.1.toArray⟩,.bool (Lib.cut s.data.toList sep.data.toList).2.2])∧∃ n,w'=w.drewN n:=Any.strings_Cut Tryz.lays145 s sep m w hs hm
def Tryz.lays99_ren:Go.Shelf.Ren:=⟨fun | 99=>180 | 206=>208 | n=>n,fun | 9=>9 | 4=>4 | 3=>3 | n=>n,fun | n=>n⟩
theorem Tryz.lays99:Go.Proofs.Lays.n99 Tryz.prog Tryz.lays99_ren:={
 mixed:=by kernel_rfl
 f99:=Tryz.func180.trans (congrArg some (by kernel_rfl))
 f206:=Tryz.func208.trans (congrArg some (by kernel_rfl))
 t3:=Tryz.underlying3
 a3:=Tryz.isAgg3
 z3:=Tryz.sizeOf3
 v3:=Tryz.zeroValue3
 t4:=Tryz.underlying4
 a4:=Tryz.isAgg4
 z4:=Tryz.sizeOf4
 v4:=Tryz.zeroValue4
 t9:=Tryz.underlying9
 a9:=Tryz.isAgg9
 z9:=Tryz.sizeOf9
 v9:=Tryz.zeroValue9}
open Go.RowKit Go.Lib in
theorem Tryz.strings_HasPrefix (s p:ByteArray)(w:World):
  Calls Tryz.prog 180 #[.string s,.string p] w fun e w'=>e=.returned (.bool (Lib.hasPrefix s.data.toList p.data.toList))∧w'=w:=Any.strings_HasPrefix Tryz.lays99 s p w
def Tryz.lays101_ren:Go.Shelf.Ren:=⟨fun | 101=>181 | 208=>217 | 206=>208 | n=>n,fun | 9=>9 | 4=>4 | 3=>3 | n=>n,fun | n=>n⟩
theorem Tryz.lays101:Go.Proofs.Lays.n101 Tryz.prog Tryz.lays101_ren:={
 mixed:=by kernel_rfl
 f101:=Tryz.func181.trans (congrArg some (by kernel_rfl))
 f206:=Tryz.func208.trans (congrArg some (by kernel_rfl))
 f208:=Tryz.func217.trans (congrArg some (by kernel_rfl))
 t3:=Tryz.underlying3
 a3:=Tryz.isAgg3
 z3:=Tryz.sizeOf3
 v3:=Tryz.zeroValue3
 t4:=Tryz.underlying4
 a4:=Tryz.isAgg4
 z4:=Tryz.sizeOf4
 v4:=Tryz.zeroValue4
 t9:=Tryz.underlying9
 a9:=Tryz.isAgg9
 z9:=Tryz.sizeOf9
 v9:=Tryz.zeroValue9}
open Go.RowKit Go.Lib in
theorem Tryz.strings_TrimPrefix (s p:ByteArray)(w:World):
  Calls Tryz.prog 181 #[.string s,.string p] w fun e w'=>e=.returned (.string ⟨(Lib.trimPrefix s.data.toList p.data.toList).toArray⟩)∧w'=w:=Any.strings_TrimPrefix Tryz.lays101 s p w
def Tryz.lays264_ren:Go.Shelf.Ren:=⟨fun | 264=>192 | n=>n,fun | 53=>221 | 46=>250 | n=>n,fun | n=>n⟩
theorem Tryz.lays264:Go.Proofs.Lays.n264 Tryz.prog Tryz.lays264_ren:={
 mixed:=by kernel_rfl
 f264:=Tryz.func192.trans (congrArg some (by kernel_rfl))
 t46:=Tryz.underlying250
 a46:=Tryz.isAgg250
 z46:=Tryz.sizeOf250
 v46:=Tryz.zeroValue250
 t53:=Tryz.underlying221
 a53:=Tryz.isAgg221
 z53:=Tryz.sizeOf221
 v53:=Tryz.zeroValue221}
open Go.RowKit Go.Lib in
theorem Tryz.bits_Mul64 (x y:Nat)(hx:x < 18446744073709551616)(hy:y < 18446744073709551616)(w:World):
  Calls Tryz.prog 192 #[.int .u64 x,.int .u64 y] w fun e w'=>e=.returned (.tuple #[.int .u64 ((x*y / 18446744073709551616:Nat):Int),.int .u64 ((x*y % 18446744073709551616:Nat):Int)])∧w'=w:=Any.bits_Mul64 Tryz.lays264 x y hx hy w
end Go.Proofs
namespace Go.Proofs.YtbkcjmojgglbkaaGreatDoor
open Go.RowKit Big
open Go.Lib (hid)
set_option maxRecDepth 100000
set_option maxHeartbeats 8000000
abbrev W64:Nat:=18446744073709551616
theorem add64 (x y c:Int)(hx:0≤x)(hy:0≤y)(hc0:0≤c)(hc:c≤1)(w:World):(callFunc 227 #[.int .u64 x,.int .u64 y,.int .u64 c]).run Tryz.prog w=
  .ok (.value (.tuple #[.int .u64 ((x+y+c) % 18446744073709551616),.int .u64 ((x+y+c) / 18446744073709551616)])) w:=by
 rw[run_callFunc_extern Tryz.func227 (by kernel_rfl) (by kernel_rfl) (by kernel_rfl) (e:=add64Entry) (by kernel_rfl),run_add64 x y c hx hy hc0 hc];rfl
def sub64Entry:Array Value→Sem Value:=fun args=>do
 let (x, y, b) ← Extern.MathBitsCarry.three "Sub64" args
 pure (Extern.MathBitsCarry.pair ((x+Extern.MathBitsCarry.m64 - y - b) % Extern.MathBitsCarry.m64) (if x < y+b then 1 else 0))
theorem run_sub64 {P:Program}(x y b:Nat)(hb:b≤1)(w:World):
  (sub64Entry #[.int .u64 x,.int .u64 y,.int .u64 b]).run P w=
   .ok (.tuple #[.int .u64 (((x+18446744073709551616 - y - b) % 18446744073709551616:Nat):Int),.int .u64 ((if x < y+b then 1 else 0:Nat):Int)]) w:=by
 have:b=0∨b=1:=by omega
 rcases this with rfl | rfl <;> rfl
def bor (x y b:Int):Int:=if x < y+b then 1 else 0
theorem sub64 (x y b:Int)(hx:0≤x)(hy:0≤y)(hy':y < 18446744073709551616)(hb0:0≤b)(hb:b≤1)(w:World):(callFunc 229 #[.int .u64 x,.int .u64 y,.int .u64 b]).run Tryz.prog w=
  .ok (.value (.tuple #[.int .u64 ((x - y - b) % 18446744073709551616),.int .u64 (bor x y b)])) w:=by
 obtain ⟨x,rfl⟩:=Int.eq_ofNat_of_zero_le hx;obtain ⟨y,rfl⟩:=Int.eq_ofNat_of_zero_le hy;obtain ⟨b,rfl⟩:=Int.eq_ofNat_of_zero_le hb0
 have e1:(((x+18446744073709551616 - y - b) % 18446744073709551616:Nat):Int)=((x:Int) - y - b) % 18446744073709551616:=by omega
 have e2:((if x < y+b then 1 else 0:Nat):Int)=bor x y b:=by unfold bor;split <;> split <;> omega
 rw[←e1,←e2,run_callFunc_extern Tryz.func229 (by kernel_rfl) (by kernel_rfl) (by kernel_rfl) (e:=sub64Entry) (by kernel_rfl),run_sub64 x y b (by omega)];rfl
def Sl (v:Value)(a:Option Addr)(n cap:Nat):Prop:=v=.slice a n cap∧n≤cap∧cap≤281474976710656∧(a=none→cap=0)
def Wds (w:World)(v:Value)(n:Nat)(f:Nat→Nat):Prop:=∃ a cap,Sl v a n cap∧Rd w a .u64 n f∧Canon W64 f n
theorem Wds.new {w w':World}{v:Value}{n:Nat}{f:Nat→Nat}(h:Wds w v n f)(hn:New w w'):Wds w' v n f:=by
 obtain ⟨a,cap,h1,h2,h3⟩:=h;exact ⟨a,cap,h1,h2.new hn,h3⟩
def TrimPost (w:World)(a:Option Addr)(cap len:Nat)(f:Nat→Nat)(e:Ending)(w':World):Prop:=
 w=w'∧∃ n,e=.returned (.slice a n cap)∧n≤len∧(∀ i,n≤i→i < len→f i=0)∧(n=0∨f (n - 1)≠0)
theorem trim_any (a:Option Addr)(len cap:Nat)(f:Nat→Nat)(w:World)(hl:len≤cap)(hcap:cap≤281474976710656)(ha:a=none→cap=0)(hr:Rd w a .u64 len f):
  Calls Tryz.prog 228 #[.slice a len cap] w (TrimPost w a cap len f):=by
 have h0:(0:Int)≤(len:Int):=by omega
 go_enter Tryz.func228,Tryz.ntmps228;go_wp2
 go_loop [3] (fun n=>∃ k:Nat,k≤len∧n=.int .i64 k∧∀ i,k≤i→i < len→f i=0) (fun n=>(intOf n).toNat)
 case atStart=>exact ⟨len,Nat.le_refl _,rfl,fun i h1 h2=>by omega⟩
 case round=>
  obtain ⟨k,hk,rfl,hz⟩:=hrel;have HZ:=hid hz;clear hz;by_cases hk0:0 < k
  ·obtain ⟨b,off,rfl,hcell⟩:=hr (k - 1) (by omega);clear hr ha;go_wp2
   ·have hz:((f (k - 1):Int)==0)=true:=by assumption
    have hz':f (k - 1)=0:=by simp at hz;omega
    go_round
    case rel=>exact ⟨k - 1,by omega,by go_num,fun i h1 h2=>by
     by_cases e:i=k - 1
     ·rw[e];exact hz'
     ·exact HZ.out i (by omega) h2⟩
    case measure=>simp[intOf];omega
   ·have hz:((f (k - 1):Int)==0)=false:=by assumption
    have hz':f (k - 1)≠0:=by intro e;rw[e] at hz;simp at hz
    go_ret;exact ⟨rfl,k,rfl,hk,HZ.out,.inr hz'⟩
  ·obtain rfl:k=0:=by omega
   cases a with
   | none=>
    obtain rfl:=ha rfl;clear hr;go_wp2;go_ret;exact ⟨rfl,0,rfl,hk,HZ.out,.inl rfl⟩
   | some p=>
    clear hr ha;go_wp2;go_ret;exact ⟨rfl,0,rfl,hk,HZ.out,.inl rfl⟩
theorem trim_calls (a:Option Addr)(len cap:Nat)(f:Nat→Nat)(w:World)(hl:len≤cap)(hcap:cap≤281474976710656)(ha:a=none→cap=0)(hr:Rd w a .u64 len f)(hlt:∀ i,i < len→f i < W64):
  Calls Tryz.prog 228 #[.slice a len cap] w fun e w'=>w=w'∧∃ v n,e=.returned v∧Wds w v n f∧vf W64 f n=vf W64 f len:=
 (trim_any a len cap f w hl hcap ha hr).mono fun e w' ⟨h1,n,h2,h3,h4,h5⟩=>by
  obtain ⟨c1,c2⟩:=canon_trim hlt h3 h4 h5;exact ⟨h1,_,n,h2,⟨a,cap,⟨rfl,by omega,hcap,ha⟩,hr.le h3,c1⟩,c2⟩
def CmpPost (w:World)(m n:Nat)(f g:Nat→Nat)(e:Ending)(w':World):Prop:=New w w'∧∃ r:Int,e=.returned (.int .i64 r)∧
 ((r= -1∧(m < n∨(m=n∧∃ i,i < n∧f i < g i∧∀ j,i < j→j < n→f j=g j)))∨(r=1∧(n < m∨(m=n∧∃ i,i < n∧g i < f i∧∀ j,i < j→j < n→f j=g j)))∨(r=0∧m=n∧∀ j,j < n→f j=g j))
theorem compareWords_any (a b:Option Addr)(m n ca cb:Nat)(f g:Nat→Nat)(w:World)(hm:m≤281474976710656)(hn:n≤281474976710656)(ha:Rd w a .u64 m f)(hb:Rd w b .u64 n g):
  Calls Tryz.prog 198 #[.slice a m ca,.slice b n cb] w (CmpPost w m n f g):=by
 go_enter Tryz.func198,Tryz.ntmps198;by_cases hmn:m=n
 ·subst hmn;go_wp2;go_loopw [5] (fun i wr=>∃ k:Nat,k≤m∧i=.int .i64 ((k:Int) - 1)∧(∀ j,k≤j→j < m→f j=g j)∧New w wr) (fun n _=>(intOf n+1).toNat)
  case atStart=>exact ⟨m,Nat.le_refl _,rfl,fun i h1 h2=>by omega,New.refl _⟩
  case round=>
   obtain ⟨k,hk,rfl,hz,hbl⟩:=hrel;have HZ:=hid hz;clear hz;by_cases hk0:k=0
   ·subst hk0;go_wp2;go_ret;exact ⟨hbl,_,rfl,.inr (.inr ⟨rfl,rfl,fun j hj=>HZ.out j (by omega) hj⟩)⟩
   ·obtain ⟨b1,o1,rfl,h1⟩:=(ha.new hbl) (k - 1) (by omega);obtain ⟨b2,o2,rfl,h2⟩:=(hb.new hbl) (k - 1) (by omega);clear ha hb;go_wp2
    go_quiet (fail)
    go_wp2
    ·have hne:((f (k - 1):Int) != (g (k - 1):Int))=true:=by assumption
     have hne':f (k - 1)≠g (k - 1):=by intro e;rw[e] at hne;simp at hne
     go_quiet (fail)
     go_wp2
     all_goals go_ret
     ·have hlt:f (k - 1) < g (k - 1):=by assumption
      exact ⟨(hbl.drewN _).drewN _,_,rfl,.inl ⟨rfl,.inr ⟨rfl,k - 1,by omega,hlt,fun j h1 h2=>HZ.out j (by omega) h2⟩⟩⟩
     ·have hlt:¬f (k - 1) < g (k - 1):=by assumption
      exact ⟨(hbl.drewN _).drewN _,_,rfl,.inr (.inl ⟨rfl,.inr ⟨rfl,k - 1,by omega,by omega,fun j h1 h2=>HZ.out j (by omega) h2⟩⟩)⟩
    ·have hne:((f (k - 1):Int) != (g (k - 1):Int))=false:=by assumption
     have hne':f (k - 1)=g (k - 1):=by simp at hne;omega
     go_roundw
     case rel=>exact ⟨k - 1,by omega,by go_num,fun j h1 h2=>by
      by_cases e:j=k - 1
      ·rw[e];exact hne'
      ·exact HZ.out j (by omega) h2,hbl.drewN _⟩
     case measure=>simp[intOf];omega
 ·have hne:(m==n)=false:=by simpa using hmn
  go_wp2
  all_goals (go_ret;rename_i h1 h2)
  ·exact ⟨New.refl _,_,rfl,.inl ⟨rfl,.inl (by assumption)⟩⟩
  ·exact ⟨New.refl _,_,rfl,.inr (.inl ⟨rfl,.inl (by omega)⟩)⟩
theorem compareWords_calls (va vb:Value)(m n:Nat)(f g:Nat→Nat)(w:World)(ha:Wds w va m f)(hb:Wds w vb n g):
  Calls Tryz.prog 198 #[va,vb] w fun e w'=>New w w'∧e=.returned (.int .i64 (cmpNat (vf W64 f m) (vf W64 g n))):=by
 obtain ⟨a,ca,⟨rfl,a1,a2,a3⟩,ra,cf⟩:=ha;obtain ⟨b,cb,⟨rfl,b1,b2,b3⟩,rb,cg⟩:=hb;refine (compareWords_any a b m n ca cb f g w (by omega) (by omega) ra rb).mono fun e w' ⟨h1,r,h2,h3⟩=>⟨h1,?_⟩;rw[h2];congr 2;unfold cmpNat;rcases h3 with ⟨rfl,h | ⟨rfl,i,hi,hlt,heq⟩⟩ | ⟨rfl,h | ⟨rfl,i,hi,hlt,heq⟩⟩ | ⟨rfl,rfl,heq⟩
 ·rw[if_pos (cf.lt_of_len cg (by decide) h)]
 ·rw[if_pos (vf_lt_of_digit cf.lt cg.lt hi heq hlt)]
 ·have:=cg.lt_of_len cf (by decide) h;rw[if_neg (by omega),if_pos this]
 ·have:=vf_lt_of_digit cg.lt cf.lt hi (fun j h1 h2=>(heq j h1 h2).symm) hlt;rw[if_neg (by omega),if_pos this]
 ·have:vf W64 f m=vf W64 g m:=vf_congr heq;rw[if_neg (by omega),if_neg (by omega)]
theorem info_u64:(Tryz.prog.info? 221).map (fun i=>(i.zero,i.size,i.bytes))=some (some (.int .u64 0),1,8):=by kernel_rfl
theorem vf_padded {B:Nat}{g:Nat→Nat}{n m:Nat}(h:n≤m):vf B (padded g n) m=vf B g n:=by
 rw[vf_pad h (fun i h1 _=>by simp[padded];omega)]
 exact vf_congr fun i hi=>by simp[padded,hi]
theorem row_int {w:World}{b:Nat}{t:TypeId}{n i:Nat}{o:Nat→Nat}(h:Row w b t .u64 n o){z:Int}{d:Nat}(e:z=d):Row (w.setCell ⟨b,i,none⟩ (.int .u64 z)) b t .u64 n (upd o i d):=by
 subst e;exact h.set i d
theorem add_digit {B k cc s:Nat}{o x y:Nat→Nat}(hval:vf B o k+cc*B^k=vf B x k+vf B y k)(hs:s=x k+y k+cc):
  vf B (upd o k (s % B)) (k+1)+s / B*B^(k+1)=vf B x (k+1)+vf B y (k+1):=by
 refine add_step (o:=upd o k (s % B)) (x:=x) (y:=y) (c:=cc) ?_ ?_
 ·rw[vf_upd_above (Nat.le_refl _)];exact hval
 ·rw[upd_same,←hs];exact Nat.mod_add_div s B
theorem addWords_any (sw:Bool)(a b:Option Addr)(m n ca cb:Nat)(f g:Nat→Nat)(w:World)(hm:m≤1000000)(hnm:n≤m)(hsw:sw=true→n < m)(ha:Rd w a .u64 m f)(hb:Rd w b .u64 n g)(hfl:∀ i,i < m→f i < W64)(hgl:∀ i,i < n→g i < W64):
  Calls Tryz.prog 197 (if sw then #[.slice b n cb,.slice a m ca] else #[.slice a m ca,.slice b n cb]) w fun e w'=>∃ v k h,New w w'∧e=.returned v∧Wds w' v k h∧vf W64 h k=vf W64 f m+vf W64 g n:=by
 have hmk:=fun W=>run_make_row' (P:=Tryz.prog) 118 221 (.int .u64 0) 8 Tryz.underlying118 info_u64 rfl .i64 .i64 (m+1) (by omega) (by omega) W;rw[show ((m+1:Nat):Int)=(m:Int)+1 by omega] at hmk
 cases sw
 case' true=>have hlt:=hsw rfl
 all_goals
  clear hsw;simp only[if_true,Bool.false_eq_true,if_false];go_enter Tryz.func197,Tryz.ntmps197;go_wp2;clear hmk;obtain ⟨B,hB⟩:∃ B,B=w.heap.size:=⟨_,rfl⟩;have hrow0:=Row.made w .u64 (m+1) 221;have hnew0:New w (w.alloc (.cells (madeCells #[.int .u64 0] (m+1)) 221)):=(New.refl w).alloc _;rw[←hB] at hrow0⊢;generalize w.alloc (.cells (madeCells #[.int .u64 0] (m+1)) 221)=w0 at hrow0 hnew0⊢;have HB:=hid hB;clear hB;go_loopw [6,22] (fun c i wr=>∃ (k cc:Nat) (o:Nat→Nat),k≤m∧i=.int .i64 k∧c=.int .u64 cc∧cc≤1∧Row wr B 221 .u64 (m+1) o∧(∀ j,o j < W64)∧vf W64 o k+cc*W64^k=vf W64 f k+vf W64 (padded g n) k∧New w wr) (fun _ i _=>m - (intOf i).toNat)
  case atStart=>exact ⟨0,0,fun _=>0,Nat.zero_le _,rfl,rfl,by omega,hrow0,fun _=>by simp[W64],rfl,hnew0⟩
  case round=>
   obtain ⟨k,cc,o,hk,rfl,rfl,hcc,hrow,hol,hval,hnew⟩:=hrel;have HV:=hid hval;clear hval hrow0 hnew0;by_cases hkm:k < m
   ·obtain ⟨b1,o1,rfl,h1⟩:=(ha.new hnew) k hkm;have hb':=hb.new hnew;have hf0:=hfl k hkm;clear ha hb;have hcell:=hrow.cell (i:=k) (by omega);have hfr:=hrow.frozen k;have HO:=hid hol;by_cases hkn:k < n
    ·obtain ⟨b2,o2,rfl,h2⟩:=hb' k hkn;have hg0:=hgl k hkn;clear hb' hgl hfl hol;have hadd:=add64 (f k) (g k) cc (by omega) (by omega) (by omega) (by omega);go_wp2;clear hadd h1 h2 hcell hfr;go_roundw
     case rel=>
      have hs:f k+padded g n k+cc=f k+g k+cc:=by rw[padded_in hkn]
      exact ⟨k+1,(f k+g k+cc) / W64,upd o k ((f k+g k+cc) % W64),by omega,by go_num,by go_num,by unfold W64 at *;omega,row_int hrow (by unfold W64;omega),upd_lt HO.out (Nat.mod_lt _ (by decide)),by rw[←hs];exact add_digit HV.out rfl,hnew.setCell (Nat.le_of_eq HB.out.symm) _⟩
     case measure=>simp[intOf];omega
    ·clear hb' hgl hfl hol;have hadd:=add64 (f k) 0 cc (by omega) (by omega) (by omega) (by omega);simp only[Int.add_zero] at hadd;go_wp2;clear hadd h1 hcell hfr;go_roundw
     case rel=>
      have hs:f k+padded g n k+cc=f k+cc:=by rw[padded_out hkn];rfl
      exact ⟨k+1,(f k+cc) / W64,upd o k ((f k+cc) % W64),by omega,by go_num,by go_num,by unfold W64 at *;omega,row_int hrow (by unfold W64;omega),upd_lt HO.out (Nat.mod_lt _ (by decide)),by rw[←hs];exact add_digit HV.out rfl,hnew.setCell (Nat.le_of_eq HB.out.symm) _⟩
     case measure=>simp[intOf];omega
   ·obtain rfl:k=m:=by omega
    have hcell:=hrow.cell (i:=k) (by omega);have hfr:=hrow.frozen k;clear ha hb;go_wp2_with fail;have hrow':=hrow.set k cc;have hlt:=upd_lt (k:=k) hol (show cc < W64 by unfold W64;omega);refine (trim_calls _ _ _ _ _ (Nat.le_refl _) (by omega) (by simp) hrow'.rd (fun i _=>hlt i)).mono ?_;rintro e w' ⟨rfl,v,n',rfl,hw,hv⟩;clear hcell hfr;have hnew':=hnew.setCell (p:=⟨B,k,none⟩) (Nat.le_of_eq HB.out.symm) (.int .u64 cc);generalize wr.setCell ⟨B,k,none⟩ (.int .u64 cc)=w2 at *;have HV2:=hid hv;clear hv;go_wp2_with fail;go_ret;refine ⟨v,n',_,hnew',rfl,hw,?_⟩;have:=HV.out;rw[HV2.out,vf_succ,upd_same,vf_upd_above (Nat.le_refl _),this,vf_padded hnm]
theorem addWords_calls (va vb:Value)(m n:Nat)(f g:Nat→Nat)(w:World)(hm:m≤1000000)(hn:n≤1000000)(ha:Wds w va m f)(hb:Wds w vb n g):
  Calls Tryz.prog 197 #[va,vb] w fun e w'=>∃ v k h,New w w'∧e=.returned v∧Wds w' v k h∧vf W64 h k=vf W64 f m+vf W64 g n:=by
 obtain ⟨a,ca,⟨rfl,a1,a2,a3⟩,ra,cf⟩:=ha;obtain ⟨b,cb,⟨rfl,b1,b2,b3⟩,rb,cg⟩:=hb;by_cases hnm:n≤m
 ·exact addWords_any false a b m n ca cb f g w hm hnm (by simp) ra rb cf.lt cg.lt
 ·refine (addWords_any true b a n m cb ca g f w hn (by omega) (fun _=>by omega) rb ra cg.lt cf.lt).mono fun e w' ⟨v,k,h,h1,h2,h3,h4⟩=>⟨v,k,h,h1,h2,h3,by omega⟩
theorem sub_digit {B k bb d bb':Nat}{o x y:Nat→Nat}(hval:vf B o k+vf B y k=vf B x k+bb*B^k)(hs:d+y k+bb=x k+B*bb'):
  vf B (upd o k d) (k+1)+vf B y (k+1)=vf B x (k+1)+bb'*B^(k+1):=by
 refine sub_step (o:=upd o k d) (x:=x) (y:=y) (c:=bb) ?_ ?_
 ·rw[vf_upd_above (Nat.le_refl _)];exact hval
 ·rw[upd_same];exact hs
theorem sub64_nat {x y b:Nat}(hx:x < W64)(hy:y < W64)(hb:b≤1):∃ d b':Nat,d < W64∧b'≤1∧((x:Int) - y - b) % 18446744073709551616=d∧bor x y b=b'∧d+y+b=x+W64*b':=by
 unfold W64 at *;by_cases h:x < y+b
 ·refine ⟨x+18446744073709551616 - y - b,1,by omega,by omega,by omega,?_,by omega⟩;unfold bor;rw[if_pos (by omega)];rfl
 ·refine ⟨x - y - b,0,by omega,by omega,by omega,?_,by omega⟩;unfold bor;rw[if_neg (by omega)];rfl
theorem subWords_any (a b:Option Addr)(m n ca cb:Nat)(f g:Nat→Nat)(w:World)(hm:m≤1000000)(hnm:n≤m)(ha:Rd w a .u64 m f)(hb:Rd w b .u64 n g)(hfl:∀ i,i < m→f i < W64)(hgl:∀ i,i < n→g i < W64)(hle:vf W64 g n≤vf W64 f m):
  Calls Tryz.prog 199 #[.slice a m ca,.slice b n cb] w fun e w'=>∃ v k h,New w w'∧e=.returned v∧Wds w' v k h∧vf W64 h k=vf W64 f m - vf W64 g n:=by
 have hmk:=fun W=>run_make_row' (P:=Tryz.prog) 118 221 (.int .u64 0) 8 Tryz.underlying118 info_u64 rfl .i64 .i64 m (by omega) (by omega) W;have HLE:=hid hle;clear hle;go_enter Tryz.func199,Tryz.ntmps199;go_wp2;clear hmk;obtain ⟨B,hB⟩:∃ B,B=w.heap.size:=⟨_,rfl⟩;have hrow0:=Row.made w .u64 m 221;have hnew0:New w (w.alloc (.cells (madeCells #[.int .u64 0] m) 221)):=(New.refl w).alloc _;rw[←hB] at hrow0⊢;generalize w.alloc (.cells (madeCells #[.int .u64 0] m) 221)=w0 at hrow0 hnew0⊢;have HB:=hid hB;clear hB;go_loopw [6,14] (fun c i wr=>∃ (k cc:Nat) (o:Nat→Nat),k≤m∧i=.int .i64 k∧c=.int .u64 cc∧cc≤1∧Row wr B 221 .u64 m o∧(∀ j,o j < W64)∧vf W64 o k+vf W64 (padded g n) k=vf W64 f k+cc*W64^k∧New w wr) (fun _ i _=>m - (intOf i).toNat)
 case atStart=>exact ⟨0,0,fun _=>0,Nat.zero_le _,rfl,rfl,by omega,hrow0,fun _=>by simp[W64],rfl,hnew0⟩
 case round=>
  obtain ⟨k,cc,o,hk,rfl,rfl,hcc,hrow,hol,hval,hnew⟩:=hrel;have HV:=hid hval;clear hval hrow0 hnew0;by_cases hkm:k < m
  ·obtain ⟨b1,o1,rfl,h1⟩:=(ha.new hnew) k hkm;have hb':=hb.new hnew;have hf0:=hfl k hkm;clear ha hb;have hcell:=hrow.cell (i:=k) (by omega);have hfr:=hrow.frozen k;have HO:=hid hol;by_cases hkn:k < n
   ·obtain ⟨b2,o2,rfl,h2⟩:=hb' k hkn;have hg0:=hgl k hkn;clear hb' hgl hfl hol;obtain ⟨d,b',hd,hb',e1,e2,e3⟩:=sub64_nat hf0 hg0 hcc;have hsub:=sub64 (f k) (g k) cc (by omega) (by omega) (by unfold W64 at hg0;omega) (by omega) (by omega);simp only[e1,e2] at hsub;clear e1 e2;have E3:=hid e3;clear e3;go_wp2;clear hsub h1 h2 hcell hfr;go_roundw
    case rel=>
     exact ⟨k+1,b',upd o k d,by omega,by go_num,rfl,hb',hrow.set k d,upd_lt HO.out hd,sub_digit HV.out (by rw[padded_in hkn];exact E3.out),hnew.setCell (Nat.le_of_eq HB.out.symm) _⟩
    case measure=>simp[intOf];omega
   ·clear hb' hgl hfl hol;obtain ⟨d,b',hd,hb',e1,e2,e3⟩:=sub64_nat (y:=0) hf0 (by decide) hcc;have hsub:=sub64 (f k) 0 cc (by omega) (by omega) (by omega) (by omega) (by omega);simp only[Int.natCast_zero,Int.sub_zero] at e1 e2 hsub;simp only[e1,e2] at hsub;clear e1 e2;have E3:=hid e3;clear e3;go_wp2;clear hsub h1 hcell hfr;go_roundw
    case rel=>
     exact ⟨k+1,b',upd o k d,by omega,by go_num,rfl,hb',hrow.set k d,upd_lt HO.out hd,sub_digit HV.out (by rw[padded_out hkn];exact E3.out),hnew.setCell (Nat.le_of_eq HB.out.symm) _⟩
    case measure=>simp[intOf];omega
  ·obtain rfl:k=m:=by omega
   clear ha hb;go_wp2_with fail;refine (trim_calls _ _ _ _ _ (Nat.le_refl _) (by omega) (by simp) hrow.rd (fun i _=>hol i)).mono ?_;rintro e w' ⟨rfl,v,n',rfl,hw,hv⟩;have HV2:=hid hv;clear hv;go_wp2_with fail;go_ret;refine ⟨v,n',_,hnew,rfl,hw,?_⟩;have h1:=HV.out;have h2:=HLE.out;have h3:vf W64 o k < W64^k:=vf_lt fun i _=>hol i;rw[vf_padded hnm] at h1;rw[HV2.out]
   have h4:cc=0:=by
    rcases Nat.eq_zero_or_pos cc with h | h
    ·exact h
    ·obtain rfl:cc=1:=by omega
     rw[Nat.one_mul]at h1;omega
   subst h4;omega
theorem subWords_calls (va vb:Value)(m n:Nat)(f g:Nat→Nat)(w:World)(hm:m≤1000000)(ha:Wds w va m f)(hb:Wds w vb n g)(hle:vf W64 g n≤vf W64 f m):
  Calls Tryz.prog 199 #[va,vb] w fun e w'=>∃ v k h,New w w'∧e=.returned v∧Wds w' v k h∧vf W64 h k=vf W64 f m - vf W64 g n:=by
 obtain ⟨a,ca,⟨rfl,a1,a2,a3⟩,ra,cf⟩:=ha;obtain ⟨b,cb,⟨rfl,b1,b2,b3⟩,rb,cg⟩:=hb
 have hnm:n≤m:=by
  rcases Nat.lt_or_ge m n with h | h
  ·have:=cf.lt_of_len cg (by decide) h;omega
  ·exact h
 exact subWords_any a b m n ca cb f g w hm hnm ra rb cf.lt cg.lt hle
theorem add64_ex (x y c:Nat)(hx:x < W64)(hy:y < W64)(hc:c≤1):∃ d c':Nat,d < W64∧c'≤1∧d+W64*c'=x+y+c∧
  ∀ w,(callFunc 227 #[.int .u64 x,.int .u64 y,.int .u64 c]).run Tryz.prog w=.ok (.value (.tuple #[.int .u64 d,.int .u64 c'])) w:=by
 unfold W64 at *;refine ⟨(x+y+c) % 18446744073709551616,(x+y+c) / 18446744073709551616,by omega,by omega,by omega,fun w=>?_⟩;have:=add64 x y c (by omega) (by omega) (by omega) (by omega) w;rw[this];congr 5 <;> omega
theorem add64_ex0 (x y:Nat)(hx:x < W64)(hy:y < W64):∃ d c':Nat,d < W64∧c'≤1∧d+W64*c'=x+y∧
  ∀ w,(callFunc 227 #[.int .u64 x,.int .u64 y,.int .u64 0]).run Tryz.prog w=.ok (.value (.tuple #[.int .u64 d,.int .u64 c'])) w:=
 add64_ex x y 0 hx hy (by omega)
theorem mul64_ex (x y:Nat)(hx:x < W64)(hy:y < W64):∃ hi lo:Nat,lo < W64∧hi+2≤W64∧lo+W64*hi=x*y∧
  ∀ w,Calls Tryz.prog 192 #[.int .u64 x,.int .u64 y] w fun e w'=>e=.returned (.tuple #[.int .u64 hi,.int .u64 lo])∧w=w':=by
 refine ⟨x*y / W64,x*y % W64,Nat.mod_lt _ (by decide),?_,Nat.mod_add_div _ _,fun w=>(Tryz.bits_Mul64 x y hx hy w).mono fun e w' ⟨h1,h2⟩=>⟨h1,h2.symm⟩⟩;have h1:x*y≤18446744073709551615*18446744073709551615:=Nat.mul_le_mul (by unfold W64 at hx;omega) (by unfold W64 at hy;omega);unfold W64;omega
theorem mulWords_any (a b:Option Addr)(m n ca cb:Nat)(f g:Nat→Nat)(w:World)(hm:m≤1000000)(hn:n≤1000000)(ha:Rd w a .u64 m f)(hb:Rd w b .u64 n g)(hfl:∀ i,i < m→f i < W64)(hgl:∀ i,i < n→g i < W64):
  Calls Tryz.prog 196 #[.slice a m ca,.slice b n cb] w fun e w'=>∃ v k h,New w w'∧e=.returned v∧Wds w' v k h∧vf W64 h k=vf W64 f m*vf W64 g n:=by
 have hmk:=fun W=>run_make_row' (P:=Tryz.prog) 118 221 (.int .u64 0) 8 Tryz.underlying118 info_u64 rfl .i64 .i64 (m+n) (by omega) (by omega) W;rw[show ((m+n:Nat):Int)=(m:Int)+n by omega] at hmk;go_enter Tryz.func196,Tryz.ntmps196;go_wp2;clear hmk;obtain ⟨B,hB⟩:∃ B,B=w.heap.size:=⟨_,rfl⟩;have hrow0:=Row.made w .u64 (m+n) 221;have hnew0:New w (w.alloc (.cells (madeCells #[.int .u64 0] (m+n)) 221)):=(New.refl w).alloc _;rw[←hB] at hrow0⊢;generalize w.alloc (.cells (madeCells #[.int .u64 0] (m+n)) 221)=w0 at hrow0 hnew0⊢;have HB:=hid hB;clear hB;go_loopw [22] (fun i wr=>∃ (k:Nat) (o:Nat→Nat),k≤m∧i=.int .i64 k∧Row wr B 221 .u64 (m+n) o∧(∀ j,o j < W64)∧(∀ j,k+n≤j→o j=0)∧vf W64 o (m+n)=vf W64 f k*vf W64 g n∧New w wr) (fun i _=>m - (intOf i).toNat)
 case atStart=>exact ⟨0,fun _=>0,Nat.zero_le _,rfl,hrow0,fun _=>by simp[W64],fun _ _=>rfl,by rw[vf_zeros (fun _ _=>rfl),vf_zero,Nat.zero_mul],hnew0⟩
 case round=>
  obtain ⟨k,o,hk,rfl,hrow,hol,hz,hval,hnew⟩:=hrel;have HV:=hid hval;have HZ:=hid hz;have HO:=hid hol;clear hval hrow0 hnew0 hz hol;by_cases hkm:k < m
  ·obtain ⟨b1,o1,rfl,h1⟩:=(ha.new hnew) k hkm;have hf0:=hfl k hkm;go_wp2;obtain ⟨wo,rfl⟩:∃ wo:World,wo=wr:=⟨_,rfl⟩;go_loopw [8,29] (fun c i wr=>∃ (j cc:Nat) (p:Nat→Nat),j≤n∧i=.int .i64 j∧c=.int .u64 cc∧cc < W64∧Row wr B 221 .u64 (m+n) p∧(∀ j,p j < W64)∧(∀ j,k+n≤j→p j=0)∧vf W64 p (m+n)+cc*W64^(k+j)=vf W64 f k*vf W64 g n+f k*vf W64 g j*W64^k∧New w wr) (fun _ i _=>n - (intOf i).toNat)
   case atStart=>exact ⟨0,0,o,Nat.zero_le _,rfl,rfl,by decide,hrow,HO.out,HZ.out,by rw[HV.out];simp[vf_zero],hnew⟩
   case round=>
    clear hrow hnew HO HZ HV;obtain ⟨j,cc,p,hj,rfl,rfl,hcc,hrow,hpl,hpz,hval,hnew⟩:=hrel;have HV:=hid hval;have HP:=hid hpl;have HZ:=hid hpz;clear hval hpz;have h1':=hnew;by_cases hjn:j < n
    ·obtain ⟨b2,o2,rfl,h2⟩:=(hb.new hnew) j hjn;have hg0:=hgl j hjn;have hp0:=hpl (k+j);clear ha hb hgl hfl hpl;have hcell:=hrow.cell (i:=k+j) (by omega);have hfr:=hrow.frozen (k+j);obtain ⟨hi,lo,hlo,hhi,hmulv,hmul⟩:=mul64_ex (f k) (g j) hf0 hg0;obtain ⟨d1,c1,hd1,hc1,hs1,hadd1⟩:=add64_ex0 lo (p (k+j)) hlo hp0;obtain ⟨d2,c2,hd2,hc2,hs2,hadd2⟩:=add64_ex0 d1 cc hd1 hcc
     have hcar:hi+c1+c2 < W64:=by
      have h3:f k*g j≤18446744073709551615*18446744073709551615:=Nat.mul_le_mul (by unfold W64 at hf0;omega) (by unfold W64 at hg0;omega);unfold W64 at *;omega
     have HS1:=hid hs1;have HS2:=hid hs2;have HM:=hid hmulv;have HMC:=hid hmul;clear hs1 hs2 hmulv hmul
     have b1:(hi:Int)+c1 < 18446744073709551616:=by unfold W64 at hcar;omega
     have b2:(hi:Int)+c1+c2 < 18446744073709551616:=by unfold W64 at hcar;omega
     go_wp2_with (go_at_call 192;refine (HMC.out _).mono ?_;rintro e w' ⟨rfl,rfl⟩);clear hadd1 hadd2 h1 h2 hcell hfr b1 b2;go_roundw
     case rel=>
      refine ⟨j+1,hi+c1+c2,upd p (k+j) d2,by omega,by go_num,by go_num,hcar,hrow.set _ _,upd_lt HP.out hd2,fun i hi'=>?_,?_,hnew.setCell (Nat.le_of_eq HB.out.symm) _⟩
      ·rw[upd_other _ _ (by omega)];exact HZ.out i hi'
      ·refine mul_step (by omega) HV.out ?_;have e1:=HS1.out;have e2:=HS2.out;have e3:=HM.out;unfold W64 at *;omega
     case measure=>simp[intOf];omega
    ·obtain rfl:j=n:=by omega
     have hcell:=hrow.cell (i:=k+j) (by omega);have hfr:=hrow.frozen (k+j);clear hpl ha hb hfl hgl;go_wp2;clear hcell hfr h1 h1';go_roundw
     case rel=>
      refine ⟨k+1,upd p (k+j) cc,by omega,by go_num,hrow.set _ _,upd_lt HP.out hcc,fun i hi'=>?_,?_,hnew.setCell (Nat.le_of_eq HB.out.symm) _⟩
      ·rw[upd_other _ _ (by omega)];exact HZ.out i (by omega)
      ·have e1:=HV.out;have e2:=vf_upd (B:=W64) (f:=p) (v:=cc) (show k+j < m+j by omega);rw[HZ.out (k+j) (by omega),Nat.zero_mul] at e2
       have e3:f k*vf W64 g j*W64^k=f k*W64^k*vf W64 g j:=by rw[Nat.mul_assoc,Nat.mul_comm (vf W64 g j),←Nat.mul_assoc]
       rw[vf_succ,Nat.add_mul,←e3];omega
     case measure=>simp[intOf];omega
  ·obtain rfl:k=m:=by omega
   go_wp2_with fail;refine (trim_calls _ _ _ _ _ (Nat.le_refl _) (by omega) (by simp) hrow.rd (fun i _=>HO.out i)).mono ?_;rintro e w' ⟨rfl,v,n',rfl,hw,hv⟩;have HV2:=hid hv;clear hv;go_wp2_with fail;go_ret;exact ⟨v,n',_,hnew,rfl,hw,by rw[HV2.out,HV.out]⟩
theorem mulWords_calls (va vb:Value)(m n:Nat)(f g:Nat→Nat)(w:World)(hm:m≤1000000)(hn:n≤1000000)(ha:Wds w va m f)(hb:Wds w vb n g):
  Calls Tryz.prog 196 #[va,vb] w fun e w'=>∃ v k h,New w w'∧e=.returned v∧Wds w' v k h∧vf W64 h k=vf W64 f m*vf W64 g n:=by
 obtain ⟨a,ca,⟨rfl,a1,a2,a3⟩,ra,cf⟩:=ha;obtain ⟨b,cb,⟨rfl,b1,b2,b3⟩,rb,cg⟩:=hb;exact mulWords_any a b m n ca cb f g w hm hn ra rb cf.lt cg.lt
end Go.Proofs.YtbkcjmojgglbkaaGreatDoor
