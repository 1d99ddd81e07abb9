/- Part B02. -/
import Derived.Shelf.Strings.Builder1
import Derived.Shelf.Strings.Builder2
import Derived.Shelf.Strings.Trim
import Derived.Shelf.Small.Utf8
import Derived.Shelf.Small.Bits
import Derived.Shelf.Small.Strs
import Derived.Shelf.Small.Wraps
import Derived.Shelf.Strings.BuilderF
import Derived.Shelf.Strings.BuilderK
import Derived.Shelf.Strconv.Atoi
import Derived.Shelf.Strconv.Itoa0
import Derived.Shelf.Strconv.Itoa1
import Derived.Shelf.LaysM
import Derived.Shelf.Strconv.Itoa2
import Derived.Shelf.Strconv.Itoa3
import Derived.Shelf.Strconv.AtoiErrFast
import Derived.Shelf.Strconv.ParseIntEmpty
import Derived.Shelf.Strconv.AtoiFail
import Derived.Shelf.Strconv.Clone
import Derived.Shelf.Strconv.SyntaxError
import Derived.Shelf.LaysC
import Derived.Shelf.Strconv.ToError
import Derived.Shelf.Strconv.Lower
import Derived.Shelf.Strconv.ParseUint10
import Derived.Shelf.Strconv.ParseUint10Empty
import Derived.Shelf.Strconv.ParseUint10Any
import Derived.Shelf.Strconv.ParseInt10
import Derived.Shelf.Strconv.AtoiLong
import Derived.Shelf.Strconv.AtoiInnerAll
import Derived.Shelf.Strconv.RangeError
import Derived.Shelf.Strconv.ToErrorRange
import Derived.Shelf.Strconv.AtoiAll
import Derived.Shelf.Strings.Search1
import Derived.Shelf.Strings.Search2
import Derived.Shelf.Strings.Cut
import Derived.Shelf.Strings.Shaped
import Derived.Shelf.Strings.Prefix
import Derived.Shelf.Strings.Runes
import Derived.Shelf.Strings.AsciiSet
import Derived.Shelf.Bits.Mul64
import Derived.Shelf.Strings.Repeat
import Derived.Shelf.Unicode.DecodeSlow
import Derived.Shelf.Slices.Turned
import Derived.Test.YtnjonlnemagomaaGreatDoorProg
import Derived.Test.YtnjonlnemagomaaGreatDoorB01
namespace Go.Proofs
set_option maxRecDepth 100000
set_option maxHeartbeats 8000000
open Go.Shelf
def Tryz.lays169_ren:Go.Shelf.Ren:=⟨fun | 169=>232 | n=>n,fun | 70=>234 | 9=>9 | 0=>0 | 72=>237 | 37=>235 | 127=>261 | 3=>3 | 5=>5 | n=>n,fun | n=>n⟩
theorem Tryz.lays169:Go.Proofs.Lays.n169 Tryz.prog Tryz.lays169_ren:={
 mixed:=by kernel_rfl
 f169:=Tryz.func232.trans (congrArg some (by kernel_rfl))
 t0:=Tryz.underlying0
 a0:=Tryz.isAgg0
 z0:=Tryz.sizeOf0
 v0:=Tryz.zeroValue0
 t3:=Tryz.underlying3
 a3:=Tryz.isAgg3
 z3:=Tryz.sizeOf3
 v3:=Tryz.zeroValue3
 t9:=Tryz.underlying9
 a9:=Tryz.isAgg9
 z9:=Tryz.sizeOf9
 v9:=Tryz.zeroValue9
 t37:=Tryz.underlying235
 a37:=Tryz.isAgg235
 z37:=Tryz.sizeOf235
 v37:=Tryz.zeroValue235
 t70:=Tryz.underlying234
 a70:=Tryz.isAgg234
 z70:=Tryz.sizeOf234
 v70:=Tryz.zeroValue234
 t72:=Tryz.underlying237
 a72:=Tryz.isAgg237
 z72:=Tryz.sizeOf237
 v72:=Tryz.zeroValue237
 t127:=Tryz.underlying261
 a127:=Tryz.isAgg261
 z127:=Tryz.sizeOf261
 v127:=Tryz.zeroValue261}
theorem Tryz.Builder_Extra_169:Builder.Extra Tryz.prog Tryz.lays169_ren:={
 sizeBuilder:=by kernel_rfl
 liesBuilder:=by kernel_rfl
 t5:=Tryz.underlying5
 a5:=Tryz.isAgg5
 z5:=Tryz.sizeOf5
 v5:=Tryz.zeroValue5
 infoByte:=by kernel_rfl
 cellsByte:=by kernel_rfl
 sizeByte:=by kernel_rfl
 neB5:=by decide}
def Tryz.lays160_ren:Go.Shelf.Ren:=⟨fun | 160=>207 | 232=>244 | 231=>243 | 227=>245 | 234=>247 | 233=>246 | 236=>249 | 235=>248 | 228=>270 | 271=>273 | 151=>272 | 197=>271 | 120=>292 | 152=>291 | 260=>290 | 137=>301 | 119=>302 | 224=>268 | 225=>267 | 217=>266 | 266=>288 | n=>n,fun | 9=>9 | 4=>4 | 3=>3 | 5=>5 | 117=>251 | 116=>250 | 0=>0 | 124=>254 | 21=>21 | 105=>266 | 46=>227 | 119=>299 | 139=>302 | 138=>301 | n=>n,fun | 3=>7 | 4=>8 | n=>n⟩
theorem Tryz.lays160:Go.Proofs.Lays.n160 Tryz.prog Tryz.lays160_ren:={
 mixed:=by kernel_rfl
 f119:=Tryz.func302.trans (congrArg some (by kernel_rfl))
 f120:=Tryz.func292.trans (congrArg some (by kernel_rfl))
 f137:=Tryz.func301.trans (congrArg some (by kernel_rfl))
 f151:=Tryz.func272.trans (congrArg some (by kernel_rfl))
 f152:=Tryz.func291.trans (congrArg some (by kernel_rfl))
 f160:=Tryz.func207.trans (congrArg some (by kernel_rfl))
 f197:=Tryz.func271.trans (congrArg some (by kernel_rfl))
 f217:=Tryz.func266.trans (congrArg some (by kernel_rfl))
 f224:=Tryz.func268.trans (congrArg some (by kernel_rfl))
 f225:=Tryz.func267.trans (congrArg some (by kernel_rfl))
 f227:=Tryz.func245.trans (congrArg some (by kernel_rfl))
 f228:=Tryz.func270.trans (congrArg some (by kernel_rfl))
 f231:=Tryz.func243.trans (congrArg some (by kernel_rfl))
 f232:=Tryz.func244.trans (congrArg some (by kernel_rfl))
 f233:=Tryz.func246.trans (congrArg some (by kernel_rfl))
 f234:=Tryz.func247.trans (congrArg some (by kernel_rfl))
 f235:=Tryz.func248.trans (congrArg some (by kernel_rfl))
 f236:=Tryz.func249.trans (congrArg some (by kernel_rfl))
 f260:=Tryz.func290.trans (congrArg some (by kernel_rfl))
 f266:=Tryz.func288.trans (congrArg some (by kernel_rfl))
 f271:=Tryz.func273.trans (congrArg some (by kernel_rfl))
 t0:=Tryz.underlying0
 a0:=Tryz.isAgg0
 z0:=Tryz.sizeOf0
 v0:=Tryz.zeroValue0
 t3:=Tryz.underlying3
 a3:=Tryz.isAgg3
 z3:=Tryz.sizeOf3
 v3:=Tryz.zeroValue3
 t4:=Tryz.underlying4
 a4:=Tryz.isAgg4
 z4:=Tryz.sizeOf4
 v4:=Tryz.zeroValue4
 t5:=Tryz.underlying5
 a5:=Tryz.isAgg5
 z5:=Tryz.sizeOf5
 v5:=Tryz.zeroValue5
 t9:=Tryz.underlying9
 a9:=Tryz.isAgg9
 z9:=Tryz.sizeOf9
 v9:=Tryz.zeroValue9
 t21:=Tryz.underlying21
 a21:=Tryz.isAgg21
 z21:=Tryz.sizeOf21
 v21:=Tryz.zeroValue21
 t46:=Tryz.underlying227
 a46:=Tryz.isAgg227
 z46:=Tryz.sizeOf227
 v46:=Tryz.zeroValue227
 t105:=Tryz.underlying266
 a105:=Tryz.isAgg266
 z105:=Tryz.sizeOf266
 v105:=Tryz.zeroValue266
 t116:=Tryz.underlying250
 a116:=Tryz.isAgg250
 z116:=Tryz.sizeOf250
 t117:=Tryz.underlying251
 a117:=Tryz.isAgg251
 z117:=Tryz.sizeOf251
 v117:=Tryz.zeroValue251
 t119:=Tryz.underlying299
 a119:=Tryz.isAgg299
 z119:=Tryz.sizeOf299
 t124:=Tryz.underlying254
 a124:=Tryz.isAgg254
 z124:=Tryz.sizeOf254
 v124:=Tryz.zeroValue254
 t138:=Tryz.underlying301
 a138:=Tryz.isAgg301
 z138:=Tryz.sizeOf301
 v138:=Tryz.zeroValue301
 t139:=Tryz.underlying302
 a139:=Tryz.isAgg302
 z139:=Tryz.sizeOf302
 v139:=Tryz.zeroValue302
 g3:=by kernel_rfl
 g4:=by kernel_rfl}
def Tryz.lays134_ren:Go.Shelf.Ren:=⟨fun | 134=>256 | 129=>191 | n=>n,fun | 53=>198 | 3=>3 | 4=>4 | 46=>227 | 5=>5 | 9=>9 | n=>n,fun | n=>n⟩
theorem Tryz.lays134:Go.Proofs.Lays.n134 Tryz.prog Tryz.lays134_ren:={
 mixed:=by kernel_rfl
 f129:=Tryz.func191.trans (congrArg some (by kernel_rfl))
 f134:=Tryz.func256.trans (congrArg some (by kernel_rfl))
 t3:=Tryz.underlying3
 a3:=Tryz.isAgg3
 z3:=Tryz.sizeOf3
 v3:=Tryz.zeroValue3
 t4:=Tryz.underlying4
 a4:=Tryz.isAgg4
 z4:=Tryz.sizeOf4
 v4:=Tryz.zeroValue4
 t5:=Tryz.underlying5
 a5:=Tryz.isAgg5
 z5:=Tryz.sizeOf5
 v5:=Tryz.zeroValue5
 t9:=Tryz.underlying9
 a9:=Tryz.isAgg9
 z9:=Tryz.sizeOf9
 v9:=Tryz.zeroValue9
 t46:=Tryz.underlying227
 a46:=Tryz.isAgg227
 z46:=Tryz.sizeOf227
 v46:=Tryz.zeroValue227
 t53:=Tryz.underlying198
 a53:=Tryz.isAgg198
 z53:=Tryz.sizeOf198
 v53:=Tryz.zeroValue198}
theorem Tryz.bits_LeadingZeros64 (x:Int)(w:World)(h0:0<=x)(h1:x<=18446744073709551615):
  Calls Tryz.prog 256 #[.int .u64 x] w fun e w'=>e=.returned (.int .i64 (64 - (Lib.bitLen x.toNat:Int)))/\w'=w:=Any.bits_LeadingZeros64 Tryz.lays134 x w h0 h1
def Tryz.lays103_ren:Go.Shelf.Ren:=⟨fun | 103=>155 | 210=>205 | 206=>241 | n=>n,fun | 9=>9 | 4=>4 | 24=>169 | 3=>3 | n=>n,fun | n=>n⟩
theorem Tryz.lays103:Go.Proofs.Lays.n103 Tryz.prog Tryz.lays103_ren:={
 mixed:=by kernel_rfl
 f103:=Tryz.func155.trans (congrArg some (by kernel_rfl))
 f206:=Tryz.func241.trans (congrArg some (by kernel_rfl))
 f210:=Tryz.func205.trans (congrArg some (by kernel_rfl))
 t3:=Tryz.underlying3
 a3:=Tryz.isAgg3
 z3:=Tryz.sizeOf3
 v3:=Tryz.zeroValue3
 t4:=Tryz.underlying4
 a4:=Tryz.isAgg4
 z4:=Tryz.sizeOf4
 v4:=Tryz.zeroValue4
 t9:=Tryz.underlying9
 a9:=Tryz.isAgg9
 z9:=Tryz.sizeOf9
 v9:=Tryz.zeroValue9
 t24:=Tryz.underlying169
 a24:=Tryz.isAgg169
 z24:=Tryz.sizeOf169
 v24:=Tryz.zeroValue169}
open Go.RowKit in
theorem Tryz.strings_CutPrefix (s p:ByteArray)(w:World):
  Calls Tryz.prog 155 #[.string s,.string p] w fun e w'=>e=.returned (.tuple #[.string ⟨(Lib.trimPrefix s.data.toList p.data.toList).toArray⟩,.bool (Lib.hasPrefix s.data.toList p.data.toList)])/\w'=w:=Any.strings_CutPrefix Tryz.lays103 s p w
open Go.RowKit in
theorem Tryz.Builder_String_any_k (B b:Nat)(l:List UInt8)(w:World)(h:Lib.IsBuilderF 237 5 B b (Lib.byteCells l) w)(hBw:B<=w.heap.size):
  Calls Tryz.prog 232 #[.pointer (some ⟨b,0,none⟩)] w fun e w'=>e=.returned (.string ⟨l.toArray⟩)/\(Lib.IsBuilderF 237 5 B b (Lib.byteCells l) w'/\Below B w w'/\Lib.OthersKept 5 (some b) w w'):=Any.Builder_String_any_k Tryz.lays169 Tryz.Builder_Extra_169 B b l w h hBw
def Tryz.lays172_ren:Go.Shelf.Ren:=⟨fun | 172=>210 | 244=>251 | 245=>252 | 247=>274 | 279=>275 | 280=>276 | 281=>277 | 282=>278 | 287=>293 | 316=>294 | 171=>228 | 205=>295 | 321=>303 | 322=>304 | 243=>259 | 246=>280 | 283=>281 | 284=>282 | 285=>283 | 286=>284 | 129=>191 | 317=>296 | 318=>297 | 319=>298 | 320=>299 | 337=>305 | 338=>306 | n=>n,fun | 9=>9 | 3=>3 | 75=>208 | 76=>209 | 4=>4 | 5=>5 | 167=>269 | 37=>235 | 0=>0 | 85=>270 | 2=>2 | 168=>272 | 53=>198 | 175=>287 | 46=>227 | 210=>291 | 127=>261 | 145=>306 | 143=>304 | 21=>21 | 171=>276 | 173=>278 | 212=>294 | 51=>280 | 20=>20 | 213=>295 | 232=>308 | 233=>309 | 80=>196 | n=>n,fun | 15=>4 | 16=>5 | 17=>6 | 18=>9 | 19=>10 | n=>n⟩
theorem Tryz.lays172:Go.Proofs.Lays.n172 Tryz.prog Tryz.lays172_ren:={
 mixed:=by kernel_rfl
 f129:=Tryz.func191.trans (congrArg some (by kernel_rfl))
 f171:=Tryz.func228.trans (congrArg some (by kernel_rfl))
 f172:=Tryz.func210.trans (congrArg some (by kernel_rfl))
 f205:=Tryz.func295.trans (congrArg some (by kernel_rfl))
 f243:=Tryz.func259.trans (congrArg some (by kernel_rfl))
 f244:=Tryz.func251.trans (congrArg some (by kernel_rfl))
 f245:=Tryz.func252.trans (congrArg some (by kernel_rfl))
 f246:=Tryz.func280.trans (congrArg some (by kernel_rfl))
 f247:=Tryz.func274.trans (congrArg some (by kernel_rfl))
 f279:=Tryz.func275.trans (congrArg some (by kernel_rfl))
 f280:=Tryz.func276.trans (congrArg some (by kernel_rfl))
 f281:=Tryz.func277.trans (congrArg some (by kernel_rfl))
 f282:=Tryz.func278.trans (congrArg some (by kernel_rfl))
 f283:=Tryz.func281.trans (congrArg some (by kernel_rfl))
 f284:=Tryz.func282.trans (congrArg some (by kernel_rfl))
 f285:=Tryz.func283.trans (congrArg some (by kernel_rfl))
 f286:=Tryz.func284.trans (congrArg some (by kernel_rfl))
 f287:=Tryz.func293.trans (congrArg some (by kernel_rfl))
 f316:=Tryz.func294.trans (congrArg some (by kernel_rfl))
 f317:=Tryz.func296.trans (congrArg some (by kernel_rfl))
 f318:=Tryz.func297.trans (congrArg some (by kernel_rfl))
 f319:=Tryz.func298.trans (congrArg some (by kernel_rfl))
 f320:=Tryz.func299.trans (congrArg some (by kernel_rfl))
 f321:=Tryz.func303.trans (congrArg some (by kernel_rfl))
 f322:=Tryz.func304.trans (congrArg some (by kernel_rfl))
 f337:=Tryz.func305.trans (congrArg some (by kernel_rfl))
 f338:=Tryz.func306.trans (congrArg some (by kernel_rfl))
 t0:=Tryz.underlying0
 a0:=Tryz.isAgg0
 z0:=Tryz.sizeOf0
 v0:=Tryz.zeroValue0
 t2:=Tryz.underlying2
 a2:=Tryz.isAgg2
 z2:=Tryz.sizeOf2
 v2:=Tryz.zeroValue2
 t3:=Tryz.underlying3
 a3:=Tryz.isAgg3
 z3:=Tryz.sizeOf3
 v3:=Tryz.zeroValue3
 t4:=Tryz.underlying4
 a4:=Tryz.isAgg4
 z4:=Tryz.sizeOf4
 v4:=Tryz.zeroValue4
 t5:=Tryz.underlying5
 a5:=Tryz.isAgg5
 z5:=Tryz.sizeOf5
 v5:=Tryz.zeroValue5
 t9:=Tryz.underlying9
 a9:=Tryz.isAgg9
 z9:=Tryz.sizeOf9
 v9:=Tryz.zeroValue9
 t20:=Tryz.underlying20
 a20:=Tryz.isAgg20
 z20:=Tryz.sizeOf20
 v20:=Tryz.zeroValue20
 t21:=Tryz.underlying21
 a21:=Tryz.isAgg21
 z21:=Tryz.sizeOf21
 v21:=Tryz.zeroValue21
 t37:=Tryz.underlying235
 a37:=Tryz.isAgg235
 z37:=Tryz.sizeOf235
 v37:=Tryz.zeroValue235
 t46:=Tryz.underlying227
 a46:=Tryz.isAgg227
 z46:=Tryz.sizeOf227
 v46:=Tryz.zeroValue227
 t51:=Tryz.underlying280
 a51:=Tryz.isAgg280
 z51:=Tryz.sizeOf280
 v51:=Tryz.zeroValue280
 t53:=Tryz.underlying198
 a53:=Tryz.isAgg198
 z53:=Tryz.sizeOf198
 v53:=Tryz.zeroValue198
 t75:=Tryz.underlying208
 a75:=Tryz.isAgg208
 z75:=Tryz.sizeOf208
 v75:=Tryz.zeroValue208
 t76:=Tryz.underlying209
 a76:=Tryz.isAgg209
 z76:=Tryz.sizeOf209
 v76:=Tryz.zeroValue209
 t85:=Tryz.underlying270
 a85:=Tryz.isAgg270
 z85:=Tryz.sizeOf270
 v85:=Tryz.zeroValue270
 t127:=Tryz.underlying261
 a127:=Tryz.isAgg261
 z127:=Tryz.sizeOf261
 v127:=Tryz.zeroValue261
 t143:=Tryz.underlying304
 a143:=Tryz.isAgg304
 z143:=Tryz.sizeOf304
 v143:=Tryz.zeroValue304
 t145:=Tryz.underlying306
 a145:=Tryz.isAgg306
 z145:=Tryz.sizeOf306
 v145:=Tryz.zeroValue306
 t167:=Tryz.underlying269
 a167:=Tryz.isAgg269
 z167:=Tryz.sizeOf269
 v167:=Tryz.zeroValue269
 t168:=Tryz.underlying272
 a168:=Tryz.isAgg272
 z168:=Tryz.sizeOf272
 v168:=Tryz.zeroValue272
 t171:=Tryz.underlying276
 a171:=Tryz.isAgg276
 z171:=Tryz.sizeOf276
 v171:=Tryz.zeroValue276
 t173:=Tryz.underlying278
 a173:=Tryz.isAgg278
 z173:=Tryz.sizeOf278
 v173:=Tryz.zeroValue278
 t175:=Tryz.underlying287
 a175:=Tryz.isAgg287
 z175:=Tryz.sizeOf287
 v175:=Tryz.zeroValue287
 t210:=Tryz.underlying291
 a210:=Tryz.isAgg291
 z210:=Tryz.sizeOf291
 v210:=Tryz.zeroValue291
 t212:=Tryz.underlying294
 a212:=Tryz.isAgg294
 z212:=Tryz.sizeOf294
 v212:=Tryz.zeroValue294
 t213:=Tryz.underlying295
 a213:=Tryz.isAgg295
 z213:=Tryz.sizeOf295
 t232:=Tryz.underlying308
 a232:=Tryz.isAgg308
 z232:=Tryz.sizeOf308
 v232:=Tryz.zeroValue308
 t233:=Tryz.underlying309
 a233:=Tryz.isAgg309
 z233:=Tryz.sizeOf309
 v233:=Tryz.zeroValue309
 g15:=by kernel_rfl
 g16:=by kernel_rfl
 g17:=by kernel_rfl
 g18:=by kernel_rfl
 g19:=by kernel_rfl}
open Go.RowKit in
theorem Tryz.strconv_Atoi (s:ByteArray)(n:Int)(hl:s.size<=18)(h:Lib.atoi s.data.toList=some n)(w:World):
  Calls Tryz.prog 210 #[.string s] w fun e w'=>e=.returned (.tuple #[.int .i64 n,.nilIface])/\∃ t,w'=Lib.bytesWorld w 5 t:=Any.strconv_Atoi Tryz.lays172 s n hl h w
def Tryz.lays129_ren:Go.Shelf.Ren:=⟨fun | 129=>191 | n=>n,fun | 53=>198 | 3=>3 | 4=>4 | 46=>227 | 5=>5 | 9=>9 | n=>n,fun | n=>n⟩
theorem Tryz.lays129:Go.Proofs.Lays.n129 Tryz.prog Tryz.lays129_ren:={
 mixed:=by kernel_rfl
 f129:=Tryz.func191.trans (congrArg some (by kernel_rfl))
 t3:=Tryz.underlying3
 a3:=Tryz.isAgg3
 z3:=Tryz.sizeOf3
 v3:=Tryz.zeroValue3
 t4:=Tryz.underlying4
 a4:=Tryz.isAgg4
 z4:=Tryz.sizeOf4
 v4:=Tryz.zeroValue4
 t5:=Tryz.underlying5
 a5:=Tryz.isAgg5
 z5:=Tryz.sizeOf5
 v5:=Tryz.zeroValue5
 t9:=Tryz.underlying9
 a9:=Tryz.isAgg9
 z9:=Tryz.sizeOf9
 v9:=Tryz.zeroValue9
 t46:=Tryz.underlying227
 a46:=Tryz.isAgg227
 z46:=Tryz.sizeOf227
 v46:=Tryz.zeroValue227
 t53:=Tryz.underlying198
 a53:=Tryz.isAgg198
 z53:=Tryz.sizeOf198
 v53:=Tryz.zeroValue198}
theorem Tryz.bits_Len64 (x:Int)(w:World)(h0:0<=x)(h1:x<=18446744073709551615):
  Calls Tryz.prog 191 #[.int .u64 x] w fun e w'=>e=.returned (.int .i64 (Lib.bitLen x.toNat))/\w'=w:=Any.bits_Len64 Tryz.lays129 x w h0 h1
def Tryz.lays283_ren:Go.Shelf.Ren:=⟨fun | 283=>281 | n=>n,fun | 3=>3 | 9=>9 | 4=>4 | n=>n,fun | n=>n⟩
theorem Tryz.lays283:Go.Proofs.Lays.n283 Tryz.prog Tryz.lays283_ren:={
 mixed:=by kernel_rfl
 f283:=Tryz.func281.trans (congrArg some (by kernel_rfl))
 t3:=Tryz.underlying3
 a3:=Tryz.isAgg3
 z3:=Tryz.sizeOf3
 v3:=Tryz.zeroValue3
 t4:=Tryz.underlying4
 a4:=Tryz.isAgg4
 z4:=Tryz.sizeOf4
 v4:=Tryz.zeroValue4
 t9:=Tryz.underlying9
 a9:=Tryz.isAgg9
 z9:=Tryz.sizeOf9
 v9:=Tryz.zeroValue9}
open Go.Lib in
theorem Tryz.internal_strconv_small (i:Nat)(h:i < 100)(w:World):
  Calls Tryz.prog 281 #[.int .i64 i] w fun e w'=>e=.returned (.string ⟨(Lib.decDigits i).toArray⟩)/\w'=w:=Any.internal_strconv_small Tryz.lays283 i h w
def Tryz.laysM284_ren:Go.Shelf.Ren:=⟨fun | 284=>282 | 129=>191 | 317=>296 | 318=>297 | n=>n,fun | 53=>198 | 3=>3 | 212=>294 | 0=>0 | 4=>4 | 46=>227 | 5=>5 | 9=>9 | n=>n,fun | 17=>6 | n=>n⟩
theorem Tryz.laysM284:Go.Proofs.LaysM.n284 Tryz.prog Tryz.laysM284_ren:={
 mixed:=by kernel_rfl
 f129:=Tryz.func191.trans (congrArg some (by kernel_rfl))
 f284:=Tryz.func282.trans (congrArg some (by kernel_rfl))
 f317:=Tryz.func296.trans (congrArg some (by kernel_rfl))
 f318:=Tryz.func297.trans (congrArg some (by kernel_rfl))
 t0:=Tryz.underlying0
 a0:=Tryz.isAgg0
 z0:=Tryz.sizeOf0
 v0:=Tryz.zeroValue0
 t3:=Tryz.underlying3
 a3:=Tryz.isAgg3
 z3:=Tryz.sizeOf3
 v3:=Tryz.zeroValue3
 t4:=Tryz.underlying4
 a4:=Tryz.isAgg4
 z4:=Tryz.sizeOf4
 v4:=Tryz.zeroValue4
 t5:=Tryz.underlying5
 a5:=Tryz.isAgg5
 z5:=Tryz.sizeOf5
 v5:=Tryz.zeroValue5
 t9:=Tryz.underlying9
 a9:=Tryz.isAgg9
 z9:=Tryz.sizeOf9
 v9:=Tryz.zeroValue9
 t46:=Tryz.underlying227
 a46:=Tryz.isAgg227
 z46:=Tryz.sizeOf227
 v46:=Tryz.zeroValue227
 t53:=Tryz.underlying198
 a53:=Tryz.isAgg198
 z53:=Tryz.sizeOf198
 v53:=Tryz.zeroValue198
 t212:=Tryz.underlying294
 a212:=Tryz.isAgg294
 z212:=Tryz.sizeOf294
 v212:=Tryz.zeroValue294
 g17:=by kernel_rfl
 i0:=by kernel_rfl
 i3:=by kernel_rfl
 i4:=by kernel_rfl
 i5:=by kernel_rfl
 i9:=by kernel_rfl
 i46:=by kernel_rfl
 i53:=by kernel_rfl
 i212:=by kernel_rfl
 m17:=by kernel_rfl}
open Go.Lib in
theorem Tryz.internal_strconv_numDigits (u : Nat) (h1 : 1 <= u) (h2 : u < 18446744073709551616) (w : World) (htab : Lib.TabIs Tryz.prog w "internal/strconv.uint64pow10" .u64 Lib.pow10Tab) :
  Calls Tryz.prog 282 #[.int .u64 u] w fun e w'=>e=.returned (.int .i64 (Lib.nDigits u))/\w'=w:=Any.internal_strconv_numDigits Tryz.laysM284 u h1 h2 w htab
def Tryz.lays285_ren:Go.Shelf.Ren:=⟨fun | 285=>283 | n=>n,fun | 37=>235 | 53=>198 | 3=>3 | 4=>4 | 51=>280 | 9=>9 | 5=>5 | 0=>0 | n=>n,fun | n=>n⟩
theorem Tryz.lays285:Go.Proofs.Lays.n285 Tryz.prog Tryz.lays285_ren:={
 mixed:=by kernel_rfl
 f285:=Tryz.func283.trans (congrArg some (by kernel_rfl))
 t0:=Tryz.underlying0
 a0:=Tryz.isAgg0
 z0:=Tryz.sizeOf0
 v0:=Tryz.zeroValue0
 t3:=Tryz.underlying3
 a3:=Tryz.isAgg3
 z3:=Tryz.sizeOf3
 v3:=Tryz.zeroValue3
 t4:=Tryz.underlying4
 a4:=Tryz.isAgg4
 z4:=Tryz.sizeOf4
 v4:=Tryz.zeroValue4
 t5:=Tryz.underlying5
 a5:=Tryz.isAgg5
 z5:=Tryz.sizeOf5
 v5:=Tryz.zeroValue5
 t9:=Tryz.underlying9
 a9:=Tryz.isAgg9
 z9:=Tryz.sizeOf9
 v9:=Tryz.zeroValue9
 t37:=Tryz.underlying235
 a37:=Tryz.isAgg235
 z37:=Tryz.sizeOf235
 v37:=Tryz.zeroValue235
 t51:=Tryz.underlying280
 a51:=Tryz.isAgg280
 z51:=Tryz.sizeOf280
 v51:=Tryz.zeroValue280
 t53:=Tryz.underlying198
 a53:=Tryz.isAgg198
 z53:=Tryz.sizeOf198
 v53:=Tryz.zeroValue198}
open Go.RowKit Go.Sort Go.Lib in
theorem Tryz.internal_strconv_formatBase10 (blk off cap:Nat)(u:Nat)(d:Array UInt8)(w:World)(hH:Holds (fun (b:UInt8)=>Value.int .u8 (b.toNat:Int)) w blk off d)(hu:u < 10^d.size)(hu64:u < 18446744073709551616)(hsz:d.size < 4611686018427387904):
  Calls Tryz.prog 283 #[.slice (some ⟨blk,off,none⟩) d.size cap,.int .u64 u] w fun e w'=>
   e=.returned (.tuple #[])/\∃ (n v':Nat) (dk:Array UInt8),w'=(putRow (fun (b:UInt8)=>Value.int .u8 (b.toNat:Int)) w blk off dk).drewN n/\FmtInv d.size u 0 v' dk:=Any.internal_strconv_formatBase10 Tryz.lays285 blk off cap u d w hH hu hu64 hsz
def Tryz.laysM171_ren:Go.Shelf.Ren:=⟨fun | 171=>228 | 243=>259 | 246=>280 | 283=>281 | 284=>282 | 285=>283 | 286=>284 | 129=>191 | 317=>296 | 318=>297 | 319=>298 | 320=>299 | 337=>305 | 338=>306 | n=>n,fun | 3=>3 | 9=>9 | 2=>2 | 4=>4 | 171=>276 | 0=>0 | 53=>198 | 37=>235 | 5=>5 | 173=>278 | 212=>294 | 51=>280 | 20=>20 | 213=>295 | 46=>227 | 232=>308 | 233=>309 | n=>n,fun | 17=>6 | 18=>9 | 19=>10 | n=>n⟩
theorem Tryz.laysM171:Go.Proofs.LaysM.n171 Tryz.prog Tryz.laysM171_ren:={
 mixed:=by kernel_rfl
 f129:=Tryz.func191.trans (congrArg some (by kernel_rfl))
 f171:=Tryz.func228.trans (congrArg some (by kernel_rfl))
 f243:=Tryz.func259.trans (congrArg some (by kernel_rfl))
 f246:=Tryz.func280.trans (congrArg some (by kernel_rfl))
 f283:=Tryz.func281.trans (congrArg some (by kernel_rfl))
 f284:=Tryz.func282.trans (congrArg some (by kernel_rfl))
 f285:=Tryz.func283.trans (congrArg some (by kernel_rfl))
 f286:=Tryz.func284.trans (congrArg some (by kernel_rfl))
 f317:=Tryz.func296.trans (congrArg some (by kernel_rfl))
 f318:=Tryz.func297.trans (congrArg some (by kernel_rfl))
 f319:=Tryz.func298.trans (congrArg some (by kernel_rfl))
 f320:=Tryz.func299.trans (congrArg some (by kernel_rfl))
 f337:=Tryz.func305.trans (congrArg some (by kernel_rfl))
 f338:=Tryz.func306.trans (congrArg some (by kernel_rfl))
 t0:=Tryz.underlying0
 a0:=Tryz.isAgg0
 z0:=Tryz.sizeOf0
 v0:=Tryz.zeroValue0
 t2:=Tryz.underlying2
 a2:=Tryz.isAgg2
 z2:=Tryz.sizeOf2
 v2:=Tryz.zeroValue2
 t3:=Tryz.underlying3
 a3:=Tryz.isAgg3
 z3:=Tryz.sizeOf3
 v3:=Tryz.zeroValue3
 t4:=Tryz.underlying4
 a4:=Tryz.isAgg4
 z4:=Tryz.sizeOf4
 v4:=Tryz.zeroValue4
 t5:=Tryz.underlying5
 a5:=Tryz.isAgg5
 z5:=Tryz.sizeOf5
 v5:=Tryz.zeroValue5
 t9:=Tryz.underlying9
 a9:=Tryz.isAgg9
 z9:=Tryz.sizeOf9
 v9:=Tryz.zeroValue9
 t20:=Tryz.underlying20
 a20:=Tryz.isAgg20
 z20:=Tryz.sizeOf20
 v20:=Tryz.zeroValue20
 t37:=Tryz.underlying235
 a37:=Tryz.isAgg235
 z37:=Tryz.sizeOf235
 v37:=Tryz.zeroValue235
 t46:=Tryz.underlying227
 a46:=Tryz.isAgg227
 z46:=Tryz.sizeOf227
 v46:=Tryz.zeroValue227
 t51:=Tryz.underlying280
 a51:=Tryz.isAgg280
 z51:=Tryz.sizeOf280
 v51:=Tryz.zeroValue280
 t53:=Tryz.underlying198
 a53:=Tryz.isAgg198
 z53:=Tryz.sizeOf198
 v53:=Tryz.zeroValue198
 t171:=Tryz.underlying276
 a171:=Tryz.isAgg276
 z171:=Tryz.sizeOf276
 v171:=Tryz.zeroValue276
 t173:=Tryz.underlying278
 a173:=Tryz.isAgg278
 z173:=Tryz.sizeOf278
 v173:=Tryz.zeroValue278
 t212:=Tryz.underlying294
 a212:=Tryz.isAgg294
 z212:=Tryz.sizeOf294
 v212:=Tryz.zeroValue294
 t213:=Tryz.underlying295
 a213:=Tryz.isAgg295
 z213:=Tryz.sizeOf295
 t232:=Tryz.underlying308
 a232:=Tryz.isAgg308
 z232:=Tryz.sizeOf308
 v232:=Tryz.zeroValue308
 t233:=Tryz.underlying309
 a233:=Tryz.isAgg309
 z233:=Tryz.sizeOf309
 v233:=Tryz.zeroValue309
 g17:=by kernel_rfl
 g18:=by kernel_rfl
 g19:=by kernel_rfl
 i0:=by kernel_rfl
 i2:=by kernel_rfl
 i3:=by kernel_rfl
 i4:=by kernel_rfl
 i5:=by kernel_rfl
 i9:=by kernel_rfl
 i20:=by kernel_rfl
 i37:=by kernel_rfl
 i46:=by kernel_rfl
 i51:=by kernel_rfl
 i53:=by kernel_rfl
 i171:=by kernel_rfl
 i173:=by kernel_rfl
 i212:=by kernel_rfl
 i232:=by kernel_rfl
 i233:=by kernel_rfl
 m17:=by kernel_rfl
 m18:=by kernel_rfl
 m19:=by kernel_rfl}
open Go.RowKit Go.Sort Go.Lib in
theorem Tryz.strconv_Itoa (n : Int) (h0 : -9223372036854775808 <= n) (h1 : n <= 9223372036854775807) (w : World) (htab : Lib.TabIs Tryz.prog w "internal/strconv.uint64pow10" .u64 Lib.pow10Tab) :
  Calls Tryz.prog 228 #[.int .i64 n] w fun e w'=>e=.returned (.string ⟨(Lib.itoa n).toArray⟩)/\∃ k os,w'=grow (w.drewN k) os:=Any.strconv_Itoa Tryz.laysM171 n h0 h1 w htab
def Tryz.lays145_ren:Go.Shelf.Ren:=⟨fun | 145=>156 | 220=>206 | 219=>242 | 217=>266 | 225=>267 | 224=>268 | 267=>269 | 266=>288 | 314=>289 | n=>n,fun | 9=>9 | 4=>4 | 59=>171 | 3=>3 | 5=>5 | 46=>227 | 146=>281 | 51=>280 | n=>n,fun | 1=>1 | n=>n⟩
theorem Tryz.lays145:Go.Proofs.Lays.n145 Tryz.prog Tryz.lays145_ren:={
 mixed:=by kernel_rfl
 f145:=Tryz.func156.trans (congrArg some (by kernel_rfl))
 f217:=Tryz.func266.trans (congrArg some (by kernel_rfl))
 f219:=Tryz.func242.trans (congrArg some (by kernel_rfl))
 f220:=Tryz.func206.trans (congrArg some (by kernel_rfl))
 f224:=Tryz.func268.trans (congrArg some (by kernel_rfl))
 f225:=Tryz.func267.trans (congrArg some (by kernel_rfl))
 f266:=Tryz.func288.trans (congrArg some (by kernel_rfl))
 f267:=Tryz.func269.trans (congrArg some (by kernel_rfl))
 f314:=Tryz.func289.trans (congrArg some (by kernel_rfl))
 t3:=Tryz.underlying3
 a3:=Tryz.isAgg3
 z3:=Tryz.sizeOf3
 v3:=Tryz.zeroValue3
 t4:=Tryz.underlying4
 a4:=Tryz.isAgg4
 z4:=Tryz.sizeOf4
 v4:=Tryz.zeroValue4
 t5:=Tryz.underlying5
 a5:=Tryz.isAgg5
 z5:=Tryz.sizeOf5
 v5:=Tryz.zeroValue5
 t9:=Tryz.underlying9
 a9:=Tryz.isAgg9
 z9:=Tryz.sizeOf9
 v9:=Tryz.zeroValue9
 t46:=Tryz.underlying227
 a46:=Tryz.isAgg227
 z46:=Tryz.sizeOf227
 v46:=Tryz.zeroValue227
 t51:=Tryz.underlying280
 a51:=Tryz.isAgg280
 z51:=Tryz.sizeOf280
 v51:=Tryz.zeroValue280
 t59:=Tryz.underlying171
 a59:=Tryz.isAgg171
 z59:=Tryz.sizeOf171
 v59:=Tryz.zeroValue171
 t146:=Tryz.underlying281
 a146:=Tryz.isAgg281
 z146:=Tryz.sizeOf281
 v146:=Tryz.zeroValue281
 g1:=by kernel_rfl}
open Go.RowKit Go.Lib in
theorem Tryz.strings_Cut (s sep:ByteArray)(m:Int)(w:World)(hs:s.size < 4294967281)(hm:w.cell? ⟨1,0,none⟩=some (.int .i64 m)):
  Calls Tryz.prog 156 #[.string s,.string sep] w fun e w'=>e=.returned (.tuple #[.string ⟨(Lib.cut s.data.toList sep.data.toList).1.toArray⟩,.string ⟨(Lib.cut s.data.toList sep.data.toList).2.1.toArray⟩,.bool (Lib.cut s.data.toList sep.data.toList).2.2])/\∃ n,w'=w.drewN n:=Any.strings_Cut Tryz.lays145 s sep m w hs hm
def Tryz.lays99_ren:Go.Shelf.Ren:=⟨fun | 99=>208 | 206=>241 | n=>n,fun | 9=>9 | 4=>4 | 3=>3 | n=>n,fun | n=>n⟩
theorem Tryz.lays99:Go.Proofs.Lays.n99 Tryz.prog Tryz.lays99_ren:={
 mixed:=by kernel_rfl
 f99:=Tryz.func208.trans (congrArg some (by kernel_rfl))
 f206:=Tryz.func241.trans (congrArg some (by kernel_rfl))
 t3:=Tryz.underlying3
 a3:=Tryz.isAgg3
 z3:=Tryz.sizeOf3
 v3:=Tryz.zeroValue3
 t4:=Tryz.underlying4
 a4:=Tryz.isAgg4
 z4:=Tryz.sizeOf4
 v4:=Tryz.zeroValue4
 t9:=Tryz.underlying9
 a9:=Tryz.isAgg9
 z9:=Tryz.sizeOf9
 v9:=Tryz.zeroValue9}
open Go.RowKit Go.Lib in
theorem Tryz.strings_HasPrefix (s p:ByteArray)(w:World):
  Calls Tryz.prog 208 #[.string s,.string p] w fun e w'=>e=.returned (.bool (Lib.hasPrefix s.data.toList p.data.toList))/\w'=w:=Any.strings_HasPrefix Tryz.lays99 s p w
def Tryz.lays101_ren:Go.Shelf.Ren:=⟨fun | 101=>209 | 208=>250 | 206=>241 | n=>n,fun | 9=>9 | 4=>4 | 3=>3 | n=>n,fun | n=>n⟩
theorem Tryz.lays101:Go.Proofs.Lays.n101 Tryz.prog Tryz.lays101_ren:={
 mixed:=by kernel_rfl
 f101:=Tryz.func209.trans (congrArg some (by kernel_rfl))
 f206:=Tryz.func241.trans (congrArg some (by kernel_rfl))
 f208:=Tryz.func250.trans (congrArg some (by kernel_rfl))
 t3:=Tryz.underlying3
 a3:=Tryz.isAgg3
 z3:=Tryz.sizeOf3
 v3:=Tryz.zeroValue3
 t4:=Tryz.underlying4
 a4:=Tryz.isAgg4
 z4:=Tryz.sizeOf4
 v4:=Tryz.zeroValue4
 t9:=Tryz.underlying9
 a9:=Tryz.isAgg9
 z9:=Tryz.sizeOf9
 v9:=Tryz.zeroValue9}
open Go.RowKit Go.Lib in
theorem Tryz.strings_TrimPrefix (s p:ByteArray)(w:World):
  Calls Tryz.prog 209 #[.string s,.string p] w fun e w'=>e=.returned (.string ⟨(Lib.trimPrefix s.data.toList p.data.toList).toArray⟩)/\w'=w:=Any.strings_TrimPrefix Tryz.lays101 s p w
def Tryz.lays264_ren:Go.Shelf.Ren:=⟨fun | 264=>215 | n=>n,fun | 53=>198 | 46=>227 | n=>n,fun | n=>n⟩
theorem Tryz.lays264:Go.Proofs.Lays.n264 Tryz.prog Tryz.lays264_ren:={
 mixed:=by kernel_rfl
 f264:=Tryz.func215.trans (congrArg some (by kernel_rfl))
 t46:=Tryz.underlying227
 a46:=Tryz.isAgg227
 z46:=Tryz.sizeOf227
 v46:=Tryz.zeroValue227
 t53:=Tryz.underlying198
 a53:=Tryz.isAgg198
 z53:=Tryz.sizeOf198
 v53:=Tryz.zeroValue198}
open Go.RowKit Go.Lib in
theorem Tryz.bits_Mul64 (x y:Nat)(hx:x < 18446744073709551616)(hy:y < 18446744073709551616)(w:World):
  Calls Tryz.prog 215 #[.int .u64 x,.int .u64 y] w fun e w'=>e=.returned (.tuple #[.int .u64 ((x*y / 18446744073709551616:Nat):Int),.int .u64 ((x*y % 18446744073709551616:Nat):Int)])/\w'=w:=Any.bits_Mul64 Tryz.lays264 x y hx hy w
def Tryz.lays105_ren:Go.Shelf.Ren:=⟨fun | 105=>230 | 212=>261 | 99=>208 | 165=>262 | 166=>231 | 170=>263 | 169=>232 | 263=>285 | 264=>215 | 206=>241 | 240=>264 | 241=>286 | 276=>287 | 277=>300 | n=>n,fun | 9=>9 | 3=>3 | 4=>4 | 20=>20 | 0=>0 | 46=>227 | 109=>258 | 5=>5 | 72=>237 | 76=>209 | 51=>280 | 146=>281 | 53=>198 | 148=>215 | 70=>234 | 37=>235 | 75=>208 | 127=>261 | 164=>283 | 80=>196 | n=>n,fun | n=>n⟩
theorem Tryz.lays105:Go.Proofs.Lays.n105 Tryz.prog Tryz.lays105_ren:={
 mixed:=by kernel_rfl
 f99:=Tryz.func208.trans (congrArg some (by kernel_rfl))
 f105:=Tryz.func230.trans (congrArg some (by kernel_rfl))
 f165:=Tryz.func262.trans (congrArg some (by kernel_rfl))
 f166:=Tryz.func231.trans (congrArg some (by kernel_rfl))
 f169:=Tryz.func232.trans (congrArg some (by kernel_rfl))
 f170:=Tryz.func263.trans (congrArg some (by kernel_rfl))
 f206:=Tryz.func241.trans (congrArg some (by kernel_rfl))
 f212:=Tryz.func261.trans (congrArg some (by kernel_rfl))
 f240:=Tryz.func264.trans (congrArg some (by kernel_rfl))
 f241:=Tryz.func286.trans (congrArg some (by kernel_rfl))
 f263:=Tryz.func285.trans (congrArg some (by kernel_rfl))
 f264:=Tryz.func215.trans (congrArg some (by kernel_rfl))
 f276:=Tryz.func287.trans (congrArg some (by kernel_rfl))
 f277:=Tryz.func300.trans (congrArg some (by kernel_rfl))
 t0:=Tryz.underlying0
 a0:=Tryz.isAgg0
 z0:=Tryz.sizeOf0
 v0:=Tryz.zeroValue0
 t3:=Tryz.underlying3
 a3:=Tryz.isAgg3
 z3:=Tryz.sizeOf3
 v3:=Tryz.zeroValue3
 t4:=Tryz.underlying4
 a4:=Tryz.isAgg4
 z4:=Tryz.sizeOf4
 v4:=Tryz.zeroValue4
 t5:=Tryz.underlying5
 a5:=Tryz.isAgg5
 z5:=Tryz.sizeOf5
 v5:=Tryz.zeroValue5
 t9:=Tryz.underlying9
 a9:=Tryz.isAgg9
 z9:=Tryz.sizeOf9
 v9:=Tryz.zeroValue9
 t20:=Tryz.underlying20
 a20:=Tryz.isAgg20
 z20:=Tryz.sizeOf20
 v20:=Tryz.zeroValue20
 t37:=Tryz.underlying235
 a37:=Tryz.isAgg235
 z37:=Tryz.sizeOf235
 v37:=Tryz.zeroValue235
 t46:=Tryz.underlying227
 a46:=Tryz.isAgg227
 z46:=Tryz.sizeOf227
 v46:=Tryz.zeroValue227
 t51:=Tryz.underlying280
 a51:=Tryz.isAgg280
 z51:=Tryz.sizeOf280
 v51:=Tryz.zeroValue280
 t53:=Tryz.underlying198
 a53:=Tryz.isAgg198
 z53:=Tryz.sizeOf198
 v53:=Tryz.zeroValue198
 t70:=Tryz.underlying234
 a70:=Tryz.isAgg234
 z70:=Tryz.sizeOf234
 v70:=Tryz.zeroValue234
 t72:=Tryz.underlying237
 a72:=Tryz.isAgg237
 z72:=Tryz.sizeOf237
 v72:=Tryz.zeroValue237
 t75:=Tryz.underlying208
 a75:=Tryz.isAgg208
 z75:=Tryz.sizeOf208
 v75:=Tryz.zeroValue208
 t76:=Tryz.underlying209
 a76:=Tryz.isAgg209
 z76:=Tryz.sizeOf209
 v76:=Tryz.zeroValue209
 t109:=Tryz.underlying258
 a109:=Tryz.isAgg258
 z109:=Tryz.sizeOf258
 v109:=Tryz.zeroValue258
 t127:=Tryz.underlying261
 a127:=Tryz.isAgg261
 z127:=Tryz.sizeOf261
 v127:=Tryz.zeroValue261
 t146:=Tryz.underlying281
 a146:=Tryz.isAgg281
 z146:=Tryz.sizeOf281
 v146:=Tryz.zeroValue281
 t148:=Tryz.underlying215
 a148:=Tryz.isAgg215
 z148:=Tryz.sizeOf215
 v148:=Tryz.zeroValue215
 t164:=Tryz.underlying283
 a164:=Tryz.isAgg283
 z164:=Tryz.sizeOf283
 v164:=Tryz.zeroValue283}
theorem Tryz.Builder_Extra_105:Builder.Extra Tryz.prog Tryz.lays105_ren:={
 sizeBuilder:=by kernel_rfl
 liesBuilder:=by kernel_rfl
 t5:=Tryz.underlying5
 a5:=Tryz.isAgg5
 z5:=Tryz.sizeOf5
 v5:=Tryz.zeroValue5
 infoByte:=by kernel_rfl
 cellsByte:=by kernel_rfl
 sizeByte:=by kernel_rfl
 neB5:=by decide}
open Go.RowKit Go.Lib in
theorem Tryz.strings_Repeat (s:ByteArray)(c:Nat)(w:World)(hc:c<=9223372036854775807)(hlen:s.size*c<=140737488355328):
  Calls Tryz.prog 230 #[.string s,.int .i64 c] w fun e w'=>e=.returned (.string ⟨(Lib.repeatL s.data.toList c).toArray⟩)/\Below w.heap.size w w':=Any.strings_Repeat Tryz.lays105 Tryz.Builder_Extra_105 s c w hc hlen
end Go.Proofs
namespace Go.Proofs.YtnjonlnemagomaaGreatDoor
open Go.RowKit Big
open Go.Lib (hid)
set_option maxRecDepth 100000
set_option maxHeartbeats 8000000
abbrev W64:Nat:=18446744073709551616
theorem yo9 (x y c:Int)(hx:0<=x)(hy:0<=y)(hc0:0<=c)(hc:c<=1)(w:World):(callFunc 225 #[.int .u64 x,.int .u64 y,.int .u64 c]).run Tryz.prog w=
  .ok (.value (.tuple #[.int .u64 ((x+y+c) % 18446744073709551616),.int .u64 ((x+y+c) / 18446744073709551616)])) w:=by
 rw[run_callFunc_extern Tryz.func225 (by kernel_rfl) (by kernel_rfl) (by kernel_rfl) (e:=add64Entry) (by kernel_rfl),run_add64 x y c hx hy hc0 hc];rfl
def sub64Entry:Array Value->Sem Value:=fun args=>do
 let (x, y, b) <- Extern.MathBitsCarry.three "Sub64" args
 pure (Extern.MathBitsCarry.pair ((x+Extern.MathBitsCarry.m64 - y - b) % Extern.MathBitsCarry.m64) (if x < y+b then 1 else 0))
theorem run_sub64 {P:Program}(x y b:Nat)(hb:b<=1)(w:World):
  (sub64Entry #[.int .u64 x,.int .u64 y,.int .u64 b]).run P w=
   .ok (.tuple #[.int .u64 (((x+18446744073709551616 - y - b) % 18446744073709551616:Nat):Int),.int .u64 ((if x < y+b then 1 else 0:Nat):Int)]) w:=by
 have:b=0\/b=1:=by omega
 rcases this with rfl | rfl <;> rfl
def bor (x y b:Int):Int:=if x < y+b then 1 else 0
theorem ym2 (x y b:Int)(hx:0<=x)(hy:0<=y)(hy':y < 18446744073709551616)(hb0:0<=b)(hb:b<=1)(w:World):(callFunc 227 #[.int .u64 x,.int .u64 y,.int .u64 b]).run Tryz.prog w=
  .ok (.value (.tuple #[.int .u64 ((x - y - b) % 18446744073709551616),.int .u64 (bor x y b)])) w:=by
 obtain ⟨x,rfl⟩:=Int.eq_ofNat_of_zero_le hx;obtain ⟨y,rfl⟩:=Int.eq_ofNat_of_zero_le hy;obtain ⟨b,rfl⟩:=Int.eq_ofNat_of_zero_le hb0
 have e1:(((x+18446744073709551616 - y - b) % 18446744073709551616:Nat):Int)=((x:Int) - y - b) % 18446744073709551616:=by omega
 have e2:((if x < y+b then 1 else 0:Nat):Int)=bor x y b:=by unfold bor;split <;> split <;> omega
 rw[<-e1,<-e2,run_callFunc_extern Tryz.func227 (by kernel_rfl) (by kernel_rfl) (by kernel_rfl) (e:=sub64Entry) (by kernel_rfl),run_sub64 x y b (by omega)];rfl
def Sl (v:Value)(a:Option Addr)(n cap:Nat):Prop:=v=.slice a n cap/\n<=cap/\cap<=281474976710656/\(a=none->cap=0)
def Wds (w:World)(v:Value)(n:Nat)(f:Nat->Nat):Prop:=∃ a cap,Sl v a n cap/\Rd w a .u64 n f/\Canon W64 f n
theorem Wds.new {w w':World}{v:Value}{n:Nat}{f:Nat->Nat}(h:Wds w v n f)(hn:New w w'):Wds w' v n f:=by
 obtain ⟨a,cap,h1,h2,h3⟩:=h;exact ⟨a,cap,h1,h2.new hn,h3⟩
def ymp (w:World)(a:Option Addr)(cap len:Nat)(f:Nat->Nat)(e:Ending)(w':World):Prop:=
 w=w'/\∃ n,e=.returned (.slice a n cap)/\n<=len/\(∀ i,n<=i->i < len->f i=0)/\(n=0\/f (n - 1)≠0)
theorem ygs (a:Option Addr)(len cap:Nat)(f:Nat->Nat)(w:World)(hl:len<=cap)(hcap:cap<=281474976710656)(ha:a=none->cap=0)(hr:Rd w a .u64 len f):
  Calls Tryz.prog 226 #[.slice a len cap] w (ymp w a cap len f):=by
 have h0:(0:Int)<=(len:Int):=by omega
 go_enter Tryz.func226,Tryz.ntmps226;go_wp2
 go_loop [3] (fun n=>∃ k:Nat,k<=len/\n=.int .i64 k/\∀ i,k<=i->i < len->f i=0) (fun n=>(intOf n).toNat)
 case atStart=>exact ⟨len,Nat.le_refl _,rfl,fun i h1 h2=>by omega⟩
 case round=>
  obtain ⟨k,hk,rfl,hz⟩:=hrel;have HZ:=hid hz;clear hz;by_cases hk0:0 < k
  ·obtain ⟨b,off,rfl,hcell⟩:=hr (k - 1) (by omega);clear hr ha;go_wp2
   ·have hz:((f (k - 1):Int)==0)=true:=by assumption
    have hz':f (k - 1)=0:=by simp at hz;omega
    go_round
    case rel=>exact ⟨k - 1,by omega,by go_num,fun i h1 h2=>by
     by_cases e:i=k - 1
     ·rw[e];exact hz'
     ·exact HZ.out i (by omega) h2⟩
    case measure=>simp[intOf];omega
   ·have hz:((f (k - 1):Int)==0)=false:=by assumption
    have hz':f (k - 1)≠0:=by intro e;rw[e] at hz;simp at hz
    go_ret;exact ⟨rfl,k,rfl,hk,HZ.out,.inr hz'⟩
  ·obtain rfl:k=0:=by omega
   cases a with
   | none=>
    obtain rfl:=ha rfl;clear hr;go_wp2;go_ret;exact ⟨rfl,0,rfl,hk,HZ.out,.inl rfl⟩
   | some p=>
    clear hr ha;go_wp2;go_ret;exact ⟨rfl,0,rfl,hk,HZ.out,.inl rfl⟩
theorem y7u (a:Option Addr)(len cap:Nat)(f:Nat->Nat)(w:World)(hl:len<=cap)(hcap:cap<=281474976710656)(ha:a=none->cap=0)(hr:Rd w a .u64 len f)(hlt:∀ i,i < len->f i < W64):
  Calls Tryz.prog 226 #[.slice a len cap] w fun e w'=>w=w'/\∃ v n,e=.returned v/\Wds w v n f/\vf W64 f n=vf W64 f len:=
 (ygs a len cap f w hl hcap ha hr).mono fun e w' ⟨h1,n,h2,h3,h4,h5⟩=>by
  obtain ⟨c1,c2⟩:=ybe hlt h3 h4 h5;exact ⟨h1,_,n,h2,⟨a,cap,⟨rfl,by omega,hcap,ha⟩,hr.le h3,c1⟩,c2⟩
def yo1 (w:World)(m n:Nat)(f g:Nat->Nat)(e:Ending)(w':World):Prop:=New w w'/\∃ r:Int,e=.returned (.int .i64 r)/\
 ((r= -1/\(m < n\/(m=n/\∃ i,i < n/\f i < g i/\∀ j,i < j->j < n->f j=g j)))\/(r=1/\(n < m\/(m=n/\∃ i,i < n/\g i < f i/\∀ j,i < j->j < n->f j=g j)))\/(r=0/\m=n/\∀ j,j < n->f j=g j))
theorem y8i (a b:Option Addr)(m n ca cb:Nat)(f g:Nat->Nat)(w:World)(hm:m<=281474976710656)(hn:n<=281474976710656)(ha:Rd w a .u64 m f)(hb:Rd w b .u64 n g):
  Calls Tryz.prog 184 #[.slice a m ca,.slice b n cb] w (yo1 w m n f g):=by
 go_enter Tryz.func184,Tryz.ntmps184;by_cases hmn:m=n
 ·subst hmn;go_wp2;go_loopw [5] (fun i wr=>∃ k:Nat,k<=m/\i=.int .i64 ((k:Int) - 1)/\(∀ j,k<=j->j < m->f j=g j)/\New w wr) (fun n _=>(intOf n+1).toNat)
  case atStart=>exact ⟨m,Nat.le_refl _,rfl,fun i h1 h2=>by omega,New.refl _⟩
  case round=>
   obtain ⟨k,hk,rfl,hz,hbl⟩:=hrel;have HZ:=hid hz;clear hz;by_cases hk0:k=0
   ·subst hk0;go_wp2;go_ret;exact ⟨hbl,_,rfl,.inr (.inr ⟨rfl,rfl,fun j hj=>HZ.out j (by omega) hj⟩)⟩
   ·obtain ⟨b1,o1,rfl,h1⟩:=(ha.new hbl) (k - 1) (by omega);obtain ⟨b2,o2,rfl,h2⟩:=(hb.new hbl) (k - 1) (by omega);clear ha hb;go_wp2
    go_quiet (fail)
    go_wp2
    ·have hne:((f (k - 1):Int) != (g (k - 1):Int))=true:=by assumption
     have hne':f (k - 1)≠g (k - 1):=by intro e;rw[e] at hne;simp at hne
     go_quiet (fail)
     go_wp2
     all_goals go_ret
     ·have hlt:f (k - 1) < g (k - 1):=by assumption
      exact ⟨(hbl.drewN _).drewN _,_,rfl,.inl ⟨rfl,.inr ⟨rfl,k - 1,by omega,hlt,fun j h1 h2=>HZ.out j (by omega) h2⟩⟩⟩
     ·have hlt:¬f (k - 1) < g (k - 1):=by assumption
      exact ⟨(hbl.drewN _).drewN _,_,rfl,.inr (.inl ⟨rfl,.inr ⟨rfl,k - 1,by omega,by omega,fun j h1 h2=>HZ.out j (by omega) h2⟩⟩)⟩
    ·have hne:((f (k - 1):Int) != (g (k - 1):Int))=false:=by assumption
     have hne':f (k - 1)=g (k - 1):=by simp at hne;omega
     go_roundw
     case rel=>exact ⟨k - 1,by omega,by go_num,fun j h1 h2=>by
      by_cases e:j=k - 1
      ·rw[e];exact hne'
      ·exact HZ.out j (by omega) h2,hbl.drewN _⟩
     case measure=>simp[intOf];omega
 ·have hne:(m==n)=false:=by simpa using hmn
  go_wp2
  all_goals (go_ret;rename_i h1 h2)
  ·exact ⟨New.refl _,_,rfl,.inl ⟨rfl,.inl (by assumption)⟩⟩
  ·exact ⟨New.refl _,_,rfl,.inr (.inl ⟨rfl,.inl (by omega)⟩)⟩
theorem y0n (va vb:Value)(m n:Nat)(f g:Nat->Nat)(w:World)(ha:Wds w va m f)(hb:Wds w vb n g):
  Calls Tryz.prog 184 #[va,vb] w fun e w'=>New w w'/\e=.returned (.int .i64 (y1a (vf W64 f m) (vf W64 g n))):=by
 obtain ⟨a,ca,⟨rfl,a1,a2,a3⟩,ra,cf⟩:=ha;obtain ⟨b,cb,⟨rfl,b1,b2,b3⟩,rb,cg⟩:=hb;refine (y8i a b m n ca cb f g w (by omega) (by omega) ra rb).mono fun e w' ⟨h1,r,h2,h3⟩=>⟨h1,?_⟩;rw[h2];congr 2;unfold y1a;rcases h3 with ⟨rfl,h | ⟨rfl,i,hi,hlt,heq⟩⟩ | ⟨rfl,h | ⟨rfl,i,hi,hlt,heq⟩⟩ | ⟨rfl,rfl,heq⟩
 ·rw[if_pos (cf.lt_of_len cg (by decide) h)]
 ·rw[if_pos (y3r cf.lt cg.lt hi heq hlt)]
 ·have:=cg.lt_of_len cf (by decide) h;rw[if_neg (by omega),if_pos this]
 ·have:=y3r cg.lt cf.lt hi (fun j h1 h2=>(heq j h1 h2).symm) hlt;rw[if_neg (by omega),if_pos this]
 ·have:vf W64 f m=vf W64 g m:=y0s heq;rw[if_neg (by omega),if_neg (by omega)]
theorem y5c:(Tryz.prog.info? 198).map (fun i=>(i.zero,i.size,i.bytes))=some (some (.int .u64 0),1,8):=by kernel_rfl
theorem yen {B:Nat}{g:Nat->Nat}{n m:Nat}(h:n<=m):vf B (padded g n) m=vf B g n:=by
 rw[ydf h (fun i h1 _=>by simp[padded];omega)]
 exact y0s fun i hi=>by simp[padded,hi]
theorem y5b {w:World}{b:Nat}{t:TypeId}{n i:Nat}{o:Nat->Nat}(h:Row w b t .u64 n o){z:Int}{d:Nat}(e:z=d):Row (w.setCell ⟨b,i,none⟩ (.int .u64 z)) b t .u64 n (upd o i d):=by
 subst e;exact h.set i d
theorem ydm {B k cc s:Nat}{o x y:Nat->Nat}(hval:vf B o k+cc*B^k=vf B x k+vf B y k)(hs:s=x k+y k+cc):
  vf B (upd o k (s % B)) (k+1)+s / B*B^(k+1)=vf B x (k+1)+vf B y (k+1):=by
 refine y8m (o:=upd o k (s % B)) (x:=x) (y:=y) (c:=cc) ?_ ?_
 ·rw[y0o (Nat.le_refl _)];exact hval
 ·rw[upd_same,<-hs];exact Nat.mod_add_div s B
theorem y86 (sw:Bool)(a b:Option Addr)(m n ca cb:Nat)(f g:Nat->Nat)(w:World)(hm:m<=1000000)(hnm:n<=m)(hsw:sw=true->n < m)(ha:Rd w a .u64 m f)(hb:Rd w b .u64 n g)(hfl:∀ i,i < m->f i < W64)(hgl:∀ i,i < n->g i < W64):
  Calls Tryz.prog 183 (if sw then #[.slice b n cb,.slice a m ca] else #[.slice a m ca,.slice b n cb]) w fun e w'=>∃ v k h,New w w'/\e=.returned v/\Wds w' v k h/\vf W64 h k=vf W64 f m+vf W64 g n:=by
 have hmk:=fun W=>run_make_row' (P:=Tryz.prog) 111 198 (.int .u64 0) 8 Tryz.underlying111 y5c rfl .i64 .i64 (m+1) (by omega) (by omega) W;rw[show ((m+1:Nat):Int)=(m:Int)+1 by omega] at hmk
 cases sw
 case' true=>have hlt:=hsw rfl
 all_goals
  clear hsw;simp only[if_true,Bool.false_eq_true,if_false];go_enter Tryz.func183,Tryz.ntmps183;go_wp2;clear hmk;obtain ⟨B,hB⟩:∃ B,B=w.heap.size:=⟨_,rfl⟩;have hrow0:=Row.made w .u64 (m+1) 198;have hnew0:New w (w.alloc (.cells (madeCells #[.int .u64 0] (m+1)) 198)):=(New.refl w).alloc _;rw[<-hB] at hrow0⊢;generalize w.alloc (.cells (madeCells #[.int .u64 0] (m+1)) 198)=w0 at hrow0 hnew0⊢;have HB:=hid hB;clear hB;go_loopw [6,22] (fun c i wr=>∃ (k cc:Nat) (o:Nat->Nat),k<=m/\i=.int .i64 k/\c=.int .u64 cc/\cc<=1/\Row wr B 198 .u64 (m+1) o/\(∀ j,o j < W64)/\vf W64 o k+cc*W64^k=vf W64 f k+vf W64 (padded g n) k/\New w wr) (fun _ i _=>m - (intOf i).toNat)
  case atStart=>exact ⟨0,0,fun _=>0,Nat.zero_le _,rfl,rfl,by omega,hrow0,fun _=>by simp[W64],rfl,hnew0⟩
  case round=>
   obtain ⟨k,cc,o,hk,rfl,rfl,hcc,hrow,hol,hval,hnew⟩:=hrel;have HV:=hid hval;clear hval hrow0 hnew0;by_cases hkm:k < m
   ·obtain ⟨b1,o1,rfl,h1⟩:=(ha.new hnew) k hkm;have hb':=hb.new hnew;have hf0:=hfl k hkm;clear ha hb;have hcell:=hrow.cell (i:=k) (by omega);have hfr:=hrow.frozen k;have HO:=hid hol;by_cases hkn:k < n
    ·obtain ⟨b2,o2,rfl,h2⟩:=hb' k hkn;have hg0:=hgl k hkn;clear hb' hgl hfl hol;have hadd:=yo9 (f k) (g k) cc (by omega) (by omega) (by omega) (by omega);go_wp2;clear hadd h1 h2 hcell hfr;go_roundw
     case rel=>
      have hs:f k+padded g n k+cc=f k+g k+cc:=by rw[y4j hkn]
      exact ⟨k+1,(f k+g k+cc) / W64,upd o k ((f k+g k+cc) % W64),by omega,by go_num,by go_num,by unfold W64 at *;omega,y5b hrow (by unfold W64;omega),y2a HO.out (Nat.mod_lt _ (by decide)),by rw[<-hs];exact ydm HV.out rfl,hnew.setCell (Nat.le_of_eq HB.out.symm) _⟩
     case measure=>simp[intOf];omega
    ·clear hb' hgl hfl hol;have hadd:=yo9 (f k) 0 cc (by omega) (by omega) (by omega) (by omega);simp only[Int.add_zero] at hadd;go_wp2;clear hadd h1 hcell hfr;go_roundw
     case rel=>
      have hs:f k+padded g n k+cc=f k+cc:=by rw[y3o hkn];rfl
      exact ⟨k+1,(f k+cc) / W64,upd o k ((f k+cc) % W64),by omega,by go_num,by go_num,by unfold W64 at *;omega,y5b hrow (by unfold W64;omega),y2a HO.out (Nat.mod_lt _ (by decide)),by rw[<-hs];exact ydm HV.out rfl,hnew.setCell (Nat.le_of_eq HB.out.symm) _⟩
     case measure=>simp[intOf];omega
   ·obtain rfl:k=m:=by omega
    have hcell:=hrow.cell (i:=k) (by omega);have hfr:=hrow.frozen k;clear ha hb;go_wp2_with fail;have hrow':=hrow.set k cc;have hlt:=y2a (k:=k) hol (show cc < W64 by unfold W64;omega);refine (y7u _ _ _ _ _ (Nat.le_refl _) (by omega) (by simp) hrow'.rd (fun i _=>hlt i)).mono ?_;rintro e w' ⟨rfl,v,n',rfl,hw,hv⟩;clear hcell hfr;have hnew':=hnew.setCell (p:=⟨B,k,none⟩) (Nat.le_of_eq HB.out.symm) (.int .u64 cc);generalize wr.setCell ⟨B,k,none⟩ (.int .u64 cc)=w2 at *;have HV2:=hid hv;clear hv;go_wp2_with fail;go_ret;refine ⟨v,n',_,hnew',rfl,hw,?_⟩;have:=HV.out;rw[HV2.out,y03,upd_same,y0o (Nat.le_refl _),this,yen hnm]
theorem y4r (va vb:Value)(m n:Nat)(f g:Nat->Nat)(w:World)(hm:m<=1000000)(hn:n<=1000000)(ha:Wds w va m f)(hb:Wds w vb n g):
  Calls Tryz.prog 183 #[va,vb] w fun e w'=>∃ v k h,New w w'/\e=.returned v/\Wds w' v k h/\vf W64 h k=vf W64 f m+vf W64 g n:=by
 obtain ⟨a,ca,⟨rfl,a1,a2,a3⟩,ra,cf⟩:=ha;obtain ⟨b,cb,⟨rfl,b1,b2,b3⟩,rb,cg⟩:=hb;by_cases hnm:n<=m
 ·exact y86 false a b m n ca cb f g w hm hnm (by simp) ra rb cf.lt cg.lt
 ·refine (y86 true b a n m cb ca g f w hn (by omega) (fun _=>by omega) rb ra cg.lt cf.lt).mono fun e w' ⟨v,k,h,h1,h2,h3,h4⟩=>⟨v,k,h,h1,h2,h3,by omega⟩
theorem yd9 {B k bb d bb':Nat}{o x y:Nat->Nat}(hval:vf B o k+vf B y k=vf B x k+bb*B^k)(hs:d+y k+bb=x k+B*bb'):
  vf B (upd o k d) (k+1)+vf B y (k+1)=vf B x (k+1)+bb'*B^(k+1):=by
 refine ymh (o:=upd o k d) (x:=x) (y:=y) (c:=bb) ?_ ?_
 ·rw[y0o (Nat.le_refl _)];exact hval
 ·rw[upd_same];exact hs
theorem y77 {x y b:Nat}(hx:x < W64)(hy:y < W64)(hb:b<=1):∃ d b':Nat,d < W64/\b'<=1/\((x:Int) - y - b) % 18446744073709551616=d/\bor x y b=b'/\d+y+b=x+W64*b':=by
 unfold W64 at *;by_cases h:x < y+b
 ·refine ⟨x+18446744073709551616 - y - b,1,by omega,by omega,by omega,?_,by omega⟩;unfold bor;rw[if_pos (by omega)];rfl
 ·refine ⟨x - y - b,0,by omega,by omega,by omega,?_,by omega⟩;unfold bor;rw[if_neg (by omega)];rfl
theorem yeg (a b:Option Addr)(m n ca cb:Nat)(f g:Nat->Nat)(w:World)(hm:m<=1000000)(hnm:n<=m)(ha:Rd w a .u64 m f)(hb:Rd w b .u64 n g)(hfl:∀ i,i < m->f i < W64)(hgl:∀ i,i < n->g i < W64)(hle:vf W64 g n<=vf W64 f m):
  Calls Tryz.prog 185 #[.slice a m ca,.slice b n cb] w fun e w'=>∃ v k h,New w w'/\e=.returned v/\Wds w' v k h/\vf W64 h k=vf W64 f m - vf W64 g n:=by
 have hmk:=fun W=>run_make_row' (P:=Tryz.prog) 111 198 (.int .u64 0) 8 Tryz.underlying111 y5c rfl .i64 .i64 m (by omega) (by omega) W;have HLE:=hid hle;clear hle;go_enter Tryz.func185,Tryz.ntmps185;go_wp2;clear hmk;obtain ⟨B,hB⟩:∃ B,B=w.heap.size:=⟨_,rfl⟩;have hrow0:=Row.made w .u64 m 198;have hnew0:New w (w.alloc (.cells (madeCells #[.int .u64 0] m) 198)):=(New.refl w).alloc _;rw[<-hB] at hrow0⊢;generalize w.alloc (.cells (madeCells #[.int .u64 0] m) 198)=w0 at hrow0 hnew0⊢;have HB:=hid hB;clear hB;go_loopw [6,14] (fun c i wr=>∃ (k cc:Nat) (o:Nat->Nat),k<=m/\i=.int .i64 k/\c=.int .u64 cc/\cc<=1/\Row wr B 198 .u64 m o/\(∀ j,o j < W64)/\vf W64 o k+vf W64 (padded g n) k=vf W64 f k+cc*W64^k/\New w wr) (fun _ i _=>m - (intOf i).toNat)
 case atStart=>exact ⟨0,0,fun _=>0,Nat.zero_le _,rfl,rfl,by omega,hrow0,fun _=>by simp[W64],rfl,hnew0⟩
 case round=>
  obtain ⟨k,cc,o,hk,rfl,rfl,hcc,hrow,hol,hval,hnew⟩:=hrel;have HV:=hid hval;clear hval hrow0 hnew0;by_cases hkm:k < m
  ·obtain ⟨b1,o1,rfl,h1⟩:=(ha.new hnew) k hkm;have hb':=hb.new hnew;have hf0:=hfl k hkm;clear ha hb;have hcell:=hrow.cell (i:=k) (by omega);have hfr:=hrow.frozen k;have HO:=hid hol;by_cases hkn:k < n
   ·obtain ⟨b2,o2,rfl,h2⟩:=hb' k hkn;have hg0:=hgl k hkn;clear hb' hgl hfl hol;obtain ⟨d,b',hd,hb',e1,e2,e3⟩:=y77 hf0 hg0 hcc;have hsub:=ym2 (f k) (g k) cc (by omega) (by omega) (by unfold W64 at hg0;omega) (by omega) (by omega);simp only[e1,e2] at hsub;clear e1 e2;have E3:=hid e3;clear e3;go_wp2;clear hsub h1 h2 hcell hfr;go_roundw
    case rel=>
     exact ⟨k+1,b',upd o k d,by omega,by go_num,rfl,hb',hrow.set k d,y2a HO.out hd,yd9 HV.out (by rw[y4j hkn];exact E3.out),hnew.setCell (Nat.le_of_eq HB.out.symm) _⟩
    case measure=>simp[intOf];omega
   ·clear hb' hgl hfl hol;obtain ⟨d,b',hd,hb',e1,e2,e3⟩:=y77 (y:=0) hf0 (by decide) hcc;have hsub:=ym2 (f k) 0 cc (by omega) (by omega) (by omega) (by omega) (by omega);simp only[Int.natCast_zero,Int.sub_zero] at e1 e2 hsub;simp only[e1,e2] at hsub;clear e1 e2;have E3:=hid e3;clear e3;go_wp2;clear hsub h1 hcell hfr;go_roundw
    case rel=>
     exact ⟨k+1,b',upd o k d,by omega,by go_num,rfl,hb',hrow.set k d,y2a HO.out hd,yd9 HV.out (by rw[y3o hkn];exact E3.out),hnew.setCell (Nat.le_of_eq HB.out.symm) _⟩
    case measure=>simp[intOf];omega
  ·obtain rfl:k=m:=by omega
   clear ha hb;go_wp2_with fail;refine (y7u _ _ _ _ _ (Nat.le_refl _) (by omega) (by simp) hrow.rd (fun i _=>hol i)).mono ?_;rintro e w' ⟨rfl,v,n',rfl,hw,hv⟩;have HV2:=hid hv;clear hv;go_wp2_with fail;go_ret;refine ⟨v,n',_,hnew,rfl,hw,?_⟩;have h1:=HV.out;have h2:=HLE.out;have h3:vf W64 o k < W64^k:=y4t fun i _=>hol i;rw[yen hnm] at h1;rw[HV2.out]
   have h4:cc=0:=by
    rcases Nat.eq_zero_or_pos cc with h | h
    ·exact h
    ·obtain rfl:cc=1:=by omega
     rw[Nat.one_mul]at h1;omega
   subst h4;omega
theorem y2d (va vb:Value)(m n:Nat)(f g:Nat->Nat)(w:World)(hm:m<=1000000)(ha:Wds w va m f)(hb:Wds w vb n g)(hle:vf W64 g n<=vf W64 f m):
  Calls Tryz.prog 185 #[va,vb] w fun e w'=>∃ v k h,New w w'/\e=.returned v/\Wds w' v k h/\vf W64 h k=vf W64 f m - vf W64 g n:=by
 obtain ⟨a,ca,⟨rfl,a1,a2,a3⟩,ra,cf⟩:=ha;obtain ⟨b,cb,⟨rfl,b1,b2,b3⟩,rb,cg⟩:=hb
 have hnm:n<=m:=by
  rcases Nat.lt_or_ge m n with h | h
  ·have:=cf.lt_of_len cg (by decide) h;omega
  ·exact h
 exact yeg a b m n ca cb f g w hm hnm ra rb cf.lt cg.lt hle
end Go.Proofs.YtnjonlnemagomaaGreatDoor
