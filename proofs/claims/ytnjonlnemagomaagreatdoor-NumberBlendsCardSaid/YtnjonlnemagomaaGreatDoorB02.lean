/- Part B02. -/
import Derived.Shelf.Strings.Builder1
import Derived.Shelf.Strings.Builder2
import Derived.Shelf.Strings.Trim
import Derived.Shelf.Small.Utf8
import Derived.Shelf.Small.Bits
import Derived.Shelf.Small.Strs
import Derived.Shelf.Small.Wraps
import Derived.Shelf.Strings.BuilderF
import Derived.Shelf.Strings.BuilderK
import Derived.Shelf.Strconv.Atoi
import Derived.Shelf.Strconv.Itoa0
import Derived.Shelf.Strconv.Itoa1
import Derived.Shelf.LaysM
import Derived.Shelf.Strconv.Itoa2
import Derived.Shelf.Strconv.Itoa3
import Derived.Shelf.Strconv.AtoiErrFast
import Derived.Shelf.Strconv.ParseIntEmpty
import Derived.Shelf.Strconv.AtoiFail
import Derived.Shelf.Strconv.Clone
import Derived.Shelf.Strconv.SyntaxError
import Derived.Shelf.LaysC
import Derived.Shelf.Strconv.ToError
import Derived.Shelf.Strconv.Lower
import Derived.Shelf.Strconv.ParseUint10
import Derived.Shelf.Strconv.ParseUint10Empty
import Derived.Shelf.Strconv.ParseUint10Any
import Derived.Shelf.Strconv.ParseInt10
import Derived.Shelf.Strconv.AtoiLong
import Derived.Shelf.Strconv.AtoiInnerAll
import Derived.Shelf.Strconv.RangeError
import Derived.Shelf.Strconv.ToErrorRange
import Derived.Shelf.Strconv.AtoiAll
import Derived.Shelf.Strings.Search1
import Derived.Shelf.Strings.Search2
import Derived.Shelf.Strings.Cut
import Derived.Shelf.Strings.Shaped
import Derived.Shelf.Strings.Prefix
import Derived.Shelf.Strings.Runes
import Derived.Shelf.Strings.AsciiSet
import Derived.Shelf.Bits.Mul64
import Derived.Shelf.Strings.Repeat
import Derived.Shelf.Unicode.DecodeSlow
import Derived.Shelf.Slices.Turned
import Derived.Test.YtnjonlnemagomaaGreatDoorProg
import Derived.Test.YtnjonlnemagomaaGreatDoorB01
namespace Go.Proofs
set_option maxRecDepth 100000
set_option maxHeartbeats 8000000
set_option linter.all false
open Go.Shelf Tryz
theorem zD{α:Type}{o:Option α}{x y:α}(h:o=some x)(e:x=y:=by kernel_rfl):o=some y:=h.trans (congrArg some e)
def Tryz.lays169_ren:Go.Shelf.Ren:=⟨fun | 169=>232 | n=>n,fun | 70=>234 | 9=>9 | 0=>0 | 72=>237 | 37=>235 | 127=>261 | 3=>3 | 5=>5 | n=>n,fun | n=>n⟩
theorem Tryz.lays169:Go.Proofs.Lays.n169 prog Tryz.lays169_ren:={
 mixed:=by kernel_rfl
 f169:=zD func232
 t0:=underlying0
 a0:=isAgg0
 z0:=sizeOf0
 v0:=zeroValue0
 t3:=underlying3
 a3:=isAgg3
 z3:=sizeOf3
 v3:=zeroValue3
 t9:=underlying9
 a9:=isAgg9
 z9:=sizeOf9
 v9:=zeroValue9
 t37:=underlying235
 a37:=isAgg235
 z37:=sizeOf235
 v37:=zeroValue235
 t70:=underlying234
 a70:=isAgg234
 z70:=sizeOf234
 v70:=zeroValue234
 t72:=underlying237
 a72:=isAgg237
 z72:=sizeOf237
 v72:=zeroValue237
 t127:=underlying261
 a127:=isAgg261
 z127:=sizeOf261
 v127:=zeroValue261}
theorem Tryz.Builder_Extra_169:Builder.Extra prog Tryz.lays169_ren:={
 sizeBuilder:=by kernel_rfl
 liesBuilder:=by kernel_rfl
 t5:=underlying5
 a5:=isAgg5
 z5:=sizeOf5
 v5:=zeroValue5
 infoByte:=by kernel_rfl
 cellsByte:=by kernel_rfl
 sizeByte:=by kernel_rfl
 neB5:=by decide}
def Tryz.lays160_ren:Go.Shelf.Ren:=⟨fun | 160=>207 | 232=>244 | 231=>243 | 227=>245 | 234=>247 | 233=>246 | 236=>249 | 235=>248 | 228=>270 | 271=>273 | 151=>272 | 197=>271 | 120=>292 | 152=>291 | 260=>290 | 137=>301 | 119=>302 | 224=>268 | 225=>267 | 217=>266 | 266=>288 | n=>n,fun | 9=>9 | 4=>4 | 3=>3 | 5=>5 | 117=>251 | 116=>250 | 0=>0 | 124=>254 | 21=>21 | 105=>266 | 46=>227 | 119=>299 | 139=>302 | 138=>301 | n=>n,fun | 3=>7 | 4=>8 | n=>n⟩
theorem Tryz.lays160:Go.Proofs.Lays.n160 prog Tryz.lays160_ren:={
 mixed:=by kernel_rfl
 f119:=zD func302
 f120:=zD func292
 f137:=zD func301
 f151:=zD func272
 f152:=zD func291
 f160:=zD func207
 f197:=zD func271
 f217:=zD func266
 f224:=zD func268
 f225:=zD func267
 f227:=zD func245
 f228:=zD func270
 f231:=zD func243
 f232:=zD func244
 f233:=zD func246
 f234:=zD func247
 f235:=zD func248
 f236:=zD func249
 f260:=zD func290
 f266:=zD func288
 f271:=zD func273
 t0:=underlying0
 a0:=isAgg0
 z0:=sizeOf0
 v0:=zeroValue0
 t3:=underlying3
 a3:=isAgg3
 z3:=sizeOf3
 v3:=zeroValue3
 t4:=underlying4
 a4:=isAgg4
 z4:=sizeOf4
 v4:=zeroValue4
 t5:=underlying5
 a5:=isAgg5
 z5:=sizeOf5
 v5:=zeroValue5
 t9:=underlying9
 a9:=isAgg9
 z9:=sizeOf9
 v9:=zeroValue9
 t21:=underlying21
 a21:=isAgg21
 z21:=sizeOf21
 v21:=zeroValue21
 t46:=underlying227
 a46:=isAgg227
 z46:=sizeOf227
 v46:=zeroValue227
 t105:=underlying266
 a105:=isAgg266
 z105:=sizeOf266
 v105:=zeroValue266
 t116:=underlying250
 a116:=isAgg250
 z116:=sizeOf250
 t117:=underlying251
 a117:=isAgg251
 z117:=sizeOf251
 v117:=zeroValue251
 t119:=underlying299
 a119:=isAgg299
 z119:=sizeOf299
 t124:=underlying254
 a124:=isAgg254
 z124:=sizeOf254
 v124:=zeroValue254
 t138:=underlying301
 a138:=isAgg301
 z138:=sizeOf301
 v138:=zeroValue301
 t139:=underlying302
 a139:=isAgg302
 z139:=sizeOf302
 v139:=zeroValue302
 g3:=by kernel_rfl
 g4:=by kernel_rfl}
def Tryz.lays134_ren:Go.Shelf.Ren:=⟨fun | 134=>256 | 129=>191 | n=>n,fun | 53=>198 | 3=>3 | 4=>4 | 46=>227 | 5=>5 | 9=>9 | n=>n,fun | n=>n⟩
theorem Tryz.lays134:Go.Proofs.Lays.n134 prog Tryz.lays134_ren:={
 mixed:=by kernel_rfl
 f129:=zD func191
 f134:=zD func256
 t3:=underlying3
 a3:=isAgg3
 z3:=sizeOf3
 v3:=zeroValue3
 t4:=underlying4
 a4:=isAgg4
 z4:=sizeOf4
 v4:=zeroValue4
 t5:=underlying5
 a5:=isAgg5
 z5:=sizeOf5
 v5:=zeroValue5
 t9:=underlying9
 a9:=isAgg9
 z9:=sizeOf9
 v9:=zeroValue9
 t46:=underlying227
 a46:=isAgg227
 z46:=sizeOf227
 v46:=zeroValue227
 t53:=underlying198
 a53:=isAgg198
 z53:=sizeOf198
 v53:=zeroValue198}
theorem Tryz.bits_LeadingZeros64 (x:Int)(w:World)(h0:0≤x)(h1:x≤18446744073709551615):
  Calls prog 256 #[.int .u64 x] w fun e w'=>e=.returned (.int .i64 (64 - (Lib.bitLen x.toNat:Int)))∧w'=w:=Any.bits_LeadingZeros64 Tryz.lays134 x w h0 h1
def Tryz.lays103_ren:Go.Shelf.Ren:=⟨fun | 103=>155 | 210=>205 | 206=>241 | n=>n,fun | 9=>9 | 4=>4 | 24=>169 | 3=>3 | n=>n,fun | n=>n⟩
theorem Tryz.lays103:Go.Proofs.Lays.n103 prog Tryz.lays103_ren:={
 mixed:=by kernel_rfl
 f103:=zD func155
 f206:=zD func241
 f210:=zD func205
 t3:=underlying3
 a3:=isAgg3
 z3:=sizeOf3
 v3:=zeroValue3
 t4:=underlying4
 a4:=isAgg4
 z4:=sizeOf4
 v4:=zeroValue4
 t9:=underlying9
 a9:=isAgg9
 z9:=sizeOf9
 v9:=zeroValue9
 t24:=underlying169
 a24:=isAgg169
 z24:=sizeOf169
 v24:=zeroValue169}
open Go.RowKit in
theorem Tryz.strings_CutPrefix (s p:ByteArray)(w:World):
  Calls prog 155 #[.string s,.string p] w fun e w'=>e=.returned (.tuple #[.string ⟨(Lib.trimPrefix s.data.toList p.data.toList).toArray⟩,.bool (Lib.hasPrefix s.data.toList p.data.toList)])∧w'=w:=Any.strings_CutPrefix Tryz.lays103 s p w
open Go.RowKit in
theorem Tryz.Builder_String_any_k (B b:Nat)(l:List UInt8)(w:World)(h:Lib.IsBuilderF 237 5 B b (Lib.byteCells l) w)(hBw:B≤w.heap.size):
  Calls prog 232 #[.pointer (some ⟨b,0,none⟩)] w fun e w'=>e=.returned (.string ⟨l.toArray⟩)∧(Lib.IsBuilderF 237 5 B b (Lib.byteCells l) w'∧Below B w w'∧Lib.OthersKept 5 (some b) w w'):=Any.Builder_String_any_k Tryz.lays169 Tryz.Builder_Extra_169 B b l w h hBw
def Tryz.lays172_ren:Go.Shelf.Ren:=⟨fun | 172=>210 | 244=>251 | 245=>252 | 247=>274 | 279=>275 | 280=>276 | 281=>277 | 282=>278 | 287=>293 | 316=>294 | 171=>228 | 205=>295 | 321=>303 | 322=>304 | 243=>259 | 246=>280 | 283=>281 | 284=>282 | 285=>283 | 286=>284 | 129=>191 | 317=>296 | 318=>297 | 319=>298 | 320=>299 | 337=>305 | 338=>306 | n=>n,fun | 9=>9 | 3=>3 | 75=>208 | 76=>209 | 4=>4 | 5=>5 | 167=>269 | 37=>235 | 0=>0 | 85=>270 | 2=>2 | 168=>272 | 53=>198 | 175=>287 | 46=>227 | 210=>291 | 127=>261 | 145=>306 | 143=>304 | 21=>21 | 171=>276 | 173=>278 | 212=>294 | 51=>280 | 20=>20 | 213=>295 | 232=>308 | 233=>309 | 80=>196 | n=>n,fun | 15=>4 | 16=>5 | 17=>6 | 18=>9 | 19=>10 | n=>n⟩
theorem Tryz.lays172:Go.Proofs.Lays.n172 prog Tryz.lays172_ren:={
 mixed:=by kernel_rfl
 f129:=zD func191
 f171:=zD func228
 f172:=zD func210
 f205:=zD func295
 f243:=zD func259
 f244:=zD func251
 f245:=zD func252
 f246:=zD func280
 f247:=zD func274
 f279:=zD func275
 f280:=zD func276
 f281:=zD func277
 f282:=zD func278
 f283:=zD func281
 f284:=zD func282
 f285:=zD func283
 f286:=zD func284
 f287:=zD func293
 f316:=zD func294
 f317:=zD func296
 f318:=zD func297
 f319:=zD func298
 f320:=zD func299
 f321:=zD func303
 f322:=zD func304
 f337:=zD func305
 f338:=zD func306
 t0:=underlying0
 a0:=isAgg0
 z0:=sizeOf0
 v0:=zeroValue0
 t2:=underlying2
 a2:=isAgg2
 z2:=sizeOf2
 v2:=zeroValue2
 t3:=underlying3
 a3:=isAgg3
 z3:=sizeOf3
 v3:=zeroValue3
 t4:=underlying4
 a4:=isAgg4
 z4:=sizeOf4
 v4:=zeroValue4
 t5:=underlying5
 a5:=isAgg5
 z5:=sizeOf5
 v5:=zeroValue5
 t9:=underlying9
 a9:=isAgg9
 z9:=sizeOf9
 v9:=zeroValue9
 t20:=underlying20
 a20:=isAgg20
 z20:=sizeOf20
 v20:=zeroValue20
 t21:=underlying21
 a21:=isAgg21
 z21:=sizeOf21
 v21:=zeroValue21
 t37:=underlying235
 a37:=isAgg235
 z37:=sizeOf235
 v37:=zeroValue235
 t46:=underlying227
 a46:=isAgg227
 z46:=sizeOf227
 v46:=zeroValue227
 t51:=underlying280
 a51:=isAgg280
 z51:=sizeOf280
 v51:=zeroValue280
 t53:=underlying198
 a53:=isAgg198
 z53:=sizeOf198
 v53:=zeroValue198
 t75:=underlying208
 a75:=isAgg208
 z75:=sizeOf208
 v75:=zeroValue208
 t76:=underlying209
 a76:=isAgg209
 z76:=sizeOf209
 v76:=zeroValue209
 t85:=underlying270
 a85:=isAgg270
 z85:=sizeOf270
 v85:=zeroValue270
 t127:=underlying261
 a127:=isAgg261
 z127:=sizeOf261
 v127:=zeroValue261
 t143:=underlying304
 a143:=isAgg304
 z143:=sizeOf304
 v143:=zeroValue304
 t145:=underlying306
 a145:=isAgg306
 z145:=sizeOf306
 v145:=zeroValue306
 t167:=underlying269
 a167:=isAgg269
 z167:=sizeOf269
 v167:=zeroValue269
 t168:=underlying272
 a168:=isAgg272
 z168:=sizeOf272
 v168:=zeroValue272
 t171:=underlying276
 a171:=isAgg276
 z171:=sizeOf276
 v171:=zeroValue276
 t173:=underlying278
 a173:=isAgg278
 z173:=sizeOf278
 v173:=zeroValue278
 t175:=underlying287
 a175:=isAgg287
 z175:=sizeOf287
 v175:=zeroValue287
 t210:=underlying291
 a210:=isAgg291
 z210:=sizeOf291
 v210:=zeroValue291
 t212:=underlying294
 a212:=isAgg294
 z212:=sizeOf294
 v212:=zeroValue294
 t213:=underlying295
 a213:=isAgg295
 z213:=sizeOf295
 t232:=underlying308
 a232:=isAgg308
 z232:=sizeOf308
 v232:=zeroValue308
 t233:=underlying309
 a233:=isAgg309
 z233:=sizeOf309
 v233:=zeroValue309
 g15:=by kernel_rfl
 g16:=by kernel_rfl
 g17:=by kernel_rfl
 g18:=by kernel_rfl
 g19:=by kernel_rfl}
open Go.RowKit in
theorem Tryz.strconv_Atoi (s:ByteArray)(n:Int)(hl:s.size≤18)(h:Lib.atoi s.data.toList=some n)(w:World):
  Calls prog 210 #[.string s] w fun e w'=>e=.returned (.tuple #[.int .i64 n,.nilIface])∧∃ t,w'=Lib.bytesWorld w 5 t:=Any.strconv_Atoi Tryz.lays172 s n hl h w
def Tryz.lays129_ren:Go.Shelf.Ren:=⟨fun | 129=>191 | n=>n,fun | 53=>198 | 3=>3 | 4=>4 | 46=>227 | 5=>5 | 9=>9 | n=>n,fun | n=>n⟩
theorem Tryz.lays129:Go.Proofs.Lays.n129 prog Tryz.lays129_ren:={
 mixed:=by kernel_rfl
 f129:=zD func191
 t3:=underlying3
 a3:=isAgg3
 z3:=sizeOf3
 v3:=zeroValue3
 t4:=underlying4
 a4:=isAgg4
 z4:=sizeOf4
 v4:=zeroValue4
 t5:=underlying5
 a5:=isAgg5
 z5:=sizeOf5
 v5:=zeroValue5
 t9:=underlying9
 a9:=isAgg9
 z9:=sizeOf9
 v9:=zeroValue9
 t46:=underlying227
 a46:=isAgg227
 z46:=sizeOf227
 v46:=zeroValue227
 t53:=underlying198
 a53:=isAgg198
 z53:=sizeOf198
 v53:=zeroValue198}
theorem Tryz.bits_Len64 (x:Int)(w:World)(h0:0≤x)(h1:x≤18446744073709551615):
  Calls prog 191 #[.int .u64 x] w fun e w'=>e=.returned (.int .i64 (Lib.bitLen x.toNat))∧w'=w:=Any.bits_Len64 Tryz.lays129 x w h0 h1
def Tryz.lays283_ren:Go.Shelf.Ren:=⟨fun | 283=>281 | n=>n,fun | 3=>3 | 9=>9 | 4=>4 | n=>n,fun | n=>n⟩
theorem Tryz.lays283:Go.Proofs.Lays.n283 prog Tryz.lays283_ren:={
 mixed:=by kernel_rfl
 f283:=zD func281
 t3:=underlying3
 a3:=isAgg3
 z3:=sizeOf3
 v3:=zeroValue3
 t4:=underlying4
 a4:=isAgg4
 z4:=sizeOf4
 v4:=zeroValue4
 t9:=underlying9
 a9:=isAgg9
 z9:=sizeOf9
 v9:=zeroValue9}
open Go.Lib in
theorem Tryz.internal_strconv_small (i:Nat)(h:i < 100)(w:World):
  Calls prog 281 #[.int .i64 i] w fun e w'=>e=.returned (.string ⟨(Lib.decDigits i).toArray⟩)∧w'=w:=Any.internal_strconv_small Tryz.lays283 i h w
def Tryz.laysM284_ren:Go.Shelf.Ren:=⟨fun | 284=>282 | 129=>191 | 317=>296 | 318=>297 | n=>n,fun | 53=>198 | 3=>3 | 212=>294 | 0=>0 | 4=>4 | 46=>227 | 5=>5 | 9=>9 | n=>n,fun | 17=>6 | n=>n⟩
theorem Tryz.laysM284:Go.Proofs.LaysM.n284 prog Tryz.laysM284_ren:={
 mixed:=by kernel_rfl
 f129:=zD func191
 f284:=zD func282
 f317:=zD func296
 f318:=zD func297
 t0:=underlying0
 a0:=isAgg0
 z0:=sizeOf0
 v0:=zeroValue0
 t3:=underlying3
 a3:=isAgg3
 z3:=sizeOf3
 v3:=zeroValue3
 t4:=underlying4
 a4:=isAgg4
 z4:=sizeOf4
 v4:=zeroValue4
 t5:=underlying5
 a5:=isAgg5
 z5:=sizeOf5
 v5:=zeroValue5
 t9:=underlying9
 a9:=isAgg9
 z9:=sizeOf9
 v9:=zeroValue9
 t46:=underlying227
 a46:=isAgg227
 z46:=sizeOf227
 v46:=zeroValue227
 t53:=underlying198
 a53:=isAgg198
 z53:=sizeOf198
 v53:=zeroValue198
 t212:=underlying294
 a212:=isAgg294
 z212:=sizeOf294
 v212:=zeroValue294
 g17:=by kernel_rfl
 i0:=by kernel_rfl
 i3:=by kernel_rfl
 i4:=by kernel_rfl
 i5:=by kernel_rfl
 i9:=by kernel_rfl
 i46:=by kernel_rfl
 i53:=by kernel_rfl
 i212:=by kernel_rfl
 m17:=by kernel_rfl}
open Go.Lib in
theorem Tryz.internal_strconv_numDigits (u : Nat) (h1 : 1 ≤ u) (h2 : u < 18446744073709551616) (w : World) (htab : Lib.TabIs prog w "internal/strconv.uint64pow10" .u64 Lib.pow10Tab) :
  Calls prog 282 #[.int .u64 u] w fun e w'=>e=.returned (.int .i64 (Lib.nDigits u))∧w'=w:=Any.internal_strconv_numDigits Tryz.laysM284 u h1 h2 w htab
def Tryz.lays285_ren:Go.Shelf.Ren:=⟨fun | 285=>283 | n=>n,fun | 37=>235 | 53=>198 | 3=>3 | 4=>4 | 51=>280 | 9=>9 | 5=>5 | 0=>0 | n=>n,fun | n=>n⟩
theorem Tryz.lays285:Go.Proofs.Lays.n285 prog Tryz.lays285_ren:={
 mixed:=by kernel_rfl
 f285:=zD func283
 t0:=underlying0
 a0:=isAgg0
 z0:=sizeOf0
 v0:=zeroValue0
 t3:=underlying3
 a3:=isAgg3
 z3:=sizeOf3
 v3:=zeroValue3
 t4:=underlying4
 a4:=isAgg4
 z4:=sizeOf4
 v4:=zeroValue4
 t5:=underlying5
 a5:=isAgg5
 z5:=sizeOf5
 v5:=zeroValue5
 t9:=underlying9
 a9:=isAgg9
 z9:=sizeOf9
 v9:=zeroValue9
 t37:=underlying235
 a37:=isAgg235
 z37:=sizeOf235
 v37:=zeroValue235
 t51:=underlying280
 a51:=isAgg280
 z51:=sizeOf280
 v51:=zeroValue280
 t53:=underlying198
 a53:=isAgg198
 z53:=sizeOf198
 v53:=zeroValue198}
open Go.RowKit Go.Sort Go.Lib in
theorem Tryz.internal_strconv_formatBase10 (blk off cap:Nat)(u:Nat)(d:Array UInt8)(w:World)(hH:Holds (fun (b:UInt8)=>Value.int .u8 (b.toNat:Int)) w blk off d)(hu:u < 10^d.size)(hu64:u < 18446744073709551616)(hsz:d.size < 4611686018427387904):
  Calls prog 283 #[.slice (some ⟨blk,off,none⟩) d.size cap,.int .u64 u] w fun e w'=>
   e=.returned (.tuple #[])∧∃ (n v':Nat) (dk:Array UInt8),w'=(putRow (fun (b:UInt8)=>Value.int .u8 (b.toNat:Int)) w blk off dk).drewN n∧FmtInv d.size u 0 v' dk:=Any.internal_strconv_formatBase10 Tryz.lays285 blk off cap u d w hH hu hu64 hsz
def Tryz.laysM171_ren:Go.Shelf.Ren:=⟨fun | 171=>228 | 243=>259 | 246=>280 | 283=>281 | 284=>282 | 285=>283 | 286=>284 | 129=>191 | 317=>296 | 318=>297 | 319=>298 | 320=>299 | 337=>305 | 338=>306 | n=>n,fun | 3=>3 | 9=>9 | 2=>2 | 4=>4 | 171=>276 | 0=>0 | 53=>198 | 37=>235 | 5=>5 | 173=>278 | 212=>294 | 51=>280 | 20=>20 | 213=>295 | 46=>227 | 232=>308 | 233=>309 | n=>n,fun | 17=>6 | 18=>9 | 19=>10 | n=>n⟩
theorem Tryz.laysM171:Go.Proofs.LaysM.n171 prog Tryz.laysM171_ren:={
 mixed:=by kernel_rfl
 f129:=zD func191
 f171:=zD func228
 f243:=zD func259
 f246:=zD func280
 f283:=zD func281
 f284:=zD func282
 f285:=zD func283
 f286:=zD func284
 f317:=zD func296
 f318:=zD func297
 f319:=zD func298
 f320:=zD func299
 f337:=zD func305
 f338:=zD func306
 t0:=underlying0
 a0:=isAgg0
 z0:=sizeOf0
 v0:=zeroValue0
 t2:=underlying2
 a2:=isAgg2
 z2:=sizeOf2
 v2:=zeroValue2
 t3:=underlying3
 a3:=isAgg3
 z3:=sizeOf3
 v3:=zeroValue3
 t4:=underlying4
 a4:=isAgg4
 z4:=sizeOf4
 v4:=zeroValue4
 t5:=underlying5
 a5:=isAgg5
 z5:=sizeOf5
 v5:=zeroValue5
 t9:=underlying9
 a9:=isAgg9
 z9:=sizeOf9
 v9:=zeroValue9
 t20:=underlying20
 a20:=isAgg20
 z20:=sizeOf20
 v20:=zeroValue20
 t37:=underlying235
 a37:=isAgg235
 z37:=sizeOf235
 v37:=zeroValue235
 t46:=underlying227
 a46:=isAgg227
 z46:=sizeOf227
 v46:=zeroValue227
 t51:=underlying280
 a51:=isAgg280
 z51:=sizeOf280
 v51:=zeroValue280
 t53:=underlying198
 a53:=isAgg198
 z53:=sizeOf198
 v53:=zeroValue198
 t171:=underlying276
 a171:=isAgg276
 z171:=sizeOf276
 v171:=zeroValue276
 t173:=underlying278
 a173:=isAgg278
 z173:=sizeOf278
 v173:=zeroValue278
 t212:=underlying294
 a212:=isAgg294
 z212:=sizeOf294
 v212:=zeroValue294
 t213:=underlying295
 a213:=isAgg295
 z213:=sizeOf295
 t232:=underlying308
 a232:=isAgg308
 z232:=sizeOf308
 v232:=zeroValue308
 t233:=underlying309
 a233:=isAgg309
 z233:=sizeOf309
 v233:=zeroValue309
 g17:=by kernel_rfl
 g18:=by kernel_rfl
 g19:=by kernel_rfl
 i0:=by kernel_rfl
 i2:=by kernel_rfl
 i3:=by kernel_rfl
 i4:=by kernel_rfl
 i5:=by kernel_rfl
 i9:=by kernel_rfl
 i20:=by kernel_rfl
 i37:=by kernel_rfl
 i46:=by kernel_rfl
 i51:=by kernel_rfl
 i53:=by kernel_rfl
 i171:=by kernel_rfl
 i173:=by kernel_rfl
 i212:=by kernel_rfl
 i232:=by kernel_rfl
 i233:=by kernel_rfl
 m17:=by kernel_rfl
 m18:=by kernel_rfl
 m19:=by kernel_rfl}
open Go.RowKit Go.Sort Go.Lib in
theorem Tryz.strconv_Itoa (n : Int) (h0 : -9223372036854775808 ≤ n) (h1 : n ≤ 9223372036854775807) (w : World) (htab : Lib.TabIs prog w "internal/strconv.uint64pow10" .u64 Lib.pow10Tab) :
  Calls prog 228 #[.int .i64 n] w fun e w'=>e=.returned (.string ⟨(Lib.itoa n).toArray⟩)∧∃ k os,w'=grow (w.drewN k) os:=Any.strconv_Itoa Tryz.laysM171 n h0 h1 w htab
def Tryz.lays145_ren:Go.Shelf.Ren:=⟨fun | 145=>156 | 220=>206 | 219=>242 | 217=>266 | 225=>267 | 224=>268 | 267=>269 | 266=>288 | 314=>289 | n=>n,fun | 9=>9 | 4=>4 | 59=>171 | 3=>3 | 5=>5 | 46=>227 | 146=>281 | 51=>280 | n=>n,fun | 1=>1 | n=>n⟩
theorem Tryz.lays145:Go.Proofs.Lays.n145 prog Tryz.lays145_ren:={
 mixed:=by kernel_rfl
 f145:=zD func156
 f217:=zD func266
 f219:=zD func242
 f220:=zD func206
 f224:=zD func268
 f225:=zD func267
 f266:=zD func288
 f267:=zD func269
 f314:=zD func289
 t3:=underlying3
 a3:=isAgg3
 z3:=sizeOf3
 v3:=zeroValue3
 t4:=underlying4
 a4:=isAgg4
 z4:=sizeOf4
 v4:=zeroValue4
 t5:=underlying5
 a5:=isAgg5
 z5:=sizeOf5
 v5:=zeroValue5
 t9:=underlying9
 a9:=isAgg9
 z9:=sizeOf9
 v9:=zeroValue9
 t46:=underlying227
 a46:=isAgg227
 z46:=sizeOf227
 v46:=zeroValue227
 t51:=underlying280
 a51:=isAgg280
 z51:=sizeOf280
 v51:=zeroValue280
 t59:=underlying171
 a59:=isAgg171
 z59:=sizeOf171
 v59:=zeroValue171
 t146:=underlying281
 a146:=isAgg281
 z146:=sizeOf281
 v146:=zeroValue281
 g1:=by kernel_rfl}
open Go.RowKit Go.Lib in
theorem Tryz.strings_Cut (s sep:ByteArray)(m:Int)(w:World)(hs:s.size < 4294967281)(hm:w.cell? ⟨1,0,none⟩=some (.int .i64 m)):
  Calls prog 156 #[.string s,.string sep] w fun e w'=>e=.returned (.tuple #[.string ⟨(Lib.cut s.data.toList sep.data.toList).1.toArray⟩,.string ⟨(Lib.cut s.data.toList sep.data.toList).2.1.toArray⟩,.bool (Lib.cut s.data.toList sep.data.toList).2.2])∧∃ n,w'=w.drewN n:=Any.strings_Cut Tryz.lays145 s sep m w hs hm
def Tryz.lays99_ren:Go.Shelf.Ren:=⟨fun | 99=>208 | 206=>241 | n=>n,fun | 9=>9 | 4=>4 | 3=>3 | n=>n,fun | n=>n⟩
theorem Tryz.lays99:Go.Proofs.Lays.n99 prog Tryz.lays99_ren:={
 mixed:=by kernel_rfl
 f99:=zD func208
 f206:=zD func241
 t3:=underlying3
 a3:=isAgg3
 z3:=sizeOf3
 v3:=zeroValue3
 t4:=underlying4
 a4:=isAgg4
 z4:=sizeOf4
 v4:=zeroValue4
 t9:=underlying9
 a9:=isAgg9
 z9:=sizeOf9
 v9:=zeroValue9}
open Go.RowKit Go.Lib in
theorem Tryz.strings_HasPrefix (s p:ByteArray)(w:World):
  Calls prog 208 #[.string s,.string p] w fun e w'=>e=.returned (.bool (Lib.hasPrefix s.data.toList p.data.toList))∧w'=w:=Any.strings_HasPrefix Tryz.lays99 s p w
def Tryz.lays101_ren:Go.Shelf.Ren:=⟨fun | 101=>209 | 208=>250 | 206=>241 | n=>n,fun | 9=>9 | 4=>4 | 3=>3 | n=>n,fun | n=>n⟩
theorem Tryz.lays101:Go.Proofs.Lays.n101 prog Tryz.lays101_ren:={
 mixed:=by kernel_rfl
 f101:=zD func209
 f206:=zD func241
 f208:=zD func250
 t3:=underlying3
 a3:=isAgg3
 z3:=sizeOf3
 v3:=zeroValue3
 t4:=underlying4
 a4:=isAgg4
 z4:=sizeOf4
 v4:=zeroValue4
 t9:=underlying9
 a9:=isAgg9
 z9:=sizeOf9
 v9:=zeroValue9}
open Go.RowKit Go.Lib in
theorem Tryz.strings_TrimPrefix (s p:ByteArray)(w:World):
  Calls prog 209 #[.string s,.string p] w fun e w'=>e=.returned (.string ⟨(Lib.trimPrefix s.data.toList p.data.toList).toArray⟩)∧w'=w:=Any.strings_TrimPrefix Tryz.lays101 s p w
def Tryz.lays264_ren:Go.Shelf.Ren:=⟨fun | 264=>215 | n=>n,fun | 53=>198 | 46=>227 | n=>n,fun | n=>n⟩
theorem Tryz.lays264:Go.Proofs.Lays.n264 prog Tryz.lays264_ren:={
 mixed:=by kernel_rfl
 f264:=zD func215
 t46:=underlying227
 a46:=isAgg227
 z46:=sizeOf227
 v46:=zeroValue227
 t53:=underlying198
 a53:=isAgg198
 z53:=sizeOf198
 v53:=zeroValue198}
open Go.RowKit Go.Lib in
theorem Tryz.bits_Mul64 (x y:Nat)(hx:x < 18446744073709551616)(hy:y < 18446744073709551616)(w:World):
  Calls prog 215 #[.int .u64 x,.int .u64 y] w fun e w'=>e=.returned (.tuple #[.int .u64 ((x*y / 18446744073709551616:Nat):Int),.int .u64 ((x*y % 18446744073709551616:Nat):Int)])∧w'=w:=Any.bits_Mul64 Tryz.lays264 x y hx hy w
def Tryz.lays105_ren:Go.Shelf.Ren:=⟨fun | 105=>230 | 212=>261 | 99=>208 | 165=>262 | 166=>231 | 170=>263 | 169=>232 | 263=>285 | 264=>215 | 206=>241 | 240=>264 | 241=>286 | 276=>287 | 277=>300 | n=>n,fun | 9=>9 | 3=>3 | 4=>4 | 20=>20 | 0=>0 | 46=>227 | 109=>258 | 5=>5 | 72=>237 | 76=>209 | 51=>280 | 146=>281 | 53=>198 | 148=>215 | 70=>234 | 37=>235 | 75=>208 | 127=>261 | 164=>283 | 80=>196 | n=>n,fun | n=>n⟩
theorem Tryz.lays105:Go.Proofs.Lays.n105 prog Tryz.lays105_ren:={
 mixed:=by kernel_rfl
 f99:=zD func208
 f105:=zD func230
 f165:=zD func262
 f166:=zD func231
 f169:=zD func232
 f170:=zD func263
 f206:=zD func241
 f212:=zD func261
 f240:=zD func264
 f241:=zD func286
 f263:=zD func285
 f264:=zD func215
 f276:=zD func287
 f277:=zD func300
 t0:=underlying0
 a0:=isAgg0
 z0:=sizeOf0
 v0:=zeroValue0
 t3:=underlying3
 a3:=isAgg3
 z3:=sizeOf3
 v3:=zeroValue3
 t4:=underlying4
 a4:=isAgg4
 z4:=sizeOf4
 v4:=zeroValue4
 t5:=underlying5
 a5:=isAgg5
 z5:=sizeOf5
 v5:=zeroValue5
 t9:=underlying9
 a9:=isAgg9
 z9:=sizeOf9
 v9:=zeroValue9
 t20:=underlying20
 a20:=isAgg20
 z20:=sizeOf20
 v20:=zeroValue20
 t37:=underlying235
 a37:=isAgg235
 z37:=sizeOf235
 v37:=zeroValue235
 t46:=underlying227
 a46:=isAgg227
 z46:=sizeOf227
 v46:=zeroValue227
 t51:=underlying280
 a51:=isAgg280
 z51:=sizeOf280
 v51:=zeroValue280
 t53:=underlying198
 a53:=isAgg198
 z53:=sizeOf198
 v53:=zeroValue198
 t70:=underlying234
 a70:=isAgg234
 z70:=sizeOf234
 v70:=zeroValue234
 t72:=underlying237
 a72:=isAgg237
 z72:=sizeOf237
 v72:=zeroValue237
 t75:=underlying208
 a75:=isAgg208
 z75:=sizeOf208
 v75:=zeroValue208
 t76:=underlying209
 a76:=isAgg209
 z76:=sizeOf209
 v76:=zeroValue209
 t109:=underlying258
 a109:=isAgg258
 z109:=sizeOf258
 v109:=zeroValue258
 t127:=underlying261
 a127:=isAgg261
 z127:=sizeOf261
 v127:=zeroValue261
 t146:=underlying281
 a146:=isAgg281
 z146:=sizeOf281
 v146:=zeroValue281
 t148:=underlying215
 a148:=isAgg215
 z148:=sizeOf215
 v148:=zeroValue215
 t164:=underlying283
 a164:=isAgg283
 z164:=sizeOf283
 v164:=zeroValue283}
theorem Tryz.Builder_Extra_105:Builder.Extra prog Tryz.lays105_ren:={
 sizeBuilder:=by kernel_rfl
 liesBuilder:=by kernel_rfl
 t5:=underlying5
 a5:=isAgg5
 z5:=sizeOf5
 v5:=zeroValue5
 infoByte:=by kernel_rfl
 cellsByte:=by kernel_rfl
 sizeByte:=by kernel_rfl
 neB5:=by decide}
open Go.RowKit Go.Lib in
theorem Tryz.strings_Repeat (s:ByteArray)(c:Nat)(w:World)(hc:c≤9223372036854775807)(hlen:s.size*c≤140737488355328):
  Calls prog 230 #[.string s,.int .i64 c] w fun e w'=>e=.returned (.string ⟨(Lib.repeatL s.data.toList c).toArray⟩)∧Below w.heap.size w w':=Any.strings_Repeat Tryz.lays105 Tryz.Builder_Extra_105 s c w hc hlen
end Go.Proofs
namespace Go.Proofs.YtnjonlnemagomaaGreatDoor
open Go.RowKit Big Tryz
open Go.Lib (hid)
set_option maxRecDepth 100000
set_option maxHeartbeats 8000000
set_option linter.all false
abbrev W64:Nat:=18446744073709551616
theorem add64 (x y c:Int)(hx:0≤x)(hy:0≤y)(hc0:0≤c)(hc:c≤1)(w:World):(callFunc 225 #[.int .u64 x,.int .u64 y,.int .u64 c]).run prog w=
  .ok (.value (.tuple #[.int .u64 ((x+y+c) % 18446744073709551616),.int .u64 ((x+y+c) / 18446744073709551616)])) w:=by
 rw[run_callFunc_extern func225 (by kernel_rfl) (by kernel_rfl) (by kernel_rfl) (e:=add64Entry) (by kernel_rfl),run_add64 x y c hx hy hc0 hc];rfl
def sub64Entry:Array Value→Sem Value:=fun args=>do
 let (x, y, b) ← Extern.MathBitsCarry.three "Sub64" args
 pure (Extern.MathBitsCarry.pair ((x+Extern.MathBitsCarry.m64 - y - b) % Extern.MathBitsCarry.m64) (if x < y+b then 1 else 0))
theorem run_sub64 {P:Program}(x y b:Nat)(hb:b≤1)(w:World):
  (sub64Entry #[.int .u64 x,.int .u64 y,.int .u64 b]).run P w=
   .ok (.tuple #[.int .u64 (((x+18446744073709551616 - y - b) % 18446744073709551616:Nat):Int),.int .u64 ((if x < y+b then 1 else 0:Nat):Int)]) w:=by
 have:b=0∨b=1:=by omega
 rcases this with rfl | rfl <;> rfl
def bor (x y b:Int):Int:=if x < y+b then 1 else 0
theorem sub64 (x y b:Int)(hx:0≤x)(hy:0≤y)(hy':y < 18446744073709551616)(hb0:0≤b)(hb:b≤1)(w:World):(callFunc 227 #[.int .u64 x,.int .u64 y,.int .u64 b]).run prog w=
  .ok (.value (.tuple #[.int .u64 ((x - y - b) % 18446744073709551616),.int .u64 (bor x y b)])) w:=by
 obtain ⟨x,rfl⟩:=Int.eq_ofNat_of_zero_le hx;obtain ⟨y,rfl⟩:=Int.eq_ofNat_of_zero_le hy;obtain ⟨b,rfl⟩:=Int.eq_ofNat_of_zero_le hb0
 have e1:(((x+18446744073709551616 - y - b) % 18446744073709551616:Nat):Int)=((x:Int) - y - b) % 18446744073709551616:=by omega
 have e2:((if x < y+b then 1 else 0:Nat):Int)=bor x y b:=by unfold bor;split <;> split <;> omega
 rw[←e1,←e2,run_callFunc_extern func227 (by kernel_rfl) (by kernel_rfl) (by kernel_rfl) (e:=sub64Entry) (by kernel_rfl),run_sub64 x y b (by omega)];rfl
def Sl (v:Value)(a:Option Addr)(n cap:Nat):Prop:=v=.slice a n cap∧n≤cap∧cap≤281474976710656∧(a=none→cap=0)
def Wds (w:World)(v:Value)(n:Nat)(f:Nat→Nat):Prop:=∃ a cap,Sl v a n cap∧Rd w a .u64 n f∧Canon W64 f n
theorem Wds.new {w w':World}{v:Value}{n:Nat}{f:Nat→Nat}(h:Wds w v n f)(hn:New w w'):Wds w' v n f:=by
 obtain ⟨a,aa,h1,h2,h3⟩:=h;exact ⟨a,aa,h1,h2.new hn,h3⟩
def TrimPost (w:World)(a:Option Addr)(cap len:Nat)(f:Nat→Nat)(e:Ending)(w':World):Prop:=
 w=w'∧∃ n,e=.returned (.slice a n cap)∧n≤len∧(∀ i,n≤i→i < len→f i=0)∧(n=0∨f (n - 1)≠0)
theorem trim_any (a:Option Addr)(len cap:Nat)(f:Nat→Nat)(w:World)(hl:len≤cap)(hcap:cap≤281474976710656)(ha:a=none→cap=0)(hr:Rd w a .u64 len f):
  Calls prog 226 #[.slice a len cap] w (TrimPost w a cap len f):=by
 have h0:(0:Int)≤(len:Int):=by omega
 go_in;go_wp2
 go_loop [3] (fun n=>∃ k:Nat,k≤len∧n=.int .i64 k∧∀ i,k≤i→i < len→f i=0) (fun n=>(intOf n).toNat)
 case atStart=>exact ⟨len,Nat.le_refl _,rfl,fun i h1 h2=>by omega⟩
 case round=>
  obtain ⟨k,hk,rfl,hz⟩:=hrel;have HZ:=hid hz;clear hz;by_cases hk0:0 < k
  ·obtain ⟨b,ac,rfl,ab⟩:=hr (k - 1) (by omega);clear hr ha;go_wp2
   ·have hz:((f (k - 1):Int)==0)=true:=by assumption
    have aa:f (k - 1)=0:=by simp at hz;omega
    go_round
    case rel=>exact ⟨k - 1,by omega,by go_num,fun i h1 h2=>by
     by_cases e:i=k - 1
     ·rw[e];exact aa
     ·exact HZ i (by omega) h2⟩
    case measure=>simp[intOf];omega
   ·have hz:((f (k - 1):Int)==0)=false:=by assumption
    have aa:f (k - 1)≠0:=by intro e;rw[e] at hz;simp at hz
    go_ret;exact ⟨rfl,k,rfl,hk,HZ,.inr aa⟩
  ·obtain rfl:k=0:=by omega
   cases a with
   | none=>
    obtain rfl:=ha rfl;clear hr;go_wp2;go_ret;exact ⟨rfl,0,rfl,hk,HZ,.inl rfl⟩
   | some p=>
    clear hr ha;go_wp2;go_ret;exact ⟨rfl,0,rfl,hk,HZ,.inl rfl⟩
theorem trim_calls (a:Option Addr)(len cap:Nat)(f:Nat→Nat)(w:World)(hl:len≤cap)(hcap:cap≤281474976710656)(ha:a=none→cap=0)(hr:Rd w a .u64 len f)(hlt:∀ i,i < len→f i < W64):
  Calls prog 226 #[.slice a len cap] w fun e w'=>w=w'∧∃ v n,e=.returned v∧Wds w v n f∧vf W64 f n=vf W64 f len:=
 (trim_any a len cap f w hl hcap ha hr).mono fun e w' ⟨h1,n,h2,h3,h4,h5⟩=>by
  obtain ⟨c1,c2⟩:=canon_trim hlt h3 h4 h5;exact ⟨h1,_,n,h2,⟨a,cap,⟨rfl,by omega,hcap,ha⟩,hr.le h3,c1⟩,c2⟩
def CmpPost (w:World)(m n:Nat)(f g:Nat→Nat)(e:Ending)(w':World):Prop:=New w w'∧∃ r:Int,e=.returned (.int .i64 r)∧
 ((r= -1∧(m < n∨(m=n∧∃ i,i < n∧f i < g i∧∀ j,i < j→j < n→f j=g j)))∨(r=1∧(n < m∨(m=n∧∃ i,i < n∧g i < f i∧∀ j,i < j→j < n→f j=g j)))∨(r=0∧m=n∧∀ j,j < n→f j=g j))
theorem compareWords_any (a b:Option Addr)(m n ca cb:Nat)(f g:Nat→Nat)(w:World)(hm:m≤281474976710656)(hn:n≤281474976710656)(ha:Rd w a .u64 m f)(hb:Rd w b .u64 n g):
  Calls prog 184 #[.slice a m ca,.slice b n cb] w (CmpPost w m n f g):=by
 go_in;by_cases hmn:m=n
 ·subst hmn;go_wp2;go_loopw [5] (fun i wr=>∃ k:Nat,k≤m∧i=.int .i64 ((k:Int) - 1)∧(∀ j,k≤j→j < m→f j=g j)∧New w wr) (fun n _=>(intOf n+1).toNat)
  case atStart=>exact ⟨m,Nat.le_refl _,rfl,fun i h1 h2=>by omega,New.refl _⟩
  case round=>
   obtain ⟨k,hk,rfl,hz,aa⟩:=hrel;replace hz:=hid hz;by_cases hk0:k=0
   ·subst hk0;go_wp2;go_ret;exact ⟨aa,_,rfl,.inr (.inr ⟨rfl,rfl,fun j hj=>hz j (by omega) hj⟩)⟩
   ·obtain ⟨b1,o1,rfl,h1⟩:=(ha.new aa) (k - 1) (by omega);obtain ⟨b2,o2,rfl,h2⟩:=(hb.new aa) (k - 1) (by omega);clear ha hb;go_wp2
    go_quiet (fail)
    go_wp2
    ·have ab:((f (k - 1):Int) != (g (k - 1):Int))=true:=by assumption
     have ac:f (k - 1)≠g (k - 1):=by intro e;rw[e] at ab;simp at ab
     go_quiet (fail)
     go_wp2
     all_goals go_ret
     ·have ad:f (k - 1) < g (k - 1):=by assumption
      exact ⟨(aa.drewN _).drewN _,_,rfl,.inl ⟨rfl,.inr ⟨rfl,k - 1,by omega,ad,fun j h1 h2=>hz.out j (by omega) h2⟩⟩⟩
     ·have ad:¬f (k - 1) < g (k - 1):=by assumption
      exact ⟨(aa.drewN _).drewN _,_,rfl,.inr (.inl ⟨rfl,.inr ⟨rfl,k - 1,by omega,by omega,fun j h1 h2=>hz.out j (by omega) h2⟩⟩)⟩
    ·have ab:((f (k - 1):Int) != (g (k - 1):Int))=false:=by assumption
     have ac:f (k - 1)=g (k - 1):=by simp at ab;omega
     go_roundw
     case rel=>exact ⟨k - 1,by omega,by go_num,fun j h1 h2=>by
      by_cases e:j=k - 1
      ·rw[e];exact ac
      ·exact hz j (by omega) h2,aa.drewN _⟩
     case measure=>simp[intOf];omega
 ·have ab:(m==n)=false:=by simpa using hmn
  go_wp2
  all_goals (go_ret;rename_i h1 h2)
  ·exact ⟨New.refl _,_,rfl,.inl ⟨rfl,.inl (by assumption)⟩⟩
  ·exact ⟨New.refl _,_,rfl,.inr (.inl ⟨rfl,.inl (by omega)⟩)⟩
theorem compareWords_calls (va vb:Value)(m n:Nat)(f g:Nat→Nat)(w:World)(ha:Wds w va m f)(hb:Wds w vb n g):
  Calls prog 184 #[va,vb] w fun e w'=>New w w'∧e=.returned (.int .i64 (cmpNat (vf W64 f m) (vf W64 g n))):=by
 obtain ⟨a,ca,⟨rfl,a1,a2,a3⟩,ra,cf⟩:=ha;obtain ⟨b,cb,⟨rfl,b1,b2,b3⟩,rb,cg⟩:=hb;refine (compareWords_any a b m n ca cb f g w (by omega) (by omega) ra rb).mono fun e w' ⟨h1,r,h2,h3⟩=>⟨h1,?_⟩;rw[h2];congr 2;unfold cmpNat;rcases h3 with ⟨rfl,h | ⟨rfl,i,hi,ab,aa⟩⟩ | ⟨rfl,h | ⟨rfl,i,hi,ab,aa⟩⟩ | ⟨rfl,rfl,aa⟩
 ·rw[if_pos (cf.lt_of_len cg (by decide) h)]
 ·rw[if_pos (vf_lt_of_digit cf.lt cg.lt hi aa ab)]
 ·have:=cg.lt_of_len cf (by decide) h;rw[if_neg (by omega),if_pos this]
 ·have:=vf_lt_of_digit cg.lt cf.lt hi (fun j h1 h2=>(aa j h1 h2).symm) ab;rw[if_neg (by omega),if_pos this]
 ·have:vf W64 f m=vf W64 g m:=vf_congr aa;rw[if_neg (by omega),if_neg (by omega)]
theorem info_u64:(prog.info? 198).map (fun i=>(i.zero,i.size,i.bytes))=some (some (.int .u64 0),1,8):=by kernel_rfl
theorem vf_padded {B:Nat}{g:Nat→Nat}{n m:Nat}(h:n≤m):vf B (padded g n) m=vf B g n:=by
 rw[vf_pad h (fun i h1 _=>by simp[padded];omega)]
 exact vf_congr fun i hi=>by simp[padded,hi]
theorem row_int {w:World}{b:Nat}{t:TypeId}{n i:Nat}{o:Nat→Nat}(h:Row w b t .u64 n o){z:Int}{d:Nat}(e:z=d):Row (w.setCell ⟨b,i,none⟩ (.int .u64 z)) b t .u64 n (upd o i d):=by
 subst e;exact h.set i d
theorem add_digit {B k cc s:Nat}{o x y:Nat→Nat}(hval:vf B o k+cc*B^k=vf B x k+vf B y k)(hs:s=x k+y k+cc):
  vf B (upd o k (s % B)) (k+1)+s / B*B^(k+1)=vf B x (k+1)+vf B y (k+1):=by
 refine add_step (o:=upd o k (s % B)) (x:=x) (y:=y) (c:=cc) ?_ ?_
 ·rw[vf_upd_above (Nat.le_refl _)];exact hval
 ·rw[upd_same,←hs];exact Nat.mod_add_div s B
theorem addWords_any (sw:Bool)(a b:Option Addr)(m n ca cb:Nat)(f g:Nat→Nat)(w:World)(hm:m≤1000000)(hnm:n≤m)(hsw:sw=true→n < m)(ha:Rd w a .u64 m f)(hb:Rd w b .u64 n g)(hfl:∀ i,i < m→f i < W64)(hgl:∀ i,i < n→g i < W64):
  Calls prog 183 (if sw then #[.slice b n cb,.slice a m ca] else #[.slice a m ca,.slice b n cb]) w fun e w'=>∃ v k h,New w w'∧e=.returned v∧Wds w' v k h∧vf W64 h k=vf W64 f m+vf W64 g n:=by
 have an:=fun W=>run_make_row' (P:=prog) 111 198 (.int .u64 0) 8 underlying111 info_u64 rfl .i64 .i64 (m+1) (by omega) (by omega) W;rw[show ((m+1:Nat):Int)=(m:Int)+1 by omega] at an
 cases sw
 case' true=>have am:=hsw rfl
 all_goals
  clear hsw;simp only[if_true,Bool.false_eq_true,if_false];go_in;go_wp2;clear an;obtain ⟨B,hB⟩:∃ B,B=w.heap.size:=⟨_,rfl⟩;have ac:=Row.made w .u64 (m+1) 198;have af:New w (w.alloc (.cells (madeCells #[.int .u64 0] (m+1)) 198)):=(New.refl w).alloc _;rw[←hB] at ac⊢;generalize w.alloc (.cells (madeCells #[.int .u64 0] (m+1)) 198)=w0 at ac af⊢;replace hB:=hid hB;go_loopw [6,22] (fun c i wr=>∃ (k cc:Nat) (o:Nat→Nat),k≤m∧i=.int .i64 k∧c=.int .u64 cc∧cc≤1∧Row wr B 198 .u64 (m+1) o∧(∀ j,o j < W64)∧vf W64 o k+cc*W64^k=vf W64 f k+vf W64 (padded g n) k∧New w wr) (fun _ i _=>m - (intOf i).toNat)
  case atStart=>exact ⟨0,0,fun _=>0,Nat.zero_le _,rfl,rfl,by omega,ac,fun _=>by simp[W64],rfl,af⟩
  case round=>
   obtain ⟨k,cc,o,hk,rfl,rfl,ao,aa,ai,ae,ad⟩:=hrel;replace ae:=hid ae;clear ac af;by_cases hkm:k < m
   ·obtain ⟨b1,o1,rfl,h1⟩:=(ha.new ad) k hkm;have aj:=hb.new ad;have ap:=hfl k hkm;clear ha hb;have ab:=aa.cell (i:=k) (by omega);have ah:=aa.frozen k;have HO:=hid ai;by_cases hkn:k < n
    ·obtain ⟨b2,o2,rfl,h2⟩:=aj k hkn;have aq:=hgl k hkn;clear aj hgl hfl ai;have ag:=add64 (f k) (g k) cc (by omega) (by omega) (by omega) (by omega);go_wp2;clear ag h1 h2 ab ah;go_roundw
     case rel=>
      have hs:f k+padded g n k+cc=f k+g k+cc:=by rw[padded_in hkn]
      exact ⟨k+1,(f k+g k+cc) / W64,upd o k ((f k+g k+cc) % W64),by omega,by go_num,by go_num,by unfold W64 at *;omega,row_int aa (by unfold W64;omega),upd_lt HO.out (Nat.mod_lt _ (by decide)),by rw[←hs];exact add_digit ae.out rfl,ad.setCell (Nat.le_of_eq hB.out.symm) _⟩
     case measure=>simp[intOf];omega
    ·clear aj hgl hfl ai;have ag:=add64 (f k) 0 cc (by omega) (by omega) (by omega) (by omega);simp only[Int.add_zero] at ag;go_wp2;clear ag h1 ab ah;go_roundw
     case rel=>
      have hs:f k+padded g n k+cc=f k+cc:=by rw[padded_out hkn];rfl
      exact ⟨k+1,(f k+cc) / W64,upd o k ((f k+cc) % W64),by omega,by go_num,by go_num,by unfold W64 at *;omega,row_int aa (by unfold W64;omega),upd_lt HO.out (Nat.mod_lt _ (by decide)),by rw[←hs];exact add_digit ae.out rfl,ad.setCell (Nat.le_of_eq hB.out.symm) _⟩
     case measure=>simp[intOf];omega
   ·obtain rfl:k=m:=by omega
    have ab:=aa.cell (i:=k) (by omega);have ah:=aa.frozen k;clear ha hb;go_wp2_with fail;have al:=aa.set k cc;have am:=upd_lt (k:=k) ai (show cc < W64 by unfold W64;omega);refine (trim_calls _ _ _ _ _ (Nat.le_refl _) (by omega) (by simp) al.rd (fun i _=>am i)).mono ?_;rintro e w' ⟨rfl,v,n',rfl,hw,hv⟩;clear ab ah;have ak:=ad.setCell (p:=⟨B,k,none⟩) (Nat.le_of_eq hB.out.symm) (.int .u64 cc);generalize wr.setCell ⟨B,k,none⟩ (.int .u64 cc)=w2 at *;replace hv:=hid hv;go_wp2_with fail;go_ret;refine ⟨v,n',_,ak,rfl,hw,?_⟩;have:=ae.out;rw[hv.out,vf_succ,upd_same,vf_upd_above (Nat.le_refl _),this,vf_padded hnm]
theorem addWords_calls (va vb:Value)(m n:Nat)(f g:Nat→Nat)(w:World)(hm:m≤1000000)(hn:n≤1000000)(ha:Wds w va m f)(hb:Wds w vb n g):
  Calls prog 183 #[va,vb] w fun e w'=>∃ v k h,New w w'∧e=.returned v∧Wds w' v k h∧vf W64 h k=vf W64 f m+vf W64 g n:=by
 obtain ⟨a,ca,⟨rfl,a1,a2,a3⟩,ra,cf⟩:=ha;obtain ⟨b,cb,⟨rfl,b1,b2,b3⟩,rb,cg⟩:=hb;by_cases hnm:n≤m
 ·exact addWords_any false a b m n ca cb f g w hm hnm (by simp) ra rb cf.lt cg.lt
 ·refine (addWords_any true b a n m cb ca g f w hn (by omega) (fun _=>by omega) rb ra cg.lt cf.lt).mono fun e w' ⟨v,k,h,h1,h2,h3,h4⟩=>⟨v,k,h,h1,h2,h3,by omega⟩
theorem sub_digit {B k bb d bb':Nat}{o x y:Nat→Nat}(hval:vf B o k+vf B y k=vf B x k+bb*B^k)(hs:d+y k+bb=x k+B*bb'):
  vf B (upd o k d) (k+1)+vf B y (k+1)=vf B x (k+1)+bb'*B^(k+1):=by
 refine sub_step (o:=upd o k d) (x:=x) (y:=y) (c:=bb) ?_ ?_
 ·rw[vf_upd_above (Nat.le_refl _)];exact hval
 ·rw[upd_same];exact hs
theorem sub64_nat {x y b:Nat}(hx:x < W64)(hy:y < W64)(hb:b≤1):∃ d b':Nat,d < W64∧b'≤1∧((x:Int) - y - b) % 18446744073709551616=d∧bor x y b=b'∧d+y+b=x+W64*b':=by
 unfold W64 at *;by_cases h:x < y+b
 ·refine ⟨x+18446744073709551616 - y - b,1,by omega,by omega,by omega,?_,by omega⟩;unfold bor;rw[if_pos (by omega)];rfl
 ·refine ⟨x - y - b,0,by omega,by omega,by omega,?_,by omega⟩;unfold bor;rw[if_neg (by omega)];rfl
theorem subWords_any (a b:Option Addr)(m n ca cb:Nat)(f g:Nat→Nat)(w:World)(hm:m≤1000000)(hnm:n≤m)(ha:Rd w a .u64 m f)(hb:Rd w b .u64 n g)(hfl:∀ i,i < m→f i < W64)(hgl:∀ i,i < n→g i < W64)(aj:vf W64 g n≤vf W64 f m):
  Calls prog 185 #[.slice a m ca,.slice b n cb] w fun e w'=>∃ v k h,New w w'∧e=.returned v∧Wds w' v k h∧vf W64 h k=vf W64 f m - vf W64 g n:=by
 have ao:=fun W=>run_make_row' (P:=prog) 111 198 (.int .u64 0) 8 underlying111 info_u64 rfl .i64 .i64 m (by omega) (by omega) W;replace aj:=hid aj;go_in;go_wp2;clear ao;obtain ⟨B,hB⟩:∃ B,B=w.heap.size:=⟨_,rfl⟩;have ab:=Row.made w .u64 m 198;have ag:New w (w.alloc (.cells (madeCells #[.int .u64 0] m) 198)):=(New.refl w).alloc _;rw[←hB] at ab⊢;generalize w.alloc (.cells (madeCells #[.int .u64 0] m) 198)=w0 at ab ag⊢;replace hB:=hid hB;go_loopw [6,14] (fun c i wr=>∃ (k cc:Nat) (o:Nat→Nat),k≤m∧i=.int .i64 k∧c=.int .u64 cc∧cc≤1∧Row wr B 198 .u64 m o∧(∀ j,o j < W64)∧vf W64 o k+vf W64 (padded g n) k=vf W64 f k+cc*W64^k∧New w wr) (fun _ i _=>m - (intOf i).toNat)
 case atStart=>exact ⟨0,0,fun _=>0,Nat.zero_le _,rfl,rfl,by omega,ab,fun _=>by simp[W64],rfl,ag⟩
 case round=>
  obtain ⟨k,cc,o,hk,rfl,rfl,ak,ad,ai,ae,ac⟩:=hrel;replace ae:=hid ae;clear ab ag;by_cases hkm:k < m
  ·obtain ⟨b1,o1,rfl,h1⟩:=(ha.new ac) k hkm;have af:=hb.new ac;have al:=hfl k hkm;clear ha hb;have ah:=ad.cell (i:=k) (by omega);have am:=ad.frozen k;have HO:=hid ai;by_cases hkn:k < n
   ·obtain ⟨b2,o2,rfl,h2⟩:=af k hkn;have an:=hgl k hkn;clear af hgl hfl ai;obtain ⟨d,b',hd,af,e1,e2,e3⟩:=sub64_nat al an ak;have aa:=sub64 (f k) (g k) cc (by omega) (by omega) (by unfold W64 at an;omega) (by omega) (by omega);simp only[e1,e2] at aa;clear e1 e2;have E3:=hid e3;clear e3;go_wp2;clear aa h1 h2 ah am;go_roundw
    case rel=>
     exact ⟨k+1,b',upd o k d,by omega,by go_num,rfl,af,ad.set k d,upd_lt HO.out hd,sub_digit ae.out (by rw[padded_in hkn];exact E3.out),ac.setCell (Nat.le_of_eq hB.out.symm) _⟩
    case measure=>simp[intOf];omega
   ·clear af hgl hfl ai;obtain ⟨d,b',hd,af,e1,e2,e3⟩:=sub64_nat (y:=0) al (by decide) ak;have aa:=sub64 (f k) 0 cc (by omega) (by omega) (by omega) (by omega) (by omega);simp only[Int.natCast_zero,Int.ofNat_zero,Int.sub_zero] at e1 e2 aa;simp only[e1,e2] at aa;clear e1 e2;replace e3:=hid e3;go_wp2;clear aa h1 ah am;go_roundw
    case rel=>
     exact ⟨k+1,b',upd o k d,by omega,by go_num,rfl,af,ad.set k d,upd_lt HO.out hd,sub_digit ae.out (by rw[padded_out hkn];exact e3.out),ac.setCell (Nat.le_of_eq hB.out.symm) _⟩
    case measure=>simp[intOf];omega
  ·obtain rfl:k=m:=by omega
   clear ha hb;go_wp2_with fail;refine (trim_calls _ _ _ _ _ (Nat.le_refl _) (by omega) (by simp) ad.rd (fun i _=>ai i)).mono ?_;rintro e w' ⟨rfl,v,n',rfl,hw,hv⟩;replace hv:=hid hv;go_wp2_with fail;go_ret;refine ⟨v,n',_,ac,rfl,hw,?_⟩;have h1:=ae.out;have h2:=aj.out;have h3:vf W64 o k < W64^k:=vf_lt fun i _=>ai i;rw[vf_padded hnm] at h1;rw[hv.out]
   have h4:cc=0:=by
    rcases Nat.eq_zero_or_pos cc with h | h
    ·exact h
    ·obtain rfl:cc=1:=by omega
     rw[Nat.one_mul]at h1;omega
   subst h4;omega
theorem subWords_calls (va vb:Value)(m n:Nat)(f g:Nat→Nat)(w:World)(hm:m≤1000000)(ha:Wds w va m f)(hb:Wds w vb n g)(hle:vf W64 g n≤vf W64 f m):
  Calls prog 185 #[va,vb] w fun e w'=>∃ v k h,New w w'∧e=.returned v∧Wds w' v k h∧vf W64 h k=vf W64 f m - vf W64 g n:=by
 obtain ⟨a,ca,⟨rfl,a1,a2,a3⟩,ra,cf⟩:=ha;obtain ⟨b,cb,⟨rfl,b1,b2,b3⟩,rb,cg⟩:=hb
 have aa:n≤m:=by
  rcases Nat.lt_or_ge m n with h | h
  ·have:=cf.lt_of_len cg (by decide) h;omega
  ·exact h
 exact subWords_any a b m n ca cb f g w hm aa ra rb cf.lt cg.lt hle
theorem add64_ex (x y c:Nat)(hx:x < W64)(hy:y < W64)(hc:c≤1):∃ d c':Nat,d < W64∧c'≤1∧d+W64*c'=x+y+c∧
  ∀ w,(callFunc 225 #[.int .u64 x,.int .u64 y,.int .u64 c]).run prog w=.ok (.value (.tuple #[.int .u64 d,.int .u64 c'])) w:=by
 unfold W64 at *;refine ⟨(x+y+c) % 18446744073709551616,(x+y+c) / 18446744073709551616,by omega,by omega,by omega,fun w=>?_⟩;have:=add64 x y c (by omega) (by omega) (by omega) (by omega) w;rw[this];congr 5 <;> omega
theorem add64_ex0 (x y:Nat)(hx:x < W64)(hy:y < W64):∃ d c':Nat,d < W64∧c'≤1∧d+W64*c'=x+y∧
  ∀ w,(callFunc 225 #[.int .u64 x,.int .u64 y,.int .u64 0]).run prog w=.ok (.value (.tuple #[.int .u64 d,.int .u64 c'])) w:=
 add64_ex x y 0 hx hy (by omega)
theorem mul64_ex (x y:Nat)(hx:x < W64)(hy:y < W64):∃ hi lo:Nat,lo < W64∧hi+2≤W64∧lo+W64*hi=x*y∧
  ∀ w,Calls prog 215 #[.int .u64 x,.int .u64 y] w fun e w'=>e=.returned (.tuple #[.int .u64 hi,.int .u64 lo])∧w=w':=by
 refine ⟨x*y / W64,x*y % W64,Nat.mod_lt _ (by decide),?_,Nat.mod_add_div _ _,fun w=>(Tryz.bits_Mul64 x y hx hy w).mono fun e w' ⟨h1,h2⟩=>⟨h1,h2.symm⟩⟩;have h1:x*y≤18446744073709551615*18446744073709551615:=Nat.mul_le_mul (by unfold W64 at hx;omega) (by unfold W64 at hy;omega);unfold W64;omega
theorem mulWords_any (a b:Option Addr)(m n ca cb:Nat)(f g:Nat→Nat)(w:World)(hm:m≤1000000)(hn:n≤1000000)(ha:Rd w a .u64 m f)(hb:Rd w b .u64 n g)(hfl:∀ i,i < m→f i < W64)(hgl:∀ i,i < n→g i < W64):
  Calls prog 217 #[.slice a m ca,.slice b n cb] w fun e w'=>∃ v k h,New w w'∧e=.returned v∧Wds w' v k h∧vf W64 h k=vf W64 f m*vf W64 g n:=by
 have ar:=fun W=>run_make_row' (P:=prog) 111 198 (.int .u64 0) 8 underlying111 info_u64 rfl .i64 .i64 (m+n) (by omega) (by omega) W;rw[show ((m+n:Nat):Int)=(m:Int)+n by omega] at ar;go_in;go_wp2;clear ar;obtain ⟨B,hB⟩:∃ B,B=w.heap.size:=⟨_,rfl⟩;have ac:=Row.made w .u64 (m+n) 198;have af:New w (w.alloc (.cells (madeCells #[.int .u64 0] (m+n)) 198)):=(New.refl w).alloc _;rw[←hB] at ac⊢;generalize w.alloc (.cells (madeCells #[.int .u64 0] (m+n)) 198)=w0 at ac af⊢;replace hB:=hid hB;go_loopw [22] (fun i wr=>∃ (k:Nat) (o:Nat→Nat),k≤m∧i=.int .i64 k∧Row wr B 198 .u64 (m+n) o∧(∀ j,o j < W64)∧(∀ j,k+n≤j→o j=0)∧vf W64 o (m+n)=vf W64 f k*vf W64 g n∧New w wr) (fun i _=>m - (intOf i).toNat)
 case atStart=>exact ⟨0,fun _=>0,Nat.zero_le _,rfl,ac,fun _=>by simp[W64],fun _ _=>rfl,by rw[vf_zeros (fun _ _=>rfl),vf_zero,Nat.zero_mul],af⟩
 case round=>
  obtain ⟨k,o,hk,rfl,aa,au,hz,ad,ab⟩:=hrel;refine zh3 ?_ ad hz au;clear ad ac af hz au;intro HV HZ HO;by_cases hkm:k < m
  ·obtain ⟨b1,o1,rfl,h1⟩:=(ha.new ab) k hkm;have ao:=hfl k hkm;go_wp2;obtain ⟨wo,rfl⟩:∃ wo:World,wo=wr:=⟨_,rfl⟩;go_loopw [8,29] (fun c i wr=>∃ (j cc:Nat) (p:Nat→Nat),j≤n∧i=.int .i64 j∧c=.int .u64 cc∧cc < W64∧Row wr B 198 .u64 (m+n) p∧(∀ j,p j < W64)∧(∀ j,k+n≤j→p j=0)∧vf W64 p (m+n)+cc*W64^(k+j)=vf W64 f k*vf W64 g n+f k*vf W64 g j*W64^k∧New w wr) (fun _ i _=>n - (intOf i).toNat)
   case atStart=>exact ⟨0,0,o,Nat.zero_le _,rfl,rfl,by decide,aa,HO.out,HZ.out,by rw[HV.out];simp[vf_zero],ab⟩
   case round=>
    clear aa ab HO HZ HV;obtain ⟨j,cc,p,hj,rfl,rfl,an,aa,ai,av,ad,ab⟩:=hrel;refine zh3 ?_ ad ai av;clear ad av;intro HV HP HZ;have a1:=ab;by_cases hjn:j < n
    ·obtain ⟨b2,o2,rfl,h2⟩:=(hb.new ab) j hjn;have ap:=hgl j hjn;have a5:=ai (k+j);clear ha hb hgl hfl ai;have ae:=aa.cell (i:=k+j) (by omega);have am:=aa.frozen (k+j);obtain ⟨hi,lo,a4,a8,ah,aj⟩:=mul64_ex (f k) (g j) ao ap;obtain ⟨d1,c1,a2,a6,aw,ak⟩:=add64_ex0 lo (p (k+j)) a4 a5;obtain ⟨d2,c2,a3,a7,ax,al⟩:=add64_ex0 d1 cc a2 an
     have ag:hi+c1+c2 < W64:=by
      have h3:f k*g j≤18446744073709551615*18446744073709551615:=Nat.mul_le_mul (by unfold W64 at ao;omega) (by unfold W64 at ap;omega);unfold W64 at *;omega
     refine zh4 ?_ aw ax ah aj;clear aw ax ah aj;intro az a0 HM ay
     have b1:(hi:Int)+c1 < 18446744073709551616:=by unfold W64 at ag;omega
     have b2:(hi:Int)+c1+c2 < 18446744073709551616:=by unfold W64 at ag;omega
     go_wp2_with (go_at_call 215;refine (ay _).mono ?_;rintro e w' ⟨rfl,rfl⟩);clear ak al h1 h2 ae am b1 b2;go_roundw
     case rel=>
      refine ⟨j+1,hi+c1+c2,upd p (k+j) d2,by omega,by go_num,by go_num,ag,aa.set _ _,upd_lt HP.out a3,fun i aq=>?_,?_,ab.setCell (Nat.le_of_eq hB.out.symm) _⟩
      ·rw[upd_other _ _ (by omega)];exact HZ i aq
      ·refine mul_step (by omega) HV ?_;have e1:=az.out;have e2:=a0.out;have e3:=HM.out;unfold W64 at *;omega
     case measure=>simp[intOf];omega
    ·obtain rfl:j=n:=by omega
     have ae:=aa.cell (i:=k+j) (by omega);have am:=aa.frozen (k+j);clear ai ha hb hfl hgl;go_wp2;clear ae am h1 a1;go_roundw
     case rel=>
      refine ⟨k+1,upd p (k+j) cc,by omega,by go_num,aa.set _ _,upd_lt HP.out an,fun i aq=>?_,?_,ab.setCell (Nat.le_of_eq hB.out.symm) _⟩
      ·rw[upd_other _ _ (by omega)];exact HZ i (by omega)
      ·have e1:=HV.out;have e2:=vf_upd (B:=W64) (f:=p) (v:=cc) (show k+j < m+j by omega);rw[HZ.out (k+j) (by omega),Nat.zero_mul] at e2
       have e3:f k*vf W64 g j*W64^k=f k*W64^k*vf W64 g j:=by rw[Nat.mul_assoc,Nat.mul_comm (vf W64 g j),←Nat.mul_assoc]
       rw[vf_succ,Nat.add_mul,←e3];omega
     case measure=>simp[intOf];omega
  ·obtain rfl:k=m:=by omega
   go_wp2_with fail;refine (trim_calls _ _ _ _ _ (Nat.le_refl _) (by omega) (by simp) aa.rd (fun i _=>HO i)).mono ?_;rintro e w' ⟨rfl,v,n',rfl,hw,hv⟩;replace hv:=hid hv;go_wp2_with fail;go_ret;exact ⟨v,n',_,ab,rfl,hw,by rw[hv.out,HV.out]⟩
theorem mulWords_calls (va vb:Value)(m n:Nat)(f g:Nat→Nat)(w:World)(hm:m≤1000000)(hn:n≤1000000)(ha:Wds w va m f)(hb:Wds w vb n g):
  Calls prog 217 #[va,vb] w fun e w'=>∃ v k h,New w w'∧e=.returned v∧Wds w' v k h∧vf W64 h k=vf W64 f m*vf W64 g n:=by
 obtain ⟨a,ca,⟨rfl,a1,a2,a3⟩,ra,cf⟩:=ha;obtain ⟨b,cb,⟨rfl,b1,b2,b3⟩,rb,cg⟩:=hb;exact mulWords_any a b m n ca cb f g w hm hn ra rb cf.lt cg.lt
theorem wrap_u64_nat (n:Nat):IntKind.u64.wrap (n:Int)=((n % W64:Nat):Int):=by
 have:=IntKind.wrap_u64 (n:Int);unfold W64;rw[this];omega
theorem pow_le_w64 {s:Nat}(hs:s < 64):2^s≤W64:=Nat.pow_le_pow_right (by omega) (by omega:s≤64)
theorem w64_split {s:Nat}(hs:s < 64):W64=2^(64 - s)*2^s:=by
 rw[←Nat.pow_add,Nat.sub_add_cancel (by omega)]
theorem shl_or {s x c:Nat}(hs:s < 64)(hc:c < 2^s):bits .or .u64 (c:Int) (IntKind.u64.wrap ((x:Int)*2^s))=((x*2^s % W64+c:Nat):Int):=by
 have e1:((x:Int)*2^s)=((x*2^s:Nat):Int):=by rw[Int.natCast_mul,Int.natCast_pow];rfl
 have aa:c < 18446744073709551616:=Nat.lt_of_lt_of_le hc (pow_le_w64 hs);have ab:x*2^s % W64 < 18446744073709551616:=Nat.mod_lt _ (by decide);rw[e1,wrap_u64_nat,u64_or_nat c _ aa ab];congr 1
 have e2:x*2^s % W64=2^s*(x % 2^(64 - s)):=by rw[w64_split hs,Nat.mul_mod_mul_right,Nat.mul_comm]
 rw[e2,Nat.or_comm,←Nat.two_pow_add_eq_or_of_lt hc]
theorem shr_left {s x:Nat}(hs:s < 64):x / 2^(64 - s)=x*2^s / W64:=by
 rw[w64_split hs,Nat.mul_div_mul_right _ _ (Nat.pow_pos (by omega))]
theorem shr_cast {s x:Nat}:(x:Int) / 2^(64 - s)=((x / 2^(64 - s):Nat):Int):=by
 rw[Int.natCast_ediv,Int.natCast_pow];rfl
theorem shr_lt {s x:Nat}(hs:s < 64)(hx:x < W64):x / 2^(64 - s) < 2^s:=by
 rw[Nat.div_lt_iff_lt_mul (Nat.pow_pos (by omega)),Nat.mul_comm,←w64_split hs];exact hx
theorem shl_digit {k M c x lo c':Nat}{o f:Nat→Nat}(h:vf W64 o (k+1)=vf W64 f k*M)(hc:o k=c)(hx:f k=x)(hs:lo+W64*c'=x*M+c):
  vf W64 (upd (upd o k lo) (k+1) c') (k+1+1)=vf W64 f (k+1)*M:=by
 rw[vf_succ,upd_same,vf_upd_above (Nat.le_refl _)];refine shl_step (o:=upd o k lo) (w:=f) (c:=c) ?_ ?_
 ·rw[vf_upd_above (Nat.le_refl _),←h,vf_succ,hc]
 ·rw[upd_same,hx];exact hs
theorem shiftUp_any (a:Option Addr)(m ca s:Nat)(f:Nat→Nat)(w:World)(hm:m≤1000000)(hs:s < 64)(ha:Rd w a .u64 m f)(hfl:∀ i,i < m→f i < W64):
  Calls prog 257 #[.slice a m ca,.int .i64 s] w fun e w'=>∃ h,e=.returned (.slice (some ⟨w.heap.size,0,none⟩) (m+1) (m+1))∧New w w'∧Row w' w.heap.size 198 .u64 (m+1) h∧(∀ j,h j < W64)∧vf W64 h (m+1)=vf W64 f m*2^s:=by
 have an:=fun W=>run_make_row' (P:=prog) 111 198 (.int .u64 0) 8 underlying111 info_u64 rfl .i64 .i64 (m+1) (by omega) (by omega) W;rw[show ((m+1:Nat):Int)=(m:Int)+1 by omega] at an
 have aj:s=0∨0 < s:=by omega
 rcases aj with rfl | ap
 all_goals
  go_in;go_wp2;clear an;obtain ⟨B,hB⟩:∃ B,B=w.heap.size:=⟨_,rfl⟩;have ab:=Row.made w .u64 (m+1) 198;have ad:New w (w.alloc (.cells (madeCells #[.int .u64 0] (m+1)) 198)):=(New.refl w).alloc _;rw[←hB] at ab⊢;generalize w.alloc (.cells (madeCells #[.int .u64 0] (m+1)) 198)=w0 at ab ad⊢;replace hB:=hid hB
 ·go_loopw [14] (fun i wr=>∃ (k:Nat) (o:Nat→Nat),k≤m∧i=.int .i64 k∧Row wr B 198 .u64 (m+1) o∧(∀ j,o j < W64)∧(∀ j,k≤j→o j=0)∧vf W64 o k=vf W64 f k∧New w wr) (fun i _=>m - (intOf i).toNat)
  case atStart=>exact ⟨0,fun _=>0,Nat.zero_le _,rfl,ab,fun _=>by simp[W64],fun _ _=>rfl,rfl,ad⟩
  case round=>
   obtain ⟨k,o,hk,rfl,aa,ag,hz,ae,ac⟩:=hrel;refine zh3 ?_ ae hz ag;clear ae ab ad hz;intro HV HZ HO;by_cases hkm:k < m
   ·obtain ⟨b1,o1,rfl,h1⟩:=(ha.new ac) k hkm;have ai:=hfl k hkm;have af:=aa.cell (i:=k) (by omega);have ak:=aa.frozen k;clear ha hfl ag;go_wp2
    go_region
    go_wp2;clear af ak h1;go_roundw
    case rel=>
     have e:=shl_or (s:=0) (x:=f k) (c:=o k) (by omega) (by rw[HZ.out k (Nat.le_refl _)];decide);simp only[Int.pow_zero,Int.mul_one,Nat.pow_zero,Nat.mul_one] at e;rw[HZ.out k (Nat.le_refl _),Nat.mod_eq_of_lt ai,Nat.add_zero] at e;refine ⟨k+1,upd o k (f k),by omega,by go_num,?_,upd_lt HO.out ai,fun j hj=>?_,?_,(ac.setCell (Nat.le_of_eq hB.out.symm) _).drew⟩
     ·refine Row.drew (row_int aa ?_);rw[HZ.out k (Nat.le_refl _)]
      first | exact e | (simp only[Int.pow_zero,Int.mul_one];exact e)
     ·rw[upd_other _ _ (by omega)];exact HZ j (by omega)
     ·rw[vf_succ,upd_same,vf_upd_above (Nat.le_refl _),HV.out,vf_succ]
    case measure=>simp[intOf];omega
   ·obtain rfl:k=m:=by omega
    clear ag ha hfl;go_wp2;go_ret;refine ⟨o,by rw[hB.out];rfl,ac,by rw[←hB.out];exact aa,HO.out,?_⟩;rw[vf_succ,HZ.out k (Nat.le_refl _),HV.out];simp
 ·go_loopw [14] (fun i wr=>∃ (k:Nat) (o:Nat→Nat),k≤m∧i=.int .i64 k∧Row wr B 198 .u64 (m+1) o∧(∀ j,o j < W64)∧o k < 2^s∧vf W64 o (k+1)=vf W64 f k*2^s∧New w wr) (fun i _=>m - (intOf i).toNat)
  case atStart=>exact ⟨0,fun _=>0,Nat.zero_le _,rfl,ab,fun _=>by simp[W64],Nat.pow_pos (by omega),by simp[vf],ad⟩
  case round=>
   obtain ⟨k,o,hk,rfl,aa,ag,hz,ae,ac⟩:=hrel;refine zh3 ?_ ae hz ag;clear ae ab ad hz;intro HV HZ HO;by_cases hkm:k < m
   ·obtain ⟨b1,o1,rfl,h1⟩:=(ha.new ac) k hkm;have ai:=hfl k hkm;have af:=aa.cell (i:=k) (by omega);have ak:=aa.frozen k;have ah:=aa.cell (i:=k+1) (by omega);have al:=aa.frozen (k+1);clear ha hfl ag;go_wp2
    go_region
    go_wp2;clear af ak ah al h1;go_roundw
    case rel=>
     have e:=shl_or (s:=s) (x:=f k) (c:=o k) hs HZ.out
     have ao:f k*2^s % W64+o k < W64:=by
      have h1:f k*2^s % W64=2^s*(f k % 2^(64 - s)):=by rw[w64_split hs,Nat.mul_mod_mul_right,Nat.mul_comm]
      have h2:f k % 2^(64 - s)+1≤2^(64 - s):=Nat.mod_lt _ (Nat.pow_pos (by omega));have h3:2^s*(f k % 2^(64 - s)+1)≤2^s*2^(64 - s):=Nat.mul_le_mul_left _ h2;rw[Nat.mul_add,Nat.mul_one,Nat.mul_comm _ (2^(64 - s)),←w64_split hs] at h3;have:=HZ.out;omega
     have am:=shr_lt hs ai;refine ⟨k+1,upd (upd o k (f k*2^s % W64+o k)) (k+1) (f k / 2^(64 - s)),by omega,by go_num,?_,upd_lt (upd_lt HO.out ao) ?_,?_,?_,((ac.setCell (Nat.le_of_eq hB.out.symm) _).setCell (Nat.le_of_eq hB.out.symm) _).drew⟩
     ·exact Row.drew (row_int (row_int aa e) shr_cast)
     ·exact Nat.lt_of_lt_of_le am (pow_le_w64 hs)
     ·rw[upd_same];exact am
     ·refine shl_digit HV rfl rfl ?_;rw[shr_left hs];have:=Nat.mod_add_div (f k*2^s) W64;omega
    case measure=>simp[intOf];omega
   ·obtain rfl:k=m:=by omega
    clear ag ha hfl;go_wp2;go_ret;exact ⟨o,by rw[hB.out];rfl,ac,by rw[←hB.out];exact aa,HO.out,HV.out⟩
abbrev B32:Nat:=4294967296
structure Half (u d v yn1 yn0 q r:Nat):Prop where
 rest:q*yn1+r=u
 ge:u*B32+d < (q+1)*v
 le:q≤B32+1
 small:r < B32
structure Done (u d v q:Nat):Prop where
 le:q*v≤u*B32+d
 ge:u*B32+d < (q+1)*v
section
variable {u d v yn1 yn0 q r:Nat} (hv:v=yn1*B32+yn0) (h0:yn0 < B32) (h1:B32≤2*yn1) (h1':yn1 < B32) (hu:u < v) (hd:d < B32)
include hv h0 h1 h1' hu hd in
theorem Half.start:Half u d v yn1 yn0 (u / yn1) (u - u / yn1*yn1):=by
 have aa:0 < yn1:=by omega
 have e1:=Nat.div_mul_le_self u yn1;have e2:u < u / yn1*yn1+yn1:=Nat.lt_div_mul_add aa;refine ⟨by omega,?_,?_,by omega⟩
 ·rw[Nat.add_mul,Nat.one_mul]
  have h2:u / yn1*v=u / yn1*yn1*B32+u / yn1*yn0:=by rw[hv,Nat.mul_add,Nat.mul_assoc]
  rw[h2];unfold B32 at *;omega
 ·have:u / yn1 < B32+2:=by
   rw[Nat.div_lt_iff_lt_mul aa];rw[Nat.add_mul,Nat.mul_comm B32];omega
  omega
include hv hu hd in
theorem Half.down (h:Half u d v yn1 yn0 q r)(ht:B32≤q∨B32*r+d < q*yn0):0 < q∧u*B32+d < (q - 1+1)*v:=by
 have aa:u*B32+d < q*v:=by
  rcases ht with ht | ht
  ·have:B32*v≤q*v:=Nat.mul_le_mul_right _ ht;have h2:(u+1)*B32≤v*B32:=Nat.mul_le_mul_right _ hu;rw[Nat.add_mul,Nat.mul_comm v] at h2;omega
  ·have e:q*v=q*yn1*B32+q*yn0:=by rw[hv,Nat.mul_add,Nat.mul_assoc]
   have h3:u*B32=q*yn1*B32+r*B32:=by rw[←h.rest,Nat.add_mul]
   rw[e,h3,Nat.mul_comm r B32];omega
 have hq:0 < q:=by
  rcases Nat.eq_zero_or_pos q with e | e
  ·subst e;omega
  ·exact e
 exact ⟨hq,by rw[Nat.sub_add_cancel hq];exact aa⟩
include hv in
theorem Half.fits (h:Half u d v yn1 yn0 q r)(ht:q*yn0≤B32*r+d):Done u d v q:=by
 refine ⟨?_,h.ge⟩
 have e:q*v=q*yn1*B32+q*yn0:=by rw[hv,Nat.mul_add,Nat.mul_assoc]
 have h3:u*B32=q*yn1*B32+r*B32:=by rw[←h.rest,Nat.add_mul]
 rw[e,h3,Nat.mul_comm r B32];omega
include hv h0 hu hd in
theorem Half.next (h:Half u d v yn1 yn0 q r)(ht:B32≤q∨B32*r+d < q*yn0):0 < q∧(r+yn1 < B32→Half u d v yn1 yn0 (q - 1) (r+yn1))∧(B32≤r+yn1→Done u d v (q - 1)):=by
 obtain ⟨hq,aa⟩:=h.down hv hu hd ht;obtain ⟨k,rfl⟩:∃ k,q=k+1:=⟨q - 1,by omega⟩
 have hr:k*yn1+(r+yn1)=u:=by have:=h.rest;rw[Nat.add_mul,Nat.one_mul] at this;omega
 simp only[Nat.add_sub_cancel]at aa⊢;refine ⟨hq,fun h2=>⟨hr,aa,by have:=h.le;omega,h2⟩,fun h2=>⟨?_,aa⟩⟩
 have e:k*v=k*yn1*B32+k*yn0:=by rw[hv,Nat.mul_add,Nat.mul_assoc]
 have h3:u*B32=k*yn1*B32+(r+yn1)*B32:=by rw[←hr,Nat.add_mul]
 have h4:k*yn0≤B32*(B32 - 1):=Nat.mul_le_mul (by have:=h.le;omega) (by omega);have h5:B32*B32≤(r+yn1)*B32:=Nat.mul_le_mul_right _ h2;rw[e,h3];unfold B32 at *;omega
end
theorem Done.lt {u d v q:Nat}(h:Done u d v q)(hu:u < v)(hd:d < B32):q < B32:=by
 have h1:=h.le;have h2:(u+1)*B32≤v*B32:=Nat.mul_le_mul_right _ hu;rcases Nat.lt_or_ge q B32 with h3 | h3
 ·exact h3
 ·have h4:B32*v≤q*v:=Nat.mul_le_mul_right _ h3;rw[Nat.add_mul,Nat.mul_comm v] at h2;omega
theorem Done.rest {u d v q:Nat}(h:Done u d v q):u*B32+d - q*v < v:=by
 have h1:=h.le;have h2:=h.ge;rw[Nat.add_mul,Nat.one_mul] at h2;omega
theorem bits_mask32 (n:Nat)(hn:n < W64):bits .and .u64 (n:Int) 4294967295=((n % B32:Nat):Int):=by
 have:=u64_and_nat n 4294967295 hn (by decide);have e:(n &&& 4294967295)=n % B32:=Nat.and_two_pow_sub_one_eq_mod n 32;rw[e] at this;exact this
theorem shl_in {x s:Nat}(h:x*2^s < W64):IntKind.u64.wrap ((x:Int)*2^s)=((x*2^s:Nat):Int):=by
 have e1:((x:Int)*2^s)=((x*2^s:Nat):Int):=by rw[Int.natCast_mul,Int.natCast_pow];rfl
 rw[e1,wrap_u64_nat,Nat.mod_eq_of_lt h]
theorem shl_mod {x s:Nat}:IntKind.u64.wrap ((x:Int)*2^s)=((x*2^s % W64:Nat):Int):=by
 have e1:((x:Int)*2^s)=((x*2^s:Nat):Int):=by rw[Int.natCast_mul,Int.natCast_pow];rfl
 rw[e1,wrap_u64_nat]
theorem join_high {hi lo s:Nat}(hs:s < 64)(hlo:lo < W64)(h:hi*2^s+2^s≤W64):bits .or .u64 (IntKind.u64.wrap ((hi:Int)*2^s)) ((lo:Int) / 2^(64 - s))=((hi*2^s+lo*2^s / W64:Nat):Int):=by
 have hl:=shr_lt hs hlo;have hp:0 < 2^s:=Nat.pow_pos (by omega);rw[shl_in (by omega),shr_cast,u64_or_nat _ _ (by unfold W64 at h;omega) (by unfold W64 at h;omega)];congr 1;rw[←shr_left hs,Nat.mul_comm hi,←Nat.two_pow_add_eq_or_of_lt hl]
theorem un21_in {u d v q:Nat}(hu:u < W64)(hd:d < B32)(hv:v < W64)(h:Done u d v q):
  IntKind.u64.wrap (IntKind.u64.wrap (IntKind.u64.wrap ((u:Int)*4294967296)+d) - IntKind.u64.wrap ((q:Int)*v))=((u*B32+d - q*v:Nat):Int):=by
 have h1:=h.le;have h2:=h.rest
 have e:((q:Int)*v)=((q*v:Nat):Int):=by rw[Int.natCast_mul]
 rw[e];generalize q*v=p at *;simp only[IntKind.wrap_u64];unfold B32 W64 at *;omega
end Go.Proofs.YtnjonlnemagomaaGreatDoor
