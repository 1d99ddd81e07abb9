/- Part A01. -/
import Derived.Shelf.Strings.Builder1
import Derived.Shelf.Strings.Builder2
import Derived.Shelf.Strings.Trim
import Derived.Shelf.Small.Utf8
import Derived.Shelf.Small.Bits
import Derived.Shelf.Small.Strs
import Derived.Shelf.Small.Wraps
import Derived.Shelf.Strings.BuilderF
import Derived.Shelf.Strings.BuilderK
import Derived.Shelf.Strconv.Atoi
import Derived.Shelf.Strconv.Itoa0
import Derived.Shelf.Strconv.Itoa1
import Derived.Shelf.LaysM
import Derived.Shelf.Strconv.Itoa2
import Derived.Shelf.Strconv.Itoa3
import Derived.Shelf.Strconv.AtoiErrFast
import Derived.Shelf.Strconv.ParseIntEmpty
import Derived.Shelf.Strconv.AtoiFail
import Derived.Shelf.Strconv.Clone
import Derived.Shelf.Strconv.SyntaxError
import Derived.Shelf.LaysC
import Derived.Shelf.Strconv.ToError
import Derived.Shelf.Strconv.Lower
import Derived.Shelf.Strconv.ParseUint10
import Derived.Shelf.Strconv.ParseUint10Empty
import Derived.Shelf.Strconv.ParseUint10Any
import Derived.Shelf.Strconv.ParseInt10
import Derived.Shelf.Strconv.AtoiLong
import Derived.Shelf.Strconv.AtoiInnerAll
import Derived.Shelf.Strconv.RangeError
import Derived.Shelf.Strconv.ToErrorRange
import Derived.Shelf.Strconv.AtoiAll
import Derived.Shelf.Strings.Search1
import Derived.Shelf.Strings.Search2
import Derived.Shelf.Strings.Cut
import Derived.Shelf.Strings.Shaped
import Derived.Shelf.Strings.Prefix
import Derived.Shelf.Strings.Runes
import Derived.Shelf.Strings.AsciiSet
import Derived.Shelf.Bits.Mul64
import Derived.Shelf.Strings.Repeat
import Derived.Shelf.Unicode.DecodeSlow
import Derived.Shelf.Unicode.DecodeAny
import Derived.Shelf.Unicode.DecodeLast
import Derived.WalkKit
import Derived.Lib.Hide
import Derived.WalkSpells
import Derived.WalkLawsBesides
import Derived.Deep.QuietTactic
import Derived.BigQuiet
import Derived.Deep.OwnRows
import Derived.Deep.Draws
import Derived.Deep.RegionWith
import Derived.Test.YtlfnibjmkfldgaaGreatDoorProg
namespace Go.Proofs
open Go.Shelf
def Tryz.lays160_ren : Go.Shelf.Ren := ⟨fun | 160 => 133 | 232 => 163 | 231 => 162 | 227 => 164 | 234 => 166 | 233 => 165 | 236 => 168 | 235 => 167 | 228 => 197 | 271 => 200 | 151 => 199 | 197 => 198 | 120 => 219 | 152 => 218 | 260 => 217 | 137 => 228 | 119 => 229 | 224 => 195 | 225 => 194 | 217 => 193 | 266 => 215 | n => n, fun | 9 => 9 | 4 => 4 | 3 => 3 | 5 => 5 | 117 => 214 | 116 => 213 | 0 => 0 | 124 => 217 | 21 => 21 | 105 => 239 | 46 => 219 | 119 => 273 | 139 => 276 | 138 => 275 | n => n, fun | 3 => 7 | 4 => 8 | n => n⟩
theorem Tryz.lays160 : Go.Proofs.Lays.n160 Tryz.prog Tryz.lays160_ren := {
 mixed := by kernel_rfl
 f119 := Tryz.func229.trans (congrArg some (by kernel_rfl))
 f120 := Tryz.func219.trans (congrArg some (by kernel_rfl))
 f137 := Tryz.func228.trans (congrArg some (by kernel_rfl))
 f151 := Tryz.func199.trans (congrArg some (by kernel_rfl))
 f152 := Tryz.func218.trans (congrArg some (by kernel_rfl))
 f160 := Tryz.func133.trans (congrArg some (by kernel_rfl))
 f197 := Tryz.func198.trans (congrArg some (by kernel_rfl))
 f217 := Tryz.func193.trans (congrArg some (by kernel_rfl))
 f224 := Tryz.func195.trans (congrArg some (by kernel_rfl))
 f225 := Tryz.func194.trans (congrArg some (by kernel_rfl))
 f227 := Tryz.func164.trans (congrArg some (by kernel_rfl))
 f228 := Tryz.func197.trans (congrArg some (by kernel_rfl))
 f231 := Tryz.func162.trans (congrArg some (by kernel_rfl))
 f232 := Tryz.func163.trans (congrArg some (by kernel_rfl))
 f233 := Tryz.func165.trans (congrArg some (by kernel_rfl))
 f234 := Tryz.func166.trans (congrArg some (by kernel_rfl))
 f235 := Tryz.func167.trans (congrArg some (by kernel_rfl))
 f236 := Tryz.func168.trans (congrArg some (by kernel_rfl))
 f260 := Tryz.func217.trans (congrArg some (by kernel_rfl))
 f266 := Tryz.func215.trans (congrArg some (by kernel_rfl))
 f271 := Tryz.func200.trans (congrArg some (by kernel_rfl))
 t0 := Tryz.underlying0
 a0 := Tryz.isAgg0
 z0 := Tryz.sizeOf0
 v0 := Tryz.zeroValue0
 t3 := Tryz.underlying3
 a3 := Tryz.isAgg3
 z3 := Tryz.sizeOf3
 v3 := Tryz.zeroValue3
 t4 := Tryz.underlying4
 a4 := Tryz.isAgg4
 z4 := Tryz.sizeOf4
 v4 := Tryz.zeroValue4
 t5 := Tryz.underlying5
 a5 := Tryz.isAgg5
 z5 := Tryz.sizeOf5
 v5 := Tryz.zeroValue5
 t9 := Tryz.underlying9
 a9 := Tryz.isAgg9
 z9 := Tryz.sizeOf9
 v9 := Tryz.zeroValue9
 t21 := Tryz.underlying21
 a21 := Tryz.isAgg21
 z21 := Tryz.sizeOf21
 v21 := Tryz.zeroValue21
 t46 := Tryz.underlying219
 a46 := Tryz.isAgg219
 z46 := Tryz.sizeOf219
 v46 := Tryz.zeroValue219
 t105 := Tryz.underlying239
 a105 := Tryz.isAgg239
 z105 := Tryz.sizeOf239
 v105 := Tryz.zeroValue239
 t116 := Tryz.underlying213
 a116 := Tryz.isAgg213
 z116 := Tryz.sizeOf213
 t117 := Tryz.underlying214
 a117 := Tryz.isAgg214
 z117 := Tryz.sizeOf214
 v117 := Tryz.zeroValue214
 t119 := Tryz.underlying273
 a119 := Tryz.isAgg273
 z119 := Tryz.sizeOf273
 t124 := Tryz.underlying217
 a124 := Tryz.isAgg217
 z124 := Tryz.sizeOf217
 v124 := Tryz.zeroValue217
 t138 := Tryz.underlying275
 a138 := Tryz.isAgg275
 z138 := Tryz.sizeOf275
 v138 := Tryz.zeroValue275
 t139 := Tryz.underlying276
 a139 := Tryz.isAgg276
 z139 := Tryz.sizeOf276
 v139 := Tryz.zeroValue276
 g3 := by kernel_rfl
 g4 := by kernel_rfl }
def Tryz.lays134_ren : Go.Shelf.Ren := ⟨fun | 134 => 184 | 129 => 181 | n => n, fun | 53 => 191 | 3 => 3 | 4 => 4 | 46 => 219 | 5 => 5 | 9 => 9 | n => n, fun | n => n⟩
theorem Tryz.lays134 : Go.Proofs.Lays.n134 Tryz.prog Tryz.lays134_ren := {
 mixed := by kernel_rfl
 f129 := Tryz.func181.trans (congrArg some (by kernel_rfl))
 f134 := Tryz.func184.trans (congrArg some (by kernel_rfl))
 t3 := Tryz.underlying3
 a3 := Tryz.isAgg3
 z3 := Tryz.sizeOf3
 v3 := Tryz.zeroValue3
 t4 := Tryz.underlying4
 a4 := Tryz.isAgg4
 z4 := Tryz.sizeOf4
 v4 := Tryz.zeroValue4
 t5 := Tryz.underlying5
 a5 := Tryz.isAgg5
 z5 := Tryz.sizeOf5
 v5 := Tryz.zeroValue5
 t9 := Tryz.underlying9
 a9 := Tryz.isAgg9
 z9 := Tryz.sizeOf9
 v9 := Tryz.zeroValue9
 t46 := Tryz.underlying219
 a46 := Tryz.isAgg219
 z46 := Tryz.sizeOf219
 v46 := Tryz.zeroValue219
 t53 := Tryz.underlying191
 a53 := Tryz.isAgg191
 z53 := Tryz.sizeOf191
 v53 := Tryz.zeroValue191 }
theorem Tryz.bits_LeadingZeros64 (x : Int) (w : World) (h0 : 0 ≤ x) (h1 : x ≤ 18446744073709551615) :
  Calls Tryz.prog 184 #[.int .u64 x] w fun e w' => e = .returned (.int .i64 (64 - (Lib.bitLen x.toNat : Int))) ∧ w' = w := Any.bits_LeadingZeros64 Tryz.lays134 x w h0 h1
def Tryz.lays103_ren : Go.Shelf.Ren := ⟨fun | 103 => 109 | 210 => 131 | 206 => 160 | n => n, fun | 9 => 9 | 4 => 4 | 24 => 164 | 3 => 3 | n => n, fun | n => n⟩
theorem Tryz.lays103 : Go.Proofs.Lays.n103 Tryz.prog Tryz.lays103_ren := {
 mixed := by kernel_rfl
 f103 := Tryz.func109.trans (congrArg some (by kernel_rfl))
 f206 := Tryz.func160.trans (congrArg some (by kernel_rfl))
 f210 := Tryz.func131.trans (congrArg some (by kernel_rfl))
 t3 := Tryz.underlying3
 a3 := Tryz.isAgg3
 z3 := Tryz.sizeOf3
 v3 := Tryz.zeroValue3
 t4 := Tryz.underlying4
 a4 := Tryz.isAgg4
 z4 := Tryz.sizeOf4
 v4 := Tryz.zeroValue4
 t9 := Tryz.underlying9
 a9 := Tryz.isAgg9
 z9 := Tryz.sizeOf9
 v9 := Tryz.zeroValue9
 t24 := Tryz.underlying164
 a24 := Tryz.isAgg164
 z24 := Tryz.sizeOf164
 v24 := Tryz.zeroValue164 }
open Go.RowKit in
theorem Tryz.strings_CutPrefix (s p : ByteArray) (w : World) :
  Calls Tryz.prog 109 #[.string s, .string p] w fun e w' => e = .returned (.tuple #[.string ⟨(Lib.trimPrefix s.data.toList p.data.toList).toArray⟩, .bool (Lib.hasPrefix s.data.toList p.data.toList)]) ∧ w' = w := Any.strings_CutPrefix Tryz.lays103 s p w
def Tryz.lays172_ren : Go.Shelf.Ren := ⟨fun | 172 => 138 | 244 => 170 | 245 => 171 | 247 => 201 | 279 => 202 | 280 => 203 | 281 => 204 | 282 => 205 | 287 => 220 | 316 => 221 | 171 => 151 | 205 => 222 | 321 => 230 | 322 => 231 | 243 => 182 | 246 => 207 | 283 => 208 | 284 => 209 | 285 => 210 | 286 => 211 | 129 => 181 | 317 => 223 | 318 => 224 | 319 => 225 | 320 => 226 | 337 => 232 | 338 => 233 | n => n, fun | 9 => 9 | 3 => 3 | 75 => 188 | 76 => 189 | 4 => 4 | 5 => 5 | 167 => 242 | 37 => 206 | 0 => 0 | 85 => 243 | 2 => 2 | 168 => 245 | 53 => 191 | 175 => 261 | 46 => 219 | 210 => 265 | 127 => 236 | 145 => 281 | 143 => 279 | 21 => 21 | 171 => 250 | 173 => 252 | 212 => 268 | 51 => 254 | 20 => 20 | 213 => 269 | 232 => 283 | 233 => 284 | 80 => 182 | n => n, fun | 15 => 4 | 16 => 5 | 17 => 6 | 18 => 9 | 19 => 10 | n => n⟩
theorem Tryz.lays172 : Go.Proofs.Lays.n172 Tryz.prog Tryz.lays172_ren := {
 mixed := by kernel_rfl
 f129 := Tryz.func181.trans (congrArg some (by kernel_rfl))
 f171 := Tryz.func151.trans (congrArg some (by kernel_rfl))
 f172 := Tryz.func138.trans (congrArg some (by kernel_rfl))
 f205 := Tryz.func222.trans (congrArg some (by kernel_rfl))
 f243 := Tryz.func182.trans (congrArg some (by kernel_rfl))
 f244 := Tryz.func170.trans (congrArg some (by kernel_rfl))
 f245 := Tryz.func171.trans (congrArg some (by kernel_rfl))
 f246 := Tryz.func207.trans (congrArg some (by kernel_rfl))
 f247 := Tryz.func201.trans (congrArg some (by kernel_rfl))
 f279 := Tryz.func202.trans (congrArg some (by kernel_rfl))
 f280 := Tryz.func203.trans (congrArg some (by kernel_rfl))
 f281 := Tryz.func204.trans (congrArg some (by kernel_rfl))
 f282 := Tryz.func205.trans (congrArg some (by kernel_rfl))
 f283 := Tryz.func208.trans (congrArg some (by kernel_rfl))
 f284 := Tryz.func209.trans (congrArg some (by kernel_rfl))
 f285 := Tryz.func210.trans (congrArg some (by kernel_rfl))
 f286 := Tryz.func211.trans (congrArg some (by kernel_rfl))
 f287 := Tryz.func220.trans (congrArg some (by kernel_rfl))
 f316 := Tryz.func221.trans (congrArg some (by kernel_rfl))
 f317 := Tryz.func223.trans (congrArg some (by kernel_rfl))
 f318 := Tryz.func224.trans (congrArg some (by kernel_rfl))
 f319 := Tryz.func225.trans (congrArg some (by kernel_rfl))
 f320 := Tryz.func226.trans (congrArg some (by kernel_rfl))
 f321 := Tryz.func230.trans (congrArg some (by kernel_rfl))
 f322 := Tryz.func231.trans (congrArg some (by kernel_rfl))
 f337 := Tryz.func232.trans (congrArg some (by kernel_rfl))
 f338 := Tryz.func233.trans (congrArg some (by kernel_rfl))
 t0 := Tryz.underlying0
 a0 := Tryz.isAgg0
 z0 := Tryz.sizeOf0
 v0 := Tryz.zeroValue0
 t2 := Tryz.underlying2
 a2 := Tryz.isAgg2
 z2 := Tryz.sizeOf2
 v2 := Tryz.zeroValue2
 t3 := Tryz.underlying3
 a3 := Tryz.isAgg3
 z3 := Tryz.sizeOf3
 v3 := Tryz.zeroValue3
 t4 := Tryz.underlying4
 a4 := Tryz.isAgg4
 z4 := Tryz.sizeOf4
 v4 := Tryz.zeroValue4
 t5 := Tryz.underlying5
 a5 := Tryz.isAgg5
 z5 := Tryz.sizeOf5
 v5 := Tryz.zeroValue5
 t9 := Tryz.underlying9
 a9 := Tryz.isAgg9
 z9 := Tryz.sizeOf9
 v9 := Tryz.zeroValue9
 t20 := Tryz.underlying20
 a20 := Tryz.isAgg20
 z20 := Tryz.sizeOf20
 v20 := Tryz.zeroValue20
 t21 := Tryz.underlying21
 a21 := Tryz.isAgg21
 z21 := Tryz.sizeOf21
 v21 := Tryz.zeroValue21
 t37 := Tryz.underlying206
 a37 := Tryz.isAgg206
 z37 := Tryz.sizeOf206
 v37 := Tryz.zeroValue206
 t46 := Tryz.underlying219
 a46 := Tryz.isAgg219
 z46 := Tryz.sizeOf219
 v46 := Tryz.zeroValue219
 t51 := Tryz.underlying254
 a51 := Tryz.isAgg254
 z51 := Tryz.sizeOf254
 v51 := Tryz.zeroValue254
 t53 := Tryz.underlying191
 a53 := Tryz.isAgg191
 z53 := Tryz.sizeOf191
 v53 := Tryz.zeroValue191
 t75 := Tryz.underlying188
 a75 := Tryz.isAgg188
 z75 := Tryz.sizeOf188
 v75 := Tryz.zeroValue188
 t76 := Tryz.underlying189
 a76 := Tryz.isAgg189
 z76 := Tryz.sizeOf189
 v76 := Tryz.zeroValue189
 t85 := Tryz.underlying243
 a85 := Tryz.isAgg243
 z85 := Tryz.sizeOf243
 v85 := Tryz.zeroValue243
 t127 := Tryz.underlying236
 a127 := Tryz.isAgg236
 z127 := Tryz.sizeOf236
 v127 := Tryz.zeroValue236
 t143 := Tryz.underlying279
 a143 := Tryz.isAgg279
 z143 := Tryz.sizeOf279
 v143 := Tryz.zeroValue279
 t145 := Tryz.underlying281
 a145 := Tryz.isAgg281
 z145 := Tryz.sizeOf281
 v145 := Tryz.zeroValue281
 t167 := Tryz.underlying242
 a167 := Tryz.isAgg242
 z167 := Tryz.sizeOf242
 v167 := Tryz.zeroValue242
 t168 := Tryz.underlying245
 a168 := Tryz.isAgg245
 z168 := Tryz.sizeOf245
 v168 := Tryz.zeroValue245
 t171 := Tryz.underlying250
 a171 := Tryz.isAgg250
 z171 := Tryz.sizeOf250
 v171 := Tryz.zeroValue250
 t173 := Tryz.underlying252
 a173 := Tryz.isAgg252
 z173 := Tryz.sizeOf252
 v173 := Tryz.zeroValue252
 t175 := Tryz.underlying261
 a175 := Tryz.isAgg261
 z175 := Tryz.sizeOf261
 v175 := Tryz.zeroValue261
 t210 := Tryz.underlying265
 a210 := Tryz.isAgg265
 z210 := Tryz.sizeOf265
 v210 := Tryz.zeroValue265
 t212 := Tryz.underlying268
 a212 := Tryz.isAgg268
 z212 := Tryz.sizeOf268
 v212 := Tryz.zeroValue268
 t213 := Tryz.underlying269
 a213 := Tryz.isAgg269
 z213 := Tryz.sizeOf269
 t232 := Tryz.underlying283
 a232 := Tryz.isAgg283
 z232 := Tryz.sizeOf283
 v232 := Tryz.zeroValue283
 t233 := Tryz.underlying284
 a233 := Tryz.isAgg284
 z233 := Tryz.sizeOf284
 v233 := Tryz.zeroValue284
 g15 := by kernel_rfl
 g16 := by kernel_rfl
 g17 := by kernel_rfl
 g18 := by kernel_rfl
 g19 := by kernel_rfl }
open Go.RowKit in
theorem Tryz.strconv_Atoi (s : ByteArray) (n : Int) (hl : s.size ≤ 18) (h : Lib.atoi s.data.toList = some n) (w : World) :
  Calls Tryz.prog 138 #[.string s] w fun e w' => e = .returned (.tuple #[.int .i64 n, .nilIface]) ∧ ∃ t, w' = Lib.bytesWorld w 5 t := Any.strconv_Atoi Tryz.lays172 s n hl h w
def Tryz.lays129_ren : Go.Shelf.Ren := ⟨fun | 129 => 181 | n => n, fun | 53 => 191 | 3 => 3 | 4 => 4 | 46 => 219 | 5 => 5 | 9 => 9 | n => n, fun | n => n⟩
theorem Tryz.lays129 : Go.Proofs.Lays.n129 Tryz.prog Tryz.lays129_ren := {
 mixed := by kernel_rfl
 f129 := Tryz.func181.trans (congrArg some (by kernel_rfl))
 t3 := Tryz.underlying3
 a3 := Tryz.isAgg3
 z3 := Tryz.sizeOf3
 v3 := Tryz.zeroValue3
 t4 := Tryz.underlying4
 a4 := Tryz.isAgg4
 z4 := Tryz.sizeOf4
 v4 := Tryz.zeroValue4
 t5 := Tryz.underlying5
 a5 := Tryz.isAgg5
 z5 := Tryz.sizeOf5
 v5 := Tryz.zeroValue5
 t9 := Tryz.underlying9
 a9 := Tryz.isAgg9
 z9 := Tryz.sizeOf9
 v9 := Tryz.zeroValue9
 t46 := Tryz.underlying219
 a46 := Tryz.isAgg219
 z46 := Tryz.sizeOf219
 v46 := Tryz.zeroValue219
 t53 := Tryz.underlying191
 a53 := Tryz.isAgg191
 z53 := Tryz.sizeOf191
 v53 := Tryz.zeroValue191 }
theorem Tryz.bits_Len64 (x : Int) (w : World) (h0 : 0 ≤ x) (h1 : x ≤ 18446744073709551615) :
  Calls Tryz.prog 181 #[.int .u64 x] w fun e w' => e = .returned (.int .i64 (Lib.bitLen x.toNat)) ∧ w' = w := Any.bits_Len64 Tryz.lays129 x w h0 h1
def Tryz.laysM171_ren : Go.Shelf.Ren := ⟨fun | 171 => 151 | 243 => 182 | 246 => 207 | 283 => 208 | 284 => 209 | 285 => 210 | 286 => 211 | 129 => 181 | 317 => 223 | 318 => 224 | 319 => 225 | 320 => 226 | 337 => 232 | 338 => 233 | n => n, fun | 3 => 3 | 9 => 9 | 2 => 2 | 4 => 4 | 171 => 250 | 0 => 0 | 53 => 191 | 37 => 206 | 5 => 5 | 173 => 252 | 212 => 268 | 51 => 254 | 20 => 20 | 213 => 269 | 46 => 219 | 232 => 283 | 233 => 284 | n => n, fun | 17 => 6 | 18 => 9 | 19 => 10 | n => n⟩
theorem Tryz.laysM171 : Go.Proofs.LaysM.n171 Tryz.prog Tryz.laysM171_ren := {
 mixed := by kernel_rfl
 f129 := Tryz.func181.trans (congrArg some (by kernel_rfl))
 f171 := Tryz.func151.trans (congrArg some (by kernel_rfl))
 f243 := Tryz.func182.trans (congrArg some (by kernel_rfl))
 f246 := Tryz.func207.trans (congrArg some (by kernel_rfl))
 f283 := Tryz.func208.trans (congrArg some (by kernel_rfl))
 f284 := Tryz.func209.trans (congrArg some (by kernel_rfl))
 f285 := Tryz.func210.trans (congrArg some (by kernel_rfl))
 f286 := Tryz.func211.trans (congrArg some (by kernel_rfl))
 f317 := Tryz.func223.trans (congrArg some (by kernel_rfl))
 f318 := Tryz.func224.trans (congrArg some (by kernel_rfl))
 f319 := Tryz.func225.trans (congrArg some (by kernel_rfl))
 f320 := Tryz.func226.trans (congrArg some (by kernel_rfl))
 f337 := Tryz.func232.trans (congrArg some (by kernel_rfl))
 f338 := Tryz.func233.trans (congrArg some (by kernel_rfl))
 t0 := Tryz.underlying0
 a0 := Tryz.isAgg0
 z0 := Tryz.sizeOf0
 v0 := Tryz.zeroValue0
 t2 := Tryz.underlying2
 a2 := Tryz.isAgg2
 z2 := Tryz.sizeOf2
 v2 := Tryz.zeroValue2
 t3 := Tryz.underlying3
 a3 := Tryz.isAgg3
 z3 := Tryz.sizeOf3
 v3 := Tryz.zeroValue3
 t4 := Tryz.underlying4
 a4 := Tryz.isAgg4
 z4 := Tryz.sizeOf4
 v4 := Tryz.zeroValue4
 t5 := Tryz.underlying5
 a5 := Tryz.isAgg5
 z5 := Tryz.sizeOf5
 v5 := Tryz.zeroValue5
 t9 := Tryz.underlying9
 a9 := Tryz.isAgg9
 z9 := Tryz.sizeOf9
 v9 := Tryz.zeroValue9
 t20 := Tryz.underlying20
 a20 := Tryz.isAgg20
 z20 := Tryz.sizeOf20
 v20 := Tryz.zeroValue20
 t37 := Tryz.underlying206
 a37 := Tryz.isAgg206
 z37 := Tryz.sizeOf206
 v37 := Tryz.zeroValue206
 t46 := Tryz.underlying219
 a46 := Tryz.isAgg219
 z46 := Tryz.sizeOf219
 v46 := Tryz.zeroValue219
 t51 := Tryz.underlying254
 a51 := Tryz.isAgg254
 z51 := Tryz.sizeOf254
 v51 := Tryz.zeroValue254
 t53 := Tryz.underlying191
 a53 := Tryz.isAgg191
 z53 := Tryz.sizeOf191
 v53 := Tryz.zeroValue191
 t171 := Tryz.underlying250
 a171 := Tryz.isAgg250
 z171 := Tryz.sizeOf250
 v171 := Tryz.zeroValue250
 t173 := Tryz.underlying252
 a173 := Tryz.isAgg252
 z173 := Tryz.sizeOf252
 v173 := Tryz.zeroValue252
 t212 := Tryz.underlying268
 a212 := Tryz.isAgg268
 z212 := Tryz.sizeOf268
 v212 := Tryz.zeroValue268
 t213 := Tryz.underlying269
 a213 := Tryz.isAgg269
 z213 := Tryz.sizeOf269
 t232 := Tryz.underlying283
 a232 := Tryz.isAgg283
 z232 := Tryz.sizeOf283
 v232 := Tryz.zeroValue283
 t233 := Tryz.underlying284
 a233 := Tryz.isAgg284
 z233 := Tryz.sizeOf284
 v233 := Tryz.zeroValue284
 g17 := by kernel_rfl
 g18 := by kernel_rfl
 g19 := by kernel_rfl
 i0 := by kernel_rfl
 i2 := by kernel_rfl
 i3 := by kernel_rfl
 i4 := by kernel_rfl
 i5 := by kernel_rfl
 i9 := by kernel_rfl
 i20 := by kernel_rfl
 i37 := by kernel_rfl
 i46 := by kernel_rfl
 i51 := by kernel_rfl
 i53 := by kernel_rfl
 i171 := by kernel_rfl
 i173 := by kernel_rfl
 i212 := by kernel_rfl
 i232 := by kernel_rfl
 i233 := by kernel_rfl
 m17 := by kernel_rfl
 m18 := by kernel_rfl
 m19 := by kernel_rfl }
open Go.RowKit Go.Sort Go.Lib in
theorem Tryz.strconv_Itoa (n : Int) (h0 : -9223372036854775808 ≤ n) (h1 : n ≤ 9223372036854775807) (w : World) (htab : Lib.TabIs Tryz.prog w "internal/strconv.uint64pow10" .u64 Lib.pow10Tab) :
  Calls Tryz.prog 151 #[.int .i64 n] w fun e w' => e = .returned (.string ⟨(Lib.itoa n).toArray⟩) ∧ ∃ k os, w' = grow (w.drewN k) os := Any.strconv_Itoa Tryz.laysM171 n h0 h1 w htab
def Tryz.lays145_ren : Go.Shelf.Ren := ⟨fun | 145 => 110 | 220 => 132 | 219 => 161 | 217 => 193 | 225 => 194 | 224 => 195 | 267 => 196 | 266 => 215 | 314 => 216 | n => n, fun | 9 => 9 | 4 => 4 | 59 => 166 | 3 => 3 | 5 => 5 | 46 => 219 | 146 => 255 | 51 => 254 | n => n, fun | 1 => 1 | n => n⟩
theorem Tryz.lays145 : Go.Proofs.Lays.n145 Tryz.prog Tryz.lays145_ren := {
 mixed := by kernel_rfl
 f145 := Tryz.func110.trans (congrArg some (by kernel_rfl))
 f217 := Tryz.func193.trans (congrArg some (by kernel_rfl))
 f219 := Tryz.func161.trans (congrArg some (by kernel_rfl))
 f220 := Tryz.func132.trans (congrArg some (by kernel_rfl))
 f224 := Tryz.func195.trans (congrArg some (by kernel_rfl))
 f225 := Tryz.func194.trans (congrArg some (by kernel_rfl))
 f266 := Tryz.func215.trans (congrArg some (by kernel_rfl))
 f267 := Tryz.func196.trans (congrArg some (by kernel_rfl))
 f314 := Tryz.func216.trans (congrArg some (by kernel_rfl))
 t3 := Tryz.underlying3
 a3 := Tryz.isAgg3
 z3 := Tryz.sizeOf3
 v3 := Tryz.zeroValue3
 t4 := Tryz.underlying4
 a4 := Tryz.isAgg4
 z4 := Tryz.sizeOf4
 v4 := Tryz.zeroValue4
 t5 := Tryz.underlying5
 a5 := Tryz.isAgg5
 z5 := Tryz.sizeOf5
 v5 := Tryz.zeroValue5
 t9 := Tryz.underlying9
 a9 := Tryz.isAgg9
 z9 := Tryz.sizeOf9
 v9 := Tryz.zeroValue9
 t46 := Tryz.underlying219
 a46 := Tryz.isAgg219
 z46 := Tryz.sizeOf219
 v46 := Tryz.zeroValue219
 t51 := Tryz.underlying254
 a51 := Tryz.isAgg254
 z51 := Tryz.sizeOf254
 v51 := Tryz.zeroValue254
 t59 := Tryz.underlying166
 a59 := Tryz.isAgg166
 z59 := Tryz.sizeOf166
 v59 := Tryz.zeroValue166
 t146 := Tryz.underlying255
 a146 := Tryz.isAgg255
 z146 := Tryz.sizeOf255
 v146 := Tryz.zeroValue255
 g1 := by kernel_rfl }
open Go.RowKit Go.Lib in
theorem Tryz.strings_Cut (s sep : ByteArray) (m : Int) (w : World) (hs : s.size < 4294967281) (hm : w.cell? ⟨1, 0, none⟩ = some (.int .i64 m)) :
  Calls Tryz.prog 110 #[.string s, .string sep] w fun e w' => e = .returned (.tuple #[.string ⟨(Lib.cut s.data.toList sep.data.toList).1.toArray⟩, .string ⟨(Lib.cut s.data.toList sep.data.toList).2.1.toArray⟩, .bool (Lib.cut s.data.toList sep.data.toList).2.2]) ∧ ∃ n, w' = w.drewN n := Any.strings_Cut Tryz.lays145 s sep m w hs hm
def Tryz.lays99_ren : Go.Shelf.Ren := ⟨fun | 99 => 136 | 206 => 160 | n => n, fun | 9 => 9 | 4 => 4 | 3 => 3 | n => n, fun | n => n⟩
theorem Tryz.lays99 : Go.Proofs.Lays.n99 Tryz.prog Tryz.lays99_ren := {
 mixed := by kernel_rfl
 f99 := Tryz.func136.trans (congrArg some (by kernel_rfl))
 f206 := Tryz.func160.trans (congrArg some (by kernel_rfl))
 t3 := Tryz.underlying3
 a3 := Tryz.isAgg3
 z3 := Tryz.sizeOf3
 v3 := Tryz.zeroValue3
 t4 := Tryz.underlying4
 a4 := Tryz.isAgg4
 z4 := Tryz.sizeOf4
 v4 := Tryz.zeroValue4
 t9 := Tryz.underlying9
 a9 := Tryz.isAgg9
 z9 := Tryz.sizeOf9
 v9 := Tryz.zeroValue9 }
open Go.RowKit Go.Lib in
theorem Tryz.strings_HasPrefix (s p : ByteArray) (w : World) :
  Calls Tryz.prog 136 #[.string s, .string p] w fun e w' => e = .returned (.bool (Lib.hasPrefix s.data.toList p.data.toList)) ∧ w' = w := Any.strings_HasPrefix Tryz.lays99 s p w
def Tryz.lays101_ren : Go.Shelf.Ren := ⟨fun | 101 => 137 | 208 => 169 | 206 => 160 | n => n, fun | 9 => 9 | 4 => 4 | 3 => 3 | n => n, fun | n => n⟩
theorem Tryz.lays101 : Go.Proofs.Lays.n101 Tryz.prog Tryz.lays101_ren := {
 mixed := by kernel_rfl
 f101 := Tryz.func137.trans (congrArg some (by kernel_rfl))
 f206 := Tryz.func160.trans (congrArg some (by kernel_rfl))
 f208 := Tryz.func169.trans (congrArg some (by kernel_rfl))
 t3 := Tryz.underlying3
 a3 := Tryz.isAgg3
 z3 := Tryz.sizeOf3
 v3 := Tryz.zeroValue3
 t4 := Tryz.underlying4
 a4 := Tryz.isAgg4
 z4 := Tryz.sizeOf4
 v4 := Tryz.zeroValue4
 t9 := Tryz.underlying9
 a9 := Tryz.isAgg9
 z9 := Tryz.sizeOf9
 v9 := Tryz.zeroValue9 }
open Go.RowKit Go.Lib in
theorem Tryz.strings_TrimPrefix (s p : ByteArray) (w : World) :
  Calls Tryz.prog 137 #[.string s, .string p] w fun e w' => e = .returned (.string ⟨(Lib.trimPrefix s.data.toList p.data.toList).toArray⟩) ∧ w' = w := Any.strings_TrimPrefix Tryz.lays101 s p w
def Tryz.lays264_ren : Go.Shelf.Ren := ⟨fun | 264 => 145 | n => n, fun | 53 => 191 | 46 => 219 | n => n, fun | n => n⟩
theorem Tryz.lays264 : Go.Proofs.Lays.n264 Tryz.prog Tryz.lays264_ren := {
 mixed := by kernel_rfl
 f264 := Tryz.func145.trans (congrArg some (by kernel_rfl))
 t46 := Tryz.underlying219
 a46 := Tryz.isAgg219
 z46 := Tryz.sizeOf219
 v46 := Tryz.zeroValue219
 t53 := Tryz.underlying191
 a53 := Tryz.isAgg191
 z53 := Tryz.sizeOf191
 v53 := Tryz.zeroValue191 }
open Go.RowKit Go.Lib in
theorem Tryz.bits_Mul64 (x y : Nat) (hx : x < 18446744073709551616) (hy : y < 18446744073709551616) (w : World) :
  Calls Tryz.prog 145 #[.int .u64 x, .int .u64 y] w fun e w' => e = .returned (.tuple #[.int .u64 ((x * y / 18446744073709551616 : Nat) : Int), .int .u64 ((x * y % 18446744073709551616 : Nat) : Int)]) ∧ w' = w := Any.bits_Mul64 Tryz.lays264 x y hx hy w
end Go.Proofs
namespace Go.Proofs.YtlfnibjmkfldgaaGreatDoor.Big
def vf (B : Nat) (f : Nat → Nat) : Nat → Nat
 | 0 => 0
 | n + 1 => vf B f n + f n * B ^ n
theorem vf_zero (B : Nat) (f : Nat → Nat) : vf B f 0 = 0 := rfl
theorem vf_succ (B : Nat) (f : Nat → Nat) (n : Nat) : vf B f (n + 1) = vf B f n + f n * B ^ n := rfl
theorem vf_congr {B : Nat} {f g : Nat → Nat} {n : Nat} (h : ∀ i, i < n → f i = g i) : vf B f n = vf B g n := by
 induction n with
 | zero => rfl
 | succ n ih => rw [vf_succ, vf_succ, ih (fun i hi => h i (by omega)), h n (by omega)]
theorem vf_lt {B : Nat} {f : Nat → Nat} {n : Nat} (h : ∀ i, i < n → f i < B) : vf B f n < B ^ n := by
 induction n with
 | zero => simp [vf]
 | succ n ih =>
  have h1 := ih (fun i hi => h i (by omega))
  have h2 := h n (by omega)
  rw [vf_succ, Nat.pow_succ]
  have h3 : (f n + 1) * B ^ n ≤ B * B ^ n := Nat.mul_le_mul_right _ h2
  rw [Nat.add_mul, Nat.one_mul, Nat.mul_comm B] at h3
  omega
theorem vf_add (B : Nat) (f : Nat → Nat) (m n : Nat) : vf B f (m + n) = vf B f m + B ^ m * vf B (fun i => f (m + i)) n := by
 induction n with
 | zero => simp [vf]
 | succ n ih =>
  rw [← Nat.add_assoc, vf_succ, ih, vf_succ, Nat.mul_add, Nat.pow_add]
  have : f (m + n) * (B ^ m * B ^ n) = B ^ m * (f (m + n) * B ^ n) := by
   rw [Nat.mul_left_comm]
  omega
theorem vf_head (B : Nat) (f : Nat → Nat) (n : Nat) : vf B f (n + 1) = f 0 + B * vf B (fun i => f (i + 1)) n := by
 have := vf_add B f 1 n
 rw [Nat.add_comm 1 n] at this
 rw [this]
 simp [vf, Nat.add_comm]
theorem vf_zeros {B : Nat} {f : Nat → Nat} {n : Nat} (h : ∀ i, i < n → f i = 0) : vf B f n = 0 := by
 rw [vf_congr (g := fun _ => 0) h]
 induction n with
 | zero => rfl
 | succ n ih => rw [vf_succ, ih (fun i hi => h i (by omega))]; simp
theorem vf_pad {B : Nat} {f : Nat → Nat} {m n : Nat} (hmn : m ≤ n) (h : ∀ i, m ≤ i → i < n → f i = 0) : vf B f n = vf B f m := by
 obtain ⟨k, rfl⟩ := Nat.exists_eq_add_of_le hmn
 rw [vf_add, vf_zeros (fun i hi => h (m + i) (by omega) (by omega))]
 simp
theorem vf_ge_top {B : Nat} {f : Nat → Nat} {n : Nat} (h : f n ≠ 0) : B ^ n ≤ vf B f (n + 1) := by
 rw [vf_succ]
 have : 1 * B ^ n ≤ f n * B ^ n := Nat.mul_le_mul_right _ (by omega)
 omega
structure Canon (B : Nat) (f : Nat → Nat) (n : Nat) : Prop where
 lt : ∀ i, i < n → f i < B
 top : n ≠ 0 → f (n - 1) ≠ 0
theorem Canon.ge {B : Nat} {f : Nat → Nat} {n : Nat} (h : Canon B f n) (hn : n ≠ 0) : B ^ (n - 1) ≤ vf B f n := by
 obtain ⟨m, rfl⟩ := Nat.exists_eq_succ_of_ne_zero hn
 exact vf_ge_top (by simpa using h.top hn)
theorem Canon.lt_pow {B : Nat} {f : Nat → Nat} {n : Nat} (h : Canon B f n) : vf B f n < B ^ n := vf_lt h.lt
theorem Canon.lt_of_len {B : Nat} {f g : Nat → Nat} {m n : Nat} (hf : Canon B f m) (hg : Canon B g n) (hB : 1 < B) (h : m < n) : vf B f m < vf B g n := by
 have h1 := hf.lt_pow
 have h2 := hg.ge (by omega)
 have h3 : B ^ m ≤ B ^ (n - 1) := Nat.pow_le_pow_right (by omega) (by omega)
 omega
theorem vf_lt_of_digit {B : Nat} {f g : Nat → Nat} {n i : Nat} (hf : ∀ j, j < n → f j < B) (hg : ∀ j, j < n → g j < B) (hi : i < n)
  (heq : ∀ j, i < j → j < n → f j = g j) (hlt : f i < g i) : vf B f n < vf B g n := by
 obtain ⟨k, rfl⟩ := Nat.exists_eq_add_of_lt hi
 have e1 := vf_add B f (i + 1) k
 have e2 := vf_add B g (i + 1) k
 have e3 : vf B (fun j => f (i + 1 + j)) k = vf B (fun j => g (i + 1 + j)) k := vf_congr (fun j hj => heq _ (by omega) (by omega))
 have e4 : i + 1 + k = i + k + 1 := by omega
 rw [e4] at e1 e2
 rw [e1, e2, e3, vf_succ, vf_succ]
 have h1 : vf B f i < B ^ i := vf_lt (fun j hj => hf j (by omega))
 have h2 : (f i + 1) * B ^ i ≤ g i * B ^ i := Nat.mul_le_mul_right _ hlt
 rw [Nat.add_mul, Nat.one_mul] at h2
 omega
theorem guess_ge {U V T t q lo : Nat} (hU : U < (T + 1) * lo) (hV : t * lo ≤ V) (hq : q * V ≤ U) (ht : 0 < t) : q ≤ T / t := by
 rw [Nat.le_div_iff_mul_le ht]
 have h1 : q * t * lo ≤ q * V := by rw [Nat.mul_assoc]; exact Nat.mul_le_mul_left _ hV
 have h2 : q * t * lo < (T + 1) * lo := by omega
 have := Nat.lt_of_mul_lt_mul_right h2
 omega
theorem guess_down {U V T t q h lo : Nat} (hU : U < (T + 1) * lo) (hV : t * lo ≤ V) (hq : q * V ≤ U) (hbad : T < h * t) : q < h := by
 have h1 : q * t * lo ≤ q * V := by rw [Nat.mul_assoc]; exact Nat.mul_le_mul_left _ hV
 have h2 : q * t * lo < (T + 1) * lo := by omega
 have h3 := Nat.lt_of_mul_lt_mul_right h2
 have h4 : q * t < h * t := by omega
 exact Nat.lt_of_mul_lt_mul_right h4
theorem guess_le {U V T t h lo : Nat} (hU : T * lo ≤ U) (hV : V < (t + 1) * lo) (hok : h * t ≤ T) (hlo : h * lo ≤ V) : h * V ≤ U + V := by
 have h1 : h * V ≤ h * ((t + 1) * lo) := Nat.mul_le_mul_left _ (Nat.le_of_lt hV)
 have h2 : h * ((t + 1) * lo) = h * t * lo + h * lo := by rw [← Nat.mul_assoc, Nat.mul_add, Nat.add_mul, Nat.mul_one]
 have h3 : h * t * lo ≤ T * lo := Nat.mul_le_mul_right _ hok
 omega
def upd (f : Nat → Nat) (k v : Nat) : Nat → Nat := fun i => if i = k then v else f i
theorem upd_same (f : Nat → Nat) (k v : Nat) : upd f k v k = v := by simp [upd]
theorem upd_other (f : Nat → Nat) {k i : Nat} (v : Nat) (h : i ≠ k) : upd f k v i = f i := by simp [upd, h]
theorem vf_upd_above {B : Nat} {f : Nat → Nat} {k v n : Nat} (h : n ≤ k) : vf B (upd f k v) n = vf B f n :=
 vf_congr fun i hi => upd_other f v (by omega)
theorem vf_upd {B : Nat} {f : Nat → Nat} {k v n : Nat} (h : k < n) : vf B (upd f k v) n + f k * B ^ k = vf B f n + v * B ^ k := by
 induction n with
 | zero => omega
 | succ n ih =>
  rw [vf_succ, vf_succ]
  by_cases hk : k = n
  ·subst hk
   rw [vf_upd_above (Nat.le_refl _), upd_same]; omega
  ·rw [upd_other f v (by omega)]
   have := ih (by omega)
   omega
theorem carry_step {B p s o c : Nat} (h : o + B * c = s) : o * p + c * (p * B) = s * p := by
 subst h
 rw [Nat.add_mul, Nat.mul_comm p B, ← Nat.mul_assoc, Nat.mul_comm c B]
theorem add_step {B i : Nat} {o x y : Nat → Nat} {c c' : Nat} (h : vf B o i + c * B ^ i = vf B x i + vf B y i) (hs : o i + B * c' = x i + y i + c) :
  vf B o (i + 1) + c' * B ^ (i + 1) = vf B x (i + 1) + vf B y (i + 1) := by
 have := carry_step (p := B ^ i) hs
 rw [vf_succ, vf_succ, vf_succ, Nat.pow_succ]
 rw [Nat.add_mul, Nat.add_mul] at this
 omega
theorem sub_step {B i : Nat} {o x y : Nat → Nat} {c c' : Nat} (h : vf B o i + vf B y i = vf B x i + c * B ^ i) (hs : o i + y i + c = x i + B * c') :
  vf B o (i + 1) + vf B y (i + 1) = vf B x (i + 1) + c' * B ^ (i + 1) := by
 have e : (o i + y i + c) * B ^ i = (x i + B * c') * B ^ i := by rw [hs]
 rw [Nat.add_mul, Nat.add_mul, Nat.add_mul] at e
 rw [vf_succ, vf_succ, vf_succ, Nat.pow_succ, Nat.mul_comm (B ^ i) B, ← Nat.mul_assoc, Nat.mul_comm c' B]
 omega
theorem mul_step {B i j n : Nat} {o y : Nat → Nat} {x c lo c' T : Nat} (hj : i + j < n) (h : vf B o n + c * B ^ (i + j) = T + x * vf B y j * B ^ i)
  (hs : lo + B * c' = o (i + j) + x * y j + c) : vf B (upd o (i + j) lo) n + c' * B ^ (i + (j + 1)) = T + x * vf B y (j + 1) * B ^ i := by
 have h1 := vf_upd (B := B) (f := o) (v := lo) hj
 have h2 := carry_step (p := B ^ (i + j)) hs
 have e : B ^ (i + (j + 1)) = B ^ (i + j) * B := by rw [← Nat.add_assoc, Nat.pow_succ]
 have h3 : x * vf B y (j + 1) * B ^ i = x * vf B y j * B ^ i + x * y j * B ^ (i + j) := by
  rw [vf_succ, Nat.mul_add, Nat.add_mul, Nat.pow_add, Nat.mul_assoc x (y j * B ^ j) (B ^ i), Nat.mul_assoc (y j), Nat.mul_comm (B ^ j) (B ^ i), ← Nat.mul_assoc x]
 rw [e, h3]
 rw [Nat.add_mul, Nat.add_mul] at h2
 omega
theorem div1_step {B i n : Nat} {q a : Nat → Nat} {d r r' : Nat} (hi : i < n)
  (h : vf B (fun k => q (i + 1 + k)) (n - (i + 1)) * d + r = vf B (fun k => a (i + 1 + k)) (n - (i + 1))) (hs : q i * d + r' = r * B + a i) :
  vf B (fun k => q (i + k)) (n - i) * d + r' = vf B (fun k => a (i + k)) (n - i) := by
 have e : n - i = n - (i + 1) + 1 := by omega
 rw [e, vf_head, vf_head]
 have e1 : (fun k => q (i + (k + 1))) = fun k => q (i + 1 + k) := funext fun k => by rw [show i + (k + 1) = i + 1 + k by omega]
 have e2 : (fun k => a (i + (k + 1))) = fun k => a (i + 1 + k) := funext fun k => by rw [show i + (k + 1) = i + 1 + k by omega]
 rw [e1, e2, ← h]
 simp only [Nat.add_zero]
 generalize vf B (fun k => q (i + 1 + k)) (n - (i + 1)) = Q at *
 rw [Nat.add_mul, Nat.mul_add, Nat.mul_assoc B Q d, Nat.mul_comm B r]
 omega
theorem msub_step {B i : Nat} {o u v : Nat → Nat} {t b c lo b' c' : Nat} (h : vf B o i + t * vf B v i = vf B u i + (b + c) * B ^ i)
  (hp : lo + B * c' = t * v i + c) (hs : o i + lo + b = u i + B * b') :
  vf B o (i + 1) + t * vf B v (i + 1) = vf B u (i + 1) + (b' + c') * B ^ (i + 1) := by
 have h1 := carry_step (p := B ^ i) hp
 have h2 : (o i + lo + b) * B ^ i = (u i + B * b') * B ^ i := by rw [hs]
 rw [Nat.add_mul, Nat.add_mul, Nat.add_mul] at h2
 rw [Nat.add_mul] at h1 h
 have h3 : t * vf B v (i + 1) = t * vf B v i + t * v i * B ^ i := by rw [vf_succ, Nat.mul_add, Nat.mul_assoc]
 have h4 : (b' + c') * B ^ (i + 1) = B * b' * B ^ i + c' * (B ^ i * B) := by
  rw [Nat.add_mul, Nat.pow_succ, Nat.mul_comm (B ^ i) B, ← Nat.mul_assoc b', Nat.mul_comm b' B]
 rw [vf_succ B o, vf_succ B u, h3, h4]
 omega
theorem shl_step {B i m : Nat} {o w : Nat → Nat} {c c' : Nat} (h : vf B o i + c * B ^ i = vf B w i * m) (hs : o i + B * c' = w i * m + c) :
  vf B o (i + 1) + c' * B ^ (i + 1) = vf B w (i + 1) * m := by
 have h1 := carry_step (p := B ^ i) hs
 rw [Nat.add_mul] at h1
 have h2 : w i * m * B ^ i = w i * B ^ i * m := by rw [Nat.mul_assoc, Nat.mul_comm m, ← Nat.mul_assoc]
 rw [vf_succ, vf_succ, Nat.add_mul, Nat.pow_succ]
 omega
theorem canon_trim {B : Nat} {f : Nat → Nat} {m n : Nat} (hlt : ∀ i, i < m → f i < B) (hn : n ≤ m) (h0 : ∀ i, n ≤ i → i < m → f i = 0) (hstop : n = 0 ∨ f (n - 1) ≠ 0) :
  Canon B f n ∧ vf B f n = vf B f m := by
 refine ⟨⟨fun i hi => hlt i (by omega), fun h => ?_⟩, (vf_pad hn h0).symm⟩
 rcases hstop with h1 | h1
 ·exact absurd h1 h
 ·exact h1
theorem test_iff {B T2 vt v2 u2 h r : Nat} (hr : h * vt + r = T2) : h * v2 ≤ r * B + u2 ↔ h * (vt * B + v2) ≤ T2 * B + u2 := by
 subst hr
 rw [Nat.mul_add, Nat.add_mul, ← Nat.mul_assoc]
 omega
theorem test_over {B T2 vt v2 u2 h r : Nat} (hr : h * vt + r = T2) (hB : B ≤ r) (hh : h < B) (hv : v2 < B) : h * (vt * B + v2) ≤ T2 * B + u2 := by
 rw [← test_iff hr]
 have h1 : h * v2 ≤ B * B := Nat.mul_le_mul (Nat.le_of_lt hh) (Nat.le_of_lt hv)
 have h2 : B * B ≤ r * B := Nat.mul_le_mul_right _ hB
 omega
theorem top3 (B : Nat) (u : Nat → Nat) (n : Nat) : vf B u (n + 3) = vf B u n + ((u (n + 2) * B + u (n + 1)) * B + u n) * B ^ n := by
 rw [vf_succ, vf_succ, vf_succ, Nat.pow_succ, Nat.pow_succ]
 grind
theorem top2 (B : Nat) (v : Nat → Nat) (n : Nat) : vf B v (n + 2) = vf B v n + (v (n + 1) * B + v n) * B ^ n := by
 rw [vf_succ, vf_succ, Nat.pow_succ]
 grind
theorem top2' (B : Nat) (u : Nat → Nat) (n : Nat) : vf B u (n + 3) = vf B u (n + 1) + (u (n + 2) * B + u (n + 1)) * B ^ (n + 1) := by
 rw [vf_succ, vf_succ, Nat.pow_succ, Nat.pow_succ]
 grind
theorem exists_quo {U V : Nat} (h : 0 < V) : ∃ q, q * V ≤ U ∧ U < (q + 1) * V :=
 ⟨U / V, Nat.div_mul_le_self _ _, by rw [Nat.add_mul, Nat.one_mul]; exact Nat.lt_div_mul_add h⟩
section
variable {B : Nat} {u v : Nat → Nat} {n h r : Nat}
variable (hB : 0 < B) (hu : ∀ i, i < n + 3 → u i < B) (hv : ∀ i, i < n + 2 → v i < B) (hv0 : v (n + 1) ≠ 0)
include hB hu hv0 in
theorem first_ge : vf B u (n + 3) < ((u (n + 2) * B + u (n + 1)) / v (n + 1) + 1) * vf B v (n + 2) := by
 have hV : v (n + 1) * B ^ (n + 1) ≤ vf B v (n + 2) := by rw [vf_succ]; omega
 have hU : vf B u (n + 3) < (u (n + 2) * B + u (n + 1) + 1) * B ^ (n + 1) := by
  rw [top2', Nat.add_mul _ 1, Nat.one_mul]
  have : vf B u (n + 1) < B ^ (n + 1) := vf_lt fun i hi => hu i (by omega)
  omega
 have hVpos : 0 < vf B v (n + 2) := Nat.lt_of_lt_of_le (Nat.mul_pos (Nat.pos_of_ne_zero hv0) (Nat.pow_pos hB)) hV
 obtain ⟨q, hq1, hq2⟩ := exists_quo (U := vf B u (n + 3)) hVpos
 have h1 := guess_ge hU hV hq1 (Nat.pos_of_ne_zero hv0)
 exact Nat.lt_of_lt_of_le hq2 (Nat.mul_le_mul_right _ (Nat.succ_le_succ h1))
include hB hu hv0 in
theorem guess_fail (hg : h * (v (n + 1) * B + v n) > (u (n + 2) * B + u (n + 1)) * B + u n) : 0 < h ∧ vf B u (n + 3) < (h - 1 + 1) * vf B v (n + 2) := by
 have hV : (v (n + 1) * B + v n) * B ^ n ≤ vf B v (n + 2) := by rw [top2]; omega
 have hU : vf B u (n + 3) < ((u (n + 2) * B + u (n + 1)) * B + u n + 1) * B ^ n := by
  rw [top3, Nat.add_mul _ 1, Nat.one_mul]
  have : vf B u n < B ^ n := vf_lt fun i hi => hu i (by omega)
  omega
 have hpos : 0 < v (n + 1) * B ^ (n + 1) := Nat.mul_pos (Nat.pos_of_ne_zero hv0) (Nat.pow_pos hB)
 have hVpos : 0 < vf B v (n + 2) := by rw [vf_succ]; omega
 obtain ⟨q, hq1, hq2⟩ := exists_quo (U := vf B u (n + 3)) hVpos
 have h1 := guess_down hU hV hq1 hg
 exact ⟨Nat.lt_of_le_of_lt (Nat.zero_le _) h1, Nat.lt_of_lt_of_le hq2 (Nat.mul_le_mul_right _ (by omega))⟩
include hv hv0 in
theorem guess_pass (hh : h < B) (hg : h * (v (n + 1) * B + v n) ≤ (u (n + 2) * B + u (n + 1)) * B + u n) : h * vf B v (n + 2) ≤ vf B u (n + 3) + vf B v (n + 2) := by
 have hpos : B ^ (n + 1) ≤ v (n + 1) * B ^ (n + 1) := by
  have := Nat.mul_le_mul_right (B ^ (n + 1)) (Nat.pos_of_ne_zero hv0)
  omega
 refine guess_le (T := (u (n + 2) * B + u (n + 1)) * B + u n) (t := v (n + 1) * B + v n) (lo := B ^ n) ?_ ?_ hg ?_
 ·rw [top3]; omega
 ·rw [top2, Nat.add_mul _ 1, Nat.one_mul]
  have : vf B v n < B ^ n := vf_lt fun i hi => hv i (by omega)
  omega
 ·have h1 : h * B ^ n ≤ B * B ^ n := Nat.mul_le_mul_right _ (Nat.le_of_lt hh)
  have h2 : B * B ^ n = B ^ (n + 1) := by rw [Nat.pow_succ, Nat.mul_comm]
  have h3 : vf B v (n + 2) = vf B v (n + 1) + v (n + 1) * B ^ (n + 1) := vf_succ _ _ _
  omega
end
theorem msub_ok {U V o t : Nat} (hs : o + t * V = U) (hge : U < (t + 1) * V) : o < V := by
 rw [Nat.add_mul, Nat.one_mul] at hge; omega
theorem msub_back {U V o t P : Nat} (hs : o + t * V = U + P) (ho : o < P) (hle : t * V ≤ U + V) : 0 < t ∧ P ≤ o + V ∧ (o + V - P) + (t - 1) * V = U ∧ o + V - P < V := by
 have ht : 0 < t := by
  rcases Nat.eq_zero_or_pos t with h | h
  ·subst h; omega
  ·exact h
 obtain ⟨k, rfl⟩ : ∃ k, t = k + 1 := ⟨t - 1, by omega⟩
 rw [Nat.add_mul, Nat.one_mul] at hs hle
 simp only [Nat.add_sub_cancel]
 omega
theorem upd_lt {o : Nat → Nat} {B k v : Nat} (ho : ∀ j, o j < B) (hv : v < B) (j : Nat) : upd o k v j < B := by
 unfold upd; split
 ·exact hv
 ·exact ho j
end Go.Proofs.YtlfnibjmkfldgaaGreatDoor.Big
namespace Go.Proofs.YtlfnibjmkfldgaaGreatDoor
open Go.RowKit
theorem lt_of_cell {w : World} {p : Addr} {v : Value} (h : w.cell? p = some v) : p.block < w.heap.size := by
 by_cases hb : p.block < w.heap.size
 ·exact hb
 ·exfalso
  simp [World.cell?, hb] at h
theorem below_drewN {B : Nat} {a w : World} (h : Below B a w) (n : Nat) : Below B a (w.drewN n) := ⟨h.os, h.tape, h.output, h.size, h.block⟩
def New (w w' : World) : Prop := Below w.heap.size w w'
theorem New.refl (w : World) : New w w := Below.refl _ _
theorem New.trans {a b c : World} (h : New a b) (k : New b c) : New a c := Below.trans h (Below.mono k h.size)
theorem New.size {a b : World} (h : New a b) : a.heap.size ≤ b.heap.size := Below.size h
theorem New.drewN {a b : World} (h : New a b) (n : Nat) : New a (b.drewN n) := below_drewN h n
theorem New.drew {a b : World} (h : New a b) : New a b.drew := Below.drew h
theorem New.alloc {a b : World} (h : New a b) (o : Obj) : New a (b.alloc o) := Below.alloc h h.size o
theorem New.setCell {a b : World} (h : New a b) {p : Addr} (hp : a.heap.size ≤ p.block) (u : Value) : New a (b.setCell p u) := Below.setCell h hp u
theorem New.cell {a b : World} (h : New a b) {p : Addr} {v : Value} (hc : a.cell? p = some v) : b.cell? p = some v := (Below.cell h (lt_of_cell hc)).trans hc
theorem New.cells {a b : World} (h : New a b) : ∀ k o, k < a.heap.size → b.cell? ⟨k, o, none⟩ = a.cell? ⟨k, o, none⟩ := fun k o hk => Below.cell h (p := ⟨k, o, none⟩) hk
theorem New.row {a b : World} (h : New a b) {k : Nat} {t : TypeId} {n : Nat} {f : Nat → Value} (hr : a.rowIs k t n f) : b.rowIs k t n f := hr.of_block (Below.block h k hr.lt)
def Rd (w : World) (a : Option Addr) (k : IntKind) (n : Nat) (f : Nat → Nat) : Prop := ∀ i, i < n → ∃ b off, a = some ⟨b, off, none⟩ ∧ w.cell? ⟨b, off + i, none⟩ = some (.int k (f i))
theorem Rd.new {w w' : World} {a : Option Addr} {k : IntKind} {n : Nat} {f : Nat → Nat} (h : Rd w a k n f) (hb : New w w') : Rd w' a k n f := fun i hi => by
 obtain ⟨b, off, e, hc⟩ := h i hi
 exact ⟨b, off, e, hb.cell hc⟩
theorem Rd.le {w : World} {a : Option Addr} {k : IntKind} {n m : Nat} {f : Nat → Nat} (h : Rd w a k n f) (hm : m ≤ n) : Rd w a k m f := fun i hi => h i (by omega)
theorem Rd.zero (w : World) (a : Option Addr) (k : IntKind) (f : Nat → Nat) : Rd w a k 0 f := fun i hi => by omega
theorem Rd.of_row {w : World} {b : Nat} {t : TypeId} {n : Nat} {k : IntKind} {f : Nat → Nat} (h : w.rowIs b t n fun i => .int k (f i)) : Rd w (some ⟨b, 0, none⟩) k n f := fun i hi => ⟨b, 0, rfl, by
 have := h.cell hi
 simpa using this⟩
theorem Rd.congr {w : World} {a : Option Addr} {k : IntKind} {n : Nat} {f g : Nat → Nat} (h : Rd w a k n f) (e : ∀ i, i < n → f i = g i) : Rd w a k n g := fun i hi => by
 obtain ⟨b, off, e1, hc⟩ := h i hi
 exact ⟨b, off, e1, by rw [hc, e i hi]⟩
def Row (w : World) (b : Nat) (t : TypeId) (k : IntKind) (n : Nat) (f : Nat → Nat) : Prop := w.rowIs b t n fun i => .int k (f i)
theorem Row.rd {w : World} {b : Nat} {t : TypeId} {k : IntKind} {n : Nat} {f : Nat → Nat} (h : Row w b t k n f) : Rd w (some ⟨b, 0, none⟩) k n f := Rd.of_row h
theorem Row.new {w w' : World} {b : Nat} {t : TypeId} {k : IntKind} {n : Nat} {f : Nat → Nat} (h : Row w b t k n f) (hn : New w w') : Row w' b t k n f := hn.row h
theorem Row.drewN {w : World} {b : Nat} {t : TypeId} {k : IntKind} {n : Nat} {f : Nat → Nat} (h : Row w b t k n f) (m : Nat) : Row (w.drewN m) b t k n f := h
theorem Row.drew {w : World} {b : Nat} {t : TypeId} {k : IntKind} {n : Nat} {f : Nat → Nat} (h : Row w b t k n f) : Row w.drew b t k n f := h
theorem Row.alloc {w : World} {b : Nat} {t : TypeId} {k : IntKind} {n : Nat} {f : Nat → Nat} (h : Row w b t k n f) (o : Obj) : Row (w.alloc o) b t k n f := World.rowIs.alloc h o
theorem Row.cell {w : World} {b : Nat} {t : TypeId} {k : IntKind} {n : Nat} {f : Nat → Nat} (h : Row w b t k n f) {i : Nat} (hi : i < n) : w.cell? ⟨b, i, none⟩ = some (.int k (f i)) := World.rowIs.cell h hi
theorem Row.frozen {w : World} {b : Nat} {t : TypeId} {k : IntKind} {n : Nat} {f : Nat → Nat} (h : Row w b t k n f) (i : Nat) : w.frozen? ⟨b, i, none⟩ = false := World.rowIs.frozen h i
theorem Row.lt {w : World} {b : Nat} {t : TypeId} {k : IntKind} {n : Nat} {f : Nat → Nat} (h : Row w b t k n f) : b < w.heap.size := World.rowIs.lt h
theorem Row.other {w : World} {b : Nat} {t : TypeId} {k : IntKind} {n : Nat} {f : Nat → Nat} (h : Row w b t k n f) {p : Addr} (hp : b ≠ p.block) (u : Value) : Row (w.setCell p u) b t k n f := World.rowIs.setOther h hp u
theorem Row.set {w : World} {b : Nat} {t : TypeId} {k : IntKind} {n : Nat} {f : Nat → Nat} (h : Row w b t k n f) (i v : Nat) : Row (w.setCell ⟨b, i, none⟩ (.int k v)) b t k n (Big.upd f i v) := by
 have := World.rowIs.set h i (.int k v)
 refine World.rowIs.congr this fun j _ => ?_
 unfold Big.upd
 split <;> rfl
theorem Row.congr {w : World} {b : Nat} {t : TypeId} {k : IntKind} {n : Nat} {f g : Nat → Nat} (h : Row w b t k n f) (e : ∀ i, i < n → f i = g i) : Row w b t k n g := World.rowIs.congr h fun i hi => by rw [e i hi]
theorem Row.made (w : World) (k : IntKind) (n : Nat) (t : TypeId) : Row (w.alloc (.cells (madeCells #[.int k 0] n) t)) w.heap.size t k n fun _ => 0 := World.rowIs_made w (.int k 0) n t
end Go.Proofs.YtlfnibjmkfldgaaGreatDoor
