/- Part CardIv01. -/
import Derived.Shelf.Strings.Builder1
import Derived.Shelf.Strings.Builder2
import Derived.Shelf.Strings.Trim
import Derived.Shelf.Small.Utf8
import Derived.Shelf.Small.Bits
import Derived.Shelf.Small.Strs
import Derived.Shelf.Small.Wraps
import Derived.Shelf.Strings.BuilderF
import Derived.Shelf.Strings.BuilderK
import Derived.Shelf.Strconv.Atoi
import Derived.Shelf.Strconv.Itoa0
import Derived.Shelf.Strconv.Itoa1
import Derived.Shelf.LaysM
import Derived.Shelf.Strconv.Itoa2
import Derived.Shelf.Strconv.Itoa3
import Derived.Shelf.Strconv.AtoiErrFast
import Derived.Shelf.Strconv.ParseIntEmpty
import Derived.Shelf.Strconv.AtoiFail
import Derived.Shelf.Strconv.Clone
import Derived.Shelf.Strconv.SyntaxError
import Derived.Shelf.LaysC
import Derived.Shelf.Strconv.ToError
import Derived.Shelf.Strconv.Lower
import Derived.Shelf.Strconv.ParseUint10
import Derived.Shelf.Strconv.ParseUint10Empty
import Derived.Shelf.Strconv.ParseUint10Any
import Derived.Shelf.Strconv.ParseInt10
import Derived.Shelf.Strconv.AtoiLong
import Derived.Shelf.Strconv.AtoiInnerAll
import Derived.Shelf.Strconv.RangeError
import Derived.Shelf.Strconv.ToErrorRange
import Derived.Shelf.Strconv.AtoiAll
import Derived.Shelf.Strings.Search1
import Derived.Shelf.Strings.Search2
import Derived.Shelf.Strings.Cut
import Derived.Shelf.Strings.Shaped
import Derived.Shelf.Strings.Prefix
import Derived.Shelf.Strings.Runes
import Derived.Shelf.Strings.AsciiSet
import Derived.Shelf.Bits.Mul64
import Derived.Shelf.Strings.Repeat
import Derived.Shelf.Unicode.DecodeSlow
import Derived.Test.YtbkcjmojgglbkaaGreatDoorProg
import Derived.Test.YtbkcjmojgglbkaaGreatDoorA32
namespace Go.Proofs
set_option maxRecDepth 100000
set_option maxHeartbeats 8000000
open Go.Shelf
def Tryz.lays169_ren:Go.Shelf.Ren:=⟨fun | 169=>206 | n=>n,fun | 70=>236 | 9=>9 | 0=>0 | 72=>239 | 37=>237 | 127=>267 | 3=>3 | 5=>5 | n=>n,fun | n=>n⟩
theorem Tryz.lays169:Go.Proofs.Lays.n169 Tryz.prog Tryz.lays169_ren:={
 mixed:=by kernel_rfl
 f169:=Tryz.func206.trans (congrArg some (by kernel_rfl))
 t0:=Tryz.underlying0
 a0:=Tryz.isAgg0
 z0:=Tryz.sizeOf0
 v0:=Tryz.zeroValue0
 t3:=Tryz.underlying3
 a3:=Tryz.isAgg3
 z3:=Tryz.sizeOf3
 v3:=Tryz.zeroValue3
 t9:=Tryz.underlying9
 a9:=Tryz.isAgg9
 z9:=Tryz.sizeOf9
 v9:=Tryz.zeroValue9
 t37:=Tryz.underlying237
 a37:=Tryz.isAgg237
 z37:=Tryz.sizeOf237
 v37:=Tryz.zeroValue237
 t70:=Tryz.underlying236
 a70:=Tryz.isAgg236
 z70:=Tryz.sizeOf236
 v70:=Tryz.zeroValue236
 t72:=Tryz.underlying239
 a72:=Tryz.isAgg239
 z72:=Tryz.sizeOf239
 v72:=Tryz.zeroValue239
 t127:=Tryz.underlying267
 a127:=Tryz.isAgg267
 z127:=Tryz.sizeOf267
 v127:=Tryz.zeroValue267}
theorem Tryz.Builder_Extra_169:Builder.Extra Tryz.prog Tryz.lays169_ren:={
 sizeBuilder:=by kernel_rfl
 liesBuilder:=by kernel_rfl
 t5:=Tryz.underlying5
 a5:=Tryz.isAgg5
 z5:=Tryz.sizeOf5
 v5:=Tryz.zeroValue5
 infoByte:=by kernel_rfl
 cellsByte:=by kernel_rfl
 sizeByte:=by kernel_rfl
 neB5:=by decide}
open Go.RowKit in
theorem Tryz.Builder_String_any_k (B b:Nat)(l:List UInt8)(w:World)(h:Lib.IsBuilderF 239 5 B b (Lib.byteCells l) w)(hBw:B≤w.heap.size):
  Calls Tryz.prog 206 #[.pointer (some ⟨b,0,none⟩)] w fun e w'=>e=.returned (.string ⟨l.toArray⟩)∧(Lib.IsBuilderF 239 5 B b (Lib.byteCells l) w'∧Below B w w'∧Lib.OthersKept 5 (some b) w w'):=Any.Builder_String_any_k Tryz.lays169 Tryz.Builder_Extra_169 B b l w h hBw
def Tryz.lays283_ren:Go.Shelf.Ren:=⟨fun | 283=>256 | n=>n,fun | 3=>3 | 9=>9 | 4=>4 | n=>n,fun | n=>n⟩
theorem Tryz.lays283:Go.Proofs.Lays.n283 Tryz.prog Tryz.lays283_ren:={
 mixed:=by kernel_rfl
 f283:=Tryz.func256.trans (congrArg some (by kernel_rfl))
 t3:=Tryz.underlying3
 a3:=Tryz.isAgg3
 z3:=Tryz.sizeOf3
 v3:=Tryz.zeroValue3
 t4:=Tryz.underlying4
 a4:=Tryz.isAgg4
 z4:=Tryz.sizeOf4
 v4:=Tryz.zeroValue4
 t9:=Tryz.underlying9
 a9:=Tryz.isAgg9
 z9:=Tryz.sizeOf9
 v9:=Tryz.zeroValue9}
open Go.Lib in
theorem Tryz.internal_strconv_small (i:Nat)(h:i < 100)(w:World):
  Calls Tryz.prog 256 #[.int .i64 i] w fun e w'=>e=.returned (.string ⟨(Lib.decDigits i).toArray⟩)∧w'=w:=Any.internal_strconv_small Tryz.lays283 i h w
def Tryz.laysM284_ren:Go.Shelf.Ren:=⟨fun | 284=>257 | 129=>230 | 317=>271 | 318=>272 | n=>n,fun | 53=>221 | 3=>3 | 212=>299 | 0=>0 | 4=>4 | 46=>250 | 5=>5 | 9=>9 | n=>n,fun | 17=>6 | n=>n⟩
theorem Tryz.laysM284:Go.Proofs.LaysM.n284 Tryz.prog Tryz.laysM284_ren:={
 mixed:=by kernel_rfl
 f129:=Tryz.func230.trans (congrArg some (by kernel_rfl))
 f284:=Tryz.func257.trans (congrArg some (by kernel_rfl))
 f317:=Tryz.func271.trans (congrArg some (by kernel_rfl))
 f318:=Tryz.func272.trans (congrArg some (by kernel_rfl))
 t0:=Tryz.underlying0
 a0:=Tryz.isAgg0
 z0:=Tryz.sizeOf0
 v0:=Tryz.zeroValue0
 t3:=Tryz.underlying3
 a3:=Tryz.isAgg3
 z3:=Tryz.sizeOf3
 v3:=Tryz.zeroValue3
 t4:=Tryz.underlying4
 a4:=Tryz.isAgg4
 z4:=Tryz.sizeOf4
 v4:=Tryz.zeroValue4
 t5:=Tryz.underlying5
 a5:=Tryz.isAgg5
 z5:=Tryz.sizeOf5
 v5:=Tryz.zeroValue5
 t9:=Tryz.underlying9
 a9:=Tryz.isAgg9
 z9:=Tryz.sizeOf9
 v9:=Tryz.zeroValue9
 t46:=Tryz.underlying250
 a46:=Tryz.isAgg250
 z46:=Tryz.sizeOf250
 v46:=Tryz.zeroValue250
 t53:=Tryz.underlying221
 a53:=Tryz.isAgg221
 z53:=Tryz.sizeOf221
 v53:=Tryz.zeroValue221
 t212:=Tryz.underlying299
 a212:=Tryz.isAgg299
 z212:=Tryz.sizeOf299
 v212:=Tryz.zeroValue299
 g17:=by kernel_rfl
 i0:=by kernel_rfl
 i3:=by kernel_rfl
 i4:=by kernel_rfl
 i5:=by kernel_rfl
 i9:=by kernel_rfl
 i46:=by kernel_rfl
 i53:=by kernel_rfl
 i212:=by kernel_rfl
 m17:=by kernel_rfl}
open Go.Lib in
theorem Tryz.internal_strconv_numDigits (u : Nat) (h1 : 1 ≤ u) (h2 : u < 18446744073709551616) (w : World) (htab : Lib.TabIs Tryz.prog w "internal/strconv.uint64pow10" .u64 Lib.pow10Tab) :
  Calls Tryz.prog 257 #[.int .u64 u] w fun e w'=>e=.returned (.int .i64 (Lib.nDigits u))∧w'=w:=Any.internal_strconv_numDigits Tryz.laysM284 u h1 h2 w htab
def Tryz.lays285_ren:Go.Shelf.Ren:=⟨fun | 285=>258 | n=>n,fun | 37=>237 | 53=>221 | 3=>3 | 4=>4 | 51=>285 | 9=>9 | 5=>5 | 0=>0 | n=>n,fun | n=>n⟩
theorem Tryz.lays285:Go.Proofs.Lays.n285 Tryz.prog Tryz.lays285_ren:={
 mixed:=by kernel_rfl
 f285:=Tryz.func258.trans (congrArg some (by kernel_rfl))
 t0:=Tryz.underlying0
 a0:=Tryz.isAgg0
 z0:=Tryz.sizeOf0
 v0:=Tryz.zeroValue0
 t3:=Tryz.underlying3
 a3:=Tryz.isAgg3
 z3:=Tryz.sizeOf3
 v3:=Tryz.zeroValue3
 t4:=Tryz.underlying4
 a4:=Tryz.isAgg4
 z4:=Tryz.sizeOf4
 v4:=Tryz.zeroValue4
 t5:=Tryz.underlying5
 a5:=Tryz.isAgg5
 z5:=Tryz.sizeOf5
 v5:=Tryz.zeroValue5
 t9:=Tryz.underlying9
 a9:=Tryz.isAgg9
 z9:=Tryz.sizeOf9
 v9:=Tryz.zeroValue9
 t37:=Tryz.underlying237
 a37:=Tryz.isAgg237
 z37:=Tryz.sizeOf237
 v37:=Tryz.zeroValue237
 t51:=Tryz.underlying285
 a51:=Tryz.isAgg285
 z51:=Tryz.sizeOf285
 v51:=Tryz.zeroValue285
 t53:=Tryz.underlying221
 a53:=Tryz.isAgg221
 z53:=Tryz.sizeOf221
 v53:=Tryz.zeroValue221}
open Go.RowKit Go.Sort Go.Lib in
theorem Tryz.internal_strconv_formatBase10 (blk off cap:Nat)(u:Nat)(d:Array UInt8)(w:World)(hH:Holds (fun (b:UInt8)=>Value.int .u8 (b.toNat:Int)) w blk off d)(hu:u < 10^d.size)(hu64:u < 18446744073709551616)(hsz:d.size < 4611686018427387904):
  Calls Tryz.prog 258 #[.slice (some ⟨blk,off,none⟩) d.size cap,.int .u64 u] w fun e w'=>
   e=.returned (.tuple #[])∧∃ (n v':Nat) (dk:Array UInt8),w'=(putRow (fun (b:UInt8)=>Value.int .u8 (b.toNat:Int)) w blk off dk).drewN n∧FmtInv d.size u 0 v' dk:=Any.internal_strconv_formatBase10 Tryz.lays285 blk off cap u d w hH hu hu64 hsz
def Tryz.lays105_ren:Go.Shelf.Ren:=⟨fun | 105=>204 | 212=>237 | 99=>180 | 165=>238 | 166=>205 | 170=>239 | 169=>206 | 263=>260 | 264=>192 | 206=>208 | 240=>240 | 241=>261 | 276=>262 | 277=>275 | n=>n,fun | 9=>9 | 3=>3 | 4=>4 | 20=>20 | 0=>0 | 46=>250 | 109=>264 | 5=>5 | 72=>239 | 76=>216 | 51=>285 | 146=>286 | 53=>221 | 148=>222 | 70=>236 | 37=>237 | 75=>215 | 127=>267 | 164=>288 | 80=>202 | n=>n,fun | n=>n⟩
theorem Tryz.lays105:Go.Proofs.Lays.n105 Tryz.prog Tryz.lays105_ren:={
 mixed:=by kernel_rfl
 f99:=Tryz.func180.trans (congrArg some (by kernel_rfl))
 f105:=Tryz.func204.trans (congrArg some (by kernel_rfl))
 f165:=Tryz.func238.trans (congrArg some (by kernel_rfl))
 f166:=Tryz.func205.trans (congrArg some (by kernel_rfl))
 f169:=Tryz.func206.trans (congrArg some (by kernel_rfl))
 f170:=Tryz.func239.trans (congrArg some (by kernel_rfl))
 f206:=Tryz.func208.trans (congrArg some (by kernel_rfl))
 f212:=Tryz.func237.trans (congrArg some (by kernel_rfl))
 f240:=Tryz.func240.trans (congrArg some (by kernel_rfl))
 f241:=Tryz.func261.trans (congrArg some (by kernel_rfl))
 f263:=Tryz.func260.trans (congrArg some (by kernel_rfl))
 f264:=Tryz.func192.trans (congrArg some (by kernel_rfl))
 f276:=Tryz.func262.trans (congrArg some (by kernel_rfl))
 f277:=Tryz.func275.trans (congrArg some (by kernel_rfl))
 t0:=Tryz.underlying0
 a0:=Tryz.isAgg0
 z0:=Tryz.sizeOf0
 v0:=Tryz.zeroValue0
 t3:=Tryz.underlying3
 a3:=Tryz.isAgg3
 z3:=Tryz.sizeOf3
 v3:=Tryz.zeroValue3
 t4:=Tryz.underlying4
 a4:=Tryz.isAgg4
 z4:=Tryz.sizeOf4
 v4:=Tryz.zeroValue4
 t5:=Tryz.underlying5
 a5:=Tryz.isAgg5
 z5:=Tryz.sizeOf5
 v5:=Tryz.zeroValue5
 t9:=Tryz.underlying9
 a9:=Tryz.isAgg9
 z9:=Tryz.sizeOf9
 v9:=Tryz.zeroValue9
 t20:=Tryz.underlying20
 a20:=Tryz.isAgg20
 z20:=Tryz.sizeOf20
 v20:=Tryz.zeroValue20
 t37:=Tryz.underlying237
 a37:=Tryz.isAgg237
 z37:=Tryz.sizeOf237
 v37:=Tryz.zeroValue237
 t46:=Tryz.underlying250
 a46:=Tryz.isAgg250
 z46:=Tryz.sizeOf250
 v46:=Tryz.zeroValue250
 t51:=Tryz.underlying285
 a51:=Tryz.isAgg285
 z51:=Tryz.sizeOf285
 v51:=Tryz.zeroValue285
 t53:=Tryz.underlying221
 a53:=Tryz.isAgg221
 z53:=Tryz.sizeOf221
 v53:=Tryz.zeroValue221
 t70:=Tryz.underlying236
 a70:=Tryz.isAgg236
 z70:=Tryz.sizeOf236
 v70:=Tryz.zeroValue236
 t72:=Tryz.underlying239
 a72:=Tryz.isAgg239
 z72:=Tryz.sizeOf239
 v72:=Tryz.zeroValue239
 t75:=Tryz.underlying215
 a75:=Tryz.isAgg215
 z75:=Tryz.sizeOf215
 v75:=Tryz.zeroValue215
 t76:=Tryz.underlying216
 a76:=Tryz.isAgg216
 z76:=Tryz.sizeOf216
 v76:=Tryz.zeroValue216
 t109:=Tryz.underlying264
 a109:=Tryz.isAgg264
 z109:=Tryz.sizeOf264
 v109:=Tryz.zeroValue264
 t127:=Tryz.underlying267
 a127:=Tryz.isAgg267
 z127:=Tryz.sizeOf267
 v127:=Tryz.zeroValue267
 t146:=Tryz.underlying286
 a146:=Tryz.isAgg286
 z146:=Tryz.sizeOf286
 v146:=Tryz.zeroValue286
 t148:=Tryz.underlying222
 a148:=Tryz.isAgg222
 z148:=Tryz.sizeOf222
 v148:=Tryz.zeroValue222
 t164:=Tryz.underlying288
 a164:=Tryz.isAgg288
 z164:=Tryz.sizeOf288
 v164:=Tryz.zeroValue288}
theorem Tryz.Builder_Extra_105:Builder.Extra Tryz.prog Tryz.lays105_ren:={
 sizeBuilder:=by kernel_rfl
 liesBuilder:=by kernel_rfl
 t5:=Tryz.underlying5
 a5:=Tryz.isAgg5
 z5:=Tryz.sizeOf5
 v5:=Tryz.zeroValue5
 infoByte:=by kernel_rfl
 cellsByte:=by kernel_rfl
 sizeByte:=by kernel_rfl
 neB5:=by decide}
open Go.RowKit Go.Lib in
theorem Tryz.strings_Repeat (s:ByteArray)(c:Nat)(w:World)(hc:c≤9223372036854775807)(hlen:s.size*c≤140737488355328):
  Calls Tryz.prog 204 #[.string s,.int .i64 c] w fun e w'=>e=.returned (.string ⟨(Lib.repeatL s.data.toList c).toArray⟩)∧Below w.heap.size w w':=Any.strings_Repeat Tryz.lays105 Tryz.Builder_Extra_105 s c w hc hlen
end Go.Proofs
namespace Go.Proofs.YtbkcjmojgglbkaaGreatDoor
open Go.RowKit Big Go.Lib
set_option maxRecDepth 100000
set_option maxHeartbeats 8000000
theorem ends_top {b s z:Int}{g o:ByteArray}{qg qo:Rat}(h:AdcOk b s z g o qg qo)(code:Int)(hcode:code=2^b.toNat - 1)(w:World)(he:Env w):
  Calls Tryz.prog 88 #[.agg #[.int .i64 b,.int .i64 s,.int .i64 z,.string g,.string o],.int .i64 code] w (EndsPost w (nomQ s z code - halfQ s) (nomQ s z code+halfQ s) 15):=by
 have lo:0≤code:=by have:=top_bd h.blo h.bhi;omega
 have hi:code≤2^b.toNat - 1:=by omega
 have hi':code≤4095:=by have:=top_bd h.blo h.bhi;omega
 have hne:¬code=0:=by have:=top_bd h.blo h.bhi;omega
 have hlo:=h.blo;have hhi:=h.bhi;obtain ⟨tp,htp⟩:∃ tp:Int,2^b.toNat - 1=tp:=⟨_,rfl⟩;have htp1:=top_bd hlo hhi;have hst:=fun W=>step_calls b s z g o W h.slo h.shi;have hfb:=stepQ_fb21 h.slo h.shi;have hhb:=halfQ_fb h.slo h.shi;have hmb:=nomQ_fb h lo (show code≤4095 by omega);have hnm:=fun W=>nominal_calls h code W lo (by omega);have hcc:=fun W hW=>checkCode_calls h code W hW
 have hout:outside code 0 (2^b.toNat - 1)=false:=by simp only[outside,Bool.or_eq_false_iff,decide_eq_false_iff_not];omega
 simp only[hout]at hcc;obtain ⟨m,hm⟩:∃ m,nomQ s z code=m:=⟨_,rfl⟩;have hm':stepQ s*((code - z:Int):Rat)=m:=hm;obtain ⟨d,hd⟩:∃ d,halfQ s=d:=⟨_,rfl⟩;have hd':stepQ s / ((2:Int):Rat)=d:=hd;obtain ⟨t,ht⟩:∃ t,stepQ s=t:=⟨_,rfl⟩;simp only[hm'] at hnm;rw[ht] at hfb hd';simp only[ht] at hst;rw[hm] at hmb⊢;rw[hd] at hhb⊢;clear hm hd hm' hout;rw[htp] at hcode;subst hcode
 have hb1:(code==0)=false:=by simpa using hne
 have hb2:decide (code=0)=false:=by simpa using hne
 have hb3:(code==code)=true:=by simp
 have hb4:decide (code=code)=true:=by simp
 clear hne;clear h lo hi hi';have HLO:=hid hlo;have HHI:=hid hhi;have HTP:=hid htp;have HTP1:=hid htp1;have HST:=hid hst;have HFB:=hid hfb;have HHB:=hid hhb;have HMB:=hid hmb;have HNM:=hid hnm;have HCC:=hid hcc;have HH:=hid hd';have HT:=hid ht;have HE:=hid he;clear hlo hhi htp htp1 hst hfb hhb hmb hnm hcc hd' ht he;go_enter Tryz.func88,Tryz.ntmps88;go_wp2_with fail;obtain ⟨BA,BP,BQ,HN⟩:=lay3 w 32 #[.int .i64 b,.int .i64 s,.int .i64 z,.string g,.string o] 122 #[.int .i64 0,.slice none 0 0,.int .i64 0,.slice none 0 0] 122 #[.int .i64 0,.slice none 0 0,.int .i64 0,.slice none 0 0];refine (HCC.out _ (HE.out.new HN.out)).mono ?_;rintro e w1 ⟨rfl,hn⟩;replace BA:=bW BA hn;replace BP:=bW BP hn;replace BQ:=bW BQ hn;replace HN:=tW HN hn;clear hn;obtain ⟨⟨pa0,pa1,pa2,pa3,pa4⟩,pa5⟩:=BA.out.five;go_wp2_with fail;refine (HST.out _).mono ?_;rintro e w2 ⟨v2,rfl,hn,hf⟩;have HF2:=hid hf;clear hf;clear pa0 pa1 pa2 pa3 pa4 pa5;replace BA:=bW BA hn;replace BP:=bW BP hn;replace BQ:=bW BQ hn;replace HN:=tW HN hn;clear hn;go_wp2_with fail;refine (f_calls 2 _ (by omega) (by omega)).mono ?_;rintro e w3 ⟨v3,rfl,hn,hf⟩;have HF3:=hid hf;clear hf;replace BA:=bW BA hn;replace BP:=bW BP hn;replace BQ:=bW BQ hn;replace HF2:=hid (HF2.out.new hn);replace HN:=tW HN hn;clear hn;go_wp2_with fail;refine (fdiv_calls _ _ t ((2:Int):Rat) 21 2 _ HF2.out HF3.out HFB.out two_fb (by omega) two_ne).mono ?_;rintro e w4 ⟨v4,rfl,hn,hf⟩;rw[HH.out] at hf;obtain ⟨s5,a5,l5,k5,t5,b5,m5,n5,rfl⟩:=hf.shape;clear HF2 HF3;have HF4:=hid hf;clear hf;replace BA:=bW BA hn;replace BP:=bW BP hn;replace BQ:=bW BQ hn;replace HN:=tW HN hn;clear hn;obtain ⟨⟨pa0,pa1,pa2,pa3,pa4⟩,pa5⟩:=BA.out.five;go_wp2_with fail;clear pa0 pa1 pa2 pa3 pa4 pa5;have HN0:=HN;clear HN;obtain ⟨BG,HN⟩:=lay1 w4 122 #[.int .i64 s5,.slice a5 l5 k5,.int .i64 t5,.slice b5 m5 n5];replace BA:=hid (BA.out.new HN.out);replace BP:=hid (BP.out.new HN.out);replace BQ:=hid (BQ.out.new HN.out);replace HF4:=hid (HF4.out.new HN.out);have HN_:=HN0.out.trans HN.out;clear HN HN0;have HN:=hid HN_;clear HN_;refine (HNM.out _).mono ?_;rintro e w5 ⟨v5,rfl,hn,hf⟩;obtain ⟨s6,a6,l6,k6,t6,b6,m6,n6,rfl⟩:=hf.shape;have HF5:=hid hf;clear hf;replace BA:=bW BA hn;replace BP:=bW BP hn;replace BQ:=bW BQ hn;replace BG:=bW BG hn;replace HF4:=hid (HF4.out.new hn);replace HN:=tW HN hn;clear hn;go_wp2_with fail;have HN0:=HN;clear HN;obtain ⟨BH,HN⟩:=lay1 w5 122 #[.int .i64 s6,.slice a6 l6 k6,.int .i64 t6,.slice b6 m6 n6];replace BA:=hid (BA.out.new HN.out);replace BP:=hid (BP.out.new HN.out);replace BQ:=hid (BQ.out.new HN.out);replace BG:=hid (BG.out.new HN.out);replace HF4:=hid (HF4.out.new HN.out);replace HF5:=hid (HF5.out.new HN.out);have HN_:=HN0.out.trans HN.out;clear HN HN0;have HN:=hid HN_;clear HN_;obtain ⟨⟨pa0,pa1,pa2,pa3,pa4⟩,pa5⟩:=BA.out.five;obtain ⟨⟨g0,g1,g2,g3⟩,g4,g5,g6,g7,g8⟩:=BG.out.four;obtain ⟨⟨h0,h1,h2,h3⟩,h4,h5,h6,h7,h8⟩:=BH.out.four;clear pa0 pa1 pa2 pa3 pa4 pa5;clear g0 g1 g2 g3 g4 g5 g6 g7 g8;clear h0 h1 h2 h3 h4 h5 h6 h7 h8;refine wp_region_T 15 (fun W=>(W.cell? ⟨w.heap.size,0,none⟩=some (.int .i64 b)∧W.cell? ⟨w.heap.size,1,none⟩=some (.int .i64 s)∧W.cell? ⟨w.heap.size,2,none⟩=some (.int .i64 z)∧W.cell? ⟨w.heap.size,3,none⟩=some (.string g)∧W.cell? ⟨w.heap.size,4,none⟩=some (.string o))∧(W.cell? ⟨w4.heap.size,0,none⟩=some (.int .i64 s5)∧W.cell? ⟨w4.heap.size,1,none⟩=some (.slice a5 l5 k5)∧W.cell? ⟨w4.heap.size,2,none⟩=some (.int .i64 t5)∧W.cell? ⟨w4.heap.size,3,none⟩=some (.slice b5 m5 n5))∧(W.cell? ⟨w5.heap.size,0,none⟩=some (.int .i64 s6)∧W.cell? ⟨w5.heap.size,1,none⟩=some (.slice a6 l6 k6)∧W.cell? ⟨w5.heap.size,2,none⟩=some (.int .i64 t6)∧W.cell? ⟨w5.heap.size,3,none⟩=some (.slice b6 m6 n6))) 18 #[false,false,false,false,false,false,false,false,false,false,false,false,false,false,false,false,false,false] rfl (by kernel_rfl) (by kernel_rfl) ?_;refine tk 0 (by exact ⟨cW5 BA,cW4 BG,cW4 BH⟩) ?_
 try simp only[PT]
 refine tk 1 (by exact ⟨cW5 BA,cW4 BG,cW4 BH⟩) ?_
 try simp only[PT]
 refine tk 3 (by exact ⟨cW5 BA,cW4 BG,cW4 BH⟩) ?_
 try simp only[PT]
 refine tk 4 (by exact ⟨cW5 BA,cW4 BG,cW4 BH⟩) ?_
 try simp only[PT]
 refine tk 6 (by exact ⟨cW5 BA,cW4 BG,cW4 BH⟩) ?_
 try simp only[PT]
 refine wpT_take 7 (v:=?_) rfl (by kernel_rfl) (fun _ _ _ h=>h) (by exact ⟨cW5 BA,cW4 BG,cW4 BH⟩) (Or.inl ⟨by first | kernel_rfl | rfl,?_⟩) ?_;rotate_left
 ·(intro W hW;(try dsimp only at hW);(go_simp;try simp only[hb1,hb2]);try with_reducible rfl)
 try simp only[PT]
 refine tk1 2 fun K hK=>?_;go_simp;refine (fsub_calls _ _ m d 33 23 _ (HF5.out.new (New.refl _).drew) (HF4.out.new (New.refl _).drew) HMB.out HHB.out (by omega)).mono ?_;rintro e w6 ⟨v6,rfl,hn,hf⟩;have hn:=hn.undrew;obtain ⟨s7,a7,l7,k7,t7,b7,m7,n7,rfl⟩:=hf.shape;have HF6:=hid hf;clear hf;replace HF4:=hid (HF4.out.new hn);replace HF5:=hid (HF5.out.new hn);replace BA:=bW BA hn;replace BP:=bW BP hn;replace BQ:=bW BQ hn;replace BG:=bW BG hn;replace BH:=bW BH hn;replace HN:=tW HN hn;clear hn;refine hK.out _ _ (fun _=>⟨cW5 BA,cW4 BG,cW4 BH⟩) ?_;clear hK K
 try simp only[PT]
 refine tk1 5 fun K hK=>?_;go_simp;refine (fadd_calls _ _ m d 33 23 _ HF5.out HF4.out HMB.out HHB.out (by omega)).mono ?_;rintro e w7 ⟨v7,rfl,hn,hf⟩;obtain ⟨s8,a8,l8,k8,t8,b8,m8,n8,rfl⟩:=hf.shape;clear HF4 HF5;have HF7:=hid hf;clear hf;replace HF6:=hid (HF6.out.new hn);replace BA:=bW BA hn;replace BP:=bW BP hn;replace BQ:=bW BQ hn;replace BG:=bW BG hn;replace BH:=bW BH hn;replace HN:=tW HN hn;clear hn;refine hK.out _ _ (fun _=>⟨cW5 BA,cW4 BG,cW4 BH⟩) ?_;clear hK K
 try simp only[PT]
 refine tk 8 (by exact ⟨cW5 BA,cW4 BG,cW4 BH⟩) ?_
 try simp only[PT]
 refine tk 9 (by exact ⟨cW5 BA,cW4 BG,cW4 BH⟩) ?_
 try simp only[PT]
 refine tk 10 (by exact ⟨cW5 BA,cW4 BG,cW4 BH⟩) ?_
 try simp only[PT]
 refine tk1 11 fun K hK=>?_;go_simp;refine (top_calls b s z g o _ HLO.out HHI.out).mono ?_;rintro e w8 ⟨rfl,hn⟩;rw[HTP.out];replace HF6:=hid (HF6.out.new hn);replace HF7:=hid (HF7.out.new hn);replace BA:=bW BA hn;replace BP:=bW BP hn;replace BQ:=bW BQ hn;replace BG:=bW BG hn;replace BH:=bW BH hn;replace HN:=tW HN hn;clear hn;refine hK.out _ _ (fun _=>⟨cW5 BA,cW4 BG,cW4 BH⟩) ?_;clear hK K
 try simp only[PT]
 refine wpT_take 12 (v:=?_) rfl (by kernel_rfl) (fun _ _ _ h=>h) (by exact ⟨cW5 BA,cW4 BG,cW4 BH⟩) (Or.inl ⟨by first | kernel_rfl | rfl,?_⟩) ?_;rotate_left
 ·(intro W hW;(try dsimp only at hW);(go_simp;try simp only[hb3,hb4]);try with_reducible rfl)
 try simp only[PT]
 refine tk 13 (by exact ⟨cW5 BA,cW4 BG,cW4 BH⟩) ?_
 try simp only[PT]
 refine tk1 14 fun K hK=>?_;go_simp;refine (pwhen_new true 15 _).mono ?_;rintro e w9 ⟨rfl,hn⟩;replace HF6:=hid (HF6.out.new hn);replace HF7:=hid (HF7.out.new hn);replace BA:=bW BA hn;replace BP:=bW BP hn;replace BQ:=bW BQ hn;replace BG:=bW BG hn;replace BH:=bW BH hn;replace HN:=tW HN hn;clear hn;refine hK.out _ _ (fun _=>⟨cW5 BA,cW4 BG,cW4 BH⟩) ?_;clear hK K
 try simp only[]
 refine tlW ?_;obtain ⟨⟨pa0,pa1,pa2,pa3,pa4⟩,pa5⟩:=BA.out.five;obtain ⟨⟨g0,g1,g2,g3⟩,g4,g5,g6,g7,g8⟩:=BG.out.four;obtain ⟨⟨h0,h1,h2,h3⟩,h4,h5,h6,h7,h8⟩:=BH.out.four;obtain ⟨⟨p0,p1,p2,p3⟩,p4,p5,p6,p7,p8⟩:=BP.out.four;obtain ⟨⟨q0,q1,q2,q3⟩,q4,q5,q6,q7,q8⟩:=BQ.out.four;have p9:=BP.out.lt;go_wp2_with fail;refine bodyPost_ret (v:=.tuple #[.agg #[.int .i64 s7,.slice a7 l7 k7,.int .i64 t7,.slice b7 m7 n7],.agg #[.int .i64 s8,.slice a8 l8 k8,.int .i64 t8,.slice b8 m8 n8],.int .i64 15]) (by simp[results,Tryz.results88,go_sem,p0,p1,p2,p3,q0,q1,q2,q3]) rfl ?_;exact frac2_ret 15 HN.out BP.out BQ.out (by omega) (by omega) (by omega) HF6.out HF7.out
theorem interval_mid (adc:Value) (b s z:Int) (g o:ByteArray) (code:Int) (x y:Rat) (sx:SmF x) (sy:SmF y) (w:World) (he:Env w) (hadc:adc=.agg #[.int .i64 b,.int .i64 s,.int .i64 z,.string g,.string o])
  (hen:∀ W,Env W→Calls Tryz.prog 88 #[adc,.int .i64 code] W (EndsPost W x y 0)):
  Calls Tryz.prog 21 #[adc,.int .i64 code] w (SpanPost w x y 0):=by
 subst hadc;have hsp:=fun (W:World) va vb h1 h2 hW=>span_calls va vb x y W h1 h2 sx sy hW;unfold SpanPost spanV at hsp⊢;obtain ⟨X,hX⟩:∃ X,rtext x=X:=⟨_,rfl⟩;obtain ⟨Y,hY⟩:∃ Y,rtext y=Y:=⟨_,rfl⟩;rw[hX,hY] at hsp⊢;clear hX hY;have HEN:=hid hen;have HE:=hid he;have HSP:=hid hsp;clear hen he hsp;go_enter Tryz.func21,Tryz.ntmps21;go_wp2_with fail;obtain ⟨BA,BP,HN⟩:=lay2 w 32 #[.int .i64 b,.int .i64 s,.int .i64 z,.string g,.string o] 28 #[.string ⟨#[]⟩,.string ⟨#[]⟩];refine (HEN.out _ (HE.out.new HN.out)).mono ?_;rintro e w1 ⟨v1,v2,rfl,hn,hf,hf2⟩;obtain ⟨s5,a5,l5,k5,t5,b5,m5,n5,rfl⟩:=hf.shape;obtain ⟨s6,a6,l6,k6,t6,b6,m6,n6,rfl⟩:=hf2.shape;have HF1:=hid hf;have HF2:=hid hf2;clear hf hf2;replace BP:=bW BP hn;replace HN:=tW HN hn;clear hn;go_wp2_with fail;have HN0:=HN;clear HN;obtain ⟨BG,BH,HN⟩:=lay2 w1 122 #[.int .i64 s5,.slice a5 l5 k5,.int .i64 t5,.slice b5 m5 n5] 122 #[.int .i64 s6,.slice a6 l6 k6,.int .i64 t6,.slice b6 m6 n6];replace BP:=hid (BP.out.new HN.out);replace HF1:=hid (HF1.out.new HN.out);replace HF2:=hid (HF2.out.new HN.out);have HN_:=HN0.out.trans HN.out;clear HN HN0;have HN:=hid HN_;clear HN_;refine (HSP.out _ _ _ HF1.out HF2.out (HE.out.new HN.out)).mono ?_;rintro e w2 ⟨rfl,hn⟩;replace BP:=bW BP hn;replace HN:=tW HN hn;clear hn;obtain ⟨p0,p1,p2,p3,p4⟩:=BP.out.two;go_wp2_with fail;refine bodyPost_ret (v:=.tuple #[.agg #[.string X,.string Y],.int .i64 0]) (by simp[results,Tryz.results21,go_sem,p0,p1]) rfl ?_;exact ⟨rfl,HN.out.putAt BP.out (by omega) _ _⟩
theorem true_clip (adc:Value) (b s z:Int) (g o:ByteArray) (code:Int) (x y:Rat) (n:Int) (h0:n≠0) (w:World) (he:Env w) (hadc:adc=.agg #[.int .i64 b,.int .i64 s,.int .i64 z,.string g,.string o])
  (hen:∀ W,Env W→Calls Tryz.prog 88 #[adc,.int .i64 code] W (EndsPost W x y n)):
  Calls Tryz.prog 22 #[adc,.int .i64 code] w (NoSpan w n):=by
 subst hadc
 have ht:(n != 0)=true:=by simpa using h0
 have HEN:=hid hen;have HE:=hid he;have H0:=hid h0;clear hen he h0;go_enter Tryz.func22,Tryz.ntmps22;go_wp2_with fail;obtain ⟨BA,BP,HN⟩:=lay2 w 32 #[.int .i64 b,.int .i64 s,.int .i64 z,.string g,.string o] 28 #[.string ⟨#[]⟩,.string ⟨#[]⟩];refine (HEN.out _ (HE.out.new HN.out)).mono ?_;rintro e w1 ⟨v1,v2,rfl,hn,hf,hf2⟩;obtain ⟨s5,a5,l5,k5,t5,b5,m5,n5,rfl⟩:=hf.shape;obtain ⟨s6,a6,l6,k6,t6,b6,m6,n6,rfl⟩:=hf2.shape;clear hf hf2;replace BP:=bW BP hn;replace HN:=tW HN hn;clear hn;obtain ⟨p0,p1,p2,p3,p4⟩:=BP.out.two;have p5:=Nat.lt_add_right 1 p4;have p6:=Nat.lt_add_right 1 p5;go_wp2_with fail;refine bodyPost_ret (v:=.tuple #[.agg #[.string ⟨#[]⟩,.string ⟨#[]⟩],.int .i64 n]) (by simp[results,Tryz.results22,go_sem,p0,p1,p4,p5]) rfl ?_;refine ⟨rfl,?_⟩;have hN:=HN.out
 repeat first
  | with_reducible exact New.refl _
  | with_reducible refine New.drewN ?_ _
  | with_reducible refine New.drew ?_
  | with_reducible refine New.alloc ?_ _
  | (with_reducible refine New.setCell ?_ ?_ _;rotate_left;(show _≤_+_);omega)
  | with_reducible assumption
theorem rhalf_calls (k:Nat)(x:Rat)(w:World)(hx:RFB k x)(hk:k+2≤40000):Calls Tryz.prog 45 #[.string (rs x)] w (RetS w (x*(1 / 2))):=by
 have hm:=fun W=>rmulQ_calls k 2 x (1 / 2) W hx rfb_half hk;simp only[rs_half] at hm;obtain ⟨R,hR⟩:∃ R,x*(1 / 2)=R:=⟨_,rfl⟩;obtain ⟨A,hA⟩:∃ A,rs x=A:=⟨_,rfl⟩;simp only[hA,hR] at hm;rw[hA,hR];clear hA hR hx hk;have HM:=hid hm;clear hm;go_enter Tryz.func45,Tryz.ntmps45;go_wp2_with fail;refine (HM.out _).mono ?_;rintro e w2 ⟨rfl,hn⟩;have HN:=hid hn;clear hn;go_wp2_with fail;go_ret;exact ⟨rfl,HN.out⟩
theorem checkCode_err (b s z:Int)(g o:ByteArray)(code n:Int)(h0:n≠0)(hc:∀ W,Env W→Calls Tryz.prog 15 #[adcV b s z g o] W (RetNew W n))(w:World)(he:Env w):
  Calls Tryz.prog 71 #[adcV b s z g o,.int .i64 code] w (RetNew w n):=by
 have ht:(n != 0)=true:=by simpa using h0
 unfold adcV at *;have HC:=hid hc;have HE:=hid he;have H0:=hid h0;clear hc he h0;go_enter Tryz.func71,Tryz.ntmps71;go_wp2_with fail;obtain ⟨BA,HN⟩:=lay1 w 32 #[.int .i64 b,.int .i64 s,.int .i64 z,.string g,.string o];refine (HC.out _ (HE.out.new HN.out)).mono ?_;rintro e w1 ⟨rfl,hn⟩;replace BA:=bW BA hn;replace HN:=tW HN hn;clear hn;go_wp2_with fail;go_ret;exact ⟨rfl,HN.out⟩
theorem rs_span (x y:Rat):Value.agg #[.string (rs x),.string (rs y)]=spanV x y:=rfl
end Go.Proofs.YtbkcjmojgglbkaaGreatDoor
