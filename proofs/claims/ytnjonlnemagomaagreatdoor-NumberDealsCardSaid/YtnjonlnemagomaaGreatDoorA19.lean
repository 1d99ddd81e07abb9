/- Part A19. -/
import Derived.Laws.FloatArith
import Derived.Laws.Externs
import Derived.IntWalk
import Derived.Deep.LoopGhost
import Derived.Laws.EntriesVeiled
import Derived.Deep.Onto
import Derived.OwnWalk
import Derived.Laws.AppendOwn
import Derived.Test.YtnjonlnemagomaaGreatDoorA16
import Derived.Test.YtnjonlnemagomaaGreatDoorA17
import Derived.Test.YtnjonlnemagomaaGreatDoorA18
namespace Go.Proofs.YtnjonlnemagomaaGreatDoor
open Go.RowKit Big Go.Lib
set_option maxRecDepth 100000
set_option maxHeartbeats 8000000
theorem bits64_run (b:Nat)(W:World):(callFunc 236 #[.float .f64 b]).run Tryz.prog W=.ok (.value (.int .u64 b)) W:=by
 rw[run_callFunc_extern Tryz.func236 (by kernel_rfl) (by kernel_rfl) (by kernel_rfl) (e:=Extern.MathFloatBits.float64bits) (by kernel_rfl)];rfl
theorem frombits64_run (b:Nat)(W:World):(callFunc 239 #[.int .u64 b]).run Tryz.prog W=.ok (.value (.float .f64 b)) W:=by
 rw[run_callFunc_extern Tryz.func239 (by kernel_rfl) (by kernel_rfl) (by kernel_rfl) (e:=Extern.MathFloatBits.float64frombits) (by kernel_rfl)];rfl
theorem bits_andNot64 (x m:Nat)(hx:x < 18446744073709551616)(hm:m < 18446744073709551616):bits .andNot .u64 (x:Int) (m:Int)=((x &&& (18446744073709551615 - m):Nat):Int):=by
 have h1:(BitVec.ofInt 64 (x:Int)).toNat=x:=by rw[BitVec.ofInt_natCast,BitVec.toNat_ofNat];exact Nat.mod_eq_of_lt hx
 have h2:(BitVec.ofInt 64 (m:Int)).toNat=m:=by rw[BitVec.ofInt_natCast,BitVec.toNat_ofNat];exact Nat.mod_eq_of_lt hm
 show IntKind.u64.wrap ((BitVec.ofInt 64 (x:Int) &&& ~~~BitVec.ofInt 64 (m:Int)).toNat:Int)=_;rw[BitVec.toNat_and,BitVec.toNat_not,h1,h2];have h3:x &&& (2^64 - 1 - m) < 18446744073709551616:=Nat.lt_of_le_of_lt Nat.and_le_left hx;have h4:(2:Nat)^64 - 1 - m=18446744073709551615 - m:=rfl;rw[h4] at h3⊢;rw[IntKind.wrap_u64];omega
theorem bits_or64 (x m:Nat)(hx:x < 18446744073709551616)(hm:m < 18446744073709551616):bits .or .u64 (x:Int) (m:Int)=((x ||| m:Nat):Int):=by
 have h1:(BitVec.ofInt 64 (x:Int)).toNat=x:=by rw[BitVec.ofInt_natCast,BitVec.toNat_ofNat];exact Nat.mod_eq_of_lt hx
 have h2:(BitVec.ofInt 64 (m:Int)).toNat=m:=by rw[BitVec.ofInt_natCast,BitVec.toNat_ofNat];exact Nat.mod_eq_of_lt hm
 show IntKind.u64.wrap ((BitVec.ofInt 64 (x:Int) ||| BitVec.ofInt 64 (m:Int)).toNat:Int)=_;rw[BitVec.toNat_or,h1,h2];have h3:x ||| m < 18446744073709551616:=Nat.or_lt_two_pow (n:=64) hx hm;rw[IntKind.wrap_u64];omega
theorem bits_and2047 (k:Nat)(hk:k < 4096):bits .and .i64 (k:Int) 2047=((k % 2048:Nat):Int):=by
 have h1:(BitVec.ofInt 64 (k:Int)).toNat=k:=by rw[BitVec.ofInt_natCast,BitVec.toNat_ofNat];exact Nat.mod_eq_of_lt (by omega)
 have h2:(BitVec.ofInt 64 2047).toNat=2^11 - 1:=by decide
 show IntKind.i64.wrap ((BitVec.ofInt 64 (k:Int) &&& BitVec.ofInt 64 2047).toNat:Int)=_;rw[BitVec.toNat_and,h1,h2,Nat.and_two_pow_sub_one_eq_mod,IntKind.wrap_i64];have:k % 2^11=k % 2048:=rfl;rw[this];omega
def wordOf (h E M:Nat):Nat:=h*9223372036854775808+E*4503599627370496+M
theorem wordOf_lt {h E M:Nat}(hh:h < 2)(hE:E < 2048)(hM:M < 4503599627370496):wordOf h E M < 18446744073709551616:=by unfold wordOf;omega
theorem mabs_calls {h E M:Nat}(hh:h < 2)(hE:E < 2048)(hM:M < 4503599627370496)(w:World):
  Calls Tryz.prog 265 #[.float .f64 (wordOf h E M)] w fun e w'=>e=.returned (.float .f64 (wordOf 0 E M))∧w=w':=by
 have hlt:=wordOf_lt hh hE hM;obtain ⟨x,hx⟩:∃ x,wordOf h E M=x:=⟨_,rfl⟩;obtain ⟨y,hy⟩:∃ y,wordOf 0 E M=y:=⟨_,rfl⟩
 have hb:bits .andNot .u64 (x:Int) 9223372036854775808=(y:Int):=by
  rw[←hx];have:=bits_andNot64 (wordOf h E M) 9223372036854775808 hlt (by omega);refine this.trans ?_
  have e:(18446744073709551615 - 9223372036854775808:Nat)=2^63 - 1:=by decide
  rw[e,Nat.and_two_pow_sub_one_eq_mod,←hy];unfold wordOf;omega
 have h1:=fun W=>bits64_run x W;have h2:=fun W=>frombits64_run y W;rw[hx,hy];clear hlt;have HX:=hid hx;have HY:=hid hy;clear hx hy;go_enter Tryz.func265,Tryz.ntmps265;go_wp2_with fail;go_ret;exact ⟨rfl,rfl⟩
theorem isInf_calls {h E M:Nat}(hh:h < 2)(hE:E < 2048)(hM:M < 4503599627370496)(ho:(FloatKind.f64.format.order (wordOf 0 E M) 9218868437227405311==some Ordering.gt)=false)(w:World):
  Calls Tryz.prog 233 #[.float .f64 (wordOf h E M),.int .i64 0] w fun e w'=>e=.returned (.bool false)∧w=w':=by
 have habs:=fun W=>mabs_calls hh hE hM W;obtain ⟨x,hx⟩:∃ x,wordOf h E M=x:=⟨_,rfl⟩;obtain ⟨y,hy⟩:∃ y,wordOf 0 E M=y:=⟨_,rfl⟩;rw[hx,hy] at habs;rw[hy] at ho;rw[hx];have HX:=hid hx;have HY:=hid hy;have HABS:=hid habs;clear hx hy habs;go_enter Tryz.func233,Tryz.ntmps233;go_wp2_with fail;refine (HABS.out _).mono ?_;rintro e w1 ⟨rfl,rfl⟩;go_wp2_with fail;go_ret;exact ⟨rfl,rfl⟩
theorem isNaN_calls (x:Nat)(ho:(FloatKind.f64.format.order x x != some Ordering.eq)=false)(w:World):
  Calls Tryz.prog 234 #[.float .f64 x] w fun e w'=>e=.returned (.bool false)∧w=w':=by
 go_enter Tryz.func234,Tryz.ntmps234;go_wp2_with fail;go_ret;exact ⟨rfl,rfl⟩
theorem normalize_calls {h E M:Nat}(hh:h < 2)(hE:E < 2048)(hM:M < 4503599627370496)(ho:(FloatKind.f64.format.order (wordOf 0 E M) 4503599627370496==some Ordering.lt)=false)(w:World):
  Calls Tryz.prog 235 #[.float .f64 (wordOf h E M)] w fun e w'=>e=.returned (.tuple #[.float .f64 (wordOf h E M),.int .i64 0])∧w=w':=by
 have habs:=fun W=>mabs_calls hh hE hM W;obtain ⟨x,hx⟩:∃ x,wordOf h E M=x:=⟨_,rfl⟩;obtain ⟨y,hy⟩:∃ y,wordOf 0 E M=y:=⟨_,rfl⟩;rw[hx,hy] at habs;rw[hy] at ho;rw[hx];have HX:=hid hx;have HY:=hid hy;have HABS:=hid habs;clear hx hy habs;go_enter Tryz.func235,Tryz.ntmps235;go_wp2_with fail;refine (HABS.out _).mono ?_;rintro e w1 ⟨rfl,rfl⟩;go_wp2_with fail;go_ret2;exact ⟨rfl,rfl⟩
theorem ld_in {n:Int}(h: -1000000≤n)(h':n≤1000000):wrap64 n=n:=by unfold wrap64;omega
theorem ld_div {x q:Nat}(h:x / 4503599627370496=q)(hq:q < 4096):wrap64 ((x:Int) / 4503599627370496)=(q:Int):=by
 have:(x:Int) / 4503599627370496=(q:Int):=by omega
 rw[this];exact ld_in (by omega) (by omega)
theorem ldexp_walk (x y z q E E':Nat) (s e1 ex:Int) (w:World)
  (h1:(FloatKind.f64.format.order x 0==some Ordering.eq)=false)
  (c1:∀ W,Calls Tryz.prog 233 #[.float .f64 x,.int .i64 0] W fun e w'=>e=.returned (.bool false)∧W=w')
  (c2:∀ W,Calls Tryz.prog 234 #[.float .f64 x] W fun e w'=>e=.returned (.bool false)∧W=w')
  (c3:∀ W,Calls Tryz.prog 235 #[.float .f64 x] W fun e w'=>e=.returned (.tuple #[.float .f64 x,.int .i64 0])∧W=w')
  (c6:∀ W,(binOp .mul 151 (.float .f64 4607182418800017408) (.float .f64 y)).run Tryz.prog W=.ok (.float .f64 y) W)
  (b1:bits .and .i64 (q:Int) 2047=(E:Int)) (b2:bits .andNot .u64 (x:Int) 9218868437227405312=(z:Int)) (b3:bits .or .u64 (z:Int) ((ex+1023)*4503599627370496)=(y:Int))
  (a1:wrap64 s=s) (a2:wrap64 ((x:Int) / 4503599627370496)=(q:Int)) (a3:wrap64 ((E:Int) - 1023)=e1) (a4:wrap64 (s+e1)=ex) (_a5:wrap64 (ex+1023)=(E':Int))
  (g1:¬ex < -1075) (g2:¬(1023:Int) < ex) (g3:¬ex < -1022):
  Calls Tryz.prog 195 #[.float .f64 x,.int .i64 s] w fun e w'=>e=.returned (.float .f64 y)∧w=w':=by
 have c4:=fun W=>bits64_run x W;have c5:=fun W=>frombits64_run y W;have C1:=hid c1;have C2:=hid c2;have C3:=hid c3;clear c1 c2 c3;go_enter Tryz.func195,Tryz.ntmps195;go_wp2_with fail;refine (C1.out _).mono ?_;rintro e w1 ⟨rfl,rfl⟩;go_wp2_with fail;refine (C2.out _).mono ?_;rintro e w1 ⟨rfl,rfl⟩;go_wp2_with fail;refine (C3.out _).mono ?_;rintro e w1 ⟨rfl,rfl⟩;go_wp2_with fail;go_ret;exact ⟨rfl,rfl⟩
theorem ldexp_zero (s:Int)(w:World):Calls Tryz.prog 195 #[.float .f64 0,.int .i64 s] w fun e w'=>e=.returned (.float .f64 0)∧w=w':=by
 have h1:(FloatKind.f64.format.order 0 0==some Ordering.eq)=true:=by decide
 go_enter Tryz.func195,Tryz.ntmps195;go_wp2_with fail;go_ret;exact ⟨rfl,rfl⟩
theorem Ldexp_calls (x y:Nat)(s:Int)(w:World)(h:∀ W,Calls Tryz.prog 195 #[.float .f64 x,.int .i64 s] W fun e w'=>e=.returned (.float .f64 y)∧W=w'):
  Calls Tryz.prog 131 #[.float .f64 x,.int .i64 s] w fun e w'=>e=.returned (.float .f64 y)∧w=w':=by
 have H:=hid h;clear h;go_enter Tryz.func131,Tryz.ntmps131;go_wp2_with fail;refine (H.out _).mono ?_;rintro e w1 ⟨rfl,rfl⟩;go_wp2_with fail;go_ret;exact ⟨rfl,rfl⟩
theorem ld_b2 {h E M:Nat}(hh:h < 2)(hE:E < 2048)(hM:M < 4503599627370496):bits .andNot .u64 (wordOf h E M:Int) 9218868437227405312=(wordOf h 0 M:Int):=by
 have:=bits_andNot64 (wordOf h E M) 9218868437227405312 (wordOf_lt hh hE hM) (by omega);refine this.trans ?_
 have e:(18446744073709551615 - 9218868437227405312:Nat)=9227875636482146303:=by decide
 rw[e];unfold wordOf;rw[Flo.and_rest hh hE hM];simp
theorem ld_b3 {h E M:Nat}{ex:Int}(hh:h < 2)(hE:E < 2048)(hM:M < 4503599627370496)(hx:ex+1023=E):bits .or .u64 (wordOf h 0 M:Int) ((ex+1023)*4503599627370496)=(wordOf h E M:Int):=by
 have e:((E:Int))*4503599627370496=((E*4503599627370496:Nat):Int):=by omega
 rw[hx,e,bits_or64 _ _ (wordOf_lt hh (by omega) hM) (by omega)];unfold wordOf;rw[←Flo.or_field (h:=h) (E:=E) (M:=M) hE hM];simp
theorem ld_q {h E M:Nat}(_hE:E < 2048)(hM:M < 4503599627370496):wordOf h E M / 4503599627370496=h*2048+E:=by unfold wordOf;omega
structure Plain64 (h E M:Nat):Prop where
 ph:h < 2
 pE:E < 2048
 pM:M < 4503599627370496
 zero:(FloatKind.f64.format.order (wordOf h E M) 0==some Ordering.eq)=false
 inf:(FloatKind.f64.format.order (wordOf 0 E M) 9218868437227405311==some Ordering.gt)=false
 nan:(FloatKind.f64.format.order (wordOf h E M) (wordOf h E M) != some Ordering.eq)=false
 norm:(FloatKind.f64.format.order (wordOf 0 E M) 4503599627370496==some Ordering.lt)=false
theorem ldexp_calls {h E M:Nat}(hp:Plain64 h E M)(s:Int)(E':Nat)(hs:(E:Int)+s=E')(hlo:1≤E')(hhi:E'≤2046)(hm:floatBits .mul .f64 4607182418800017408 (wordOf h E' M)=some (wordOf h E' M))(w:World):
  Calls Tryz.prog 195 #[.float .f64 (wordOf h E M),.int .i64 s] w fun e w'=>e=.returned (.float .f64 (wordOf h E' M))∧w=w':=
 ldexp_walk (wordOf h E M) (wordOf h E' M) (wordOf h 0 M) (h*2048+E) E E' s ((E:Int) - 1023) ((E':Int) - 1023) w hp.zero
  (isInf_calls hp.ph hp.pE hp.pM hp.inf) (isNaN_calls _ hp.nan) (normalize_calls hp.ph hp.pE hp.pM hp.norm)
  (fun W=>run_float_arith (P:=Tryz.prog) W .mul 151 .f64 4607182418800017408 (wordOf h E' M) (wordOf h E' M) hm)
  (by have h1:=hp.ph;have h2:=hp.pE;rw[bits_and2047 _ (by omega)];omega) (ld_b2 hp.ph hp.pE hp.pM) (ld_b3 hp.ph (by omega) hp.pM (by omega))
  (ld_in (by have:=hp.pE;omega) (by omega)) (ld_div (ld_q hp.pE hp.pM) (by have h1:=hp.ph;have h2:=hp.pE;omega))
  (ld_in (by omega) (by have:=hp.pE;omega)) ((ld_in (by have:=hp.pE;omega) (by omega)).trans (by omega)) ((ld_in (by omega) (by omega)).trans (by omega)) (by omega) (by omega) (by omega)
theorem RFB.of {k:Nat}{q:Rat}(h:FB k q):RFB k q:=⟨h.num,by simpa[BdK] using h.den⟩
theorem int_divInt (n:Int):(n:Rat)=Rat.divInt n 1:=by
 have:=Rat.num_divInt_den (n:Rat);rw[Rat.num_intCast,Rat.den_intCast] at this;exact this.symm
theorem ten_le (k a b:Nat)(ha:a=6*k)(hb:b=20*k):(10:Nat)^a≤2^b:=by
 subst ha hb;rw[Nat.pow_mul,Nat.pow_mul];exact Nat.pow_le_pow_left (by decide) k
theorem Fits.fb {q:Rat}(h:Fits q):FB 2000 q:=by
 have h1:=Fits.iff.1 h;have h2:(10:Nat)^600≤2^2000:=ten_le 100 600 2000 rfl rfl
 have h3:∀ M:Nat,q.den < M→((q.den:Int)).natAbs < M:=fun M h=>by simpa using h
 exact ⟨Nat.lt_of_lt_of_le h1.1 h2,Nat.lt_of_lt_of_le (h3 _ h1.2) h2⟩
theorem wordOf_fields {h E M:Nat}(hh:h < 2)(h1:1≤E)(hE:E≤2046)(hM:M < 4503599627370496):
  Flo.Fin Ieee.double (wordOf h E M)∧Flo.sgn Ieee.double (wordOf h E M)=decide (h=1)∧Flo.rung Ieee.double (wordOf h E M)=E*4503599627370496+M:=by
 have hs:=Flo.sgn_word Ieee.double (decide (h=1)) (r:=E*4503599627370496+M) (by rw[Flo.dsw];omega)
 have he:Ieee.double.word (decide (h=1)) (E*4503599627370496+M)=wordOf h E M:=by
  unfold Ieee.Format.word wordOf;rw[Flo.dsw]
  have:h=0∨h=1:=by omega
  rcases this with rfl | rfl <;> simp <;> omega
 rw[he]at hs;exact ⟨by unfold Flo.Fin;rw[hs.2,Flo.dinf];omega,hs⟩
theorem plain64 {h E M:Nat}(hh:h < 2)(h1:1≤E)(hE:E≤2046)(hM:M < 4503599627370496):Plain64 h E M:=by
 obtain ⟨f1,f2,f3⟩:=wordOf_fields hh h1 hE hM;obtain ⟨g1,g2,g3⟩:=wordOf_fields (h:=0) (by omega) h1 hE hM
 have hpos:0 < Flo.V Ieee.double (E*4503599627370496+M):=by
  have:=Flo.V_lt Ieee.double (r:=0) (r':=E*4503599627370496+M) (by omega);rw[Flo.V_zero] at this;exact this
 have gv:Flo.sval Ieee.double (wordOf 0 E M)=Flo.V Ieee.double (E*4503599627370496+M):=by unfold Flo.sval;rw[g2,g3];rfl
 refine ⟨hh,by omega,hM,?_,?_,?_,?_⟩
 ·show (Ieee.double.order (wordOf h E M) 0==some Ordering.eq)=false;rw[Flo.order_fin Ieee.double f1 (by decide),Flo.compare_int]
  have h0:Flo.sval Ieee.double 0=0:=by decide
  have hx:Flo.sval Ieee.double (wordOf h E M)≠0:=by
   unfold Flo.sval;rw[f3];split <;> omega
  rw[h0];by_cases hl:Flo.sval Ieee.double (wordOf h E M) < 0
  ·rw[if_pos hl];rfl
  ·rw[if_neg hl,if_neg hx];rfl
 ·show (Ieee.double.order (wordOf 0 E M) 9218868437227405311==some Ordering.gt)=false;rw[Flo.order_fin Ieee.double g1 (by decide),Flo.compare_int,gv]
  have hm:Flo.sval Ieee.double 9218868437227405311=Flo.V Ieee.double 9218868437227405311:=by
   unfold Flo.sval
   have e1:Flo.sgn Ieee.double 9218868437227405311=false:=by decide
   have e2:Flo.rung Ieee.double 9218868437227405311=9218868437227405311:=by decide
   rw[e1,e2];rfl
  have hle:=Flo.V_le Ieee.double (r:=E*4503599627370496+M) (r':=9218868437227405311) (by omega);rw[hm];generalize Flo.V Ieee.double (E*4503599627370496+M)=a at hle⊢;generalize Flo.V Ieee.double 9218868437227405311=b at hle⊢;by_cases hl:(a:Int) < (b:Int)
  ·rw[if_pos hl];rfl
  ·rw[if_neg hl,if_pos (by omega)];rfl
 ·show (Ieee.double.order (wordOf h E M) (wordOf h E M) != some Ordering.eq)=false;rw[Flo.order_fin Ieee.double f1 f1,Flo.compare_int,if_neg (Int.lt_irrefl _),if_pos rfl];rfl
 ·show (Ieee.double.order (wordOf 0 E M) 4503599627370496==some Ordering.lt)=false;rw[Flo.order_fin Ieee.double g1 (by decide),Flo.compare_int,gv]
  have hm:Flo.sval Ieee.double 4503599627370496=Flo.V Ieee.double 4503599627370496:=by
   unfold Flo.sval
   have e1:Flo.sgn Ieee.double 4503599627370496=false:=by decide
   have e2:Flo.rung Ieee.double 4503599627370496=4503599627370496:=by decide
   rw[e1,e2];rfl
  have hle:=Flo.V_le Ieee.double (r:=4503599627370496) (r':=E*4503599627370496+M) (by omega);rw[hm];generalize Flo.V Ieee.double (E*4503599627370496+M)=a at hle⊢;generalize Flo.V Ieee.double 4503599627370496=b at hle⊢;rw[if_neg (by omega)];split <;> rfl
def strs (l:List ByteArray):List Value:=l.map Value.string
theorem RdL.str {w:World}{a:Option Addr}{l:List ByteArray}(h:RdL w a (strs l))(i:Nat)(hi:i < l.length):∃ b off,a=some ⟨b,off,none⟩∧w.cell? ⟨b,off+i,none⟩=some (.string l[i]):=by
 obtain ⟨b,off,e,hc⟩:=h i (by simpa[strs] using hi);exact ⟨b,off,e,by rw[hc];simp[strs]⟩
def rowErr:List ByteArray→Int
 | []=>0
 | v::l=>if ratErr v.data.toList=0 then rowErr l else ratErr v.data.toList
theorem rowErr_drop (l:List ByteArray)(k:Nat)(hk:k < l.length):rowErr (l.drop k)=if ratErr l[k].data.toList=0 then rowErr (l.drop (k+1)) else ratErr l[k].data.toList:=by
 rw[List.drop_eq_getElem_cons hk];rfl
theorem ncheckAll_calls (a:Option Addr)(cap n:Nat)(vs:List ByteArray)(E:Int)(w:World)(he:Env w)(hn0:vs.length=n)(hl:n≤4096)(hr:RdL w a (strs vs))(hE:rowErr vs=E)(hsz:∀ (k:Nat) (h1:k < vs.length),(vs[k]).size≤100000):
  Calls Tryz.prog 103 #[.slice a n cap] w (RetNew w E):=by
 have hck:∀ (k:Nat) (h1:k < vs.length) (W:World),Env W→Calls Tryz.prog 75 #[.string vs[k]] W fun e w'=>e=.returned (.int .i64 (ratErr vs[k].data.toList))∧New W w':=fun k h1 W hW=>check_calls vs[k] W hW (hsz k h1)
 have hli:(n:Int)≤4096:=by omega
 clear hsz hl;have HE:=hid he;have HCK:=hid hck;have HR:=hid hr;have HEE:=hid hE;have HNN:=hid hn0;clear he hck hr hE hn0;go_enter Tryz.func103,Tryz.ntmps103;go_wp2_with fail;go_loopw [8] (fun i wr=>∃ (k:Nat),k≤n∧i=.int .i64 (k:Int)∧Hid (rowErr (vs.drop k)=E)∧Hid (New w wr)) (fun i _=>n - (RowKit.intOf i).toNat)
 case atStart=>exact ⟨0,Nat.zero_le _,rfl,HEE,hid (New.refl _)⟩
 case round=>
  obtain ⟨k,hk,rfl,HP,HN⟩:=hrel;by_cases hlt:k < n
  ·have hlt3:k < vs.length:=by rw[HNN.out];exact hlt
   obtain ⟨b1,off,rfl,hcell⟩:=HR.out.str k hlt3;have hcell:=HN.out.cell hcell;have hcall:=HCK.out k hlt3;have hrd:=rowErr_drop vs k hlt3;rw[HP.out] at hrd;obtain ⟨x,hx⟩:∃ x,vs[k]=x:=⟨_,rfl⟩;rw[hx] at hcell hrd;simp only[hx] at hcall;obtain ⟨r,hr⟩:∃ r,ratErr x.data.toList=r:=⟨_,rfl⟩;rw[hr] at hrd;simp only[hr] at hcall;by_cases hr0:r=0
   ·subst hr0;rw[if_pos rfl] at hrd;have HCALL:=hid hcall;have HX:=hid hx;have HRD:=hid hrd;have HRR:=hid hr;clear hcall hx hrd hr;go_wp2_with fail;refine (HCALL.out _ (HE.out.new HN.out)).mono ?_;rintro e w4 ⟨rfl,hn⟩;clear hcell;replace HN:=hid (HN.out.trans hn);clear hn;go_wp2_with fail;go_roundw
    case rel=>exact ⟨k+1,by omega,by go_num,hid HRD.out.symm,HN⟩
    case measure=>simp[RowKit.intOf];omega
   ·rw[if_neg hr0] at hrd
    have ht:(r != 0)=true:=by simpa using hr0
    have HCALL:=hid hcall;have HX:=hid hx;have HRD:=hid hrd;have HRR:=hid hr;clear hcall hx hrd hr;clear hr0;go_wp2_with fail;refine (HCALL.out _ (HE.out.new HN.out)).mono ?_;rintro e w4 ⟨rfl,hn⟩;clear hcell;replace HN:=hid (HN.out.trans hn);clear hn;go_wp2_with fail;go_ret;exact ⟨by rw[←HRD.out];rfl,HN.out⟩
  ·have hkk:k=n:=by omega
   have hE1:E=0:=by
    rw[←HP.out,hkk,←HNN.out,List.drop_length];rfl
   have HKK:=hid hkk;have HE1:=hid hE1;clear hkk hE1;go_wp2_with fail;go_ret;exact ⟨by rw[HE1.out];rfl,HN.out⟩
def err2 (x y:ByteArray):Int:=if ratErr x.data.toList=0 then ratErr y.data.toList else ratErr x.data.toList
theorem rowErr_two (x y:ByteArray):rowErr [x,y]=err2 x y:=by
 unfold err2;show (if ratErr x.data.toList=0 then (if ratErr y.data.toList=0 then 0 else ratErr y.data.toList) else ratErr x.data.toList)=_;split
 ·split
  ·rename_i h;rw[h]
  ·rfl
 ·rfl
theorem box_strs2 {w:World}{B:Nat}{t:TypeId}{x y:ByteArray}(h:Box w B t #[.string x,.string y]):RdL w (some ⟨B,0,none⟩) (strs [x,y]):=fun i hi=>by
 refine ⟨B,0,rfl,?_⟩;rw[h.cell]
 match i,hi with
 | 0,_=>rfl
 | 1,_=>rfl
theorem ncheckAll_two (x y:ByteArray)(hx:x.size≤100000)(hy:y.size≤100000)(B cap:Nat)(t:TypeId)(W:World)(he:Env W)(hB:Box W B t #[.string x,.string y]):Calls Tryz.prog 103 #[.slice (some ⟨B,0,none⟩) 2 cap] W (RetNew W (err2 x y)):=
 ncheckAll_calls (some ⟨B,0,none⟩) cap 2 [x,y] _ W he rfl (by omega) (box_strs2 hB) (rowErr_two x y) fun k h1=>by
  match k,h1 with
  | 0,_=>exact hx
  | 1,_=>exact hy
theorem ncheckSpan_ok (p q:Rat)(x y:ByteArray)(hp:x.data.toList=ratText p)(hq:y.data.toList=ratText q)(fp:Fits p)(fq:Fits q)(hx:x.size≤100000)(hy:y.size≤100000)(w:World)(he:Env w):Calls Tryz.prog 51 #[.agg #[.string x,.string y]] w (RetNew w (if q < p then 11 else 0)):=by
 have hrow:=ncheckAll_two x y hx hy;rw[show err2 x y=0 by unfold err2;rw[hp,hq,ratErr_ratText fp,ratErr_ratText fq];rfl] at hrow;have hfx:=fun W hW=>from_calls x p W hW hp (by omega);have hfy:=fun W hW=>from_calls y q W hW hq (by omega);have hcm:=fun va vb W h1 h2=>fcmp_calls va vb p q 2000 2000 W h1 h2 (Fits.fb fp) (Fits.fb fq) (by omega);obtain ⟨r,hr⟩:∃ r,(crossed p q).sign=r:=⟨_,rfl⟩
 have hrs:0 < r ↔ q < p:=by rw[←hr];exact crossed_pos
 unfold SignPost at hcm;simp only[hr] at hcm;obtain ⟨E,hE⟩:∃ E:Int,(if q < p then 11 else 0)=E:=⟨_,rfl⟩;rw[hE]
 have hEb:(if decide (0 < r)=true then (11:Int) else 0)=E:=by
  rw[←hE];by_cases h:q < p
  ·rw[if_pos h,if_pos (decide_eq_true (hrs.2 h))]
  ·rw[if_neg h,if_neg (by rw[decide_eq_true_iff];exact fun h2=>h (hrs.1 h2))]
 clear hr hrs hE hp hq fp fq hx hy;have HE:=hid he;have HROW:=hid hrow;have HFX:=hid hfx;have HFY:=hid hfy;have HCM:=hid hcm;have HEB:=hid hEb;clear he hrow hfx hfy hcm hEb;go_enter Tryz.func51,Tryz.ntmps51;go_upto_region 1 with (fail);obtain ⟨BA,HN⟩:=lay1 w 53 #[.string x,.string y];obtain ⟨w8,hw8⟩:∃ u,w.alloc (.cells #[.string x,.string y] 53)=u:=⟨_,rfl⟩;rw[hw8] at BA HN⊢;clear hw8;obtain ⟨pa0,pa1,pa2,pa3,pa4⟩:=BA.out.two;go_wp2_with fail;clear pa0 pa1 pa2 pa3 pa4;have HN0:=HN;clear HN;obtain ⟨BG,HN⟩:=lay1 w8 23 #[.string x,.string y];replace BA:=hid (BA.out.new HN.out);have HN_:=HN0.out.trans HN.out;clear HN HN0;have HN:=hid HN_;clear HN_;refine (HROW.out _ _ _ _ (HE.out.new HN.out) BG.out).mono ?_;rintro e w2 ⟨rfl,hn⟩;clear BG;replace BA:=hid (BA.out.new hn);replace HN:=hid (HN.out.trans hn);clear hn;go_wp2_with fail;obtain ⟨pa0,pa1,pa2,pa3,pa4⟩:=BA.out.two;refine wp_region_T 9 (fun W=>W.cell? ⟨w.heap.size,0,none⟩=some (.string x)∧W.cell? ⟨w.heap.size,1,none⟩=some (.string y)) 10 #[false,false,false,false,false,false,false,false,false,false] rfl (by kernel_rfl) (by kernel_rfl) ?_;refine tk 0 (by exact ⟨pa0,pa1⟩) ?_
 try simp only[PT]
 refine tk 1 (by exact ⟨pa0,pa1⟩) ?_
 try simp only[PT]
 refine tk 3 (by exact ⟨pa0,pa1⟩) ?_
 try simp only[PT]
 refine tk 4 (by exact ⟨pa0,pa1⟩) ?_
 try simp only[PT]
 refine wpT_one 2 rfl (by kernel_rfl) (fun K hK=>?_);go_simp;refine (HFX.out _ (HE.out.new HN.out.drew)).mono ?_;rintro e w3 ⟨v3,rfl,hn,hf⟩;have hn:=hn.undrew;have HF1:=hid hf;clear hf;clear pa0 pa1 pa2 pa3 pa4;replace BA:=hid (BA.out.new hn);replace HN:=hid (HN.out.trans hn);clear hn;obtain ⟨pa0,pa1,pa2,pa3,pa4⟩:=BA.out.two;refine hK.out _ _ (fun _=>?_) ?_
 ·exact ⟨pa0,pa1⟩
 clear hK K
 try simp only[PT]
 refine wpT_one 5 rfl (by kernel_rfl) (fun K hK=>?_);go_simp;refine (HFY.out _ (HE.out.new HN.out)).mono ?_;rintro e w4 ⟨v4,rfl,hn,hf⟩;have HF2:=hid hf;clear hf;clear pa0 pa1 pa2 pa3 pa4;replace BA:=hid (BA.out.new hn);replace HF1:=hid (HF1.out.new hn);replace HN:=hid (HN.out.trans hn);clear hn;obtain ⟨pa0,pa1,pa2,pa3,pa4⟩:=BA.out.two;refine hK.out _ _ (fun _=>?_) ?_
 ·exact ⟨pa0,pa1⟩
 clear hK K
 try simp only[PT]
 refine wpT_one 6 rfl (by kernel_rfl) (fun K hK=>?_);go_simp;refine (HCM.out _ _ _ HF1.out HF2.out).mono ?_;rintro e w5 ⟨rfl,hn⟩;clear HF1 HF2;clear pa0 pa1 pa2 pa3 pa4;replace BA:=hid (BA.out.new hn);replace HN:=hid (HN.out.trans hn);clear hn;obtain ⟨pa0,pa1,pa2,pa3,pa4⟩:=BA.out.two;refine hK.out _ _ (fun _=>?_) ?_
 ·exact ⟨pa0,pa1⟩
 clear hK K
 try simp only[PT]
 refine tk 7 (by exact ⟨pa0,pa1⟩) ?_
 try simp only[PT]
 refine wpT_one 8 rfl (by kernel_rfl) (fun K hK=>?_);go_simp;refine (nwhen_calls _ 11 _).mono ?_;rintro e w6 ⟨rfl,hw6⟩;subst hw6;rw[HEB.out];refine hK.out _ _ (fun _=>?_) ?_
 ·exact ⟨pa0,pa1⟩
 clear hK K
 try simp only[PT]
 refine wpT_tail rfl (by kernel_rfl) ?_;simp only[List.drop_succ_cons,List.drop_zero];go_wp2_with fail;go_ret;exact ⟨rfl,HN.out⟩
def TxtPost (w:World)(s:ByteArray)(n:Int)(e:Ending)(w':World):Prop:=e=.returned (.tuple #[.string s,.int .i64 n])∧New w w'
theorem nresult_calls (va:Value)(q:Rat)(w:World)(hx:IsFrac w va q)(hb:FB 1800 q)(he:Env w):Calls Tryz.prog 91 #[va] w (TxtPost w (rs q) 0):=by
 obtain ⟨sa,aa,la,ca,ta,ba,ma,na,rfl⟩:=hx.shape;have htx:=fun (W:World) v h hW=>text_calls v q W h (hb.mono (by omega)) hW;have hlg:=fun (W:World) v h=>large_calls v q W h hb;obtain ⟨X,hX⟩:∃ X:ByteArray,rs q=X:=⟨_,rfl⟩;have hX2:(⟨(ratText q).toArray⟩:ByteArray)=X:=hX;simp only[hX2] at htx;rw[hX];clear hb hX hX2;unfold TxtPost;have HX:=hid hx;have HE:=hid he;have HTX:=hid htx;have HLG:=hid hlg;clear hx he htx hlg;go_enter Tryz.func91,Tryz.ntmps91;go_upto_region 1 with (fail);obtain ⟨BA,HN⟩:=lay1 w 115 #[.int .i64 sa,.slice aa la ca,.int .i64 ta,.slice ba ma na];obtain ⟨⟨pa0,pa1,pa2,pa3⟩,pa4,pa5,pa6,pa7,pa8⟩:=BA.out.four;go_wp2_with fail;refine (HLG.out _ _ (HX.out.new HN.out)).mono ?_;rintro e w1 ⟨rfl,hn⟩;clear pa0 pa1 pa2 pa3 pa4 pa5 pa6 pa7 pa8;replace BA:=hid (BA.out.new hn);replace HN:=hid (HN.out.trans hn);clear hn;obtain ⟨⟨pa0,pa1,pa2,pa3⟩,pa4,pa5,pa6,pa7,pa8⟩:=BA.out.four;go_wp2_with fail;refine (HTX.out _ _ (HX.out.new HN.out) (HE.out.new HN.out)).mono ?_;rintro e w2 ⟨rfl,hn⟩;clear pa0 pa1 pa2 pa3 pa4 pa5 pa6 pa7 pa8;replace HN:=hid (HN.out.trans hn);clear hn;go_wp2_with fail;refine bodyPost_ret (v:=.tuple #[.string X,.int .i64 0]) (by simp[results,Tryz.results91,go_sem]) rfl ?_;exact ⟨rfl,HN.out⟩
def SpPost (w:World)(x y:ByteArray)(n:Int)(e:Ending)(w':World):Prop:=e=.returned (.tuple #[.agg #[.string x,.string y],.int .i64 n])∧New w w'
theorem nspan_calls (va vb:Value)(x y:Rat)(w:World)(hx:IsFrac w va x)(hy:IsFrac w vb y)(sx:FB 1800 x)(sy:FB 1800 y)(he:Env w):Calls Tryz.prog 114 #[va,vb] w (SpPost w (rs x) (rs y) 0):=by
 obtain ⟨sa,aa,la,ca,ta,ba,ma,na,rfl⟩:=hx.shape;obtain ⟨sb,ab,lb,cb,tb,bb,mb,nb,rfl⟩:=hy.shape;unfold SpPost;have htx:=fun (W:World) v h hW=>text_calls v x W h (sx.mono (by omega)) hW;have hty:=fun (W:World) v h hW=>text_calls v y W h (sy.mono (by omega)) hW;obtain ⟨X,hX⟩:∃ X:ByteArray,rs x=X:=⟨_,rfl⟩;obtain ⟨Y,hY⟩:∃ Y:ByteArray,rs y=Y:=⟨_,rfl⟩;have hX2:(⟨(ratText x).toArray⟩:ByteArray)=X:=hX;have hY2:(⟨(ratText y).toArray⟩:ByteArray)=Y:=hY;simp only[hX2] at htx;simp only[hY2] at hty;rw[hX,hY];clear hX hY hX2 hY2;have HX:=hid hx;have HY:=hid hy;have SX:=hid sx;have SY:=hid sy;have HE:=hid he;have HTX:=hid htx;have HTY:=hid hty;clear hx hy sx sy he htx hty;go_enter Tryz.func114,Tryz.ntmps114;go_upto_region 1 with (fail);obtain ⟨BA,BB,BP,HN⟩:=lay3 w 115 #[.int .i64 sa,.slice aa la ca,.int .i64 ta,.slice ba ma na] 115 #[.int .i64 sb,.slice ab lb cb,.int .i64 tb,.slice bb mb nb] 53 #[.string ⟨#[]⟩,.string ⟨#[]⟩];obtain ⟨⟨pa0,pa1,pa2,pa3⟩,pa4,pa5,pa6,pa7,pa8⟩:=BA.out.four;go_wp2_with fail;refine (large_calls _ x _ (HX.out.new HN.out) SX.out).mono ?_;rintro e w1 ⟨rfl,hn⟩;clear pa0 pa1 pa2 pa3 pa4 pa5 pa6 pa7 pa8;replace BA:=hid (BA.out.new hn);replace BB:=hid (BB.out.new hn);replace BP:=hid (BP.out.new hn);replace HN:=hid (HN.out.trans hn);clear hn;obtain ⟨⟨pa0,pa1,pa2,pa3⟩,pa4,pa5,pa6,pa7,pa8⟩:=BA.out.four;obtain ⟨⟨pb0,pb1,pb2,pb3⟩,pb4,pb5,pb6,pb7,pb8⟩:=BB.out.four;go_wp2_with fail;refine (large_calls _ y _ (HY.out.new HN.out) SY.out).mono ?_;rintro e w2 ⟨rfl,hn⟩;clear pa0 pa1 pa2 pa3 pa4 pa5 pa6 pa7 pa8 pb0 pb1 pb2 pb3 pb4 pb5 pb6 pb7 pb8;replace BA:=hid (BA.out.new hn);replace BB:=hid (BB.out.new hn);replace BP:=hid (BP.out.new hn);replace HN:=hid (HN.out.trans hn);clear hn;obtain ⟨⟨pa0,pa1,pa2,pa3⟩,pa4,pa5,pa6,pa7,pa8⟩:=BA.out.four;obtain ⟨⟨pb0,pb1,pb2,pb3⟩,pb4,pb5,pb6,pb7,pb8⟩:=BB.out.four;go_wp2_with fail;refine wp_region_T 5 (fun W=>W.cell? ⟨w.heap.size,0,none⟩=some (.int .i64 sa)∧W.cell? ⟨w.heap.size,1,none⟩=some (.slice aa la ca)∧W.cell? ⟨w.heap.size,2,none⟩=some (.int .i64 ta)∧W.cell? ⟨w.heap.size,3,none⟩=some (.slice ba ma na)∧W.cell? ⟨w.heap.size+1,0,none⟩=some (.int .i64 sb)∧W.cell? ⟨w.heap.size+1,1,none⟩=some (.slice ab lb cb)∧W.cell? ⟨w.heap.size+1,2,none⟩=some (.int .i64 tb)∧W.cell? ⟨w.heap.size+1,3,none⟩=some (.slice bb mb nb)) 7 #[false,false,false,false,false,false,false] rfl (by kernel_rfl) (by kernel_rfl) ?_;refine tk 0 (by exact ⟨pa0,pa1,pa2,pa3,pb0,pb1,pb2,pb3⟩) ?_
 try simp only[PT]
 refine tk 2 (by exact ⟨pa0,pa1,pa2,pa3,pb0,pb1,pb2,pb3⟩) ?_
 try simp only[PT]
 refine wpT_one 1 rfl (by kernel_rfl) (fun K hK=>?_);go_simp;refine (HTX.out _ _ (HX.out.new HN.out.drew) (HE.out.new HN.out.drew)).mono ?_;rintro e w3 ⟨rfl,hn⟩;have hn:=hn.undrew;clear pa0 pa1 pa2 pa3 pa4 pa5 pa6 pa7 pa8 pb0 pb1 pb2 pb3 pb4 pb5 pb6 pb7 pb8;replace BA:=hid (BA.out.new hn);replace BB:=hid (BB.out.new hn);replace BP:=hid (BP.out.new hn);replace HN:=hid (HN.out.trans hn);clear hn;obtain ⟨⟨pa0,pa1,pa2,pa3⟩,pa4,pa5,pa6,pa7,pa8⟩:=BA.out.four;obtain ⟨⟨pb0,pb1,pb2,pb3⟩,pb4,pb5,pb6,pb7,pb8⟩:=BB.out.four;refine hK.out _ _ (fun _=>?_) ?_
 ·exact ⟨pa0,pa1,pa2,pa3,pb0,pb1,pb2,pb3⟩
 clear hK K
 try simp only[PT]
 refine wpT_one 3 rfl (by kernel_rfl) (fun K hK=>?_);go_simp;refine (HTY.out _ _ (HY.out.new HN.out) (HE.out.new HN.out)).mono ?_;rintro e w4 ⟨rfl,hn⟩;clear pa0 pa1 pa2 pa3 pa4 pa5 pa6 pa7 pa8 pb0 pb1 pb2 pb3 pb4 pb5 pb6 pb7 pb8;replace BA:=hid (BA.out.new hn);replace BB:=hid (BB.out.new hn);replace BP:=hid (BP.out.new hn);replace HN:=hid (HN.out.trans hn);clear hn;obtain ⟨⟨pa0,pa1,pa2,pa3⟩,pa4,pa5,pa6,pa7,pa8⟩:=BA.out.four;obtain ⟨⟨pb0,pb1,pb2,pb3⟩,pb4,pb5,pb6,pb7,pb8⟩:=BB.out.four;refine hK.out _ _ (fun _=>?_) ?_
 ·exact ⟨pa0,pa1,pa2,pa3,pb0,pb1,pb2,pb3⟩
 clear hK K
 try simp only[PT]
 refine tk 4 (by exact ⟨pa0,pa1,pa2,pa3,pb0,pb1,pb2,pb3⟩) ?_
 try simp only[PT]
 refine wpT_tail rfl (by kernel_rfl) ?_;simp only[List.drop_succ_cons,List.drop_zero];obtain ⟨p0,p1,p2,p3,p4⟩:=BP.out.two;go_wp2_with fail;refine bodyPost_ret (v:=.tuple #[.agg #[.string X,.string Y],.int .i64 0]) (by simp[results,Tryz.results114,go_sem,p0,p1]) rfl ?_;exact ⟨rfl,HN.out.putAt BP.out (by omega) _ _⟩
theorem pow_eight_ten {k n:Nat}(h:k≤3*n):2^k≤10^n:=Nat.le_trans (Nat.pow_le_pow_right (by omega) h) (by
 rw[Nat.pow_mul]
 exact Nat.pow_le_pow_left (by decide) n)
theorem trim_itoa (x:Int):Lib.trimPrefix (Lib.itoa x) [45]=decDigits x.natAbs:=by
 rcases Int.lt_or_le x 0 with h | h
 ·rw[show x= -(x.natAbs:Int) by omega,Big.itoa_neg (by omega)];unfold Lib.trimPrefix Lib.hasPrefix;simp
 ·rw[show x=(x.natAbs:Int) by omega,Big.itoa_nonneg];unfold Lib.trimPrefix Lib.hasPrefix;rw[if_neg,Int.natAbs_natCast];intro hp
  cases hl:decDigits x.natAbs with
  | nil=>exact decDigits_ne_nil _ hl
  | cons c l=>
   rw[hl]at hp
   have hc:45=c:=by simpa using hp
   exact decDigits_no x.natAbs (c:=45) (by decide) (by rw[hl,hc];exact List.mem_cons_self ..)
theorem nlong_calls (va:Value)(x:Int)(w:World)(hx:IsInt w va x)(hs:BdK 40000 x)(he:Env w):Calls Tryz.prog 218 #[va] w fun e w'=>e=.returned (.bool (decide (600 < nDigits x.natAbs)))∧New w w':=by
 obtain ⟨sa,aa,la,ca,rfl⟩:=hx.shape;have bx:Bd x:=⟨40000,by omega,hs⟩;have hst:=fun W va hx hW=>string_calls va x W hx hs hW;obtain ⟨r,hr⟩:∃ r,decide (600 < nDigits x.natAbs)=r:=⟨_,rfl⟩
 have hsm:∀ b:Nat,IsBits x.natAbs b→b≤1800→r=false:=fun b hb h=>by
  rw[←hr];have h1:x.natAbs < 10^600:=Nat.lt_of_lt_of_le hb.lt (pow_eight_ten (n:=600) (by omega));have:=(nDigits_le_iff (k:=600) (by omega)).2 h1;exact decide_eq_false (by omega)
 obtain ⟨D,hD⟩:∃ D:ByteArray,⟨(decDigits x.natAbs).toArray⟩=D:=⟨_,rfl⟩
 have hDs:D.size=nDigits x.natAbs:=by rw[←hD,←decDigits_length];simp[ByteArray.size]
 obtain ⟨S,hS⟩:∃ S:ByteArray,⟨(Lib.itoa x).toArray⟩=S:=⟨_,rfl⟩
 have htp:(⟨(Lib.trimPrefix S.data.toList (⟨#[45]⟩:ByteArray).data.toList).toArray⟩:ByteArray)=D:=by
  rw[←hS,←hD,←trim_itoa]
 have hlen:decide ((600:Int) < (D.size:Int))=r:=by
  rw[←hr,hDs];exact decide_eq_decide.2 (by omega)
 simp only[hS]at hst;rw[hr];clear hr hs hD hDs hS;have HX:=hid hx;have BX:=hid bx;have HE:=hid he;have HST:=hid hst;have HSM:=hid hsm;have HTP:=hid htp;have HLEN:=hid hlen;clear hx bx he hst hsm htp hlen;go_enter Tryz.func218,Tryz.ntmps218;go_wp2_with fail;obtain ⟨BA,HN⟩:=lay1 w 113 #[.int .i64 sa,.slice aa la ca];refine (bits_calls _ x _ (HX.out.new HN.out) BX.out).mono ?_;rintro e w1 ⟨b,rfl,hn,hb⟩;replace BA:=hid (BA.out.new hn);replace HN:=hid (HN.out.trans hn);clear hn;by_cases h:b≤1800
 ·have hr:=HSM.out b hb h
  have hi:¬(1800:Int) < (b:Int):=by omega
  have hd:decide ((1800:Int) < (b:Int))=false:=decide_eq_false hi;clear h hb;have HR:=hid hr;clear hr;go_wp2_with fail;go_ret;exact ⟨by rw[HR.out];rfl,HN.out⟩
 ·have hi:(1800:Int) < (b:Int):=by omega
  have hd:decide ((1800:Int) < (b:Int))=true:=decide_eq_true hi;clear h hb;obtain ⟨pa0,pa1,pa2,pa3,pa4⟩:=BA.out.two;go_wp2_with fail;refine (HST.out _ _ (HX.out.new HN.out) (HE.out.new HN.out)).mono ?_;rintro e w2 ⟨rfl,hn⟩;clear pa0 pa1 pa2 pa3 pa4;replace HN:=hid (HN.out.trans hn);clear hn;go_wp2_with fail;refine (Tryz.strings_TrimPrefix S _ _).mono ?_;rintro e w' ⟨rfl,hw⟩;subst hw;rw[HTP.out];have hlen:=HLEN.out;go_wp2_with fail;go_ret;exact ⟨rfl,HN.out⟩
def bigQ (q:Rat):Bool:=decide (600 < nDigits q.num.natAbs) || decide (600 < nDigits q.den)
theorem nlarge_calls (va:Value)(q:Rat)(w:World)(hx:IsFrac w va q)(hb:FB 40000 q)(he:Env w):Calls Tryz.prog 165 #[va] w fun e w'=>e=.returned (.bool (bigQ q))∧New w w':=by
 obtain ⟨s,a,l,c,s',a',l',c',rfl,h1,h2⟩:=hx;have hl1:=fun W va hx hW=>nlong_calls va q.num W hx hb.num hW;have hl2:=fun W va hx hW=>nlong_calls va (q.den:Int) W hx hb.den hW;rw[Int.natAbs_natCast] at hl2;unfold bigQ;obtain ⟨r1,hr1⟩:∃ r,decide (600 < nDigits q.num.natAbs)=r:=⟨_,rfl⟩;obtain ⟨r2,hr2⟩:∃ r,decide (600 < nDigits q.den)=r:=⟨_,rfl⟩;simp only[hr1] at hl1;simp only[hr2] at hl2;rw[hr1,hr2];clear hr1 hr2 hb;have H1:=hid h1;have H2:=hid h2;have HE:=hid he;have HL1:=hid hl1;have HL2:=hid hl2;clear h1 h2 he hl1 hl2;go_enter Tryz.func165,Tryz.ntmps165;go_wp2_with fail;obtain ⟨BA,HN⟩:=lay1 w 115 #[.int .i64 s,.slice a l c,.int .i64 s',.slice a' l' c'];refine (HL1.out _ _ (H1.out.new HN.out) (HE.out.new HN.out)).mono ?_;rintro e w2 ⟨rfl,hn⟩;replace BA:=hid (BA.out.new hn);replace HN:=hid (HN.out.trans hn);clear hn
 cases r1 with
 | true=>
  go_wp2_with fail;go_ret;exact ⟨rfl,HN.out⟩
 | false=>
  obtain ⟨⟨pa0,pa1,pa2,pa3⟩,pa4,pa5,pa6,pa7,pa8⟩:=BA.out.four;go_wp2_with fail;refine (HL2.out _ _ (H2.out.new HN.out) (HE.out.new HN.out)).mono ?_;rintro e w3 ⟨rfl,hn⟩;clear pa0 pa1 pa2 pa3 pa4 pa5 pa6 pa7 pa8;replace HN:=hid (HN.out.trans hn);clear hn;go_wp2_with fail;go_ret;exact ⟨rfl,HN.out⟩
def resS (q:Rat):ByteArray:=if bigQ q then ⟨#[]⟩ else rs q
def resE (q:Rat):Int:=if bigQ q then 4 else 0
theorem nresult_gen (va:Value)(q:Rat)(w:World)(hx:IsFrac w va q)(hb:FB 40000 q)(he:Env w):Calls Tryz.prog 91 #[va] w (TxtPost w (resS q) (resE q)):=by
 obtain ⟨sa,aa,la,ca,ta,ba,ma,na,rfl⟩:=hx.shape;have htx:=fun (W:World) v h hW=>text_calls v q W h hb hW;have hlg:=fun (W:World) v h hW=>nlarge_calls v q W h hb hW;obtain ⟨X,hX⟩:∃ X:ByteArray,rs q=X:=⟨_,rfl⟩;have hX2:(⟨(ratText q).toArray⟩:ByteArray)=X:=hX;obtain ⟨r,hr⟩:∃ r,bigQ q=r:=⟨_,rfl⟩;simp only[hX2] at htx;simp only[hr] at hlg;unfold TxtPost resS resE;rw[hX,hr];clear hb hX hX2 hr;have HX:=hid hx;have HE:=hid he;have HTX:=hid htx;have HLG:=hid hlg;clear hx he htx hlg;go_enter Tryz.func91,Tryz.ntmps91;go_upto_region 1 with (fail);obtain ⟨BA,HN⟩:=lay1 w 115 #[.int .i64 sa,.slice aa la ca,.int .i64 ta,.slice ba ma na];obtain ⟨⟨pa0,pa1,pa2,pa3⟩,pa4,pa5,pa6,pa7,pa8⟩:=BA.out.four;go_wp2_with fail;refine (HLG.out _ _ (HX.out.new HN.out) (HE.out.new HN.out)).mono ?_;rintro e w1 ⟨rfl,hn⟩;clear pa0 pa1 pa2 pa3 pa4 pa5 pa6 pa7 pa8;replace BA:=hid (BA.out.new hn);replace HN:=hid (HN.out.trans hn);clear hn;obtain ⟨⟨pa0,pa1,pa2,pa3⟩,pa4,pa5,pa6,pa7,pa8⟩:=BA.out.four
 cases r with
 | true=>
  go_wp2_with fail;refine bodyPost_ret (v:=.tuple #[.string ⟨#[]⟩,.int .i64 4]) (by simp[results,Tryz.results91,go_sem]) rfl ?_;exact ⟨rfl,HN.out⟩
 | false=>
  go_wp2_with fail;refine (HTX.out _ _ (HX.out.new HN.out) (HE.out.new HN.out)).mono ?_;rintro e w2 ⟨rfl,hn⟩;clear pa0 pa1 pa2 pa3 pa4 pa5 pa6 pa7 pa8;replace HN:=hid (HN.out.trans hn);clear hn;go_wp2_with fail;refine bodyPost_ret (v:=.tuple #[.string X,.int .i64 0]) (by simp[results,Tryz.results91,go_sem]) rfl ?_;exact ⟨rfl,HN.out⟩
theorem nof_calls (n d:Int)(w:World)(he:Env w)(hd:d≠0)(bn:n.natAbs≤999999999)(bd:d.natAbs≤999999999):Calls Tryz.prog 69 #[.int .i64 n,.int .i64 d] w (TxtPost w (rs (Rat.divInt n d)) 0):=by
 have kn:BdK 62 n:=Nat.lt_of_le_of_lt bn (by decide);have kd:BdK 62 d:=Nat.lt_of_le_of_lt bd (by decide);have hmk:=fun W va vb h1 h2=>make_calls va vb n d W h1 h2 (kn.bd (by omega)) (kd.bd (by omega)) hd;have hrs:=fun W v h hW=>nresult_calls v (Rat.divInt n d) W h ((FB.divInt kn kd hd).mono (by omega)) hW;obtain ⟨q,hq⟩:∃ q,Rat.divInt n d=q:=⟨_,rfl⟩;obtain ⟨X,hX⟩:∃ X,rs q=X:=⟨_,rfl⟩;simp only[hq,hX] at hmk hrs;rw[hq,hX];have hb:(d==0)=false:=beq_false_of_ne hd;have s1:∀ W,IsInt W (.agg #[.int .i64 n,.slice none 0 0]) n:=fun W=>.small rfl (by omega) (by omega);have s2:∀ W,IsInt W (.agg #[.int .i64 d,.slice none 0 0]) d:=fun W=>.small rfl (by omega) (by omega);unfold TxtPost at *;clear hq hX kn kd bn bd hd;have HN:=hid (New.refl w);have HE:=hid he;have HMK:=hid hmk;have HRS:=hid hrs;have S1:=hid s1;have S2:=hid s2;clear he hmk hrs s1 s2;go_enter Tryz.func69,Tryz.ntmps69;go_wp2_with fail;refine (of_calls n _).mono ?_;rintro e w1 ⟨rfl,hn⟩;replace HN:=hid (HN.out.trans hn);clear hn;go_wp2_with fail;refine (of_calls d _).mono ?_;rintro e w2 ⟨rfl,hn⟩;replace HN:=hid (HN.out.trans hn);clear hn;go_wp2_with fail;refine (HMK.out _ _ _ (S1.out _) (S2.out _)).mono ?_;rintro e w3 ⟨v,rfl,hn,hf⟩;have HF:=hid hf;clear hf;replace HN:=hid (HN.out.trans hn);clear hn;go_wp2_with fail;refine (HRS.out _ _ HF.out (HE.out.new HN.out)).mono ?_;rintro e w4 ⟨rfl,hn⟩;replace HN:=hid (HN.out.trans hn);clear hn;go_wp2_with fail;refine bodyPost_ret (v:=.tuple #[.string X,.int .i64 0]) (by simp[results,Tryz.results69,go_sem]) rfl ?_;exact ⟨rfl,HN.out⟩
theorem floor_fb {q:Rat}{k:Nat}(h:FB k q)(hk:1≤k):FB (k+1) ((q.floor:Int):Rat):=by
 refine FB.int ?_ (by omega);have h1:q.num.natAbs < 2^k:=h.num;have hd:=q.den_pos;unfold BdK;rw[Rat.floor_def];have h2:=Int.natAbs_ediv_le_natAbs q.num (q.den:Int);have:2^k≤2^(k+1):=Nat.pow_le_pow_right (by omega) (by omega);omega
theorem nfloor_ok (s:ByteArray)(q:Rat)(hs:s.data.toList=ratText q)(hf:Fits q)(hl:s.size≤100000)(w:World)(he:Env w):Calls Tryz.prog 70 #[.string s] w (TxtPost w (resS ((q.floor:Int):Rat)) (resE ((q.floor:Int):Rat))):=by
 have hck:=fun W hW=>check_calls s W hW hl;rw[hs,ratErr_ratText hf] at hck;have fb:=Fits.fb hf;have hfr:=fun W hW=>from_calls s q W hW hs (by omega);have hfl:=fun W v h=>floor_calls v q 2000 W h fb (by omega);have hwh:=fun W v h=>whole_calls v q.floor W h;have hrs:=fun W v h hW=>nresult_gen v ((q.floor:Int):Rat) W h ((floor_fb fb (by omega)).mono (by omega)) hW;obtain ⟨z,hz⟩:∃ z,q.floor=z:=⟨_,rfl⟩;simp only[hz] at hfl hwh hrs;rw[hz];obtain ⟨p,hp⟩:∃ p:Rat,((z:Int):Rat)=p:=⟨_,rfl⟩;simp only[hp] at hwh hrs;rw[hp];obtain ⟨X,hX⟩:∃ X,resS p=X:=⟨_,rfl⟩;obtain ⟨E,hE⟩:∃ X,resE p=X:=⟨_,rfl⟩;simp only[hX,hE] at hrs;rw[hX,hE];unfold TxtPost at *;clear hX hE hp hz hs hf hl fb;have HN:=hid (New.refl w);have HE:=hid he;have HCK:=hid hck;have HFR:=hid hfr;have HFL:=hid hfl;have HWH:=hid hwh;have HRS:=hid hrs;clear he hck hfr hfl hwh hrs;go_enter Tryz.func70,Tryz.ntmps70;go_wp2_with fail;refine (HCK.out _ (HE.out.new HN.out)).mono ?_;rintro e w1 ⟨rfl,hn⟩;replace HN:=hid (HN.out.trans hn);clear hn;go_wp2_with fail;refine (HFR.out _ (HE.out.new HN.out)).mono ?_;rintro e w2 ⟨v2,rfl,hn,hf⟩;have HF2:=hid hf;clear hf;replace HN:=hid (HN.out.trans hn);clear hn;go_wp2_with fail;refine (HFL.out _ _ HF2.out).mono ?_;rintro e w3 ⟨v3,rfl,hn,hf⟩;have HF3:=hid hf;clear hf;replace HN:=hid (HN.out.trans hn);clear hn;go_wp2_with fail;refine (HWH.out _ _ HF3.out).mono ?_;rintro e w4 ⟨v4,rfl,hn,hf⟩;have HF4:=hid hf;clear hf;replace HN:=hid (HN.out.trans hn);clear hn;go_wp2_with fail;refine (HRS.out _ _ HF4.out (HE.out.new HN.out)).mono ?_;rintro e w5 ⟨rfl,hn⟩;replace HN:=hid (HN.out.trans hn);clear hn;go_wp2_with fail;refine bodyPost_ret (v:=.tuple #[.string X,.int .i64 E]) (by simp[results,Tryz.results70,go_sem]) rfl ?_;exact ⟨rfl,HN.out⟩
end Go.Proofs.YtnjonlnemagomaaGreatDoor
