/- Part B18. -/
import Derived.Laws.FloatArith
import Derived.Laws.Externs
import Derived.IntWalk
import Derived.Test.YtnjonlnemagomaaGreatDoorB15
import Derived.Test.YtnjonlnemagomaaGreatDoorB17
namespace Go.Proofs.YtnjonlnemagomaaGreatDoor
open Go.RowKit Big Go.Lib Tryz
set_option maxRecDepth 100000
set_option maxHeartbeats 8000000
set_option linter.all false
theorem bits64_run (b:Nat)(W:World):(callFunc 236 #[.float .f64 b]).run prog W=.ok (.value (.int .u64 b)) W:=by
 rw[run_callFunc_extern func236 (by kernel_rfl) (by kernel_rfl) (by kernel_rfl) (e:=Extern.MathFloatBits.float64bits) (by kernel_rfl)];rfl
theorem frombits64_run (b:Nat)(W:World):(callFunc 239 #[.int .u64 b]).run prog W=.ok (.value (.float .f64 b)) W:=by
 rw[run_callFunc_extern func239 (by kernel_rfl) (by kernel_rfl) (by kernel_rfl) (e:=Extern.MathFloatBits.float64frombits) (by kernel_rfl)];rfl
theorem bits_andNot64 (x m:Nat)(hx:x < 18446744073709551616)(hm:m < 18446744073709551616):bits .andNot .u64 (x:Int) (m:Int)=((x &&& (18446744073709551615 - m):Nat):Int):=by
 have h1:(BitVec.ofInt 64 (x:Int)).toNat=x:=by rw[BitVec.ofInt_natCast,BitVec.toNat_ofNat];exact Nat.mod_eq_of_lt hx
 have h2:(BitVec.ofInt 64 (m:Int)).toNat=m:=by rw[BitVec.ofInt_natCast,BitVec.toNat_ofNat];exact Nat.mod_eq_of_lt hm
 show IntKind.u64.wrap ((BitVec.ofInt 64 (x:Int) &&& ~~~BitVec.ofInt 64 (m:Int)).toNat:Int)=_;rw[BitVec.toNat_and,BitVec.toNat_not,h1,h2];have h3:x &&& (2^64 - 1 - m) < 18446744073709551616:=Nat.lt_of_le_of_lt Nat.and_le_left hx;have h4:(2:Nat)^64 - 1 - m=18446744073709551615 - m:=rfl;rw[h4] at h3⊢;rw[IntKind.wrap_u64];omega
theorem bits_or64 (x m:Nat)(hx:x < 18446744073709551616)(hm:m < 18446744073709551616):bits .or .u64 (x:Int) (m:Int)=((x ||| m:Nat):Int):=by
 have h1:(BitVec.ofInt 64 (x:Int)).toNat=x:=by rw[BitVec.ofInt_natCast,BitVec.toNat_ofNat];exact Nat.mod_eq_of_lt hx
 have h2:(BitVec.ofInt 64 (m:Int)).toNat=m:=by rw[BitVec.ofInt_natCast,BitVec.toNat_ofNat];exact Nat.mod_eq_of_lt hm
 show IntKind.u64.wrap ((BitVec.ofInt 64 (x:Int) ||| BitVec.ofInt 64 (m:Int)).toNat:Int)=_;rw[BitVec.toNat_or,h1,h2];have h3:x ||| m < 18446744073709551616:=Nat.or_lt_two_pow (n:=64) hx hm;rw[IntKind.wrap_u64];omega
theorem bits_and2047 (k:Nat)(hk:k < 4096):bits .and .i64 (k:Int) 2047=((k % 2048:Nat):Int):=by
 have h1:(BitVec.ofInt 64 (k:Int)).toNat=k:=by rw[BitVec.ofInt_natCast,BitVec.toNat_ofNat];exact Nat.mod_eq_of_lt (by omega)
 have h2:(BitVec.ofInt 64 2047).toNat=2^11 - 1:=by decide
 show IntKind.i64.wrap ((BitVec.ofInt 64 (k:Int) &&& BitVec.ofInt 64 2047).toNat:Int)=_;rw[BitVec.toNat_and,h1,h2,Nat.and_two_pow_sub_one_eq_mod,IntKind.wrap_i64];have:k % 2^11=k % 2048:=rfl;rw[this];omega
def wordOf (h E M:Nat):Nat:=h*9223372036854775808+E*4503599627370496+M
theorem wordOf_lt {h E M:Nat}(hh:h < 2)(hE:E < 2048)(hM:M < 4503599627370496):wordOf h E M < 18446744073709551616:=by unfold wordOf;omega
theorem mabs_calls {h E M:Nat}(hh:h < 2)(hE:E < 2048)(hM:M < 4503599627370496)(w:World):
  Calls prog 265 #[.float .f64 (wordOf h E M)] w fun e w'=>e=.returned (.float .f64 (wordOf 0 E M))∧w=w':=by
 have aa:=wordOf_lt hh hE hM;obtain ⟨x,hx⟩:∃ x,wordOf h E M=x:=⟨_,rfl⟩;obtain ⟨y,hy⟩:∃ y,wordOf 0 E M=y:=⟨_,rfl⟩
 have hb:bits .andNot .u64 (x:Int) 9223372036854775808=(y:Int):=by
  rw[←hx];have:=bits_andNot64 (wordOf h E M) 9223372036854775808 aa (by omega);refine this.trans ?_
  have e:(18446744073709551615 - 9223372036854775808:Nat)=2^63 - 1:=by decide
  rw[e,Nat.and_two_pow_sub_one_eq_mod,←hy];unfold wordOf;omega
 have h1:=fun W=>bits64_run x W;have h2:=fun W=>frombits64_run y W;rw[hx,hy];clear aa;replace hx:=hid hx;replace hy:=hid hy;go_in;go_wp2_with fail;go_ret;exact ⟨rfl,rfl⟩
theorem isInf_calls {h E M:Nat}(hh:h < 2)(hE:E < 2048)(hM:M < 4503599627370496)(ho:(FloatKind.f64.format.order (wordOf 0 E M) 9218868437227405311==some Ordering.gt)=false)(w:World):
  Calls prog 233 #[.float .f64 (wordOf h E M),.int .i64 0] w fun e w'=>e=.returned (.bool false)∧w=w':=by
 have aa:=fun W=>mabs_calls hh hE hM W;obtain ⟨x,hx⟩:∃ x,wordOf h E M=x:=⟨_,rfl⟩;obtain ⟨y,hy⟩:∃ y,wordOf 0 E M=y:=⟨_,rfl⟩;rw[hx,hy] at aa;rw[hy] at ho;rw[hx];refine zh3 ?_ hx hy aa;clear hx hy aa;intro HX HY ab;go_in;go_wp2_with fail;refine (ab _).mono ?_;rintro e w1 ⟨rfl,rfl⟩;go_wp2_with fail;go_ret;exact ⟨rfl,rfl⟩
theorem isNaN_calls (x:Nat)(ho:(FloatKind.f64.format.order x x != some Ordering.eq)=false)(w:World):
  Calls prog 234 #[.float .f64 x] w fun e w'=>e=.returned (.bool false)∧w=w':=by
 go_in;go_wp2_with fail;go_ret;exact ⟨rfl,rfl⟩
theorem normalize_calls {h E M:Nat}(hh:h < 2)(hE:E < 2048)(hM:M < 4503599627370496)(ho:(FloatKind.f64.format.order (wordOf 0 E M) 4503599627370496==some Ordering.lt)=false)(w:World):
  Calls prog 235 #[.float .f64 (wordOf h E M)] w fun e w'=>e=.returned (.tuple #[.float .f64 (wordOf h E M),.int .i64 0])∧w=w':=by
 have aa:=fun W=>mabs_calls hh hE hM W;obtain ⟨x,hx⟩:∃ x,wordOf h E M=x:=⟨_,rfl⟩;obtain ⟨y,hy⟩:∃ y,wordOf 0 E M=y:=⟨_,rfl⟩;rw[hx,hy] at aa;rw[hy] at ho;rw[hx];refine zh3 ?_ hx hy aa;clear hx hy aa;intro HX HY ab;go_in;go_wp2_with fail;refine (ab _).mono ?_;rintro e w1 ⟨rfl,rfl⟩;go_wp2_with fail;go_ret2;exact ⟨rfl,rfl⟩
theorem ld_in {n:Int}(h: -1000000≤n)(h':n≤1000000):wrap64 n=n:=by unfold wrap64;omega
theorem ld_div {x q:Nat}(h:x / 4503599627370496=q)(hq:q < 4096):wrap64 ((x:Int) / 4503599627370496)=(q:Int):=by
 have:(x:Int) / 4503599627370496=(q:Int):=by omega
 rw[this];exact ld_in (by omega) (by omega)
theorem ldexp_walk (x y z q E E':Nat) (s e1 ex:Int) (w:World)
  (h1:(FloatKind.f64.format.order x 0==some Ordering.eq)=false)
  (c1:∀ W,Calls prog 233 #[.float .f64 x,.int .i64 0] W fun e w'=>e=.returned (.bool false)∧W=w')
  (c2:∀ W,Calls prog 234 #[.float .f64 x] W fun e w'=>e=.returned (.bool false)∧W=w')
  (c3:∀ W,Calls prog 235 #[.float .f64 x] W fun e w'=>e=.returned (.tuple #[.float .f64 x,.int .i64 0])∧W=w')
  (c6:∀ W,(binOp .mul 151 (.float .f64 4607182418800017408) (.float .f64 y)).run prog W=.ok (.float .f64 y) W)
  (b1:bits .and .i64 (q:Int) 2047=(E:Int)) (b2:bits .andNot .u64 (x:Int) 9218868437227405312=(z:Int)) (b3:bits .or .u64 (z:Int) ((ex+1023)*4503599627370496)=(y:Int))
  (a1:wrap64 s=s) (a2:wrap64 ((x:Int) / 4503599627370496)=(q:Int)) (a3:wrap64 ((E:Int) - 1023)=e1) (a4:wrap64 (s+e1)=ex) (a5:wrap64 (ex+1023)=(E':Int))
  (g1:¬ex < -1075) (g2:¬(1023:Int) < ex) (g3:¬ex < -1022):
  Calls prog 195 #[.float .f64 x,.int .i64 s] w fun e w'=>e=.returned (.float .f64 y)∧w=w':=by
 have c4:=fun W=>bits64_run x W;have c5:=fun W=>frombits64_run y W;refine zh3 ?_ c1 c2 c3;clear c1 c2 c3;intro C1 C2 C3;go_in;go_wp2_with fail;refine (C1 _).mono ?_;rintro e w1 ⟨rfl,rfl⟩;go_wp2_with fail;refine (C2 _).mono ?_;rintro e w1 ⟨rfl,rfl⟩;go_wp2_with fail;refine (C3 _).mono ?_;rintro e w1 ⟨rfl,rfl⟩;go_wp2_with fail;go_ret;exact ⟨rfl,rfl⟩
theorem ldexp_zero (s:Int)(w:World):Calls prog 195 #[.float .f64 0,.int .i64 s] w fun e w'=>e=.returned (.float .f64 0)∧w=w':=by
 have h1:(FloatKind.f64.format.order 0 0==some Ordering.eq)=true:=by decide
 go_in;go_wp2_with fail;go_ret;exact ⟨rfl,rfl⟩
theorem Ldexp_calls (x y:Nat)(s:Int)(w:World)(h:∀ W,Calls prog 195 #[.float .f64 x,.int .i64 s] W fun e w'=>e=.returned (.float .f64 y)∧W=w'):
  Calls prog 131 #[.float .f64 x,.int .i64 s] w fun e w'=>e=.returned (.float .f64 y)∧w=w':=by
 replace h:=hid h;go_in;go_wp2_with fail;refine (h _).mono ?_;rintro e w1 ⟨rfl,rfl⟩;go_wp2_with fail;go_ret;exact ⟨rfl,rfl⟩
theorem ld_b2 {h E M:Nat}(hh:h < 2)(hE:E < 2048)(hM:M < 4503599627370496):bits .andNot .u64 (wordOf h E M:Int) 9218868437227405312=(wordOf h 0 M:Int):=by
 have:=bits_andNot64 (wordOf h E M) 9218868437227405312 (wordOf_lt hh hE hM) (by omega);refine this.trans ?_
 have e:(18446744073709551615 - 9218868437227405312:Nat)=9227875636482146303:=by decide
 rw[e];unfold wordOf;rw[Flo.and_rest hh hE hM];simp
theorem ld_b3 {h E M:Nat}{ex:Int}(hh:h < 2)(hE:E < 2048)(hM:M < 4503599627370496)(hx:ex+1023=E):bits .or .u64 (wordOf h 0 M:Int) ((ex+1023)*4503599627370496)=(wordOf h E M:Int):=by
 have e:((E:Int))*4503599627370496=((E*4503599627370496:Nat):Int):=by omega
 rw[hx,e,bits_or64 _ _ (wordOf_lt hh (by omega) hM) (by omega)];unfold wordOf;rw[←Flo.or_field (h:=h) (E:=E) (M:=M) hE hM];simp
theorem ld_q {h E M:Nat}(hE:E < 2048)(hM:M < 4503599627370496):wordOf h E M / 4503599627370496=h*2048+E:=by unfold wordOf;omega
structure Plain64 (h E M:Nat):Prop where
 ph:h < 2
 pE:E < 2048
 pM:M < 4503599627370496
 zero:(FloatKind.f64.format.order (wordOf h E M) 0==some Ordering.eq)=false
 inf:(FloatKind.f64.format.order (wordOf 0 E M) 9218868437227405311==some Ordering.gt)=false
 nan:(FloatKind.f64.format.order (wordOf h E M) (wordOf h E M) != some Ordering.eq)=false
 norm:(FloatKind.f64.format.order (wordOf 0 E M) 4503599627370496==some Ordering.lt)=false
theorem ldexp_calls {h E M:Nat}(hp:Plain64 h E M)(s:Int)(E':Nat)(hs:(E:Int)+s=E')(hlo:1≤E')(hhi:E'≤2046)(hm:floatBits .mul .f64 4607182418800017408 (wordOf h E' M)=some (wordOf h E' M))(w:World):
  Calls prog 195 #[.float .f64 (wordOf h E M),.int .i64 s] w fun e w'=>e=.returned (.float .f64 (wordOf h E' M))∧w=w':=
 ldexp_walk (wordOf h E M) (wordOf h E' M) (wordOf h 0 M) (h*2048+E) E E' s ((E:Int) - 1023) ((E':Int) - 1023) w hp.zero
  (isInf_calls hp.ph hp.pE hp.pM hp.inf) (isNaN_calls _ hp.nan) (normalize_calls hp.ph hp.pE hp.pM hp.norm)
  (fun W=>run_float_arith (P:=prog) W .mul 151 .f64 4607182418800017408 (wordOf h E' M) (wordOf h E' M) hm)
  (by have h1:=hp.ph;have h2:=hp.pE;rw[bits_and2047 _ (by omega)];omega) (ld_b2 hp.ph hp.pE hp.pM) (ld_b3 hp.ph (by omega) hp.pM (by omega))
  (ld_in (by have:=hp.pE;omega) (by omega)) (ld_div (ld_q hp.pE hp.pM) (by have h1:=hp.ph;have h2:=hp.pE;omega))
  (ld_in (by omega) (by have:=hp.pE;omega)) ((ld_in (by have:=hp.pE;omega) (by omega)).trans (by omega)) ((ld_in (by omega) (by omega)).trans (by omega)) (by omega) (by omega) (by omega)
theorem RFB.of {k:Nat}{q:Rat}(h:FB k q):RFB k q:=⟨h.num,by simpa[BdK] using h.den⟩
theorem rfb_int {z:Int}{k:Nat}(h:z.natAbs < 2^k)(hk:1≤k):RFB k (z:Rat):=⟨by rw[Rat.num_intCast];exact h,by
 rw[Rat.den_intCast]
 exact Nat.lt_of_lt_of_le (by decide:1 < 2^1) (Nat.pow_le_pow_right (by omega) hk)⟩
theorem wordOf_fields {h E M:Nat}(hh:h < 2)(h1:1≤E)(hE:E≤2046)(hM:M < 4503599627370496):
  Flo.Fin Ieee.double (wordOf h E M)∧Flo.sgn Ieee.double (wordOf h E M)=decide (h=1)∧Flo.rung Ieee.double (wordOf h E M)=E*4503599627370496+M:=by
 have hs:=Flo.sgn_word Ieee.double (decide (h=1)) (r:=E*4503599627370496+M) (by rw[Flo.dsw];omega)
 have he:Ieee.double.word (decide (h=1)) (E*4503599627370496+M)=wordOf h E M:=by
  unfold Ieee.Format.word wordOf;rw[Flo.dsw]
  have:h=0∨h=1:=by omega
  rcases this with rfl | rfl <;> simp <;> omega
 rw[he]at hs;exact ⟨by unfold Flo.Fin;rw[hs.2,Flo.dinf];omega,hs⟩
theorem plain64 {h E M:Nat}(hh:h < 2)(h1:1≤E)(hE:E≤2046)(hM:M < 4503599627370496):Plain64 h E M:=by
 obtain ⟨f1,f2,f3⟩:=wordOf_fields hh h1 hE hM;obtain ⟨g1,g2,g3⟩:=wordOf_fields (h:=0) (by omega) h1 hE hM
 have ab:0 < Flo.V Ieee.double (E*4503599627370496+M):=by
  have:=Flo.V_lt Ieee.double (r:=0) (r':=E*4503599627370496+M) (by omega);rw[Flo.V_zero] at this;exact this
 have gv:Flo.sval Ieee.double (wordOf 0 E M)=Flo.V Ieee.double (E*4503599627370496+M):=by unfold Flo.sval;rw[g2,g3];rfl
 refine ⟨hh,by omega,hM,?_,?_,?_,?_⟩
 ·show (Ieee.double.order (wordOf h E M) 0==some Ordering.eq)=false;rw[Flo.order_fin Ieee.double f1 (by decide),Flo.compare_int]
  have h0:Flo.sval Ieee.double 0=0:=by decide
  have hx:Flo.sval Ieee.double (wordOf h E M)≠0:=by
   unfold Flo.sval;rw[f3];split <;> omega
  rw[h0];by_cases hl:Flo.sval Ieee.double (wordOf h E M) < 0
  ·rw[if_pos hl];rfl
  ·rw[if_neg hl,if_neg hx];rfl
 ·show (Ieee.double.order (wordOf 0 E M) 9218868437227405311==some Ordering.gt)=false;rw[Flo.order_fin Ieee.double g1 (by decide),Flo.compare_int,gv]
  have hm:Flo.sval Ieee.double 9218868437227405311=Flo.V Ieee.double 9218868437227405311:=by
   unfold Flo.sval
   have e1:Flo.sgn Ieee.double 9218868437227405311=false:=by decide
   have e2:Flo.rung Ieee.double 9218868437227405311=9218868437227405311:=by decide
   rw[e1,e2];rfl
  have aa:=Flo.V_le Ieee.double (r:=E*4503599627370496+M) (r':=9218868437227405311) (by omega);rw[hm];generalize Flo.V Ieee.double (E*4503599627370496+M)=a at aa⊢;generalize Flo.V Ieee.double 9218868437227405311=b at aa⊢;by_cases hl:(a:Int) < (b:Int)
  ·rw[if_pos hl];rfl
  ·rw[if_neg hl,if_pos (by omega)];rfl
 ·show (Ieee.double.order (wordOf h E M) (wordOf h E M) != some Ordering.eq)=false;rw[Flo.order_fin Ieee.double f1 f1,Flo.compare_int,if_neg (Int.lt_irrefl _),if_pos rfl];rfl
 ·show (Ieee.double.order (wordOf 0 E M) 4503599627370496==some Ordering.lt)=false;rw[Flo.order_fin Ieee.double g1 (by decide),Flo.compare_int,gv]
  have hm:Flo.sval Ieee.double 4503599627370496=Flo.V Ieee.double 4503599627370496:=by
   unfold Flo.sval
   have e1:Flo.sgn Ieee.double 4503599627370496=false:=by decide
   have e2:Flo.rung Ieee.double 4503599627370496=4503599627370496:=by decide
   rw[e1,e2];rfl
  have aa:=Flo.V_le Ieee.double (r:=4503599627370496) (r':=E*4503599627370496+M) (by omega);rw[hm];generalize Flo.V Ieee.double (E*4503599627370496+M)=a at aa⊢;generalize Flo.V Ieee.double 4503599627370496=b at aa⊢;rw[if_neg (by omega)];split <;> rfl
end Go.Proofs.YtnjonlnemagomaaGreatDoor
namespace Go.Proofs.YtnjonlnemagomaaGreatDoor.Flo
set_option maxRecDepth 100000
set_option maxHeartbeats 8000000
set_option linter.all false
open Ieee
theorem gap_eq (a:Nat):1 <<< a=2^a:=by rw[Nat.shiftLeft_eq,Nat.one_mul]
theorem cut_scale (neg:Bool){m:Nat}(d k:Nat)(hm:m≠0):Toward.even.cut neg (m*2^k) (d+k)=Toward.even.cut neg m d:=by
 unfold Toward.cut;simp only;rw[log2_mul_pow hm,gap_eq,gap_eq]
 have e:min (d+k) (m.log2+k+2)=min d (m.log2+2)+k:=by omega
 rw[e];generalize min d (m.log2+2)=g;have hk:=Nat.two_pow_pos k;rw[Nat.pow_add,Nat.mul_div_mul_right _ _ hk,Nat.mul_mod_mul_right];congr 2
 have e1:decide (2^g*2^k < 2*(m % 2^g*2^k))=decide (2^g < 2*(m % 2^g)):=by
  rw[←Nat.mul_assoc];exact decide_eq_decide.2 (Nat.mul_lt_mul_right hk)
 have e2:(2^g*2^k==2*(m % 2^g*2^k))=(2^g==2*(m % 2^g)):=by
  rw[←Nat.mul_assoc,Bool.eq_iff_iff,beq_iff_eq,beq_iff_eq];exact Nat.mul_left_inj (by omega)
 rw[e1,e2]
theorem cut_whole (neg:Bool){m:Nat}(d k:Nat)(hm:m≠0)(h:d≤k):Toward.even.cut neg (m*2^k) d=m*2^(k - d):=by
 have e:m*2^k=m*2^(k - d)*2^d:=by rw[Nat.mul_assoc,←Nat.pow_add,Nat.sub_add_cancel h]
 have h0:m*2^(k - d)≠0:=Nat.mul_ne_zero hm (Nat.ne_of_gt (Nat.two_pow_pos _));have:=cut_scale neg (m:=m*2^(k - d)) 0 d h0;rw[Nat.zero_add,cut_zero,←e] at this;exact this
theorem nearest_more (f:Format)(neg:Bool){m:Nat}{p:Int}(k:Nat)(hm:m≠0):f.nearest neg (m*2^k) (p - k)=f.nearest neg m p:=by
 unfold Format.nearest;have aa:m*2^k≠0:=Nat.mul_ne_zero hm (Nat.ne_of_gt (Nat.two_pow_pos _));rw[if_neg aa,if_neg hm];simp only;rw[log2_mul_pow hm]
 have e1:p - (k:Int)+((m.log2+k:Nat):Int) - f.fractionBits=p+m.log2 - f.fractionBits:=by omega
 rw[e1];generalize max (p+(m.log2:Int) - f.fractionBits) f.leastPlace=L;congr 3;rcases Int.lt_or_le p L with h | h
 ·have e2:(p - (k:Int) - L).toNat=0:=by omega
  have e3:(p - L).toNat=0:=by omega
  have e4:(L - (p - (k:Int))).toNat=(L - p).toNat+k:=by omega
  rw[e2,e3,e4,Nat.shiftLeft_zero,Nat.shiftLeft_zero,cut_scale neg _ _ hm]
 ·have e3:(L - p).toNat=0:=by omega
  rw[e3,cut_zero];rcases Int.lt_or_le (p - k) L with h2 | h2
  ·have e2:(p - (k:Int) - L).toNat=0:=by omega
   have e4:(L - (p - (k:Int))).toNat≤k:=by omega
   rw[e2,Nat.shiftLeft_zero,cut_whole neg _ _ hm e4,Nat.shiftLeft_eq];congr 2;omega
  ·have e4:(L - (p - (k:Int))).toNat=0:=by omega
   rw[e4,cut_zero,Nat.shiftLeft_eq,Nat.shiftLeft_eq,Nat.mul_assoc,←Nat.pow_add];congr 2;omega
theorem nearest_rung (neg:Bool){m r:Nat}{p:Int}(hm:m≠0)(hr:r < 2139095040)(h:m*2^(p+149).toNat=V single r*2^(-149 - p).toNat):single.nearest neg m p=single.word neg r:=by
 have hv:V single r≠0:=by
  intro h0;rw[h0,Nat.zero_mul] at h;exact absurd h (Nat.mul_ne_zero hm (Nat.ne_of_gt (Nat.two_pow_pos _)))
 have aa:=nearest_V single neg (r:=r) (by rw[sinf];exact hr);rw[slp] at aa;rcases Int.lt_or_le p (-149) with h2 | h2
 ·have e0:(p+149).toNat=0:=by omega
  rw[e0,Nat.pow_zero,Nat.mul_one]at h;have:=nearest_more single neg (p:= -149) (-149 - p).toNat hv;rw[←h,show (-149:Int) - ((-149 - p).toNat:Int)=p by omega,aa] at this;exact this
 ·have e0:(-149 - p).toNat=0:=by omega
  rw[e0,Nat.pow_zero,Nat.mul_one]at h;have:=nearest_more single neg (p:=p) (p+149).toNat hm;rw[h,show p - ((p+149).toNat:Int)= -149 by omega,aa] at this;exact this.symm
theorem sread {x:Nat}(h:x < 2139095040):∃ (m k:Nat),single.read x=.number false m (-149+(k:Int))∧m*2^k=V single x:=by
 have hr:rung single x=x:=by unfold rung;rw[ssw];omega
 have hs:sgn single x=false:=by unfold sgn;rw[ssw];simp;omega
 obtain ⟨m,k,h1,h2⟩:=read_fin single (x:=x) (by unfold Fin;rw[hr,sinf];exact h);rw[hs,slp] at h1;rw[hr] at h2;exact ⟨m,k,h1,h2⟩
theorem V_up {x:Nat}(h:8388608≤x):V single (x+8388608)=2*V single x:=by
 unfold V;rw[sbin,if_neg (by omega),if_neg (by omega)]
 have e1:(x+8388608) % 8388608=x % 8388608:=by omega
 have e2:(x+8388608) / 8388608 - 1=(x / 8388608 - 1)+1:=by omega
 rw[e1,e2,Nat.pow_succ];generalize 2^(x / 8388608 - 1)=P;generalize 8388608+x % 8388608=Q;rw[←Nat.mul_assoc];omega
theorem V_low {x:Nat}(h:x < 16777216):V single x=x:=by
 unfold V;rw[sbin];by_cases h1:x < 8388608
 ·rw[if_pos h1]
 ·rw[if_neg h1]
  have e2:x / 8388608 - 1=0:=by omega
  rw[e2,Nat.pow_zero,Nat.mul_one];omega
def dbl (x:Nat):Nat:=if x < 8388608 then 2*x else x+8388608
theorem V_dbl (x:Nat):V single (dbl x)=2*V single x:=by
 unfold dbl;by_cases h:x < 8388608
 ·rw[if_pos h,V_low (by omega),V_low (by omega)]
 ·rw[if_neg h,V_up (by omega)]
theorem one_unit:V single 1266679808=16777216*2^149:=by decide +kernel
theorem inf_lt {x:Nat}(h:V single x < 16777216*2^149):x < 1266679808:=by
 rcases Nat.lt_or_ge x 1266679808 with h1 | h1
 ·exact h1
 ·have:=V_le single h1;rw[one_unit] at this;omega
theorem zcut (neg:Bool)(m d:Nat):Toward.zero.cut neg m d=m / 2^d:=by
 unfold Toward.cut;simp only[Bool.toNat_false,Nat.add_zero];rw[gap_eq];rcases Nat.le_total d (m.log2+2) with h | h
 ·rw[Nat.min_eq_left h]
 ·rw[Nat.min_eq_right h];have h1:m < 2^(m.log2+1):=Nat.lt_log2_self;have h2:2^(m.log2+1)≤2^(m.log2+2):=Nat.pow_le_pow_right (by decide) (by omega);have h3:2^(m.log2+2)≤2^d:=Nat.pow_le_pow_right (by decide) h;rw[Nat.div_eq_of_lt (by omega),Nat.div_eq_of_lt (by omega)]
end Go.Proofs.YtnjonlnemagomaaGreatDoor.Flo
namespace Go.Proofs.YtnjonlnemagomaaGreatDoor
open Flo Go.RowKit Big Tryz
set_option maxRecDepth 100000
set_option maxHeartbeats 8000000
set_option linter.all false
def absR (q:Rat):Rat:=if q < 0 then -q else q
def rndE (q:Rat):Int:=if q - (q.floor:Rat) < 1 / 2 then q.floor else if q - (q.floor:Rat)=1 / 2 then q.floor+q.floor % 2 else q.floor+1
theorem rndE_cases (q:Rat):(rndE q=q.floor∧q - (q.floor:Rat)≤1 / 2)∨(rndE q=q.floor+1∧1 / 2≤q - (q.floor:Rat)):=by
 unfold rndE;split
 ·exact .inl ⟨rfl,by grind⟩
 ·split
  ·rename_i h1 h2;rcases Int.emod_two_eq q.floor with h | h
   ·exact .inl ⟨by omega,by rw[h2];exact Rat.le_refl⟩
   ·exact .inr ⟨by omega,by rw[h2];exact Rat.le_refl⟩
  ·exact .inr ⟨rfl,by grind⟩
theorem sinf_V:V Ieee.single 2139095040=2^277:=by decide +kernel
theorem V_lt_iff {r s:Nat}:V Ieee.single r < V Ieee.single s ↔ r < s:=by
 constructor
 ·intro h;rcases Nat.lt_or_ge r s with h1 | h1
  ·exact h1
  ·have:=V_le (f:=Ieee.single) h1;omega
 ·exact fun h=>V_lt (f:=Ieee.single) h
structure IsPl (x:Rat)(j:Nat):Prop where
 hi:x < ((2^(j+24):Nat):Rat)
 lo:j=0∨((2^(j+23):Nat):Rat)≤x
theorem IsPl.unique {x:Rat}{i j:Nat}(h:IsPl x i)(g:IsPl x j):i=j:=by
 have aa:∀ {i j:Nat},IsPl x i→IsPl x j→i≤j:=fun {i j} h g=>by
  rcases Nat.lt_or_ge j i with h1 | h1
  ·have h2:=h.lo.resolve_left (by omega);have h3:((2^(j+24):Nat):Rat)≤((2^(i+23):Nat):Rat):=Rat.natCast_le_natCast.2 (Nat.pow_le_pow_right (by omega) (by omega));have h4:=g.hi;generalize ((2^(j+24):Nat):Rat)=a at h3 h4;generalize ((2^(i+23):Nat):Rat)=b at h2 h3;exact absurd (show x < x by grind) (by grind)
  ·exact h1
 have h1:=aa h g;have h2:=aa g h;omega
def sigF (x:Rat)(j:Nat):Int:=rndE (x / ((2^j:Nat):Rat))
theorem two_pos (j:Nat):(0:Rat) < ((2^j:Nat):Rat):=by
 have:=Rat.natCast_lt_natCast.2 (Nat.two_pow_pos j);simpa using this
theorem sigF_nonneg {x:Rat}(h:0≤x)(j:Nat):0≤sigF x j:=by
 unfold sigF
 have h1:0≤x / ((2^j:Nat):Rat):=by
  have h2:=two_pos j;generalize ((2^j:Nat):Rat)=D at h2⊢;rcases (Rat.le_total:0≤x / D∨x / D≤0) with h3 | h3
  ·exact h3
  ·have h4:=Rat.mul_le_mul_of_nonneg_right h3 (Rat.le_of_lt h2);rw[Rat.div_mul_cancel (by grind),Rat.zero_mul] at h4;have:x=0:=Rat.le_antisymm h4 h;rw[this,Rat.div_def,Rat.zero_mul];exact Rat.le_refl
 have h2:0≤(x / ((2^j:Nat):Rat)).floor:=Rat.le_floor_iff.2 h1;rcases rndE_cases (x / ((2^j:Nat):Rat)) with ⟨e, -⟩ | ⟨e, -⟩ <;> omega
theorem sigF_le {x:Rat}{j:Nat}(h:x < ((2^(j+24):Nat):Rat)):sigF x j≤16777216:=by
 unfold sigF
 have h1:x / ((2^j:Nat):Rat) < ((16777216:Int):Rat):=by
  rw[Rat.div_lt_iff (two_pos j),show ((16777216:Int):Rat)*((2^j:Nat):Rat)=((2^(j+24):Nat):Rat) by
   rw[Nat.pow_add,Nat.mul_comm,Rat.natCast_mul];rfl]
  exact h
 have h2:(x / ((2^j:Nat):Rat)).floor < 16777216:=Rat.floor_lt_iff.2 h1;rcases rndE_cases (x / ((2^j:Nat):Rat)) with ⟨e, -⟩ | ⟨e, -⟩ <;> omega
theorem Ldexp_gen (neg:Bool)(m:Nat)(s0 s:Int)(hm:m≠0)(hd:m < 16777216)(l0:0≤s0)(h0:s0≤24)(lo: -200≤s)(hi:s≤200)(w:World):
  Calls prog 131 #[.float .f64 (Ieee.double.nearest neg m s0),.int .i64 s] w fun e w'=>e=.returned (.float .f64 (Ieee.double.nearest neg m (s0+s)))∧w=w':=by
 refine Ldexp_calls _ _ s w fun W=>?_;obtain ⟨M,f1,f2,f3,f4,f5⟩:=Flo.drung (s:=s0) hm hd (by omega) (by omega);obtain ⟨M',g1,g2,g3,g4,g5⟩:=Flo.drung (s:=s0+s) hm hd (by omega) (by omega);have hl:=Flo.log2_small hm hd
 have ab:M'=M:=by rw[f3,g3]
 subst ab
 obtain ⟨hh,ac,hw⟩:∃ h:Nat,h < 2∧∀ r,Ieee.double.word neg r=h*9223372036854775808+r:=by
  refine ⟨neg.toNat,by cases neg <;> decide,fun r=>?_⟩;unfold Ieee.Format.word;rw[Flo.dsw]
  cases neg <;> simp
 have e1:Ieee.double.nearest neg m s0=wordOf hh (s0+m.log2+1023).toNat (M' - 4503599627370496):=by
  rw[(Flo.dnearest neg hm hd (by omega) (by omega)).1,hw,f4];unfold wordOf
  have:(s0+(m.log2:Int)+1023).toNat=(s0+(m.log2:Int)+1022).toNat+1:=by omega
  rw[this];clear f3 g3 f4 g4 f5 g5;omega
 have e2:Ieee.double.nearest neg m (s0+s)=wordOf hh (s0+s+m.log2+1023).toNat (M' - 4503599627370496):=by
  rw[(Flo.dnearest neg hm hd (by omega) (by omega)).1,hw,g4];unfold wordOf
  have:(s0+s+(m.log2:Int)+1023).toNat=(s0+s+(m.log2:Int)+1022).toNat+1:=by omega
  rw[this];clear f3 g3 f4 g4 f5 g5;omega
 have aa:=Flo.dmul_one neg (s:=s0+s) hm hd (by omega) (by omega);rw[e2] at aa;rw[e1,e2];exact ldexp_calls (plain64 ac (by omega) (by omega) (by omega)) s _ (by omega) (by omega) (by omega) aa W
theorem part24 {n:Nat}(h0:n≠0)(h:n≤16777216):∃ m t:Nat,m≠0∧m < 16777216∧t≤24∧n=m*2^t:=by
 rcases Nat.lt_or_ge n 16777216 with h1 | h1
 ·exact ⟨n,0,h0,h1,by omega,by simp⟩
 ·exact ⟨1,24,by omega,by omega,by omega,by omega⟩
theorem Ldexp_nat (n:Nat)(s:Int)(h:n≤16777216)(lo: -149≤s)(hi:s≤104)(w:World):
  Calls prog 131 #[.float .f64 (FloatKind.f64.nearest (n:Int)),.int .i64 s] w fun e w'=>e=.returned (.float .f64 (Ieee.double.nearest false n s))∧w=w':=by
 have hs:(decide (((n:Nat):Int) < 0))=false:=decide_eq_false (by omega)
 have hn:((n:Int)).natAbs=n:=by omega
 show Calls prog 131 #[.float .f64 (Ieee.double.nearest (decide ((n:Int) < 0)) (n:Int).natAbs 0),.int .i64 s] w _;rw[hs,hn];by_cases h0:n=0
 ·subst h0
  have e0:∀ p,Ieee.double.nearest false 0 p=0:=by
   intro p;unfold Ieee.Format.nearest;rw[if_pos (by rfl)];rfl
  rw[e0,e0];exact Ldexp_calls _ _ s w fun W=>ldexp_zero s W
 ·obtain ⟨m,t,m0,m1,t1,rfl⟩:=part24 h0 h;have e1:=Flo.nearest_more Ieee.double false (m:=m) (p:=(t:Int)) t m0;have e2:=Flo.nearest_more Ieee.double false (m:=m) (p:=(t:Int)+s) t m0;rw[show (t:Int) - (t:Int)=0 by omega] at e1;rw[show (t:Int)+s - (t:Int)=s by omega] at e2;rw[e1,e2];exact Ldexp_gen false m t s m0 m1 (by omega) (by omega) (by omega) (by omega) w
theorem conv_nat {n r:Nat}{s:Int}(h:n≤16777216)(lo: -149≤s)(hi:s≤104)(hr:r < 2139095040)(hv:n*2^(s+149).toNat=Flo.V Ieee.single r):floatToFloatBits .f64 (Ieee.double.nearest false n s) .f32=some r:=by
 unfold floatToFloatBits;by_cases h0:n=0
 ·subst h0
  have e0:Ieee.double.nearest false 0 s=0:=by
   unfold Ieee.Format.nearest;rw[if_pos (by rfl)];rfl
  rw[e0];have:r=0:=Flo.V_inj Ieee.single (by rw[←hv,Flo.V_zero,Nat.zero_mul]);subst this;decide
 ·obtain ⟨m,t,m0,m1,t1,rfl⟩:=part24 h0 h;have e2:=Flo.nearest_more Ieee.double false (m:=m) (p:=(t:Int)+s) t m0;rw[show (t:Int)+s - (t:Int)=s by omega] at e2;rw[e2];have h1:=(Flo.dnearest false m0 m1 (s:=(t:Int)+s) (by omega) (by omega)).2;have h3:FloatKind.f64.decode (Ieee.double.nearest false m ((t:Int)+s))=.number false (m*2^(52 - m.log2)) ((t:Int)+s - ((52 - m.log2:Nat):Int)):=h1;have h2:=Flo.nearest_more Ieee.single false (m:=m) (p:=(t:Int)+s) (52 - m.log2) m0
  have h5:=Flo.nearest_rung false (m:=m) (r:=r) (p:=(t:Int)+s) m0 hr (by
   have a1:(-149 - ((t:Int)+s)).toNat=0:=by omega
   have a2:((t:Int)+s+149).toNat=t+(s+149).toNat:=by omega
   rw[a1,a2,Nat.pow_zero,Nat.mul_one,←hv,Nat.pow_add,Nat.mul_assoc])
  have hw:Ieee.single.word false r=r:=by unfold Ieee.Format.word;simp
  rw[h5,hw]at h2;have h4:FloatKind.f32.encode (.number false (m*2^(52 - m.log2)) ((t:Int)+s - ((52 - m.log2:Nat):Int)))=r:=h2;obtain ⟨m',k',h6, -⟩:=Flo.sread hr
  have h7:(FloatKind.f32.decode r).isInfinity=false:=by
   show (Ieee.single.read r).isInfinity=false;rw[h6];rfl
  rw[h3];simp[h4,h7]
end Go.Proofs.YtnjonlnemagomaaGreatDoor
