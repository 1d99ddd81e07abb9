/- Part B18. -/
import Derived.Laws.FloatArith
import Derived.Laws.Externs
import Derived.IntWalk
import Derived.OwnWalk
import Derived.Laws.AppendOwn
import Derived.Laws.StructEq
import Derived.Test.YtbkcjmojgglbkaaGreatDoorB16
import Derived.Test.YtbkcjmojgglbkaaGreatDoorB17
namespace Go.Proofs.YtbkcjmojgglbkaaGreatDoor
open Go.RowKit Big
open Go.Lib (hid)
set_option maxRecDepth 100000
set_option maxHeartbeats 8000000
theorem bits64_run (b:Nat)(W:World):(callFunc 223 #[.float .f64 b]).run Tryz.prog W=.ok (.value (.int .u64 b)) W:=by
 rw[run_callFunc_extern Tryz.func223 (by kernel_rfl) (by kernel_rfl) (by kernel_rfl) (e:=Extern.MathFloatBits.float64bits) (by kernel_rfl)];rfl
theorem frombits64_run (b:Nat)(W:World):(callFunc 226 #[.int .u64 b]).run Tryz.prog W=.ok (.value (.float .f64 b)) W:=by
 rw[run_callFunc_extern Tryz.func226 (by kernel_rfl) (by kernel_rfl) (by kernel_rfl) (e:=Extern.MathFloatBits.float64frombits) (by kernel_rfl)];rfl
theorem bits_andNot64 (x m:Nat)(hx:x < 18446744073709551616)(hm:m < 18446744073709551616):bits .andNot .u64 (x:Int) (m:Int)=((x &&& (18446744073709551615 - m):Nat):Int):=by
 have h1:(BitVec.ofInt 64 (x:Int)).toNat=x:=by rw[BitVec.ofInt_natCast,BitVec.toNat_ofNat];exact Nat.mod_eq_of_lt hx
 have h2:(BitVec.ofInt 64 (m:Int)).toNat=m:=by rw[BitVec.ofInt_natCast,BitVec.toNat_ofNat];exact Nat.mod_eq_of_lt hm
 show IntKind.u64.wrap ((BitVec.ofInt 64 (x:Int) &&& ~~~BitVec.ofInt 64 (m:Int)).toNat:Int)=_;rw[BitVec.toNat_and,BitVec.toNat_not,h1,h2];have h3:x &&& (2^64 - 1 - m) < 18446744073709551616:=Nat.lt_of_le_of_lt Nat.and_le_left hx;have h4:(2:Nat)^64 - 1 - m=18446744073709551615 - m:=rfl;rw[h4] at h3⊢;rw[IntKind.wrap_u64];omega
theorem bits_or64 (x m:Nat)(hx:x < 18446744073709551616)(hm:m < 18446744073709551616):bits .or .u64 (x:Int) (m:Int)=((x ||| m:Nat):Int):=by
 have h1:(BitVec.ofInt 64 (x:Int)).toNat=x:=by rw[BitVec.ofInt_natCast,BitVec.toNat_ofNat];exact Nat.mod_eq_of_lt hx
 have h2:(BitVec.ofInt 64 (m:Int)).toNat=m:=by rw[BitVec.ofInt_natCast,BitVec.toNat_ofNat];exact Nat.mod_eq_of_lt hm
 show IntKind.u64.wrap ((BitVec.ofInt 64 (x:Int) ||| BitVec.ofInt 64 (m:Int)).toNat:Int)=_;rw[BitVec.toNat_or,h1,h2];have h3:x ||| m < 18446744073709551616:=Nat.or_lt_two_pow (n:=64) hx hm;rw[IntKind.wrap_u64];omega
theorem bits_and2047 (k:Nat)(hk:k < 4096):bits .and .i64 (k:Int) 2047=((k % 2048:Nat):Int):=by
 have h1:(BitVec.ofInt 64 (k:Int)).toNat=k:=by rw[BitVec.ofInt_natCast,BitVec.toNat_ofNat];exact Nat.mod_eq_of_lt (by omega)
 have h2:(BitVec.ofInt 64 2047).toNat=2^11 - 1:=by decide
 show IntKind.i64.wrap ((BitVec.ofInt 64 (k:Int) &&& BitVec.ofInt 64 2047).toNat:Int)=_;rw[BitVec.toNat_and,h1,h2,Nat.and_two_pow_sub_one_eq_mod,IntKind.wrap_i64];have:k % 2^11=k % 2048:=rfl;rw[this];omega
def wordOf (h E M:Nat):Nat:=h*9223372036854775808+E*4503599627370496+M
theorem wordOf_lt {h E M:Nat}(hh:h < 2)(hE:E < 2048)(hM:M < 4503599627370496):wordOf h E M < 18446744073709551616:=by unfold wordOf;omega
theorem mabs_calls {h E M:Nat}(hh:h < 2)(hE:E < 2048)(hM:M < 4503599627370496)(w:World):
  Calls Tryz.prog 254 #[.float .f64 (wordOf h E M)] w fun e w'=>e=.returned (.float .f64 (wordOf 0 E M))∧w=w':=by
 have hlt:=wordOf_lt hh hE hM;obtain ⟨x,hx⟩:∃ x,wordOf h E M=x:=⟨_,rfl⟩;obtain ⟨y,hy⟩:∃ y,wordOf 0 E M=y:=⟨_,rfl⟩
 have hb:bits .andNot .u64 (x:Int) 9223372036854775808=(y:Int):=by
  rw[←hx];have:=bits_andNot64 (wordOf h E M) 9223372036854775808 hlt (by omega);refine this.trans ?_
  have e:(18446744073709551615 - 9223372036854775808:Nat)=2^63 - 1:=by decide
  rw[e,Nat.and_two_pow_sub_one_eq_mod,←hy];unfold wordOf;omega
 have h1:=fun W=>bits64_run x W;have h2:=fun W=>frombits64_run y W;rw[hx,hy];clear hlt;have HX:=hid hx;have HY:=hid hy;clear hx hy;go_enter Tryz.func254,Tryz.ntmps254;go_wp2_with fail;go_ret;exact ⟨rfl,rfl⟩
theorem isInf_calls {h E M:Nat}(hh:h < 2)(hE:E < 2048)(hM:M < 4503599627370496)(ho:(FloatKind.f64.format.order (wordOf 0 E M) 9218868437227405311==some Ordering.gt)=false)(w:World):
  Calls Tryz.prog 220 #[.float .f64 (wordOf h E M),.int .i64 0] w fun e w'=>e=.returned (.bool false)∧w=w':=by
 have habs:=fun W=>mabs_calls hh hE hM W;obtain ⟨x,hx⟩:∃ x,wordOf h E M=x:=⟨_,rfl⟩;obtain ⟨y,hy⟩:∃ y,wordOf 0 E M=y:=⟨_,rfl⟩;rw[hx,hy] at habs;rw[hy] at ho;rw[hx];have HX:=hid hx;have HY:=hid hy;have HABS:=hid habs;clear hx hy habs;go_enter Tryz.func220,Tryz.ntmps220;go_wp2_with fail;refine (HABS.out _).mono ?_;rintro e w1 ⟨rfl,rfl⟩;go_wp2_with fail;go_ret;exact ⟨rfl,rfl⟩
theorem isNaN_calls (x:Nat)(ho:(FloatKind.f64.format.order x x != some Ordering.eq)=false)(w:World):
  Calls Tryz.prog 221 #[.float .f64 x] w fun e w'=>e=.returned (.bool false)∧w=w':=by
 go_enter Tryz.func221,Tryz.ntmps221;go_wp2_with fail;go_ret;exact ⟨rfl,rfl⟩
theorem normalize_calls {h E M:Nat}(hh:h < 2)(hE:E < 2048)(hM:M < 4503599627370496)(ho:(FloatKind.f64.format.order (wordOf 0 E M) 4503599627370496==some Ordering.lt)=false)(w:World):
  Calls Tryz.prog 222 #[.float .f64 (wordOf h E M)] w fun e w'=>e=.returned (.tuple #[.float .f64 (wordOf h E M),.int .i64 0])∧w=w':=by
 have habs:=fun W=>mabs_calls hh hE hM W;obtain ⟨x,hx⟩:∃ x,wordOf h E M=x:=⟨_,rfl⟩;obtain ⟨y,hy⟩:∃ y,wordOf 0 E M=y:=⟨_,rfl⟩;rw[hx,hy] at habs;rw[hy] at ho;rw[hx];have HX:=hid hx;have HY:=hid hy;have HABS:=hid habs;clear hx hy habs;go_enter Tryz.func222,Tryz.ntmps222;go_wp2_with fail;refine (HABS.out _).mono ?_;rintro e w1 ⟨rfl,rfl⟩;go_wp2_with fail;go_ret2;exact ⟨rfl,rfl⟩
theorem ld_in {n:Int}(h: -1000000≤n)(h':n≤1000000):wrap64 n=n:=by unfold wrap64;omega
theorem ld_div {x q:Nat}(h:x / 4503599627370496=q)(hq:q < 4096):wrap64 ((x:Int) / 4503599627370496)=(q:Int):=by
 have:(x:Int) / 4503599627370496=(q:Int):=by omega
 rw[this];exact ld_in (by omega) (by omega)
theorem ldexp_walk (x y z q E E':Nat) (s e1 ex:Int) (w:World)
  (h1:(FloatKind.f64.format.order x 0==some Ordering.eq)=false)
  (c1:∀ W,Calls Tryz.prog 220 #[.float .f64 x,.int .i64 0] W fun e w'=>e=.returned (.bool false)∧W=w')
  (c2:∀ W,Calls Tryz.prog 221 #[.float .f64 x] W fun e w'=>e=.returned (.bool false)∧W=w')
  (c3:∀ W,Calls Tryz.prog 222 #[.float .f64 x] W fun e w'=>e=.returned (.tuple #[.float .f64 x,.int .i64 0])∧W=w')
  (c6:∀ W,(binOp .mul 188 (.float .f64 4607182418800017408) (.float .f64 y)).run Tryz.prog W=.ok (.float .f64 y) W)
  (b1:bits .and .i64 (q:Int) 2047=(E:Int)) (b2:bits .andNot .u64 (x:Int) 9218868437227405312=(z:Int)) (b3:bits .or .u64 (z:Int) ((ex+1023)*4503599627370496)=(y:Int))
  (a1:wrap64 s=s) (a2:wrap64 ((x:Int) / 4503599627370496)=(q:Int)) (a3:wrap64 ((E:Int) - 1023)=e1) (a4:wrap64 (s+e1)=ex) (_a5:wrap64 (ex+1023)=(E':Int))
  (g1:¬ex < -1075) (g2:¬(1023:Int) < ex) (g3:¬ex < -1022):
  Calls Tryz.prog 187 #[.float .f64 x,.int .i64 s] w fun e w'=>e=.returned (.float .f64 y)∧w=w':=by
 have c4:=fun W=>bits64_run x W;have c5:=fun W=>frombits64_run y W;have C1:=hid c1;have C2:=hid c2;have C3:=hid c3;clear c1 c2 c3;go_enter Tryz.func187,Tryz.ntmps187;go_wp2_with fail;refine (C1.out _).mono ?_;rintro e w1 ⟨rfl,rfl⟩;go_wp2_with fail;refine (C2.out _).mono ?_;rintro e w1 ⟨rfl,rfl⟩;go_wp2_with fail;refine (C3.out _).mono ?_;rintro e w1 ⟨rfl,rfl⟩;go_wp2_with fail;go_ret;exact ⟨rfl,rfl⟩
theorem ldexp_zero (s:Int)(w:World):Calls Tryz.prog 187 #[.float .f64 0,.int .i64 s] w fun e w'=>e=.returned (.float .f64 0)∧w=w':=by
 have h1:(FloatKind.f64.format.order 0 0==some Ordering.eq)=true:=by decide
 go_enter Tryz.func187,Tryz.ntmps187;go_wp2_with fail;go_ret;exact ⟨rfl,rfl⟩
theorem Ldexp_calls (x y:Nat)(s:Int)(w:World)(h:∀ W,Calls Tryz.prog 187 #[.float .f64 x,.int .i64 s] W fun e w'=>e=.returned (.float .f64 y)∧W=w'):
  Calls Tryz.prog 140 #[.float .f64 x,.int .i64 s] w fun e w'=>e=.returned (.float .f64 y)∧w=w':=by
 have H:=hid h;clear h;go_enter Tryz.func140,Tryz.ntmps140;go_wp2_with fail;refine (H.out _).mono ?_;rintro e w1 ⟨rfl,rfl⟩;go_wp2_with fail;go_ret;exact ⟨rfl,rfl⟩
theorem ld_b2 {h E M:Nat}(hh:h < 2)(hE:E < 2048)(hM:M < 4503599627370496):bits .andNot .u64 (wordOf h E M:Int) 9218868437227405312=(wordOf h 0 M:Int):=by
 have:=bits_andNot64 (wordOf h E M) 9218868437227405312 (wordOf_lt hh hE hM) (by omega);refine this.trans ?_
 have e:(18446744073709551615 - 9218868437227405312:Nat)=9227875636482146303:=by decide
 rw[e];unfold wordOf;rw[Flo.and_rest hh hE hM];simp
theorem ld_b3 {h E M:Nat}{ex:Int}(hh:h < 2)(hE:E < 2048)(hM:M < 4503599627370496)(hx:ex+1023=E):bits .or .u64 (wordOf h 0 M:Int) ((ex+1023)*4503599627370496)=(wordOf h E M:Int):=by
 have e:((E:Int))*4503599627370496=((E*4503599627370496:Nat):Int):=by omega
 rw[hx,e,bits_or64 _ _ (wordOf_lt hh (by omega) hM) (by omega)];unfold wordOf;rw[←Flo.or_field (h:=h) (E:=E) (M:=M) hE hM];simp
theorem ld_q {h E M:Nat}(_hE:E < 2048)(hM:M < 4503599627370496):wordOf h E M / 4503599627370496=h*2048+E:=by unfold wordOf;omega
structure Plain64 (h E M:Nat):Prop where
 ph:h < 2
 pE:E < 2048
 pM:M < 4503599627370496
 zero:(FloatKind.f64.format.order (wordOf h E M) 0==some Ordering.eq)=false
 inf:(FloatKind.f64.format.order (wordOf 0 E M) 9218868437227405311==some Ordering.gt)=false
 nan:(FloatKind.f64.format.order (wordOf h E M) (wordOf h E M) != some Ordering.eq)=false
 norm:(FloatKind.f64.format.order (wordOf 0 E M) 4503599627370496==some Ordering.lt)=false
theorem ldexp_calls {h E M:Nat}(hp:Plain64 h E M)(s:Int)(E':Nat)(hs:(E:Int)+s=E')(hlo:1≤E')(hhi:E'≤2046)(hm:floatBits .mul .f64 4607182418800017408 (wordOf h E' M)=some (wordOf h E' M))(w:World):
  Calls Tryz.prog 187 #[.float .f64 (wordOf h E M),.int .i64 s] w fun e w'=>e=.returned (.float .f64 (wordOf h E' M))∧w=w':=
 ldexp_walk (wordOf h E M) (wordOf h E' M) (wordOf h 0 M) (h*2048+E) E E' s ((E:Int) - 1023) ((E':Int) - 1023) w hp.zero
  (isInf_calls hp.ph hp.pE hp.pM hp.inf) (isNaN_calls _ hp.nan) (normalize_calls hp.ph hp.pE hp.pM hp.norm)
  (fun W=>run_float_arith (P:=Tryz.prog) W .mul 188 .f64 4607182418800017408 (wordOf h E' M) (wordOf h E' M) hm)
  (by have h1:=hp.ph;have h2:=hp.pE;rw[bits_and2047 _ (by omega)];omega) (ld_b2 hp.ph hp.pE hp.pM) (ld_b3 hp.ph (by omega) hp.pM (by omega))
  (ld_in (by have:=hp.pE;omega) (by omega)) (ld_div (ld_q hp.pE hp.pM) (by have h1:=hp.ph;have h2:=hp.pE;omega))
  (ld_in (by omega) (by have:=hp.pE;omega)) ((ld_in (by have:=hp.pE;omega) (by omega)).trans (by omega)) ((ld_in (by omega) (by omega)).trans (by omega)) (by omega) (by omega) (by omega)
theorem wordOf_fields {h E M:Nat}(hh:h < 2)(h1:1≤E)(hE:E≤2046)(hM:M < 4503599627370496):
  Flo.Fin Ieee.double (wordOf h E M)∧Flo.sgn Ieee.double (wordOf h E M)=decide (h=1)∧Flo.rung Ieee.double (wordOf h E M)=E*4503599627370496+M:=by
 have hs:=Flo.sgn_word Ieee.double (decide (h=1)) (r:=E*4503599627370496+M) (by rw[Flo.dsw];omega)
 have he:Ieee.double.word (decide (h=1)) (E*4503599627370496+M)=wordOf h E M:=by
  unfold Ieee.Format.word wordOf;rw[Flo.dsw]
  have:h=0∨h=1:=by omega
  rcases this with rfl | rfl <;> simp <;> omega
 rw[he]at hs;exact ⟨by unfold Flo.Fin;rw[hs.2,Flo.dinf];omega,hs⟩
theorem plain64 {h E M:Nat}(hh:h < 2)(h1:1≤E)(hE:E≤2046)(hM:M < 4503599627370496):Plain64 h E M:=by
 obtain ⟨f1,f2,f3⟩:=wordOf_fields hh h1 hE hM;obtain ⟨g1,g2,g3⟩:=wordOf_fields (h:=0) (by omega) h1 hE hM
 have hpos:0 < Flo.V Ieee.double (E*4503599627370496+M):=by
  have:=Flo.V_lt Ieee.double (r:=0) (r':=E*4503599627370496+M) (by omega);rw[Flo.V_zero] at this;exact this
 have gv:Flo.sval Ieee.double (wordOf 0 E M)=Flo.V Ieee.double (E*4503599627370496+M):=by unfold Flo.sval;rw[g2,g3];rfl
 refine ⟨hh,by omega,hM,?_,?_,?_,?_⟩
 ·show (Ieee.double.order (wordOf h E M) 0==some Ordering.eq)=false;rw[Flo.order_fin Ieee.double f1 (by decide),Flo.compare_int]
  have h0:Flo.sval Ieee.double 0=0:=by decide
  have hx:Flo.sval Ieee.double (wordOf h E M)≠0:=by
   unfold Flo.sval;rw[f3];split <;> omega
  rw[h0];by_cases hl:Flo.sval Ieee.double (wordOf h E M) < 0
  ·rw[if_pos hl];rfl
  ·rw[if_neg hl,if_neg hx];rfl
 ·show (Ieee.double.order (wordOf 0 E M) 9218868437227405311==some Ordering.gt)=false;rw[Flo.order_fin Ieee.double g1 (by decide),Flo.compare_int,gv]
  have hm:Flo.sval Ieee.double 9218868437227405311=Flo.V Ieee.double 9218868437227405311:=by
   unfold Flo.sval
   have e1:Flo.sgn Ieee.double 9218868437227405311=false:=by decide
   have e2:Flo.rung Ieee.double 9218868437227405311=9218868437227405311:=by decide
   rw[e1,e2];rfl
  have hle:=Flo.V_le Ieee.double (r:=E*4503599627370496+M) (r':=9218868437227405311) (by omega);rw[hm];generalize Flo.V Ieee.double (E*4503599627370496+M)=a at hle⊢;generalize Flo.V Ieee.double 9218868437227405311=b at hle⊢;by_cases hl:(a:Int) < (b:Int)
  ·rw[if_pos hl];rfl
  ·rw[if_neg hl,if_pos (by omega)];rfl
 ·show (Ieee.double.order (wordOf h E M) (wordOf h E M) != some Ordering.eq)=false;rw[Flo.order_fin Ieee.double f1 f1,Flo.compare_int,if_neg (Int.lt_irrefl _),if_pos rfl];rfl
 ·show (Ieee.double.order (wordOf 0 E M) 4503599627370496==some Ordering.lt)=false;rw[Flo.order_fin Ieee.double g1 (by decide),Flo.compare_int,gv]
  have hm:Flo.sval Ieee.double 4503599627370496=Flo.V Ieee.double 4503599627370496:=by
   unfold Flo.sval
   have e1:Flo.sgn Ieee.double 4503599627370496=false:=by decide
   have e2:Flo.rung Ieee.double 4503599627370496=4503599627370496:=by decide
   rw[e1,e2];rfl
  have hle:=Flo.V_le Ieee.double (r:=4503599627370496) (r':=E*4503599627370496+M) (by omega);rw[hm];generalize Flo.V Ieee.double (E*4503599627370496+M)=a at hle⊢;generalize Flo.V Ieee.double 4503599627370496=b at hle⊢;rw[if_neg (by omega)];split <;> rfl
theorem Ldexp_whole (d s:Int)(hd:d.natAbs < 16777216)(lo: -100≤s)(hi:s≤100)(w:World):
  Calls Tryz.prog 140 #[.float .f64 (FloatKind.f64.nearest d),.int .i64 s] w fun e w'=>e=.returned (.float .f64 (Ieee.double.nearest (decide (d < 0)) d.natAbs s))∧w=w':=by
 refine Ldexp_calls _ _ s w fun W=>?_;show Calls Tryz.prog 187 #[.float .f64 (Ieee.double.nearest (decide (d < 0)) d.natAbs 0),.int .i64 s] W _;by_cases hd0:d=0
 ·subst hd0
  have e0:∀ p,Ieee.double.nearest (decide ((0:Int) < 0)) (Int.natAbs 0) p=0:=by
   intro p;unfold Ieee.Format.nearest;rw[if_pos (by rfl)];rfl
  rw[e0,e0];exact ldexp_zero s W
 ·have hm:d.natAbs≠0:=by omega
  generalize decide (d < 0)=neg;generalize d.natAbs=m at hd hm;clear hd0;obtain ⟨M,f1,f2,f3,f4,f5⟩:=Flo.drung (s:=0) hm hd (by omega) (by omega);obtain ⟨M',g1,g2,g3,g4,g5⟩:=Flo.drung (s:=s) hm hd (by omega) (by omega);have hl:=Flo.log2_small hm hd
  have hMM:M'=M:=by rw[f3,g3]
  subst hMM
  obtain ⟨hh,hhv,hw⟩:∃ h:Nat,h < 2∧∀ r,Ieee.double.word neg r=h*9223372036854775808+r:=by
   refine ⟨neg.toNat,by cases neg <;> decide,fun r=>?_⟩;unfold Ieee.Format.word;rw[Flo.dsw]
   cases neg <;> simp
  have e1:Ieee.double.nearest neg m 0=wordOf hh (m.log2+1023) (M' - 4503599627370496):=by
   rw[(Flo.dnearest neg hm hd (by omega) (by omega)).1,hw,f4];unfold wordOf
   have:((0:Int)+(m.log2:Int)+1022).toNat=m.log2+1022:=by omega
   rw[this];clear f3 g3 f4 g4 f5 g5;omega
  have e2:Ieee.double.nearest neg m s=wordOf hh (s+m.log2+1023).toNat (M' - 4503599627370496):=by
   rw[(Flo.dnearest neg hm hd (by omega) (by omega)).1,hw,g4];unfold wordOf
   have:(s+(m.log2:Int)+1023).toNat=(s+(m.log2:Int)+1022).toNat+1:=by omega
   rw[this];clear f3 g3 f4 g4 f5 g5;omega
  have hmul:=Flo.dmul_one neg (s:=s) hm hd (by omega) (by omega);rw[e2] at hmul;rw[e1,e2];exact ldexp_calls (plain64 hhv (by omega) (by omega) (by omega)) s _ (by omega) (by omega) (by omega) hmul W
theorem vol_conv (d s:Int)(hd:d.natAbs < 16777216)(lo: -100≤s)(hi:s≤100):floatToFloatBits .f64 (Ieee.double.nearest (decide (d < 0)) d.natAbs s) .f32=some (Flo.vol d s):=by
 unfold floatToFloatBits Flo.vol;by_cases hd0:d=0
 ·subst hd0
  have e0:∀ f:Ieee.Format,f.nearest (decide ((0:Int) < 0)) (Int.natAbs 0) s=0:=by
   intro f;unfold Ieee.Format.nearest;rw[if_pos (by rfl)];rfl
  rw[e0,e0];decide
 ·have hm:d.natAbs≠0:=by omega
  generalize decide (d < 0)=neg;generalize d.natAbs=m at hd hm;have h1:=(Flo.dnearest neg hm hd (s:=s) (by omega) (by omega)).2;have h2:=Flo.dto_s neg hm hd lo hi;have h3:FloatKind.f64.decode (Ieee.double.nearest neg m s)=.number neg (m*2^(52 - m.log2)) (s - ((52 - m.log2:Nat):Int)):=h1;have h4:FloatKind.f32.encode (.number neg (m*2^(52 - m.log2)) (s - ((52 - m.log2:Nat):Int)))=Ieee.single.nearest neg m s:=h2.1;have h5:(FloatKind.f32.decode (Ieee.single.nearest neg m s)).isInfinity=false:=h2.2;rw[h3];simp[h4,h5]
theorem volts_calls {b s z:Int}{g o:ByteArray}{qg qo:Rat}(h:AdcOk b s z g o qg qo)(code:Int)(w:World)(lo:0≤code)(hi:code≤4095):
  Calls Tryz.prog 72 #[.agg #[.int .i64 b,.int .i64 s,.int .i64 z,.string g,.string o],.int .i64 code] w fun e w'=>e=.returned (.float .f32 (Flo.vol (code - z) s))∧New w w':=by
 have h1:=h.slo;have h2:=h.shi;have hz1:=h.zlo;have hz2:=h.zhi;have hz3:=(top_bd h.blo h.bhi).2;have c1:=fun W=>Ldexp_whole (code - z) s (by omega) (by omega) (by omega) W;have c2:=vol_conv (code - z) s (by omega) (by omega) (by omega);obtain ⟨d,hd⟩:∃ d,code - z=d:=⟨_,rfl⟩;have hw:wrap64 (code - z)=d:=(ld_in (by omega) (by omega)).trans hd;obtain ⟨x,hx⟩:∃ x,FloatKind.f64.nearest d=x:=⟨_,rfl⟩;have hx':floatOfInt .f64 d=x:=hx;obtain ⟨y,hy⟩:∃ y,Ieee.double.nearest (decide (d < 0)) d.natAbs s=y:=⟨_,rfl⟩;obtain ⟨v,hv⟩:∃ v,Flo.vol d s=v:=⟨_,rfl⟩;rw[hd,hy,hv] at c2;simp only[hd,hx,hy] at c1;rw[hd,hv];have c3:=fun W=>run_convert_float_float (P:=Tryz.prog) W 188 35 .f64 .f32 y v (by kernel_rfl) (by kernel_rfl) c2;clear h h1 h2 hz1 hz2 hz3 lo hi;have C1:=hid c1;have C2:=hid c2;have HD:=hid hd;have HX:=hid hx;have HY:=hid hy;have HV:=hid hv;clear c1 c2 hd hx hy hv;go_enter Tryz.func72,Tryz.ntmps72;go_wp2_with fail;obtain ⟨BA,HN⟩:=lay1 w 32 #[.int .i64 b,.int .i64 s,.int .i64 z,.string g,.string o];refine (C1.out _).mono ?_;rintro e w1 ⟨rfl,rfl⟩;go_wp2_with fail;go_ret;exact ⟨rfl,HN.out⟩
theorem Code_ok {b s z:Int}{g o:ByteArray}{qg qo:Rat}(h:AdcOk b s z g o qg qo)(v:ByteArray)(q:Rat)(w:World)(he:Env w)(hv:v.data.toList=ratText q)(hf:Fits q)(hl:v.size≤100000):
  Calls Tryz.prog 12 #[.agg #[.int .i64 b,.int .i64 s,.int .i64 z,.string g,.string o],.string v] w fun e w'=>e=.returned (.tuple #[.int .i64 (clipC (rawQ s z q) (2^b.toNat - 1)).1,.int .i64 (clipC (rawQ s z q) (2^b.toNat - 1)).2,.int .i64 0])∧New w w':=by
 have hc:=fun W hW=>checkAdc_ok h W hW;have hk:=fun W hW=>check_calls v W hW hl;rw[hv,ratErr_ratText hf] at hk;have hcc:=fun (vv:Value) W h1=>code_calls h vv q W h1 ((Fits.fb hf).mono (show 2000≤6000 by omega));unfold CodePost at hcc;obtain ⟨c1,hc1⟩:∃ c,(clipC (rawQ s z q) (2^b.toNat - 1)).1=c:=⟨_,rfl⟩;obtain ⟨c2,hc2⟩:∃ c,(clipC (rawQ s z q) (2^b.toNat - 1)).2=c:=⟨_,rfl⟩;simp only[hc1,hc2] at hcc⊢;clear h hc1 hc2 hf;have HC:=hid hc;have HK:=hid hk;have HCC:=hid hcc;have HE:=hid he;have HV:=hid hv;have HL:=hid hl;clear hc hk hcc he hv hl;go_enter Tryz.func12,Tryz.ntmps12;go_wp2_with fail;obtain ⟨BA,HN⟩:=lay1 w 32 #[.int .i64 b,.int .i64 s,.int .i64 z,.string g,.string o];refine (HC.out _ (HE.out.new HN.out)).mono ?_;rintro e w1 ⟨rfl,hn⟩;replace BA:=bW BA hn;replace HN:=tW HN hn;clear hn;go_wp2_with fail;refine (HK.out _ (HE.out.new HN.out)).mono ?_;rintro e w2 ⟨rfl,hn⟩;replace BA:=bW BA hn;replace HN:=tW HN hn;clear hn;go_wp2_with fail;have HN0:=HN;clear HN;obtain ⟨BG,HN⟩:=lay1 w2 29 #[.int .i64 0,.int .i64 0];replace BA:=hid (BA.out.new HN.out);have HN_:=HN0.out.trans HN.out;clear HN HN0;have HN:=hid HN_;clear HN_;refine (pfirst2_new 0 0 _ _ 29 _ BG.out).mono ?_;rintro e w3 ⟨rfl,hn⟩;replace BA:=bW BA hn;replace HN:=tW HN hn;clear hn;go_wp2_with fail;obtain ⟨⟨pa0,pa1,pa2,pa3,pa4⟩,pa5⟩:=BA.out.five;clear pa0 pa1 pa2 pa3 pa4 pa5;refine wp_region_T 8 (fun W=>W.cell? ⟨w.heap.size,0,none⟩=some (.int .i64 b)∧W.cell? ⟨w.heap.size,1,none⟩=some (.int .i64 s)∧W.cell? ⟨w.heap.size,2,none⟩=some (.int .i64 z)∧W.cell? ⟨w.heap.size,3,none⟩=some (.string g)∧W.cell? ⟨w.heap.size,4,none⟩=some (.string o)) 9 #[false,false,false,false,false,false,false,false,false] rfl (by kernel_rfl) (by kernel_rfl) ?_;refine tk 0 (by exact cW5 BA) ?_
 try simp only[PT]
 refine tk 1 (by exact cW5 BA) ?_
 try simp only[PT]
 refine tk1 2 fun K hK=>?_;go_simp;refine (from_calls v q _ (HE.out.new HN.out.drew) HV.out (by have:=HL.out;omega)).mono ?_;rintro e w4 ⟨v4,rfl,hn,hf⟩;have hn:=hn.undrew;have HF4:=hid hf;clear hf;replace BA:=bW BA hn;replace HN:=tW HN hn;clear hn;refine hK.out _ _ (fun _=>cW5 BA) ?_;clear hK K
 try simp only[PT]
 refine tk1 3 fun K hK=>?_;go_simp;refine (HCC.out _ _ HF4.out).mono ?_;rintro e w5 ⟨rfl,hn⟩;replace BA:=bW BA hn;replace HN:=tW HN hn;clear hn;refine hK.out _ _ (fun _=>cW5 BA) ?_;clear hK K
 try simp only[PT]
 refine tk 4 (by exact cW5 BA) ?_
 try simp only[PT]
 refine tk 5 (by exact cW5 BA) ?_
 try simp only[PT]
 refine tk 6 (by exact cW5 BA) ?_
 try simp only[PT]
 refine tk 7 (by exact cW5 BA) ?_
 try simp only[PT]
 refine tlW ?_;obtain ⟨⟨pa0,pa1,pa2,pa3,pa4⟩,pa5⟩:=BA.out.five;go_wp2_with fail;go_ret3;exact ⟨rfl,HN.out⟩
theorem Volts_ok {b s z:Int}{g o:ByteArray}{qg qo:Rat}(h:AdcOk b s z g o qg qo)(code:Int)(w:World)(he:Env w)(lo:0≤code)(hi:code≤2^b.toNat - 1):
  Calls Tryz.prog 13 #[.agg #[.int .i64 b,.int .i64 s,.int .i64 z,.string g,.string o],.int .i64 code] w fun e w'=>e=.returned (.tuple #[.float .f32 (Flo.vol (code - z) s),.int .i64 0])∧New w w':=by
 have hc:=fun W hW=>checkCode_calls h code W hW;have htp1:=top_bd h.blo h.bhi
 have hout:outside code 0 (2^b.toNat - 1)=false:=by simp only[outside,Bool.or_eq_false_iff,decide_eq_false_iff_not];omega
 simp only[hout]at hc;have hv:=fun W=>volts_calls h code W lo (by omega);obtain ⟨v,hvv⟩:∃ v,Flo.vol (code - z) s=v:=⟨_,rfl⟩;simp only[hvv] at hv⊢;clear h lo hi htp1 hout;have HC:=hid hc;have HV:=hid hv;have HE:=hid he;have HVV:=hid hvv;clear hc hv he hvv;go_enter Tryz.func13,Tryz.ntmps13;go_wp2_with fail;obtain ⟨BA,HN⟩:=lay1 w 32 #[.int .i64 b,.int .i64 s,.int .i64 z,.string g,.string o];refine (HC.out _ (HE.out.new HN.out)).mono ?_;rintro e w1 ⟨rfl,hn⟩;replace BA:=bW BA hn;replace HN:=tW HN hn;clear hn;obtain ⟨⟨pa0,pa1,pa2,pa3,pa4⟩,pa5⟩:=BA.out.five;go_wp2_with fail;refine (HV.out _).mono ?_;rintro e w2 ⟨rfl,hn⟩;clear pa0 pa1 pa2 pa3 pa4 pa5;replace BA:=bW BA hn;replace HN:=tW HN hn;clear hn;go_wp2_with fail;go_ret2;exact ⟨rfl,HN.out⟩
def fewErr (n:Nat):Int:=if 4096 < n then 5 else 0
theorem few_bool (a:Option Addr)(n cap:Nat)(w:World)(hn:n≤9223372036854775807):Calls Tryz.prog 116 #[.slice a n cap] w (RetNew w (fewErr n)):=by
 have hi:(n:Int)≤9223372036854775807:=by omega
 unfold fewErr;by_cases h:4096 < n
 ·rw[if_pos h]
  have hlt:(4096:Int) < (n:Int):=by omega
  have hd:decide ((4096:Int) < (n:Int))=true:=decide_eq_true hlt;go_enter Tryz.func116,Tryz.ntmps116;go_wp2_with fail;refine (pwhen_new true 5 _).mono ?_;rintro e w1 ⟨rfl,hn⟩;go_wp2_with fail;go_ret;exact ⟨rfl,hn⟩
 ·rw[if_neg h]
  have hlt:¬(4096:Int) < (n:Int):=by omega
  have hd:decide ((4096:Int) < (n:Int))=false:=decide_eq_false hlt;go_enter Tryz.func116,Tryz.ntmps116;go_wp2_with fail;refine (pwhen_new false 5 _).mono ?_;rintro e w1 ⟨rfl,hn⟩;go_wp2_with fail;go_ret;exact ⟨rfl,hn⟩
theorem few_u16 (a:Option Addr)(n cap:Nat)(w:World)(hn:n≤9223372036854775807):Calls Tryz.prog 120 #[.slice a n cap] w (RetNew w (fewErr n)):=by
 have hi:(n:Int)≤9223372036854775807:=by omega
 unfold fewErr;by_cases h:4096 < n
 ·rw[if_pos h]
  have hlt:(4096:Int) < (n:Int):=by omega
  have hd:decide ((4096:Int) < (n:Int))=true:=decide_eq_true hlt;go_enter Tryz.func120,Tryz.ntmps120;go_wp2_with fail;refine (pwhen_new true 5 _).mono ?_;rintro e w1 ⟨rfl,hn⟩;go_wp2_with fail;go_ret;exact ⟨rfl,hn⟩
 ·rw[if_neg h]
  have hlt:¬(4096:Int) < (n:Int):=by omega
  have hd:decide ((4096:Int) < (n:Int))=false:=decide_eq_false hlt;go_enter Tryz.func120,Tryz.ntmps120;go_wp2_with fail;refine (pwhen_new false 5 _).mono ?_;rintro e w1 ⟨rfl,hn⟩;go_wp2_with fail;go_ret;exact ⟨rfl,hn⟩
theorem pblocks_calls (n:Nat)(w:World)(hn:n≤100000):Calls Tryz.prog 121 #[.int .i64 n] w (RetNew w ((n+15) / 16:Nat)):=by
 have hi:(n:Int)≤100000:=by omega
 go_enter Tryz.func121,Tryz.ntmps121;go_wp2_with fail;go_ret;refine ⟨ret_i64 ?_,New.refl _⟩
 first | rfl | omega
def chg (b:Bool)(k:Nat):List Bool→List Int
 | []=>[]
 | x::l=>if x != b then (k:Int)::chg x (k+1) l else chg x (k+1) l
def lastB (b:Bool):List Bool→Bool
 | []=>b
 | x::l=>lastB x l
theorem chg_snoc (l:List Bool):∀ (b:Bool) (k:Nat) (x:Bool),chg b k (l ++ [x])=chg b k l ++ (if x != lastB b l then [((k+l.length:Nat):Int)] else []):=by
 induction l with
 | nil=>
  intro b k x;show (if x != b then (k:Int)::[] else [])=[] ++ _;simp[lastB]
 | cons y l ih=>
  intro b k x;show (if y != b then (k:Int)::chg y (k+1) (l ++ [x]) else chg y (k+1) (l ++ [x]))=(if y != b then (k:Int)::chg y (k+1) l else chg y (k+1) l) ++ _;rw[ih]
  have e:k+1+l.length=k+(y::l).length:=by simp;omega
  rw[e]
  cases hb:(y != b) <;> simp[lastB]
theorem lastB_snoc (l:List Bool):∀ (b x:Bool),lastB b (l ++ [x])=x:=by
 induction l with
 | nil=>intro b x;rfl
 | cons y l ih=>intro b x;exact ih y x
theorem chg_len (l:List Bool):∀ (b:Bool) (k:Nat),(chg b k l).length≤l.length:=by
 induction l with
 | nil=>intro b k;exact Nat.le_refl _
 | cons y l ih=>
  intro b k;show (if y != b then (k:Int)::chg y (k+1) l else chg y (k+1) l).length≤l.length+1;have:=ih y (k+1);split <;> simp <;> omega
theorem chg_next {before:Bool}{l:List Bool}{k:Nat}(hk:k < l.length){y:Bool}{xs:List Int}{x:Bool}(hy:lastB before (l.take k)=y)(hxs:chg before 0 (l.take k)=xs)(hx:l[k]=x):
  lastB before (l.take (k+1))=x∧chg before 0 (l.take (k+1))=xs ++ (if x != y then [(k:Int)] else []):=by
 rw[List.take_succ_eq_append_getElem hk,lastB_snoc,chg_snoc,hx,hy,hxs,List.length_take,Nat.min_eq_left (by omega),Nat.zero_add];exact ⟨rfl,rfl⟩
def RowPost (w:World)(e:TypeId)(xs:List Value)(n:Int)(en:Ending)(w':World):Prop:=∃ v,en=.returned (.tuple #[v,.int .i64 n])∧New w w'∧w'.ownsRow w.heap.size e 1 v xs.length xs
theorem changes_ok (a:Option Addr)(cap:Nat)(l:List Bool)(before:Bool)(w:World)(hl:l.length≤4096)(hr:RdL w a (bools l)):
  Calls Tryz.prog 58 #[.slice a l.length cap,.bool before] w (RowPost w 3 (ints (chg before 0 l)) 0):=by
 obtain ⟨i0,hi,hz0,hz1,hz2⟩:=info_parts info_int
 have hli:(l.length:Int)≤4096:=by omega
 have hfew:=fun W=>few_bool a l.length cap W (by omega);rw[show fewErr l.length=0 from if_neg (by omega)] at hfew;have HR:=hid hr;have HFEW:=hid hfew;clear hr hfew;go_enter Tryz.func58,Tryz.ntmps58;go_wp2_with fail;refine (HFEW.out _).mono ?_;rintro e w1 ⟨rfl,hn⟩;have HN1:=hid hn;clear hn;go_wp2_with fail
 go_loopw [1,7,17] (fun bf v i wr=>∃ (k:Nat) (y:Bool) (xs:List Int),k≤l.length∧bf=.bool y∧i=.int .i64 (k:Int)∧Hid (lastB before (l.take k)=y)∧Hid (chg before 0 (l.take k)=xs)∧
  Hid (wr.ownsRow w.heap.size 3 1 v (ints xs).length (ints xs))∧Hid (New w wr)) (fun _ _ i _=>l.length - (intOf i).toNat)
 case atStart=>exact ⟨0,before,[],Nat.zero_le _,rfl,rfl,hid rfl,hid rfl,hid (World.ownsRow_nil _ _ _ _),HN1⟩
 case round=>
  obtain ⟨k,y,xs,hk,rfl,rfl,HY,HX,HO,HN⟩:=hrel;by_cases hlt:k < l.length
  ·obtain ⟨b,off,rfl,hcell⟩:=HR.out.bool k hlt;obtain ⟨x,hx⟩:∃ x,l[k]=x:=⟨_,rfl⟩;rw[hx] at hcell;have hcell:=HN.out.cell hcell
   cases x with
   | true=>
    cases y with
    | true=>
     have hnx:=chg_next hlt HY.out HX.out hx;have hnx1:=hnx.1;have hnx2:=hnx.2;simp only[bne_self_eq_false,Bool.false_eq_true,if_false,List.append_nil] at hnx2;clear hnx;have HXX:=hid hx;have HNX1:=hid hnx1;have HNX2:=hid hnx2;clear hx hnx1 hnx2;go_wp2_with fail;go_roundw
     case rel=>exact ⟨k+1,_,xs,by omega,rfl,by go_num,HNX1,HNX2,HO,HN⟩
     case measure=>simp[intOf];omega
    | false=>
     have hnx:=chg_next hlt HY.out HX.out hx;have hnx1:=hnx.1;have hnx2:=hnx.2;rw[if_pos (by decide)] at hnx2;clear hnx
     have hle:xs.length≤k:=by
      have:=chg_len (l.take k) before 0;rw[HX.out] at this;simp at this;omega
     have HXX:=hid hx;have HNX1:=hid hnx1;have HNX2:=hid hnx2;have HLE:=hid hle;clear hx hnx1 hnx2 hle;go_wp2_with (at_builtin;refine wpList_append_own _ rfl _ _ 57 rfl w.heap.size 3 i0 (.int .i64 0) 1 8 Tryz.underlying57 hi hz0 hz1 hz2 rfl (by decide) _ _ _ rfl (HO.out.alloc _) ⟨wr.heap.size,0,none⟩ 1 1 [.int .i64 (k:Int)] rfl rfl (one_c1 _ _ _) (one_c2 _) (by have:=HLE.out;simp only[ints,List.length_map];unfold maxLen;omega) (by have:=HLE.out;simp only[ints,List.length_map];omega) (by have:=HN.out.size;rw[←size_alloc];omega) ?_);intro v' w1 hown' hgrow _;have hN1:=grown_new HN.out HO.out hgrow
     have hO1:w1.ownsRow w.heap.size 3 1 v' (ints (xs ++ [(k:Int)])).length (ints (xs ++ [(k:Int)])):=by
      have:ints (xs ++ [(k:Int)])=ints xs ++ [.int .i64 (k:Int)]:=by simp[ints]
      rw[this];simpa using hown'
     clear hown' hgrow;have HN1:=hid hN1;have HO1:=hid hO1;clear hN1 hO1;go_wp2_with fail;go_roundw
     case rel=>exact ⟨k+1,_,_,by omega,rfl,by go_num,HNX1,HNX2,HO1,HN1⟩
     case measure=>simp[intOf];omega
   | false=>
    cases y with
    | true=>
     have hnx:=chg_next hlt HY.out HX.out hx;have hnx1:=hnx.1;have hnx2:=hnx.2;rw[if_pos (by decide)] at hnx2;clear hnx
     have hle:xs.length≤k:=by
      have:=chg_len (l.take k) before 0;rw[HX.out] at this;simp at this;omega
     have HXX:=hid hx;have HNX1:=hid hnx1;have HNX2:=hid hnx2;have HLE:=hid hle;clear hx hnx1 hnx2 hle;go_wp2_with (at_builtin;refine wpList_append_own _ rfl _ _ 57 rfl w.heap.size 3 i0 (.int .i64 0) 1 8 Tryz.underlying57 hi hz0 hz1 hz2 rfl (by decide) _ _ _ rfl (HO.out.alloc _) ⟨wr.heap.size,0,none⟩ 1 1 [.int .i64 (k:Int)] rfl rfl (one_c1 _ _ _) (one_c2 _) (by have:=HLE.out;simp only[ints,List.length_map];unfold maxLen;omega) (by have:=HLE.out;simp only[ints,List.length_map];omega) (by have:=HN.out.size;rw[←size_alloc];omega) ?_);intro v' w1 hown' hgrow _;have hN1:=grown_new HN.out HO.out hgrow
     have hO1:w1.ownsRow w.heap.size 3 1 v' (ints (xs ++ [(k:Int)])).length (ints (xs ++ [(k:Int)])):=by
      have:ints (xs ++ [(k:Int)])=ints xs ++ [.int .i64 (k:Int)]:=by simp[ints]
      rw[this];simpa using hown'
     clear hown' hgrow;have HN1:=hid hN1;have HO1:=hid hO1;clear hN1 hO1;go_wp2_with fail;go_roundw
     case rel=>exact ⟨k+1,_,_,by omega,rfl,by go_num,HNX1,HNX2,HO1,HN1⟩
     case measure=>simp[intOf];omega
    | false=>
     have hnx:=chg_next hlt HY.out HX.out hx;have hnx1:=hnx.1;have hnx2:=hnx.2;simp only[bne_self_eq_false,Bool.false_eq_true,if_false,List.append_nil] at hnx2;clear hnx;have HXX:=hid hx;have HNX1:=hid hnx1;have HNX2:=hid hnx2;clear hx hnx1 hnx2;go_wp2_with fail;go_roundw
     case rel=>exact ⟨k+1,_,xs,by omega,rfl,by go_num,HNX1,HNX2,HO,HN⟩
     case measure=>simp[intOf];omega
  ·have hkk:k=l.length:=by omega
   have hX:=HX.out;rw[hkk,List.take_length] at hX;have HKK:=hid hkk;have HXX:=hid hX;clear hkk hX;go_wp2_with fail;go_ret2;exact ⟨_,rfl,HN.out,by rw[HXX.out];exact HO.out⟩
theorem one_put {w w6:World} {x:Rat} {B:Nat} {t:TypeId} {s s':Int} {a a':Option Addr} {l c l' c':Nat} {n n':Int} {b b':Option Addr} {m k m' k':Nat} (hN:New w w6) (bp:Box w6 B t #[.int .i64 s,.slice a l c,.int .i64 s',.slice a' l' c']) (hB:w.heap.size≤B)
  (h:IsFrac w6 (.agg #[.int .i64 n,.slice b m k,.int .i64 n',.slice b' m' k']) x):
  New w ((((w6.setCell ⟨B,0,none⟩ (.int .i64 n)).setCell ⟨B,1,none⟩ (.slice b m k)).setCell ⟨B,2,none⟩ (.int .i64 n')).setCell ⟨B,3,none⟩ (.slice b' m' k'))∧
  Box ((((w6.setCell ⟨B,0,none⟩ (.int .i64 n)).setCell ⟨B,1,none⟩ (.slice b m k)).setCell ⟨B,2,none⟩ (.int .i64 n')).setCell ⟨B,3,none⟩ (.slice b' m' k')) B t #[.int .i64 n,.slice b m k,.int .i64 n',.slice b' m' k']∧
  IsFrac ((((w6.setCell ⟨B,0,none⟩ (.int .i64 n)).setCell ⟨B,1,none⟩ (.slice b m k)).setCell ⟨B,2,none⟩ (.int .i64 n')).setCell ⟨B,3,none⟩ (.slice b' m' k')) (.agg #[.int .i64 n,.slice b m k,.int .i64 n',.slice b' m' k']) x:=
 ⟨hN.put4 hB _ _ _ _,bp.put4 _ _ _ _,h.put4 bp _ _ _ _ _ _ _ _⟩
theorem two_put {w w6:World} {x y:Rat} {B C:Nat} {t t':TypeId} {s s':Int} {a a':Option Addr} {l c l' c':Nat} {r r':Int} {d d':Option Addr} {i j i' j':Nat} {n n':Int} {b b':Option Addr} {m k m' k':Nat} {p p':Int} {e e':Option Addr} {f g f' g':Nat} (hN:New w w6)
  (bp:Box w6 B t #[.int .i64 s,.slice a l c,.int .i64 s',.slice a' l' c']) (bq:Box w6 C t' #[.int .i64 r,.slice d i j,.int .i64 r',.slice d' i' j']) (hB:w.heap.size≤B) (hC:w.heap.size≤C) (hne:B≠C)
  (h1:IsFrac w6 (.agg #[.int .i64 n,.slice b m k,.int .i64 n',.slice b' m' k']) x) (h2:IsFrac w6 (.agg #[.int .i64 p,.slice e f g,.int .i64 p',.slice e' f' g']) y):
  ∀ W,W=((((((((w6.setCell ⟨B,0,none⟩ (.int .i64 n)).setCell ⟨B,1,none⟩ (.slice b m k)).setCell ⟨B,2,none⟩ (.int .i64 n')).setCell ⟨B,3,none⟩ (.slice b' m' k')).setCell ⟨C,0,none⟩ (.int .i64 p)).setCell ⟨C,1,none⟩ (.slice e f g)).setCell ⟨C,2,none⟩ (.int .i64 p')).setCell ⟨C,3,none⟩ (.slice e' f' g'))→
  New w W∧Box W B t #[.int .i64 n,.slice b m k,.int .i64 n',.slice b' m' k']∧Box W C t' #[.int .i64 p,.slice e f g,.int .i64 p',.slice e' f' g']∧IsFrac W (.agg #[.int .i64 n,.slice b m k,.int .i64 n',.slice b' m' k']) x∧IsFrac W (.agg #[.int .i64 p,.slice e f g,.int .i64 p',.slice e' f' g']) y:=by
 rintro W rfl;exact ⟨(hN.put4 hB _ _ _ _).put4 hC _ _ _ _,(bp.put4 _ _ _ _).other4 (Ne.symm hne) _ _ _ _,(bq.other4 hne _ _ _ _).put4 _ _ _ _,(h1.put4 bp _ _ _ _ _ _ _ _).put4 (bq.other4 hne _ _ _ _) _ _ _ _ _ _ _ _,(h2.put4 bp _ _ _ _ _ _ _ _).put4 (bq.other4 hne _ _ _ _) _ _ _ _ _ _ _ _⟩
theorem eq_mark (c1 c2:Int)(t1 t2:ByteArray)(h:c1≠c2)(W:World):(binOp .eql 78 (.agg #[.int .i64 c1,.string t1]) (.agg #[.int .i64 c2,.string t2])).run Tryz.prog W=.ok (.bool false) W:=by
 have hc:(c1==c2)=false:=beq_eq_false_iff_ne.2 h
 have hf:(Tryz.prog.fieldsOf 78).toList.length=2:=by kernel_rfl
 rw[run_eql_struct,run_equalIn_struct (P:=Tryz.prog) W 9999 78 #[.int .i64 c1,.string t1] #[.int .i64 c2,.string t2] (by kernel_rfl) (by kernel_rfl)]
 obtain ⟨f1,f2,hl⟩:∃ f1 f2,(Tryz.prog.fieldsOf 78).toList=[f1,f2]:=by
  match h:(Tryz.prog.fieldsOf 78).toList,hf with
  | [a,b],_=>exact ⟨a,b,rfl⟩
 have e1 : f1.name ≠ "_" ∧ f1.type = 3 ∧ f1.offset = 0 := by
  have:(Tryz.prog.fieldsOf 78).toList[0]?=some f1:=by rw[hl];rfl
  have h2 : (Tryz.prog.fieldsOf 78).toList[0]?.map (fun f => (f.name, f.type, f.offset)) = some ("Code", 3, 0) := by kernel_rfl
  rw[this]at h2;simp at h2;refine ⟨by rw[h2.1];decide,h2.2.1,h2.2.2⟩
 rw[hl];have hu:Tryz.prog.underlying 3=some (.int .i64):=Tryz.underlying3;obtain ⟨ii,hi,hz0,hz1,hz2⟩:=info_parts info_int
 have hp:∀ (x:Int) (s:ByteArray),(part 3 #[.int .i64 x,.string s] 0).run Tryz.prog W=.ok (.int .i64 x) W:=by
  intro x s;simp[go_sem,part,sizeOf,typeInfo,Result.andThen]
 unfold Op.eqFields;rw[if_pos e1.1,e1.2.1,e1.2.2];simp only[Sem.run_bind,hp,Result.andThen_ok,run_equalIn_int W 9998 3 .i64 .i64 c1 c2 hu,hc];simp[Result.andThen]
theorem info_mark:(Tryz.prog.info? 78).map (fun i=>(i.zero,i.size,i.bytes))=some (some (.agg #[.int .i64 0,.string ByteArray.empty]),2,24):=by kernel_rfl
theorem mark_at (a b c d:Value)(W:World):(Instr.index 153 (.agg #[a,b,c,d]) (.int .i64 0)).run Tryz.prog W=.ok (.agg #[a,b]) W∧(Instr.index 153 (.agg #[a,b,c,d]) (.int .i64 1)).run Tryz.prog W=.ok (.agg #[c,d]) W:=by
 obtain ⟨ii,hi,hz0,hz1,hz2⟩:=info_parts info_mark
 have hu:Tryz.prog.underlying 153=some (.array 2 78):=by kernel_rfl
 have hag:∀ W,(isAgg 78).run Tryz.prog W=.ok true W:=by
  intro W
  have h2:(Tryz.prog.underlying 78).isSome=true:=by kernel_rfl
  obtain ⟨d,hd⟩:=Option.isSome_iff_exists.1 h2
  have h3:(match Tryz.prog.underlying 78 with | some (.struct _)=>true | _=>false)=true:=by kernel_rfl
  rw[hd]at h3
  cases d <;> simp at h3
  simp[isAgg,run_underlying hd,Result.andThen]
 constructor
 ·simp[Instr.index,asIntOf,run_underlying hu,part,hag,sizeOf,typeInfo,hi,hz1,Result.andThen]
 ·simp[Instr.index,asIntOf,run_underlying hu,part,hag,sizeOf,typeInfo,hi,hz1,Result.andThen]
def FracAt (W:World)(B:Nat)(q:Rat):Prop:=∃ (s:Int) (a:Option Addr) (l c:Nat) (s':Int) (a':Option Addr) (l' c':Nat),Box W B 122 #[.int .i64 s,.slice a l c,.int .i64 s',.slice a' l' c']∧IsFrac W (.agg #[.int .i64 s,.slice a l c,.int .i64 s',.slice a' l' c']) q
theorem FracAt.new {W W':World}{B:Nat}{q:Rat}(h:FracAt W B q)(hn:New W W'):FracAt W' B q:=by
 obtain ⟨s,a,l,c,s',a',l',c',h1,h2⟩:=h;exact ⟨s,a,l,c,s',a',l',c',h1.new hn,h2.new hn⟩
def rawText (q:Rat):ByteArray:=⟨(ratText q).toArray⟩
theorem text_raw (va:Value)(q:Rat)(W:World)(h:IsFrac W va q)(hs:SmF q)(he:Env W):Calls Tryz.prog 100 #[va] W fun e w'=>e=.returned (.string (rawText q))∧New W w':=text_small va q W h hs he
end Go.Proofs.YtbkcjmojgglbkaaGreatDoor
