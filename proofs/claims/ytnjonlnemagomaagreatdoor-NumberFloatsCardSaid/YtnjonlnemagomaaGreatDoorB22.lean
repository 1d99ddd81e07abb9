/- Part B22. -/
import Derived.Test.YtnjonlnemagomaaGreatDoorB18
namespace Go.Proofs.YtnjonlnemagomaaGreatDoor
open Go.RowKit Big Go.Lib Tryz
set_option maxRecDepth 100000
set_option maxHeartbeats 8000000
set_option linter.all false
theorem int_divInt (n:Int):(n:Rat)=Rat.divInt n 1:=by
 have:=Rat.num_divInt_den (n:Rat);rw[Rat.num_intCast,Rat.den_intCast] at this;exact this.symm
def fq (x:Nat):Rat:=Rat.divInt (Flo.sval Ieee.single x) (2^149)
theorem pos_float {x:Nat}(h:x < 2139095040):Flo.sgn Ieee.single x=false∧Flo.rung Ieee.single x=x∧Flo.Fin Ieee.single x∧Flo.sval Ieee.single x=(Flo.V Ieee.single x:Int):=by
 have hr:Flo.rung Ieee.single x=x:=by unfold Flo.rung;rw[Flo.ssw];omega
 have hs:Flo.sgn Ieee.single x=false:=by unfold Flo.sgn;rw[Flo.ssw];simp;omega
 refine ⟨hs,hr,by unfold Flo.Fin;rw[hr,Flo.sinf];exact h,?_⟩;unfold Flo.sval;rw[hs,hr];rfl
theorem neg_float {r:Nat}(h:r < 2139095040):Flo.sgn Ieee.single (2147483648+r)=true∧Flo.rung Ieee.single (2147483648+r)=r∧Flo.Fin Ieee.single (2147483648+r)∧Flo.sval Ieee.single (2147483648+r)= -(Flo.V Ieee.single r:Int):=by
 have hr:Flo.rung Ieee.single (2147483648+r)=r:=by unfold Flo.rung;rw[Flo.ssw];omega
 have hs:Flo.sgn Ieee.single (2147483648+r)=true:=by
  unfold Flo.sgn;rw[Flo.ssw]
  have:(2147483648+r) / 2147483648=1:=by omega
  rw[this];rfl
 refine ⟨hs,hr,by unfold Flo.Fin;rw[hr,Flo.sinf];exact h,?_⟩;unfold Flo.sval;rw[hs,hr];rfl
theorem cmp_gt (a b:Int):(some (compare a b)==some Ordering.gt)=decide (b < a):=by
 rw[Flo.compare_int];by_cases h1:a < b
 ·rw[if_pos h1,decide_eq_false (by omega)];rfl
 ·rw[if_neg h1];by_cases h2:a=b
  ·rw[if_pos h2,decide_eq_false (by omega)];rfl
  ·rw[if_neg h2,decide_eq_true (by omega)];rfl
theorem cmp_eq (a b:Int):(some (compare a b)==some Ordering.eq)=decide (a=b):=by
 rw[Flo.compare_int];by_cases h1:a < b
 ·rw[if_pos h1,decide_eq_false (by omega)];rfl
 ·rw[if_neg h1];by_cases h2:a=b
  ·rw[if_pos h2,decide_eq_true h2];rfl
  ·rw[if_neg h2,decide_eq_false h2];rfl
theorem ord_pos {x y:Nat}(hx:x < 2139095040)(hy:y < 2139095040):FloatKind.f32.format.order x y=some (compare (Flo.V Ieee.single x:Int) (Flo.V Ieee.single y:Int)):=by
 have:=Flo.order_fin Ieee.single (pos_float hx).2.2.1 (pos_float hy).2.2.1;rw[(pos_float hx).2.2.2,(pos_float hy).2.2.2] at this;exact this
theorem part_step {z U:Nat}(hU:U=2^149)(hz:Flo.V Ieee.single z < 16777216*U)(hn:¬Flo.V Ieee.single z % U=0):Flo.V Ieee.single z*2 < 16777216*U∧z≠0∧z < 1258291200:=by
 have h1:z < 1258291200:=by
  rcases Nat.lt_or_ge z 1258291200 with h | h
  ·exact h
  ·exfalso;apply hn
   have hb:¬z < 8388608:=by omega
   unfold Flo.V;rw[Flo.sbin,if_neg hb];obtain ⟨k,hk⟩:∃ k,z / 8388608 - 1=149+k:=⟨z / 8388608 - 150,by omega⟩;rw[hk,Nat.pow_add,←hU,Nat.mul_comm U,←Nat.mul_assoc];exact Nat.mul_mod_left _ _
 refine ⟨?_,?_,h1⟩
 ·have h2:=Flo.V_lt Ieee.single h1
  have h3:Flo.V Ieee.single 1258291200=8388608*U:=by rw[hU];decide +kernel
  rw[h3]at h2;omega
 ·intro h;rw[h,Flo.V_zero] at hn;exact hn (Nat.zero_mod _)
theorem stepQ_div (j i:Nat):stepQ ((j:Int) - (i:Int))=Rat.divInt (2^j) (2^i):=by
 unfold stepQ;split
 ·have e:(-((j:Int) - (i:Int))).toNat=i - j:=by omega
  rw[e,int_divInt,Rat.inv_divInt];have:=Rat.divInt_mul_right (n:=1) (d:=(2:Int)^(i - j)) (a:=(2:Int)^j) (Int.ne_of_gt (Int.pow_pos (by decide)));rw[←this,Int.one_mul,←Int.pow_add];congr 2;omega
 ·have e:((j:Int) - (i:Int)).toNat=j - i:=by omega
  rw[e,int_divInt];have:=Rat.divInt_mul_right (n:=(2:Int)^(j - i)) (d:=1) (a:=(2:Int)^i) (Int.ne_of_gt (Int.pow_pos (by decide)));rw[←this,Int.one_mul,←Int.pow_add];congr 2;omega
theorem part_val {x n i j:Nat}(hx:x < 2139095040)(h:Flo.V Ieee.single x*2^i=n*2^149*2^j):((n:Int):Rat)*stepQ ((j:Int) - (i:Int))=fq x:=by
 unfold fq;rw[stepQ_div,int_divInt,Rat.divInt_mul_divInt,(pos_float hx).2.2.2];have h1:(1:Int)*2^i≠0:=Int.mul_ne_zero (by decide) (Int.ne_of_gt (Int.pow_pos (by decide)));have h2:(2:Int)^149≠0:=Int.ne_of_gt (Int.pow_pos (by decide));rw[Rat.divInt_eq_divInt_iff h1 h2]
 have h3:((Flo.V Ieee.single x*2^i:Nat):Int)=((n*2^149*2^j:Nat):Int):=by rw[h]
 rw[Int.natCast_mul,Int.natCast_mul,Int.natCast_mul,Int.natCast_pow,Int.natCast_pow,Int.natCast_pow]at h3;rw[Int.one_mul];rw[Int.mul_right_comm] at h3;exact h3.symm
theorem fq_neg {r:Nat}(h:r < 2139095040):fq (2147483648+r)= -fq r:=by
 unfold fq;rw[(neg_float h).2.2.2,(pos_float h).2.2.2,Rat.neg_divInt]
end Go.Proofs.YtnjonlnemagomaaGreatDoor
namespace Go.Proofs.YtnjonlnemagomaaGreatDoor.Flo
set_option maxRecDepth 100000
set_option maxHeartbeats 8000000
set_option linter.all false
open Ieee
def sw (s:Bool)(x:Nat):Nat:=if s then 2147483648+x else x
theorem sw_word (s:Bool)(x:Nat):single.word s x=sw s x:=by
 unfold Format.word sw;rw[ssw]
theorem sw_fin (s:Bool){x:Nat}(h:x < 2139095040):sgn single (sw s x)=s∧rung single (sw s x)=x∧Fin single (sw s x)∧sval single (sw s x)=if s then -(V single x:Int) else (V single x:Int):=by
 cases s
 ·exact pos_float h
 ·exact neg_float h
theorem sread_sw (s:Bool){x:Nat}(h:x < 2139095040):∃ m k:Nat,single.read (sw s x)=.number s m (-149+(k:Int))∧m*2^k=V single x:=by
 obtain ⟨h1,h2,h3, -⟩:=sw_fin s h;obtain ⟨m,k,h4,h5⟩:=read_fin single h3;rw[h1,slp] at h4;rw[h2] at h5;exact ⟨m,k,h4,h5⟩
theorem sdouble_sw (s:Bool){x:Nat}(h0:x≠0)(h:x < 2130706432):single.mul (sw s x) 1073741824=some (sw s (dbl x)):=by
 obtain ⟨m,k,h1,h2⟩:=sread_sw s (x:=x) (by omega)
 have h3:single.read 1073741824=.number false 8388608 (-22):=by decide
 have hm:m≠0:=by
  intro hm;rw[hm,Nat.zero_mul] at h2;have:=V_lt single (r:=0) (r':=x) (by omega);rw[V_zero] at this;omega
 unfold Format.mul;rw[h1,h3];show some (single.nearest (s ^^ false) (m*8388608) (-149+(k:Int)+ -22))=_;rw[Bool.xor_false];congr 1;have:=nearest_rung s (m:=m*8388608) (r:=dbl x) (p:= -149+(k:Int)+ -22) (Nat.mul_ne_zero hm (by decide)) (by unfold dbl;split <;> omega);rw[V_dbl,←h2,sw_word] at this;rw[this]
 have e8:(8388608:Nat)=2^23:=by decide
 rw[e8,Nat.mul_assoc,←Nat.pow_add,show 2*(m*2^k)=m*2^(k+1) by rw[Nat.pow_succ];rw[←Nat.mul_assoc m];omega,Nat.mul_assoc,←Nat.pow_add];congr 2;omega
theorem shalve_sw (s:Bool){x y:Nat}(hxy:x=y+8388608)(hlo:16777216≤x)(h:x < 2139095040):single.div (sw s x) 1073741824=some (sw s y):=by
 have h3:single.read 1073741824=.number false 8388608 (-22):=by decide
 have hV:V single x=2*V single y:=by
  rw[hxy];exact V_up (x:=y) (by omega)
 have h1:single.read (sw s x)=.number s (8388608+x % 8388608) (-149+((x / 8388608 - 1:Nat):Int)):=by
  unfold Format.read sw;simp only;rw[ssw,sbin,sinf,slp]
  cases s
  ·have e1:x / 2147483648 % 2=0:=by omega
   have e2:x % 2147483648=x:=by omega
   simp only[Bool.false_eq_true,if_false];rw[e1,e2,if_neg (by omega),if_pos h];rfl
  ·have e1:(2147483648+x) / 2147483648 % 2=1:=by omega
   have e2:(2147483648+x) % 2147483648=x:=by omega
   simp only[if_true];rw[e1,e2,if_neg (by omega),if_pos h];rfl
 have h2:(8388608+x % 8388608)*2^(x / 8388608 - 1)=V single x:=by
  unfold V;rw[sbin,if_neg (by omega)]
 unfold Format.div;rw[h1,h3];obtain ⟨m,ab⟩:∃ m,8388608+x % 8388608=m:=⟨_,rfl⟩;obtain ⟨k,hk⟩:∃ k,x / 8388608 - 1=k:=⟨_,rfl⟩
 have ae:8388608≤m:=by omega
 have ac:m < 16777216:=by omega
 rw[ab,hk]at h2⊢
 have aa:m≠0:=by omega
 have hM:m.log2=23:=by
  have a1:=(Nat.le_log2 aa (k:=23)).2 (by omega);have a2:=log2_small aa ac;omega
 have e0:(8388608:Nat).log2=23:=by decide
 have e1:m <<< (single.fractionBits+2+(8388608:Nat).log2 - m.log2)=8388608*(4*m):=by
  rw[hM,e0,sfb,Nat.shiftLeft_eq];show m*2^25=_;omega
 have e2:8388608*(4*m) / 8388608=4*m:=Nat.mul_div_cancel_left _ (by decide);have e3:8388608*(4*m) % 8388608=0:=Nat.mul_mod_right _ _;unfold Datum.quotient;simp only[show ¬(8388608:Nat)=0 by decide,if_false,Option.map_some];rw[e1,e2,e3,hM,e0,sfb];show some (single.nearest (s ^^ false) (2*(4*m)+0) _)=_;rw[Bool.xor_false];refine congrArg some ?_;have:=nearest_rung s (m:=2*(4*m)+0) (r:=y) (p:= -149+(k:Int) - -22 - ((23+2+23 - 23:Nat):Int) - 1) (by omega) (by omega);rw[this,sw_word]
 have ad:1≤k:=by omega
 obtain ⟨j,rfl⟩:∃ j,k=j+1:=⟨k - 1,by omega⟩
 have hv:V single y=m*2^j:=by
  rw[Nat.pow_succ,←Nat.mul_assoc]at h2;omega
 have e8:2*(4*m)+0=m*2^3:=by omega
 have e9:3+(-149+((j+1:Nat):Int) - -22 - ((23+2+23 - 23:Nat):Int) - 1+149).toNat=j+(-149 - (-149+((j+1:Nat):Int) - -22 - ((23+2+23 - 23:Nat):Int) - 1)).toNat:=by omega
 rw[hv,e8,Nat.mul_assoc,←Nat.pow_add,Nat.mul_assoc,←Nat.pow_add,e9]
theorem stoInt_sw (s:Bool){x:Nat}(h:x < 1266679808):floatToIntVal .f32 (sw s x) .i64=some (if s then -((V single x / 2^149:Nat):Int) else ((V single x / 2^149:Nat):Int)):=by
 obtain ⟨m,k,h1,h2⟩:=sread_sw s (x:=x) (by omega)
 have hv:V single x < 16777216*2^149:=by
  rw[←one_unit];exact V_lt single h
 have aa:V single x / 2^149 < 16777216:=Nat.div_lt_of_lt_mul (by rw[Nat.mul_comm];exact hv)
 have e:(FloatKind.f32.decode (sw s x)).toInt .zero=some (if s then -((V single x / 2^149:Nat):Int) else ((V single x / 2^149:Nat):Int)):=by
  show (single.read (sw s x)).toInt .zero=_;rw[h1];show some (Ieee.signed s (Toward.zero.cut s (m <<< (-149+(k:Int)).toNat) (-(-149+(k:Int))).toNat) 0)=_;rw[zcut,signed_val,Nat.pow_zero,Nat.mul_one,Nat.shiftLeft_eq,←h2]
  have e5:m*2^(-149+(k:Int)).toNat / 2^(-(-149+(k:Int))).toNat=m*2^k / 2^149:=by
   rcases Nat.le_total k 149 with h3 | h3
   ·have e1:(-149+(k:Int)).toNat=0:=by omega
    have e2:(-(-149+(k:Int))).toNat=149 - k:=by omega
    rw[e1,e2,Nat.pow_zero,Nat.mul_one]
    have e3:2^149=2^(149 - k)*2^k:=by rw[←Nat.pow_add];congr 1;omega
    rw[e3,Nat.mul_div_mul_right _ _ (Nat.two_pow_pos k)]
   ·have e1:(-149+(k:Int)).toNat=k - 149:=by omega
    have e2:(-(-149+(k:Int))).toNat=0:=by omega
    rw[e1,e2,Nat.pow_zero,Nat.div_one]
    have e3:2^k=2^(k - 149)*2^149:=by rw[←Nat.pow_add];congr 1;omega
    rw[e3,←Nat.mul_assoc,Nat.mul_div_cancel _ (Nat.two_pow_pos 149)]
  rw[e5]
 obtain ⟨y,hy⟩:∃ y,V single x / 2^149=y:=⟨_,rfl⟩;rw[hy] at e aa⊢;unfold floatToIntVal;rw[e]
 have a:IntKind.i64.min= -9223372036854775808:=by decide
 have b:IntKind.i64.max=9223372036854775807:=by decide
 have h5:IntKind.i64.min≤(if s then -(y:Int) else (y:Int))∧(if s then -(y:Int) else (y:Int))≤IntKind.i64.max:=by
  rw[a,b]
  cases s
  ·rw[if_neg (by decide)];omega
  ·rw[if_pos rfl];omega
 simp only;rw[if_pos h5]
theorem swhole (s:Bool){z:Nat}(h:z < 1266679808):∃ (r n:Nat) (N:Int),n < 16777216∧N.natAbs=n∧n=V single z / 2^149∧N=(if s then -(n:Int) else (n:Int))∧floatToIntVal .f32 (sw s z) .i64=some N∧floatOfInt .f32 N=r∧(FloatKind.f32.format.order (sw s z) r != some .eq)=!decide (V single z=n*2^149):=by
 have hv:V single z < 16777216*2^149:=by
  rw[←one_unit];exact V_lt single h
 have aa:V single z / 2^149 < 16777216:=Nat.div_lt_of_lt_mul (by rw[Nat.mul_comm];exact hv);have hi:=stoInt_sw s h;obtain ⟨n,hn⟩:∃ n,V single z / 2^149=n:=⟨_,rfl⟩;rw[hn] at hi aa⊢;obtain ⟨N,hN⟩:∃ N:Int,(if s then -(n:Int) else (n:Int))=N:=⟨_,rfl⟩;rw[hN] at hi
 have ab:N.natAbs=n:=by
  rw[←hN]
  cases s
  ·rw[if_neg (by decide)];omega
  ·rw[if_pos rfl];omega
 have ac:floatOfInt .f32 N=vol N 0:=rfl;obtain ⟨h1,h2⟩:=vol_val (d:=N) (s:=0) (by omega) (by omega) (by omega)
 have e0:((0:Int)+149).toNat=149:=by decide
 rw[e0]at h2;refine ⟨vol N 0,n,N,aa,ab,rfl,hN.symm,hi,ac,?_⟩;have ho:=order_fin single (sw_fin s (x:=z) (by omega)).2.2.1 h1;rw[(sw_fin s (x:=z) (by omega)).2.2.2,h2] at ho;show (single.order _ _ != _)=_;unfold bne;rw[ho,cmp_eq];congr 1;rw[decide_eq_decide,←hN];have hU:((2:Int)^149)=((2^149:Nat):Int):=(Int.natCast_pow 2 149).symm;rw[hU];generalize (2:Nat)^149=U;generalize V single z=y
 cases s
 ·rw[if_neg (by decide),if_neg (by decide),←Int.natCast_mul];exact Int.natCast_inj
 ·rw[if_pos rfl,if_pos rfl,Int.neg_mul,Int.neg_inj,←Int.natCast_mul];exact Int.natCast_inj
theorem xor_top {x:Nat}(h:x < 2147483648):x ^^^ 2147483648=2147483648+x:=by
 have e:(2147483648:Nat)=2^31:=by decide
 rw[e]at h⊢;apply Nat.eq_of_testBit_eq;intro i;rw[Nat.testBit_xor,Nat.testBit_two_pow];rcases Nat.lt_trichotomy i 31 with h1 | h1 | h1
 ·rw[Nat.testBit_two_pow_add_gt h1];have:decide (31=i)=false:=decide_eq_false (by omega);rw[this,Bool.xor_false]
 ·subst h1;rw[Nat.testBit_two_pow_add_eq];simp
 ·have e1:x.testBit i=false:=Nat.testBit_lt_two_pow (Nat.lt_of_lt_of_le h (Nat.pow_le_pow_right (by decide) (by omega)));have e2:(2^31+x).testBit i=false:=Nat.testBit_lt_two_pow (Nat.lt_of_lt_of_le (m:=2^32) (by omega) (Nat.pow_le_pow_right (by decide) (by omega)));have e3:decide (31=i)=false:=decide_eq_false (by omega);rw[e1,e2,e3];rfl
theorem neg_sw (s:Bool){x:Nat}(h:x < 2147483648):Op.negFloat .f32 (sw s x)=sw (!s) x:=by
 show (sw s x) ^^^ 2147483648=_;unfold sw
 cases s
 ·exact xor_top h
 ·show (2147483648+x) ^^^ 2147483648=x;rw[←xor_top h,Nat.xor_assoc,Nat.xor_self,Nat.xor_zero]
theorem wpList_neg32 {P:Program} {w:World} {ops:Array Oper} {rest:List Oper} {o:Oper} {a:Act} {Q:Exit→Act→World→Prop} {F G:Nat} {t:TypeId} {x:Operand}
  (hg:o.guard=none) (hop:o.op=Go.Op.unOp .neg t x) (hx:a.eval x=.float .f32 F) (hn:Op.negFloat .f32 F=G) (h:wpList P ops Q rest (a.put o.dst (.float .f32 G)) w):wpList P ops Q (o::rest) a w:=by
 refine wpList_plain hg fun K' aa=>?_;unfold Oper.wp;simp[execOp,hop,hx,Op.unary,hn,Result.andThen];exact aa _ _ h
theorem max_sw (s:Bool){x:Nat}(h:x < 2139095040){P:Program}(ts:Array TypeId)(t:TypeId)(W:World):(Builtin.max_ ts t #[.float .f32 (sw s x),.float .f32 (sw (!s) x)]).run P W=.ok (.float .f32 x) W:=by
 have ho:=order_fin single (sw_fin s h).2.2.1 (sw_fin (!s) h).2.2.1;rw[(sw_fin s h).2.2.2,(sw_fin (!s) h).2.2.2,compare_int] at ho;have aa:FloatKind.f32.format.order (sw s x) (sw (!s) x)=_:=ho;rcases Nat.eq_zero_or_pos x with h0 | h0
 ·subst h0
  have d2:FloatKind.f32.format.order (sw s 0) (sw (!s) 0)=some .eq:=by cases s <;> decide +kernel
  have d1:(FloatKind.f32.decode (sw s 0)).neg=s:=by cases s <;> decide +kernel
  clear ho aa
  cases s
  ·simp[Builtin.max_,Builtin.max2,d2,d1];rfl
  ·simp[Builtin.max_,Builtin.max2,d2,d1];rfl
 ·have hp:=V_lt single h0;rw[V_zero] at hp
  cases s
  ·have hx:¬((V single x:Int) < -(V single x:Int)):=by omega
   have ab:¬((V single x:Int)= -(V single x:Int)):=by omega
   simp only[Bool.not_false,if_true,Bool.false_eq_true,if_false]at aa;rw[if_neg hx,if_neg ab] at aa;simp[Builtin.max_,Builtin.max2,aa];rfl
  ·have hx:(-(V single x:Int) < (V single x:Int)):=by omega
   simp only[Bool.not_true,if_true,Bool.false_eq_true,if_false]at aa;rw[if_pos hx] at aa;simp[Builtin.max_,Builtin.max2,aa];rfl
end Go.Proofs.YtnjonlnemagomaaGreatDoor.Flo
