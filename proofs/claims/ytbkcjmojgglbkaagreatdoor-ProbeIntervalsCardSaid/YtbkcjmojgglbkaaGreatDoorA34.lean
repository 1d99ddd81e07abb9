/- Part A34. -/
import Derived.Lib.SmallJoins
import Derived.Maps.AppendAt
import Derived.Laws.AppendOwnNone
import Derived.Test.YtbkcjmojgglbkaaGreatDoorA32
import Derived.Test.YtbkcjmojgglbkaaGreatDoorA33
namespace Go.Proofs.YtbkcjmojgglbkaaGreatDoor
open Go.RowKit Big Go.Lib Go.ChangeShapes Go.WideShapes Go.Deep Go.Joins
set_option maxRecDepth 100000
set_option maxHeartbeats 8000000
theorem ofInt_nat (n:Nat):floatOfInt .f32 (n:Int)=Ieee.single.nearest false n 0:=by
 show Ieee.single.nearest (decide ((n:Int) < 0)) ((n:Int)).natAbs 0=_;rw[decide_eq_false (by omega),Int.natAbs_natCast]
theorem rbuilt_calls (n j:Nat)(w:World)(hn:n≠0)(h:n < 16777216)(hj:j≤60):
  Calls Tryz.prog 151 #[.int .i64 (n:Int),.int .i64 (-(j:Int))] w fun e w'=>e=.returned (.float .f32 (Ieee.single.nearest false n (-(j:Int))))∧New w w':=by
 have hh:=fun (i:Nat) (hi:i≤60)=>Flo.shalf (m:=n) (s:= -(i:Int)) hn h (by omega) (by omega);have hrun:=fun (i:Nat) (hi:i≤60) W=>run_float_arith (P:=Tryz.prog) W .quo 35 .f32 _ _ _ (hh i hi)
 have e0:∀ i:Nat, -(i:Int) - 1= -((i+1:Nat):Int):=fun i=>by omega
 simp only[e0]at hrun;obtain ⟨F,hF⟩:∃ F:Nat→Nat,(fun i:Nat=>Ieee.single.nearest false n (-(i:Int)))=F:=⟨_,rfl⟩
 have hFe:∀ i:Nat,Ieee.single.nearest false n (-(i:Int))=F i:=fun i=>by rw[←hF]
 have h0:floatOfInt .f32 (n:Int)=F 0:=by rw[ofInt_nat,←hFe];rfl
 simp only[hFe]at hrun;rw[hFe]
 have hni:(n:Int) < 16777216:=by omega
 have hji:(j:Int)≤60:=by omega
 have hj1:¬(0:Int) < -(j:Int):=by omega
 have hj1b:decide ((0:Int) < -(j:Int))=false:=decide_eq_false hj1
 have hj2:¬(j:Int) < 0:=by omega
 have hj2b:decide ((j:Int) < 0)=false:=decide_eq_false hj2;clear hF hFe hh e0 hn h;have HRUN:=hid hrun;clear hrun;go_enter Tryz.func151,Tryz.ntmps151;go_wp2_with fail;go_loopw [5,6] (fun f i wr=>f=.float .f32 (F 0)∧i=.int .i64 0∧Hid (New w wr)) (fun _ _ _=>0)
 case atStart=>exact ⟨rfl,rfl,hid (New.refl _)⟩
 case round=>
  obtain ⟨rfl,rfl,HN⟩:=hrel;go_wp2_with fail;clear hj1 hj1b h0 hni hj2 hj2b;obtain ⟨w0,hw0⟩:∃ x,x=wr:=⟨_,rfl⟩;rw[←hw0] at HN⊢;clear hw0;have HN0:=HN;clear HN;go_loopw [5,7] (fun f i wr=>∃ m:Nat,m≤j∧f=.float .f32 (F m)∧i=.int .i64 (-(m:Int))∧Hid (New w0 wr)) (fun _ i _=>j - (RowKit.intOf i).natAbs)
  case atStart=>exact ⟨0,Nat.zero_le _,rfl,rfl,hid (New.refl _)⟩
  case round=>
   obtain ⟨m,hm,rfl,rfl,HN⟩:=hrel;by_cases hlt:m < j
   ·have hr:=HRUN.out m (by omega)
    have hc: -(j:Int) < -(m:Int):=by omega
    have hcb:decide (-(j:Int) < -(m:Int))=true:=decide_eq_true hc;obtain ⟨m1,hm1⟩:∃ x,m+1=x:=⟨_,rfl⟩;rw[hm1] at hr
    have hm1i: -(m:Int) - 1= -(m1:Int):=by omega
    have hm1b: -61≤ -(m1:Int):=by omega
    go_wp2_with fail;go_roundw
    case rel=>exact ⟨m1,by omega,rfl,rfl,HN⟩
    case measure=>simp[RowKit.intOf];omega
   ·obtain rfl:m=j:=by omega
    have hc:¬ -(m:Int) < -(m:Int):=by omega
    have hcb:decide (-(m:Int) < -(m:Int))=false:=decide_eq_false hc;have hNF:=HN0.out.trans HN.out;have HNF:=hid hNF;clear hNF;go_wp2_with fail;go_ret;exact ⟨rfl,HNF.out⟩
def over20 (P:Nat):Rat:=Rat.divInt (P:Int) 1048576
theorem divInt_sign {z d:Int}(hd:0 < d):(Rat.divInt z d).num.sign=z.sign:=by
 rw[(divInt_parts (x:=z) hd).1];have hg:0 < Nat.gcd z.natAbs d.natAbs:=Nat.gcd_pos_of_pos_right _ (by omega);rcases Int.lt_trichotomy z 0 with h | h | h
 ·have h1:0 < z.natAbs / Nat.gcd z.natAbs d.natAbs:=Nat.div_pos (Nat.le_of_dvd (by omega) (Nat.gcd_dvd_left _ _)) hg;rw[decide_eq_true h,Int.sign_eq_neg_one_of_neg h];unfold sgnd;rw[if_pos rfl];exact Int.sign_eq_neg_one_of_neg (by omega)
 ·subst h;simp[sgnd]
 ·have h1:0 < z.natAbs / Nat.gcd z.natAbs d.natAbs:=Nat.div_pos (Nat.le_of_dvd (by omega) (Nat.gcd_dvd_left _ _)) hg;rw[decide_eq_false (by omega),Int.sign_eq_one_of_pos h];unfold sgnd;rw[if_neg (by decide)];exact Int.sign_eq_one_of_pos (by omega)
theorem over20_sub (P:Nat)(n d:Int)(hd:d≠0):over20 P - Rat.divInt n d=Rat.divInt ((P:Int)*d - n*1048576) (1048576*d):=by
 unfold over20;exact Rat.divInt_sub_divInt _ _ (by decide) hd
theorem over20_cmp (P:Nat)(n d:Int)(hd:0 < d):(over20 P - Rat.divInt n d).num.sign=((P:Int)*d - n*1048576).sign:=by
 rw[over20_sub P n d (by omega)];exact divInt_sign (by omega)
theorem int_divInt (n:Int):(n:Rat)=Rat.divInt n 1:=by
 have:=Rat.num_divInt_den (n:Rat);rw[Rat.num_intCast,Rat.den_intCast] at this;exact this.symm
theorem over20_dbl (P:Nat):over20 P*2=over20 (2*P):=by
 unfold over20;rw[show (2:Rat)=((2:Int):Rat) from rfl,int_divInt,Rat.divInt_mul_divInt];congr 1;omega
theorem over20_int (N:Nat):over20 (N*1048576)=((N:Int):Rat):=by
 unfold over20;rw[int_divInt];have:=Rat.divInt_mul_right (n:=(N:Int)) (d:=1) (a:=1048576) (by decide);rw[Int.one_mul] at this;rw[←this];congr 1
theorem over20_fb {P:Nat}(h:P < 2^60):RFB 60 (over20 P):=RFB.divInt (by simpa using h) (by decide) (by decide)
theorem nom_over {m:Nat}{s:Int}(lo: -20≤s)(hi:s≤4):stepQ s*((m:Int):Rat)=over20 (m*2^(s+20).toNat):=by
 have key:∀ e:Nat,e < 25→stepQ ((e:Int) - 20)=Rat.divInt ((2:Int)^e) 1048576:=by decide +kernel
 have h1:=key (s+20).toNat (by omega);rw[show (((s+20).toNat:Int) - 20)=s by omega] at h1;rw[h1,int_divInt,Rat.divInt_mul_divInt];unfold over20;congr 1;rw[Int.natCast_mul,Int.mul_comm];congr 1
theorem over20_cmpi (P:Nat)(n:Int):(over20 P - (n:Rat)).num.sign=((P:Int) - n*1048576).sign:=by
 rw[int_divInt,over20_cmp _ _ _ (by decide),Int.mul_one]
theorem stepQ_hi:stepQ 128=((2^128:Int):Rat):=by
 unfold stepQ;rw[if_neg (by decide)];rfl
theorem stepQ_lo:stepQ (-151)=Rat.divInt 1 (2^151):=by
 unfold stepQ;rw[if_pos (by decide),int_divInt,Rat.inv_divInt];rfl
theorem over20_hi {P:Nat}(h:P < 2^60):(over20 P - stepQ 128).num.sign= -1:=by
 rw[stepQ_hi,over20_cmpi];exact Int.sign_eq_neg_one_of_neg (by omega)
theorem over20_lo {P:Nat}(h:0 < P):(over20 P - stepQ (-151)).num.sign=1:=by
 rw[stepQ_lo,over20_cmp _ _ _ (by decide)];exact Int.sign_eq_one_of_pos (by omega)
theorem rfb_hi:RFB 130 (stepQ 128):=by
 rw[stepQ_hi];exact rfb_int (by decide +kernel) (by omega)
theorem rfb_lo:RFB 153 (stepQ (-151)):=by
 rw[stepQ_lo];exact RFB.divInt (by decide +kernel) (by decide +kernel) (by decide +kernel)
theorem rs_16777216:rs ((16777216:Int):Rat)=⟨#[49,54,55,55,55,50,49,54]⟩:=by
 rw[rs_int];decide +kernel
theorem rs_8388608:rs ((8388608:Int):Rat)=⟨#[56,51,56,56,54,48,56]⟩:=by
 rw[rs_int];decide +kernel
theorem over20_sign {P:Nat}(h:0 < P):(over20 P).num.sign=1:=by
 unfold over20;rw[divInt_sign (by decide)];exact Int.sign_eq_one_of_pos (by omega)
theorem over20_half (N:Nat):(over20 (N*1048576) - ((N:Int):Rat))=0:=by
 rw[over20_int,Rat.sub_self]
theorem zero_half:((0:Rat) - (1 / 2)).num.sign= -1:=by decide +kernel
theorem over20_floor (N:Nat):(over20 (N*1048576)).floor=(N:Int):=by
 rw[over20_int,Rat.floor_intCast]
theorem scale_end {m t i:Nat}(h:m < 8192)(_ht:t≤24)(lo:2^43≤m*2^t*2^i)(hi:m*2^t*2^i < 2^44):
  20≤t+i∧m*2^t*2^i=(m*2^(t+i - 20))*1048576∧8388608≤m*2^(t+i - 20)∧m*2^(t+i - 20) < 16777216:=by
 rw[Nat.mul_assoc,←Nat.pow_add]at lo hi⊢
 have h20:20≤t+i:=by
  rcases Nat.lt_or_ge (t+i) 20 with hlt | hge
  ·have h1:2^(t+i)≤2^20:=Nat.pow_le_pow_right (by decide) (by omega);have h2:m*2^(t+i)≤8192*2^20:=Nat.mul_le_mul (by omega) h1;omega
  ·exact hge
 obtain ⟨j,hj⟩:∃ j,t+i=j+20:=⟨t+i - 20,by omega⟩;rw[hj,Nat.add_sub_cancel];rw[hj,Nat.pow_add,←Nat.mul_assoc] at lo hi;refine ⟨by omega,by rw[Nat.pow_add,←Nat.mul_assoc],by omega,by omega⟩
theorem nearest_end {m t i:Nat}(hm:m≠0)(h:m < 8192)(ht:t≤24)(h20:20≤t+i)(_hN:m*2^(t+i - 20) < 16777216):
  Ieee.single.nearest false (m*2^(t+i - 20)) (-(i:Int))=Ieee.single.nearest false m ((t:Int) - 20):=by
 have hl:m.log2≤23:=by
  have:=(Nat.log2_lt hm (k:=24)).2 (by omega);omega
 have:=Flo.nearest_scale (f:=Ieee.single) false (m:=m) (p:=(t:Int) - 20) (t+i - 20) hm (by show m.log2≤23;exact hl) (by show (-149:Int)≤_+_ - 23;omega);rw[←this];congr 1;omega
theorem rfloat_pos (m t:Nat)(w:World)(hm:m≠0)(h:m < 8192)(ht:t≤24):
  Calls Tryz.prog 87 #[.string (rs (over20 (m*2^t)))] w fun e w'=>e=.returned (.tuple #[.float .f32 (Ieee.single.nearest false m ((t:Int) - 20)),.bool true])∧New w w':=by
 obtain ⟨P,hP⟩:∃ P,m*2^t=P:=⟨_,rfl⟩
 have hP0:0 < P:=by rw[←hP];exact Nat.mul_pos (by omega) (Nat.pow_pos (by decide))
 have hP1:P < 2^37:=by
  rw[←hP];have h1:2^t≤2^24:=Nat.pow_le_pow_right (by decide) ht;have h2:m*2^t≤8191*2^24:=Nat.mul_le_mul (by omega) h1;omega
 have hsg:=fun W=>rsign_calls (over20 P) W;rw[over20_sign hP0] at hsg;have hb0:RFB 60 (over20 P):=over20_fb (by omega);have hp1:=fun W=>(rpow2_calls 128 W (by omega) (by omega)).mono fun e w' h=>RetS.to rfl h;have hc1:=fun W=>rcmpQ_calls 60 130 (over20 P) (stepQ 128) W hb0 rfb_hi (by omega);simp only[over20_hi (show P < 2^60 by omega)] at hc1;have hp2:=fun W=>(rpow2_calls (-151) W (by omega) (by omega)).mono fun e w' h=>RetS.to rfl h;have hc2:=fun W=>rcmpQ_calls 60 153 (over20 P) (stepQ (-151)) W hb0 rfb_lo (by omega);simp only[over20_lo hP0] at hc2;have hc3:=fun W=>rcmpQ_calls 60 25 (over20 P) ((16777216:Int):Rat) W hb0 (rfb_int (by decide +kernel) (by omega)) (by omega);simp only[over20_cmpi,Int.sign_eq_neg_one_of_neg (show (P:Int) - 16777216*1048576 < 0 by omega)] at hc3;obtain ⟨X,hX⟩:∃ X:Nat→Nat,∀ i,P*2^i=X i:=⟨fun i=>P*2^i,fun i=>rfl⟩
 have hX0:X 0=P:=by rw[←hX,Nat.pow_zero,Nat.mul_one]
 have hX1:∀ i,2*X i=X (i+1):=fun i=>by rw[←hX,←hX,Nat.pow_succ,Nat.mul_comm 2,Nat.mul_assoc]
 have hXi:∀ i,43≤i→8796093022208≤X i:=fun i hi=>by
  rw[←hX];have h1:2^43≤2^i:=Nat.pow_le_pow_right (by decide) hi;have h2:1*2^43≤P*2^i:=Nat.mul_le_mul (by omega) h1;omega
 obtain ⟨A,hA⟩:∃ A:Nat→ByteArray,∀ i,rs (over20 (X i))=A i:=⟨fun i=>rs (over20 (X i)),fun i=>rfl⟩
 have hA0:rs (over20 P)=A 0:=by rw[←hX0,hA]
 have hb:∀ i,X i < 2^44→RFB 60 (over20 (X i)):=fun i h=>over20_fb (by omega)
 have hcT:∀ i,X i < 8796093022208→∀ W,Calls Tryz.prog 50 #[.string (A i),.string ⟨#[56,51,56,56,54,48,56]⟩] W fun e w'=>e=.returned (.int .i64 (-1))∧New W w':=fun i hi W=>by
  have:=rcmpQ_calls 60 25 (over20 (X i)) ((8388608:Int):Rat) W (hb i (by omega)) (rfb_int (by decide +kernel) (by omega)) (by omega);rw[over20_cmpi,Int.sign_eq_neg_one_of_neg (by omega),rs_8388608,hA] at this;exact this
 have hcF:∀ i,X i < 17592186044416→¬X i < 8796093022208→∃ c:Int,0≤c∧c≤1∧∀ W,Calls Tryz.prog 50 #[.string (A i),.string ⟨#[56,51,56,56,54,48,56]⟩] W fun e w'=>e=.returned (.int .i64 c)∧New W w':=fun i hi hn=>by
  refine ⟨((X i:Int) - 8388608*1048576).sign,?_,?_,fun W=>?_⟩
  ·rcases Int.lt_trichotomy ((X i:Int) - 8388608*1048576) 0 with h | h | h
   ·omega
   ·rw[h];decide
   ·rw[Int.sign_eq_one_of_pos h];decide
  ·rcases Int.lt_trichotomy ((X i:Int) - 8388608*1048576) 0 with h | h | h
   ·omega
   ·rw[h];decide
   ·rw[Int.sign_eq_one_of_pos h];decide
  ·have:=rcmpQ_calls 60 25 (over20 (X i)) ((8388608:Int):Rat) W (hb i (by omega)) (rfb_int (by decide +kernel) (by omega)) (by omega);rw[over20_cmpi,rs_8388608,hA] at this;exact this
 have hmu:∀ i,X i < 8796093022208→∀ W,Calls Tryz.prog 55 #[.string (A i),.string ⟨#[50]⟩] W fun e w'=>e=.returned (.string (A (i+1)))∧New W w':=fun i hi W=>by
  have:=rmulQ_calls 60 2 (over20 (X i)) 2 W (hb i (by omega)) rfb_two (by omega);rw[over20_dbl,hX1,rs_two,hA] at this;exact this.mono fun e w' h=>RetS.to (hA _) h
 have hend:∀ i,i≤43→X i < 17592186044416→¬X i < 8796093022208→∃ (N:Nat) (B:ByteArray),N < 16777216∧
   (∀ W,Calls Tryz.prog 83 #[.string (A i)] W fun e w'=>e=.returned (.string B)∧New W w')∧
   (∀ W,Calls Tryz.prog 86 #[.string B] W fun e w'=>e=.returned (.tuple #[.int .i64 (N:Int),.bool true])∧New W w')∧
   (∀ W,Calls Tryz.prog 85 #[.int .i64 (N:Int)] W fun e w'=>e=.returned (.string B)∧New W w')∧
   (∀ W,Calls Tryz.prog 52 #[.string (A i),.string B] W fun e w'=>e=.returned (.string (rs 0))∧New W w')∧
   (∀ W,Calls Tryz.prog 151 #[.int .i64 (N:Int),.int .i64 (-(i:Int))] W fun e w'=>e=.returned (.float .f32 (Ieee.single.nearest false m ((t:Int) - 20)))∧New W w'):=fun i hi43 hi hn=>by
  have hse:=scale_end (i:=i) h ht (by rw[hP,hX];omega) (by rw[hP,hX];omega);rw[hP,hX] at hse;obtain ⟨h20,he,hN1,hN2⟩:=hse;obtain ⟨N,hN⟩:∃ N,m*2^(t+i - 20)=N:=⟨_,rfl⟩;have hbt:=fun W=>rbuilt_calls N i W (by omega) (by omega) (by omega);rw[←hN,nearest_end hm h ht h20 hN2,hN] at hbt;rw[hN] at he hN1 hN2;have hbi:=hb i (by omega);refine ⟨N,rs ((N:Int):Rat),hN2,fun W=>?_,fun W=>rtoInt_calls N W (by omega),fun W=>(rfromInt_calls (N:Int) W (by omega) (by omega)).mono fun e w' h=>RetS.to rfl h,fun W=>?_,hbt⟩
  ·have:=rfloorQ_calls 60 (over20 (X i)) W hbi (by omega);rw[hA] at this;rw[he,over20_floor] at this;exact this.mono fun e w' h=>RetS.to rfl h
  ·have:=rsubQ_calls 60 25 (over20 (X i)) ((N:Int):Rat) W hbi (rfb_int (by omega) (by omega)) (by omega);rw[hA] at this;rw[he,over20_half] at this;exact this.mono fun e w' h=>RetS.to rfl h
 have hch:=fun W=>rcmpQ_calls 2 2 0 (1 / 2) W ⟨by decide,by decide⟩ rfb_half (by omega);rw[zero_half,rs_half,rs_zero] at hch;rw[rs_zero] at hend;rw[rs_16777216] at hc3;rw[hP];rw[hA0] at hsg hc1 hc2 hc3⊢;obtain ⟨Q1,hQ1⟩:∃ Q,rs (stepQ 128)=Q:=⟨_,rfl⟩;obtain ⟨Q2,hQ2⟩:∃ Q,rs (stepQ (-151))=Q:=⟨_,rfl⟩;rw[hQ1] at hp1 hc1;rw[hQ2] at hp2 hc2;obtain ⟨R,hR⟩:∃ R,Ieee.single.nearest false m ((t:Int) - 20)=R:=⟨_,rfl⟩;rw[hR] at hend⊢
 have hX00:X 0 < 17592186044416:=by omega
 have hXm:∀ i,X i < 8796093022208→i < 43∧X (i+1) < 17592186044416:=fun i hi=>by
  refine ⟨?_,by rw[←hX1];omega⟩;rcases Nat.lt_or_ge i 43 with h | h
  ·exact h
  ·have:=hXi i h;omega
 clear hR hQ1 hQ2 hX hX0 hX1 hXi hA hA0 hb hb0 hP hP0 hP1 hm h ht;have HSG:=hid hsg;have HP1:=hid hp1;have HC1:=hid hc1;have HP2:=hid hp2;have HC2:=hid hc2;have HC3:=hid hc3;have HCT:=hid hcT;have HCF:=hid hcF;have HMU:=hid hmu;have HEND:=hid hend;have HCH:=hid hch;have HX0:=hid hX00;have HXM:=hid hXm;clear hsg hp1 hc1 hp2 hc2 hc3 hcT hcF hmu hend hch hX00 hXm;have HN:=hid (New.refl w);go_enter Tryz.func87,Tryz.ntmps87;go_wp2_with fail;refine (HSG.out _).mono ?_;rintro e w1 ⟨rfl,hw⟩;rw[hw];clear hw;go_wp2_with fail;refine (HP1.out _).mono ?_;rintro e w2 ⟨rfl,hn⟩;replace HN:=tW HN hn;clear hn;go_wp2_with fail;refine (HC1.out _).mono ?_;rintro e w3 ⟨rfl,hn⟩;replace HN:=tW HN hn;clear hn;go_wp2_with fail;refine (HP2.out _).mono ?_;rintro e w4 ⟨rfl,hn⟩;replace HN:=tW HN hn;clear hn;go_wp2_with fail;refine (HC2.out _).mono ?_;rintro e w5 ⟨rfl,hn⟩;replace HN:=tW HN hn;clear hn;go_wp2_with fail;go_loopw [0,6] (fun a k wr=>a=.string (A 0)∧k=.int .i64 0∧Hid (New w wr)) (fun _ _ _=>0)
 case atStart=>exact ⟨rfl,rfl,HN⟩
 case round=>
  clear HN;obtain ⟨rfl,rfl,HN⟩:=hrel;go_wp2_with fail;refine (HC3.out _).mono ?_;rintro e w6 ⟨rfl,hn⟩;replace HN:=tW HN hn;clear hn;go_wp2_with fail;obtain ⟨w0,hw0⟩:∃ x,x=w6:=⟨_,rfl⟩;rw[←hw0] at HN⊢;clear hw0;have HN0:=HN;clear HN;go_loopw [0,6] (fun a k wr=>∃ i:Nat,Hid (i≤43∧X i < 17592186044416)∧a=.string (A i)∧k=.int .i64 (-(i:Int))∧Hid (New w0 wr)) (fun _ k _=>43 - (RowKit.intOf k).natAbs)
  case atStart=>exact ⟨0,hid ⟨by omega,HX0.out⟩,rfl,rfl,hid (New.refl _)⟩
  case round=>
   obtain ⟨i,HI,rfl,rfl,HN⟩:=hrel;have hi43:=HI.out.1;by_cases hlt:X i < 8796093022208
   ·have hct:=HCT.out i hlt;have hmul:=HMU.out i hlt;obtain ⟨hi1,hi2⟩:=HXM.out i hlt;have HI2:=hid hi2;clear hi2 hlt hi43
    have hk1:(-149:Int) < -(i:Int):=by omega
    have hk1b:decide ((-149:Int) < -(i:Int))=true:=decide_eq_true hk1;obtain ⟨j,hj⟩:∃ x,i+1=x:=⟨_,rfl⟩;rw[hj] at hmul HI2
    have hjl:j≤43:=by omega
    have hm1i: -(i:Int) - 1= -(j:Int):=by omega
    have hm1b: -61≤ -(j:Int):=by omega
    go_wp2_with fail;refine (hct _).mono ?_;rintro e w7 ⟨rfl,hn⟩;replace HN:=tW HN hn;clear hn;go_wp2_with fail;refine (hmul _).mono ?_;rintro e w8 ⟨rfl,hn⟩;replace HN:=tW HN hn;clear hn;go_wp2_with fail;go_roundw
    case rel=>exact ⟨j,hid ⟨hjl,HI2.out⟩,rfl,rfl,HN⟩
    case measure=>simp[RowKit.intOf];omega
   ·obtain ⟨c,hc0,hc1,hcf⟩:=HCF.out i HI.out.2 hlt;obtain ⟨N,B,hN,h1,h2,h3,h4,h5⟩:=HEND.out i hi43 HI.out.2 hlt
    have hNi:(N:Int) < 16777216:=by omega
    have hNe:((N:Int)==16777216)=false:=beq_false_of_ne (by omega);have hcb:decide (c < 0)=false:=decide_eq_false (by omega);clear hlt hN;have H1:=hid h1;have H2:=hid h2;have H3:=hid h3;have H4:=hid h4;have H5:=hid h5;clear h1 h2 h3 h4 h5;go_wp2_with fail;refine (hcf _).mono ?_;rintro e w7 ⟨rfl,hn⟩;replace HN:=tW HN hn;clear hn;go_wp2_with fail;refine (H1.out _).mono ?_;rintro e w8 ⟨rfl,hn⟩;replace HN:=tW HN hn;clear hn;go_wp2_with fail;refine (H2.out _).mono ?_;rintro e w9 ⟨rfl,hn⟩;replace HN:=tW HN hn;clear hn;go_wp2_with fail;refine (H3.out _).mono ?_;rintro e w10 ⟨rfl,hn⟩;replace HN:=tW HN hn;clear hn;go_wp2_with fail;refine (H4.out _).mono ?_;rintro e w11 ⟨rfl,hn⟩;replace HN:=tW HN hn;clear hn;go_wp2_with fail;refine (HCH.out _).mono ?_;rintro e w12 ⟨rfl,hn⟩;replace HN:=tW HN hn;clear hn;go_wp2_with fail;refine (H5.out _).mono ?_;rintro e w13 ⟨rfl,hn⟩;replace HN:=tW HN hn;clear hn;go_wp2_with fail;go_ret2;exact ⟨rfl,HN0.out.trans HN.out⟩
theorem shl_eq (a b:Nat):a <<< b=a*2^b:=Nat.shiftLeft_eq a b
theorem sneg {m:Nat}{s:Int}(hm:m≠0)(h:m < 16777216)(lo: -100≤s)(hi:s≤100):floatBits .sub .f32 0 (Ieee.single.nearest false m s)=some (Ieee.single.nearest true m s):=by
 show Ieee.single.sub 0 _=_;unfold Ieee.Format.sub
 have hl:m.log2≤23:=by
  have:=(Nat.log2_lt hm (k:=24)).2 (by omega);omega
 rw[(Flo.snearest false hm h lo hi).2,show Ieee.single.read 0=.number false 0 (-149) by decide];simp only[Ieee.Datum.opposite,Ieee.Datum.sum,Option.map_some];obtain ⟨M,hM⟩:∃ M,m*2^(23 - m.log2)=M:=⟨_,rfl⟩;obtain ⟨p,hp⟩:∃ p,s - ((23 - m.log2:Nat):Int)=p:=⟨_,rfl⟩
 have hM0:M≠0:=by rw[←hM];exact Nat.mul_ne_zero hm (Nat.ne_of_gt (Nat.pow_pos (by decide)))
 rw[hM,hp]
 have hb:min (-149) p= -149:=by omega
 rw[hb];obtain ⟨k,hk⟩:∃ k,(p - -149).toNat=k:=⟨_,rfl⟩;have hK:M*2^k≠0:=Nat.mul_ne_zero hM0 (Nat.ne_of_gt (Nat.pow_pos (by decide)))
 have e1:Ieee.signed false 0 (-149 - -149:Int).toNat+Ieee.signed true M (p - -149).toNat= -((M*2^k:Nat):Int):=by
  unfold Ieee.signed;rw[hk,shl_eq,shl_eq];simp
 simp only[Bool.not_false];rw[e1];obtain ⟨L,hL⟩:∃ L,M*2^k=L:=⟨_,rfl⟩;rw[hL] at hK⊢;rw[if_neg (by omega),show decide (-(L:Int) < 0)=true from decide_eq_true (by omega),Int.natAbs_neg,Int.natAbs_natCast];show some (Ieee.single.nearest true L (-149))=_;have:=Flo.nearest_scale (f:=Ieee.single) true (m:=m) (p:=s) (23 - m.log2+k) hm (by show m.log2≤23;exact hl) (by show (-149:Int)≤_+_ - 23;omega);rw[←this,Nat.pow_add,←Nat.mul_assoc,hM,hL];congr 2;omega
theorem vol_zero (s:Int):Flo.vol 0 s=0:=by
 unfold Flo.vol Ieee.Format.nearest;rw[if_pos (by rfl)];rfl
theorem pos_ne {m:Nat}{s:Int}(hm:m≠0)(h:m < 16777216)(lo: -100≤s)(hi:s≤100):(FloatKind.f32.format.order (Ieee.single.nearest false m s) 0==some .eq)=false:=by
 have:=Flo.vol_same (d:=(m:Int)) (e:=0) (s:=s) (by omega) (by decide) lo hi;rw[vol_zero,decide_eq_false (by omega:¬(m:Int)=0)] at this;unfold Flo.vol at this
 rwa [decide_eq_false (by omega),Int.natAbs_natCast] at this
theorem rfloat_zero (w:World):Calls Tryz.prog 87 #[.string ⟨#[48]⟩] w fun e w'=>e=.returned (.tuple #[.float .f32 0,.bool true])∧New w w':=by
 have hb0:RFB 2 0:=⟨by decide,by decide⟩;have hsg:=fun W=>rsign_calls 0 W;have hp1:=fun W=>(rpow2_calls 128 W (by omega) (by omega)).mono fun e w' h=>RetS.to rfl h;have hc1:=fun W=>rcmpQ_calls 2 130 0 (stepQ 128) W hb0 rfb_hi (by omega);have hp2:=fun W=>(rpow2_calls (-151) W (by omega) (by omega)).mono fun e w' h=>RetS.to rfl h;have hc2:=fun W=>rcmpQ_calls 2 153 0 (stepQ (-151)) W hb0 rfb_lo (by omega);rw[show (0 - stepQ 128).num.sign= -1 by rw[stepQ_hi];decide +kernel] at hc1;rw[show (0 - stepQ (-151)).num.sign= -1 by rw[stepQ_lo];decide +kernel] at hc2;rw[show ((0:Rat).num.sign)=0 by decide] at hsg;rw[rs_zero] at hsg hc1 hc2;obtain ⟨Q1,hQ1⟩:∃ Q,rs (stepQ 128)=Q:=⟨_,rfl⟩;obtain ⟨Q2,hQ2⟩:∃ Q,rs (stepQ (-151))=Q:=⟨_,rfl⟩;rw[hQ1] at hp1 hc1;rw[hQ2] at hp2 hc2;clear hQ1 hQ2;have HN:=hid (New.refl w);have HSG:=hid hsg;have HP1:=hid hp1;have HC1:=hid hc1;have HP2:=hid hp2;have HC2:=hid hc2;clear hsg hp1 hc1 hp2 hc2;go_enter Tryz.func87,Tryz.ntmps87;go_wp2_with fail;refine (HSG.out _).mono ?_;rintro e w1 ⟨rfl,hw⟩;rw[hw];clear hw;go_wp2_with fail;refine (HP1.out _).mono ?_;rintro e w2 ⟨rfl,hn⟩;replace HN:=tW HN hn;clear hn;go_wp2_with fail;refine (HC1.out _).mono ?_;rintro e w3 ⟨rfl,hn⟩;replace HN:=tW HN hn;clear hn;go_wp2_with fail;refine (HP2.out _).mono ?_;rintro e w4 ⟨rfl,hn⟩;replace HN:=tW HN hn;clear hn;go_wp2_with fail;refine (HC2.out _).mono ?_;rintro e w5 ⟨rfl,hn⟩;replace HN:=tW HN hn;clear hn;go_wp2_with fail;go_ret2;exact ⟨rfl,HN.out⟩
theorem rfloat_neg (m t:Nat)(w:World)(hm:m≠0)(h:m < 8192)(ht:t≤24):
  Calls Tryz.prog 87 #[.string (rs (-over20 (m*2^t)))] w fun e w'=>e=.returned (.tuple #[.float .f32 (Ieee.single.nearest true m ((t:Int) - 20)),.bool true])∧New w w':=by
 have hpo:=fun W=>rfloat_pos m t W hm h ht;have hrun:=fun W=>run_float_arith (P:=Tryz.prog) W .sub 35 .f32 _ _ _ (sneg (m:=m) (s:=(t:Int) - 20) hm (by omega) (by omega) (by omega));have hne:=pos_ne (m:=m) (s:=(t:Int) - 20) hm (by omega) (by omega) (by omega);obtain ⟨P,hP⟩:∃ P,m*2^t=P:=⟨_,rfl⟩
 have hP0:0 < P:=by rw[←hP];exact Nat.mul_pos (by omega) (Nat.pow_pos (by decide))
 have hP1:P < 2^37:=by
  rw[←hP];have h1:2^t≤2^24:=Nat.pow_le_pow_right (by decide) ht;have h2:m*2^t≤8191*2^24:=Nat.mul_le_mul (by omega) h1;omega
 have hb0:RFB 60 (-over20 P):=(over20_fb (by omega)).neg;have hsg:=fun W=>rsign_calls (-over20 P) W;rw[Rat.neg_num,Int.sign_neg,over20_sign hP0] at hsg;have hng:=fun W=>rneg_calls (-over20 P) W (by have:=hb0.len;omega);rw[Rat.neg_neg] at hng;have hng:=fun W=>(hng W).mono fun e w' h=>RetS.to rfl h;rw[hP] at hpo⊢;obtain ⟨F,hF⟩:∃ F,Ieee.single.nearest false m ((t:Int) - 20)=F:=⟨_,rfl⟩;obtain ⟨G,hG⟩:∃ G,Ieee.single.nearest true m ((t:Int) - 20)=G:=⟨_,rfl⟩;rw[hF] at hpo hrun hne;rw[hG] at hrun⊢;obtain ⟨A,hA⟩:∃ A,rs (over20 P)=A:=⟨_,rfl⟩;obtain ⟨B,hB⟩:∃ A,rs (-over20 P)=A:=⟨_,rfl⟩;rw[hA] at hpo hng;rw[hB] at hng hsg⊢;clear hA hB hF hG hP hP0 hP1 hb0 hm h ht;have HN:=hid (New.refl w);have HSG:=hid hsg;have HNG:=hid hng;have HPO:=hid hpo;have HRUN:=hid hrun;clear hsg hng hpo hrun;go_enter Tryz.func87,Tryz.ntmps87;go_wp2_with fail;refine (HSG.out _).mono ?_;rintro e w1 ⟨rfl,hw⟩;rw[hw];clear hw;go_wp2_with fail;refine (HNG.out _).mono ?_;rintro e w2 ⟨rfl,hn⟩;replace HN:=tW HN hn;clear hn;go_wp2_with fail;refine (HPO.out _).mono ?_;rintro e w3 ⟨rfl,hn⟩;replace HN:=tW HN hn;clear hn;have hrun:=HRUN.out;go_wp2_with fail;go_ret2;exact ⟨rfl,HN.out⟩
theorem rfloat_nom (d s:Int)(w:World)(hd:d.natAbs < 8192)(lo: -20≤s)(hi:s≤4):
  Calls Tryz.prog 87 #[.string (rs (stepQ s*(d:Rat)))] w fun e w'=>e=.returned (.tuple #[.float .f32 (Flo.vol d s),.bool true])∧New w w':=by
 have e1:(((s+20).toNat:Nat):Int) - 20=s:=by omega
 rcases Int.lt_trichotomy d 0 with h | h | h
 ·obtain ⟨m,rfl⟩:∃ m:Nat,d= -(m:Int):=⟨d.natAbs,by omega⟩;rw[Rat.intCast_neg,Rat.mul_neg,nom_over lo hi];have:=rfloat_neg m (s+20).toNat w (by omega) (by omega) (by omega);unfold Flo.vol;rw[decide_eq_true h,Int.natAbs_neg,Int.natAbs_natCast]
  rwa [e1] at this
 ·subst h;rw[show ((0:Int):Rat)=0 from rfl,Rat.mul_zero,rs_zero,vol_zero];exact rfloat_zero w
 ·obtain ⟨m,rfl⟩:∃ m:Nat,d=(m:Int):=⟨d.toNat,by omega⟩;rw[nom_over lo hi];have:=rfloat_pos m (s+20).toNat w (by omega) (by omega) (by omega);unfold Flo.vol;rw[decide_eq_false (by omega),Int.natAbs_natCast]
  rwa [e1] at this
theorem rvolts_calls (b s z code:Int)(g o:ByteArray)(w:World)(lo: -20≤s)(hi:s≤4)(zl:0≤z)(zh:z≤4095)(cl:0≤code)(ch:code≤4096):
  Calls Tryz.prog 20 #[.agg #[.int .i64 b,.int .i64 s,.int .i64 z,.string g,.string o],.int .i64 code] w fun e w'=>e=.returned (.float .f32 (Flo.vol (code - z) s))∧New w w':=by
 have hnm:=fun W=>(rnominal_calls b s z code g o W lo hi zl zh cl ch).mono fun e w' h=>RetS.to rfl h;have hfl:=fun W=>rfloat_nom (code - z) s W (by omega) lo hi;unfold nomQ at hnm;obtain ⟨X,hX⟩:∃ X,rs (stepQ s*((code - z:Int):Rat))=X:=⟨_,rfl⟩;obtain ⟨F,hF⟩:∃ F,Flo.vol (code - z) s=F:=⟨_,rfl⟩;rw[hX] at hnm hfl;rw[hF] at hfl⊢;clear hX hF lo hi zl zh cl ch;have HNM:=hid hnm;have HFL:=hid hfl;clear hnm hfl;go_enter Tryz.func20,Tryz.ntmps20;go_upto_region 1 with (fail);obtain ⟨BA,HN⟩:=lay1 w 24 #[.int .i64 b,.int .i64 s,.int .i64 z,.string g,.string o];obtain ⟨⟨pa0,pa1,pa2,pa3,pa4⟩,pa5⟩:=BA.out.five;go_wp2_with fail;refine (HNM.out _).mono ?_;rintro e w1 ⟨rfl,hn⟩;clear pa0 pa1 pa2 pa3 pa4 pa5;replace HN:=tW HN hn;clear hn;go_wp2_with fail;refine (HFL.out _).mono ?_;rintro e w2 ⟨rfl,hn⟩;replace HN:=tW HN hn;clear hn;go_wp2_with fail;go_ret;exact ⟨rfl,HN.out⟩
theorem rshort_calls (b s z:Int)(g o:ByteArray)(w:World)(hg:g.size≤9223372036854775807)(ho:o.size≤9223372036854775807):
  Calls Tryz.prog 9 #[.agg #[.int .i64 b,.int .i64 s,.int .i64 z,.string g,.string o]] w fun e w'=>e=.returned (.bool (decide (g.size≤60) && decide (o.size≤60)))∧New w w':=by
 have hgi:(g.size:Int)≤9223372036854775807:=by omega
 have hoi:(o.size:Int)≤9223372036854775807:=by omega
 by_cases h1:g.size≤60
 ·have h1i:(g.size:Int)≤60:=by omega
  have h1b:decide ((g.size:Int)≤60)=true:=decide_eq_true h1i;obtain ⟨r,hr⟩:∃ r,decide ((o.size:Int)≤60)=r:=⟨_,rfl⟩
  have hres:(decide (g.size≤60) && decide (o.size≤60))=r:=by
   rw[decide_eq_true h1,Bool.true_and,←hr];exact decide_eq_decide.2 (by omega)
  rw[hres];clear hres;go_enter Tryz.func9,Tryz.ntmps9;go_upto_region 1 with (fail);obtain ⟨BA,HN⟩:=lay1 w 24 #[.int .i64 b,.int .i64 s,.int .i64 z,.string g,.string o];obtain ⟨⟨pa0,pa1,pa2,pa3,pa4⟩,pa5⟩:=BA.out.five;go_wp2_with fail;go_ret;exact ⟨rfl,HN.out⟩
 ·have h1i:¬(g.size:Int)≤60:=by omega
  have h1b:decide ((g.size:Int)≤60)=false:=decide_eq_false h1i;rw[decide_eq_false h1,Bool.false_and];go_enter Tryz.func9,Tryz.ntmps9;go_upto_region 1 with (fail);obtain ⟨BA,HN⟩:=lay1 w 24 #[.int .i64 b,.int .i64 s,.int .i64 z,.string g,.string o];obtain ⟨⟨pa0,pa1,pa2,pa3,pa4⟩,pa5⟩:=BA.out.five;go_wp2_with fail;go_ret;exact ⟨rfl,HN.out⟩
def AwakeOk:Prop:=∀ w,Env w→Calls Tryz.prog 10 #[] w fun e w'=>e=.returned (.bool true)∧New w w'
theorem rs_of {v:ByteArray}{q:Rat}(h:v.data.toList=ratText q):v=rs q:=by
 have e:v.data=(rs q).data:=by
  apply Array.toList_inj.1;rw[h,rs_list]
 exact ByteArray.ext e
theorem array5 {α:Type}{cs:Array α}(h:cs.size=5):∃ c0 c1 c2 c3 c4,cs=#[c0,c1,c2,c3,c4]:=by
 obtain ⟨l⟩:=cs
 match l,h with
 | [c0,c1,c2,c3,c4],_=>exact ⟨c0,c1,c2,c3,c4,rfl⟩
section
variable {H:Type} {enc:TypeId × Value→H} {P:Program} {w:World} {base:Nat} {sp:Nat→Bool} {held:Bool}
theorem trod_struct5 {t:TypeId}{f0 f1 f2 f3 f4:Field}{fuel:Nat}{cs:List Value}{x:DataW H × List MemPlace}(ht:P.underlying t=some (.struct #[f0,f1,f2,f3,f4]))(h:DataW.trod enc P w base sp held fuel t cs=some x):
  ∃ y0 y1 y2 y3 y4 n,DataW.trod enc P w base sp held n f0.type ((cs.drop f0.offset).take (P.cellsOf f0.type))=some y0∧
   DataW.trod enc P w base sp held n f1.type ((cs.drop f1.offset).take (P.cellsOf f1.type))=some y1∧DataW.trod enc P w base sp held n f2.type ((cs.drop f2.offset).take (P.cellsOf f2.type))=some y2∧
   DataW.trod enc P w base sp held n f3.type ((cs.drop f3.offset).take (P.cellsOf f3.type))=some y3∧DataW.trod enc P w base sp held n f4.type ((cs.drop f4.offset).take (P.cellsOf f4.type))=some y4:=by
 obtain ⟨xs,n,_,rfl,hl,hlen,hf⟩:=DataW.trod_struct ht h
 match xs,hlen with
 | [y0,y1,y2,y3,y4],_=>exact ⟨y0,y1,y2,y3,y4,n,by simpa using hf 0 f0 rfl,by simpa using hf 1 f1 rfl,by simpa using hf 2 f2 rfl,by simpa using hf 3 f3 rfl,by simpa using hf 4 f4 rfl⟩
theorem open_agg5 {r:Reach} {b0:Nat} {t:TypeId} {f0 f1 f2 f3 f4:Field} {v:Value} {d:DataW H} {p:List MemPlace} (hs:P.underlying t=some (.struct #[f0,f1,f2,f3,f4])) (hone:oneCellFields P #[f0,f1,f2,f3,f4]=true) (hC:P.cellsOf t=5)
  (hv:Value.okWide P w r b0 t v) (h:DataW.Trod enc P w base sp held t v d p):
  ∃ (v0 v1 v2 v3 v4:Value) (y0 y1 y2 y3 y4:DataW H × List MemPlace) (n:Nat),v=.agg #[v0,v1,v2,v3,v4]∧
   DataW.trod enc P w base sp held n f0.type [v0]=some y0∧DataW.trod enc P w base sp held n f1.type [v1]=some y1∧DataW.trod enc P w base sp held n f2.type [v2]=some y2∧DataW.trod enc P w base sp held n f3.type [v3]=some y3∧DataW.trod enc P w base sp held n f4.type [v4]=some y4:=by
 obtain ⟨cs,rfl,hsz⟩:=okWide_struct hs hv;obtain ⟨c0,c1,c2,c3,c4,rfl⟩:=array5 (hsz.trans hC);obtain ⟨fuel,hf⟩:=h;obtain ⟨y0,y1,y2,y3,y4,n,h0,h1,h2,h3,h4⟩:=trod_struct5 hs hf;obtain ⟨o0,k0⟩:=hone_of hone 0 f0 rfl;obtain ⟨o1,k1⟩:=hone_of hone 1 f1 rfl;obtain ⟨o2,k2⟩:=hone_of hone 2 f2 rfl;obtain ⟨o3,k3⟩:=hone_of hone 3 f3 rfl;obtain ⟨o4,k4⟩:=hone_of hone 4 f4 rfl;exact ⟨c0,c1,c2,c3,c4,y0,y1,y2,y3,y4,n,rfl,by simpa[Value.cells,o0,k0] using h0,by simpa[Value.cells,o1,k1] using h1,by simpa[Value.cells,o2,k2] using h2,by simpa[Value.cells,o3,k3] using h3,by simpa[Value.cells,o4,k4] using h4⟩
theorem trod_str' {t:TypeId}{fuel:Nat}{v:Value}{y:DataW H × List MemPlace}(ht:P.underlying t=some .string)(h:DataW.trod enc P w base sp held fuel t [v]=some y):∃ s:ByteArray,v=.string s∧s.size≤9223372036854775807:=by
 obtain ⟨s,h1,_,hs⟩:=DataW.trod_string ht h;exact ⟨s,by simpa using h1,hs⟩
end
theorem in_adc {H:Type}{enc:TypeId × Value→H}{w:World}{base:Nat}{sp:Nat→Bool}{held:Bool}{r:Reach}{b0:Nat}{v:Value}{d:DataW H}{p:List MemPlace}(hval:Value.okWide Tryz.prog w r b0 24 v)(h:DataW.Trod enc Tryz.prog w base sp held 24 v d p):
  ∃ (b s z:Int) (g o:ByteArray),v=adcV b s z g o∧g.size≤9223372036854775807∧o.size≤9223372036854775807:=by
 obtain ⟨v0,v1,v2,v3,v4,y0,y1,y2,y3,y4,n,rfl,h0,h1,h2,h3,h4⟩:=open_agg5 Tryz.underlying24 (by kernel_rfl) (by kernel_rfl) hval h;obtain ⟨b,rfl,_⟩:=trod_int' Tryz.underlying3 h0;obtain ⟨s,rfl,_⟩:=trod_int' Tryz.underlying3 h1;obtain ⟨z,rfl,_⟩:=trod_int' Tryz.underlying3 h2;obtain ⟨g,rfl,hg⟩:=trod_str' Tryz.underlying22 h3;obtain ⟨o,rfl,ho⟩:=trod_str' Tryz.underlying22 h4;exact ⟨b,s,z,g,o,rfl,hg,ho⟩
end Go.Proofs.YtbkcjmojgglbkaaGreatDoor
