/- Part CardQz02. -/
import Derived.Laws.FloatArith
import Derived.Laws.AppendOwnNone
import Derived.Test.YtbkcjmojgglbkaaGreatDoorCardQz01
namespace Go.Proofs.YtbkcjmojgglbkaaGreatDoor
open Go.RowKit Big Go.Lib
set_option maxRecDepth 100000
set_option maxHeartbeats 8000000
def fq (x:Nat):Rat:=Rat.divInt (Flo.sval Ieee.single x) (2^149)
theorem pos_float {x:Nat}(h:x < 2139095040):Flo.sgn Ieee.single x=false∧Flo.rung Ieee.single x=x∧Flo.Fin Ieee.single x∧Flo.sval Ieee.single x=(Flo.V Ieee.single x:Int):=by
 have hr:Flo.rung Ieee.single x=x:=by unfold Flo.rung;rw[Flo.ssw];omega
 have hs:Flo.sgn Ieee.single x=false:=by unfold Flo.sgn;rw[Flo.ssw];simp;omega
 refine ⟨hs,hr,by unfold Flo.Fin;rw[hr,Flo.sinf];exact h,?_⟩;unfold Flo.sval;rw[hs,hr];rfl
theorem neg_float {r:Nat}(h:r < 2139095040):Flo.sgn Ieee.single (2147483648+r)=true∧Flo.rung Ieee.single (2147483648+r)=r∧Flo.Fin Ieee.single (2147483648+r)∧Flo.sval Ieee.single (2147483648+r)= -(Flo.V Ieee.single r:Int):=by
 have hr:Flo.rung Ieee.single (2147483648+r)=r:=by unfold Flo.rung;rw[Flo.ssw];omega
 have hs:Flo.sgn Ieee.single (2147483648+r)=true:=by
  unfold Flo.sgn;rw[Flo.ssw]
  have:(2147483648+r) / 2147483648=1:=by omega
  rw[this];rfl
 refine ⟨hs,hr,by unfold Flo.Fin;rw[hr,Flo.sinf];exact h,?_⟩;unfold Flo.sval;rw[hs,hr];rfl
theorem cmp_gt (a b:Int):(some (compare a b)==some Ordering.gt)=decide (b < a):=by
 rw[Flo.compare_int];by_cases h1:a < b
 ·rw[if_pos h1,decide_eq_false (by omega)];rfl
 ·rw[if_neg h1];by_cases h2:a=b
  ·rw[if_pos h2,decide_eq_false (by omega)];rfl
  ·rw[if_neg h2,decide_eq_true (by omega)];rfl
theorem cmp_eq (a b:Int):(some (compare a b)==some Ordering.eq)=decide (a=b):=by
 rw[Flo.compare_int];by_cases h1:a < b
 ·rw[if_pos h1,decide_eq_false (by omega)];rfl
 ·rw[if_neg h1];by_cases h2:a=b
  ·rw[if_pos h2,decide_eq_true h2];rfl
  ·rw[if_neg h2,decide_eq_false h2];rfl
theorem cmp_lt (a b:Int):(some (compare a b)==some Ordering.lt)=decide (a < b):=by
 rw[Flo.compare_int];by_cases h1:a < b
 ·rw[if_pos h1,decide_eq_true h1];rfl
 ·rw[if_neg h1,decide_eq_false h1];by_cases h2:a=b
  ·rw[if_pos h2];rfl
  ·rw[if_neg h2];rfl
theorem ord_pos {x y:Nat}(hx:x < 2139095040)(hy:y < 2139095040):FloatKind.f32.format.order x y=some (compare (Flo.V Ieee.single x:Int) (Flo.V Ieee.single y:Int)):=by
 have:=Flo.order_fin Ieee.single (pos_float hx).2.2.1 (pos_float hy).2.2.1;rw[(pos_float hx).2.2.2,(pos_float hy).2.2.2] at this;exact this
theorem part_step {z U:Nat}(hU:U=2^149)(hz:Flo.V Ieee.single z < 16777216*U)(hn:¬Flo.V Ieee.single z % U=0):Flo.V Ieee.single z*2 < 16777216*U∧z≠0∧z < 1258291200:=by
 have h1:z < 1258291200:=by
  rcases Nat.lt_or_ge z 1258291200 with h | h
  ·exact h
  ·exfalso;apply hn
   have hb:¬z < 8388608:=by omega
   unfold Flo.V;rw[Flo.sbin,if_neg hb];obtain ⟨k,hk⟩:∃ k,z / 8388608 - 1=149+k:=⟨z / 8388608 - 150,by omega⟩;rw[hk,Nat.pow_add,←hU,Nat.mul_comm U,←Nat.mul_assoc];exact Nat.mul_mod_left _ _
 refine ⟨?_,?_,h1⟩
 ·have h2:=Flo.V_lt Ieee.single h1
  have h3:Flo.V Ieee.single 1258291200=8388608*U:=by rw[hU];decide +kernel
  rw[h3]at h2;omega
 ·intro h;rw[h,Flo.V_zero] at hn;exact hn (Nat.zero_mod _)
theorem stepQ_div (j i:Nat):stepQ ((j:Int) - (i:Int))=Rat.divInt (2^j) (2^i):=by
 unfold stepQ;split
 ·have e:(-((j:Int) - (i:Int))).toNat=i - j:=by omega
  rw[e,int_divInt,Rat.inv_divInt];have:=Rat.divInt_mul_right (n:=1) (d:=(2:Int)^(i - j)) (a:=(2:Int)^j) (Int.ne_of_gt (Int.pow_pos (by decide)));rw[←this,Int.one_mul,←Int.pow_add];congr 2;omega
 ·have e:((j:Int) - (i:Int)).toNat=j - i:=by omega
  rw[e,int_divInt];have:=Rat.divInt_mul_right (n:=(2:Int)^(j - i)) (d:=1) (a:=(2:Int)^i) (Int.ne_of_gt (Int.pow_pos (by decide)));rw[←this,Int.one_mul,←Int.pow_add];congr 2;omega
theorem part_val {x n i j:Nat}(hx:x < 2139095040)(h:Flo.V Ieee.single x*2^i=n*2^149*2^j):((n:Int):Rat)*stepQ ((j:Int) - (i:Int))=fq x:=by
 unfold fq;rw[stepQ_div,int_divInt,Rat.divInt_mul_divInt,(pos_float hx).2.2.2];have h1:(1:Int)*2^i≠0:=Int.mul_ne_zero (by decide) (Int.ne_of_gt (Int.pow_pos (by decide)));have h2:(2:Int)^149≠0:=Int.ne_of_gt (Int.pow_pos (by decide));rw[Rat.divInt_eq_divInt_iff h1 h2]
 have h3:((Flo.V Ieee.single x*2^i:Nat):Int)=((n*2^149*2^j:Nat):Int):=by rw[h]
 rw[Int.natCast_mul,Int.natCast_mul,Int.natCast_mul,Int.natCast_pow,Int.natCast_pow,Int.natCast_pow]at h3;rw[Int.one_mul];rw[Int.mul_right_comm] at h3;exact h3.symm
theorem rparted_calls (x:Nat)(w:World)(h:x < 2139095040):
  Calls Tryz.prog 105 #[.float .f32 x] w fun e w'=>(∃ n i j:Nat,n < 16777216∧i≤149∧j≤104∧((n:Int):Rat)*stepQ ((j:Int) - (i:Int))=fq x∧e=.returned (.tuple #[.int .i64 (n:Int),.int .i64 ((j:Int) - (i:Int))]))∧w'=w:=by
 have hval:=fun (n i j:Nat) hh=>part_val (x:=x) (n:=n) (i:=i) (j:=j) h hh;obtain ⟨U,hU⟩:∃ U,U=2^149:=⟨_,rfl⟩;obtain ⟨V,hV⟩:∃ V,Flo.V Ieee.single=V:=⟨_,rfl⟩
 have hVx:∀ y,16777216≤y→V y=V (y - 8388608)*2:=fun y hy=>by
  have:=Flo.V_up (x:=y - 8388608) (by omega);rw[Nat.sub_add_cancel (by omega),hV] at this;omega
 have hge:∀ y,y < 2139095040→geqF y 1266679808=decide (1266679808≤y):=fun y hy=>by
  unfold geqF;rw[ord_pos hy (by omega),cmp_gt,cmp_eq];rw[Bool.eq_iff_iff,Bool.or_eq_true,decide_eq_true_eq,decide_eq_true_eq,decide_eq_true_eq];constructor
  ·intro hh;rcases Nat.lt_or_ge y 1266679808 with h1 | h1
   ·have:=Flo.V_lt Ieee.single h1;omega
   ·exact h1
  ·intro hh;have:=Flo.V_le Ieee.single hh;omega
 have hhalf:∀ y,1266679808≤y→y < 2139095040→∀ W,(binOp .quo 35 (.float .f32 y) (.float .f32 1073741824)).run Tryz.prog W=.ok (.float .f32 (y - 8388608)) W:=fun y h1 h2 W=>run_float_arith W .quo 35 .f32 _ _ _ (Flo.shalve (y:=y - 8388608) (by omega) (by omega) h2)
 have hlim:∀ y,y < 1266679808→V y < 16777216*U:=fun y hy=>by
  have:=Flo.V_lt Ieee.single hy;rw[Flo.one_unit,←hU,hV] at this;exact this
 have hdbl:∀ z,z≠0→z < 1258291200→(∀ W,(binOp .mul 35 (.float .f32 z) (.float .f32 1073741824)).run Tryz.prog W=.ok (.float .f32 (Flo.dbl z)) W)∧V (Flo.dbl z)=V z*2:=fun z h1 h2=>⟨fun W=>run_float_arith W .mul 35 .f32 _ _ _ (Flo.sdouble h1 (by omega)),by rw[←hV,Flo.V_dbl];omega⟩;have hti:∀ z,V z < 16777216*U→z < 1266679808:=fun z hz=>Flo.inf_lt (by rw[hV,←hU];exact hz)
 have hint:∀ z,z < 1266679808→∃ r n:Nat,n < 16777216∧r < 1266679808∧n=V z / U∧V r=n*U∧floatToIntVal .f32 z .i64=some (n:Int)∧floatOfInt .f32 (n:Int)=r:=fun z hz=>by
  have h1:=Flo.stoInt hz;have h2:=hlim z hz;have h3:V z / U < 16777216:=Nat.div_lt_of_lt_mul (by rw[Nat.mul_comm];exact h2);rw[hV,←hU] at h1;obtain ⟨r,hr,he,hv⟩:=Flo.sofInt h3;rw[hV,←hU] at hv;exact ⟨r,_,h3,hr,rfl,hv,h1,he⟩
 have hstep:∀ z,V z < 16777216*U→¬V z % U=0→V z*2 < 16777216*U∧z≠0∧z < 1258291200:=fun z h1 h2=>by
  rw[←hV]at h1 h2⊢;exact part_step hU h1 h2
 have hord:∀ z r,z < 1266679808→r < 1266679808→(FloatKind.f32.format.order z r==some .eq)=decide (V z=V r):=fun z r h1 h2=>by
  rw[ord_pos (by omega) (by omega),cmp_eq,hV];exact decide_eq_decide.2 (by omega)
 simp only[hV,←hU]at hval
 have hdu:∀ v i:Nat,149≤i→v*2^i % U=0:=fun v i hi=>by
  obtain ⟨k,rfl⟩:∃ k,i=149+k:=⟨i - 149,by omega⟩;rw[hU,Nat.pow_add,Nat.mul_left_comm];exact Nat.mul_mod_right _ _
 clear hV hU;have HVAL:=hid hval;have HVX:=hid hVx;have HGE:=hid hge;have HHALF:=hid hhalf;have HLIM:=hid hlim;have HDBL:=hid hdbl;have HTI:=hid hti;have HINT:=hid hint;have HSTEP:=hid hstep;have HORD:=hid hord;have H:=hid h;have HDU:=hid hdu;clear hval hVx hge hhalf hlim hdbl hti hint hstep hord h hdu;go_enter Tryz.func105,Tryz.ntmps105;go_wp2_with fail;go_loopw [0,4] (fun f k wr=>∃ (y j:Nat) (K:Int),Hid (K=(j:Int)∧y+8388608*j=x∧V x=V y*2^j∧j≤104)∧f=.float .f32 y∧k=.int .i64 K∧Hid (wr=w)) (fun _ k _=>(105 - RowKit.intOf k).toNat)
 case atStart=>exact ⟨x,0,0,hid ⟨rfl,by omega,by rw[Nat.pow_zero,Nat.mul_one],by omega⟩,rfl,rfl,hid (by first | trivial | rfl)⟩
 case round=>
  obtain ⟨y,j,K,HI,rfl,rfl,HW⟩:=hrel;rw[HW.out];obtain ⟨hK,hyx,hVV,hj⟩:=HI.out;have hx:=H.out
  have hKl:0≤K:=by omega
  have hKh:K≤104:=by omega
  by_cases hlt:1266679808≤y
  ·have hg:=HGE.out y (by omega);rw[decide_eq_true hlt] at hg;unfold geqF at hg;have hr:=HHALF.out y hlt (by omega);have hv:=HVX.out y (by omega);obtain ⟨y1,hy1⟩:∃ q,y - 8388608=q:=⟨_,rfl⟩;rw[hy1] at hr hv
   have HI2:Hid (K+1=((j+1:Nat):Int)∧y1+8388608*(j+1)=x∧V x=V y1*2^(j+1)∧j+1≤104):=by
    refine hid ⟨by omega,by omega,?_,by omega⟩;rw[hVV,hv,Nat.pow_succ,Nat.mul_comm (2^j),Nat.mul_assoc]
   clear HI hyx hVV hlt hy1 hv hK hj hx;go_wp2_with fail;go_roundw
   case rel=>exact ⟨y1,j+1,K+1,HI2,rfl,rfl,hid (by first | trivial | rfl)⟩
   case measure=>simp[RowKit.intOf];omega
  ·have hg:=HGE.out y (by omega);rw[decide_eq_false hlt] at hg;unfold geqF at hg;rw[Bool.or_eq_false_iff] at hg;obtain ⟨hg1,hg2⟩:=hg;have hly:=HLIM.out y (by omega);have HL:=hid hly;clear HI hyx hlt hx hly;have HV:=hid hVV;have HJ:=hid hj;have HKE:=hid hK;clear hVV hj hK;go_wp2_with fail;clear hg1 hg2;go_loopw [0,4] (fun f k wr=>∃ (z i:Nat) (L:Int),Hid (L=(j:Int) - (i:Int)∧V z=V y*2^i∧i≤149∧V z < 16777216*U)∧f=.float .f32 z∧k=.int .i64 L∧Hid (wr=w)) (fun _ k _=>(150+RowKit.intOf k).toNat)
   case atStart=>exact ⟨y,0,K,hid ⟨by have:=HKE.out;omega,by rw[Nat.pow_zero,Nat.mul_one],by omega,HL.out⟩,rfl,rfl,hid (by first | trivial | rfl)⟩
   case round=>
    clear hKl hKh;obtain ⟨z,i,L,HI,rfl,rfl,HW⟩:=hrel;rw[HW.out];obtain ⟨hL,hVz,hi,hzl⟩:=HI.out;have hj:=HJ.out
    have hLl: -149≤L:=by omega
    have hLh:L≤104:=by omega
    obtain ⟨r,n,hn,hr,hnV,hrV,hfi,hof⟩:=HINT.out z (HTI.out z hzl);have hcv:=fun W=>run_convert_float_int (P:=Tryz.prog) W 35 3 .f32 .i64 z n (by kernel_rfl) Tryz.underlying3 hfi;have hq:=HORD.out z r (HTI.out z hzl) hr;by_cases hd:V z % U=0
    ·have e:V z=V r:=by
      rw[hrV,hnV];have:=Nat.div_add_mod (V z) U;rw[hd,Nat.add_zero,Nat.mul_comm] at this;exact this.symm
     rw[decide_eq_true e]at hq
     replace hq:(FloatKind.f32.format.order z r != some .eq)=false:=by unfold bne;rw[hq];rfl
     have hres:=HVAL.out n i j (by rw[HV.out,Nat.mul_right_comm,←hVz,e,hrV]);have HRES:=hid hres;have HNN:=hid hn;have HII:=hid hi;have HLL:=hid hL;clear HI hVz hzl hn hr hnV hrV hd e hres hi hL hj;go_wp2_with fail;go_ret2;exact ⟨⟨n,i,j,HNN.out,HII.out,HJ.out,HRES.out,by rw[←HLL.out];rfl⟩,rfl⟩
    ·have e:¬V z=V r:=by
      intro e;apply hd;rw[e,hrV];exact Nat.mul_mod_left _ _
     rw[decide_eq_false e]at hq
     replace hq:(FloatKind.f32.format.order z r != some .eq)=true:=by unfold bne;rw[hq];rfl
     obtain ⟨hs1,hs2,hs3⟩:=HSTEP.out z hzl hd;obtain ⟨hmul,hdv⟩:=HDBL.out z hs2 hs3;obtain ⟨z1,hz1⟩:∃ q,Flo.dbl z=q:=⟨_,rfl⟩;rw[hz1] at hmul hdv
     have hi1:i < 149:=by
      rcases Nat.lt_or_ge i 149 with h | h
      ·exact h
      ·rw[hVz] at hd;exact absurd (HDU.out _ _ h) hd
     have HI2:Hid (L - 1=(j:Int) - ((i+1:Nat):Int)∧V z1=V y*2^(i+1)∧i+1≤149∧V z1 < 16777216*U):=by
      refine hid ⟨by omega,?_,hi1,by omega⟩;rw[hdv,hVz,Nat.pow_succ,Nat.mul_assoc]
     have hLl2: -149≤L - 1:=by omega
     clear HI hVz hzl hn hr hnV hrV hd e hi hL hj hs1 hs2 hs3 hdv hz1 hi1 hLl;go_wp2_with fail;go_roundw
     case rel=>exact ⟨z1,i+1,L - 1,HI2,rfl,rfl,hid (by first | trivial | rfl)⟩
     case measure=>simp[RowKit.intOf];omega
theorem stepQ_rfb {i j:Nat}(hi:i≤149)(hj:j≤149):RFB 150 (stepQ ((j:Int) - (i:Int))):=by
 rw[stepQ_div]
 have p:∀ n:Nat,n≤149→((2:Int)^n).natAbs < 2^150:=fun n hn=>by
  rw[Int.natAbs_pow];exact Nat.pow_lt_pow_right (by decide) (by omega)
 exact RFB.divInt (p j hj) (p i hi) (Int.ne_of_gt (Int.pow_pos (by decide)))
theorem rexact_pos (x:Nat)(w:World)(h:x < 2139095040):Calls Tryz.prog 48 #[.float .f32 x] w (RetS w (fq x)):=by
 have hp:=fun W=>rparted_calls x W h
 have hlt:(FloatKind.f32.format.order x 0==some .lt)=false:=by
  rw[ord_pos h (by omega),cmp_lt,Flo.V_zero];exact decide_eq_false (by omega)
 clear h;have HP:=hid hp;clear hp;go_enter Tryz.func48,Tryz.ntmps48;go_wp2_with fail;refine (HP.out _).mono ?_;rintro e w1 ⟨⟨n,i,j,hn,hi,hj,hv,rfl⟩,hw⟩;rw[hw];clear hw;have hfi:=fun W=>(rfromInt_calls (n:Int) W (by omega) (by omega)).mono fun e w' h=>RetS.to rfl h;have hpw:=fun W=>(rpow2_calls ((j:Int) - (i:Int)) W (by omega) (by omega)).mono fun e w' h=>RetS.to rfl h;have hmu:=fun W=>(rmulQ_calls 25 150 ((n:Int):Rat) (stepQ ((j:Int) - (i:Int))) W (rfb_int (by omega) (by omega)) (stepQ_rfb hi (by omega)) (by omega));rw[hv] at hmu;obtain ⟨A,hA⟩:∃ A,rs ((n:Int):Rat)=A:=⟨_,rfl⟩;obtain ⟨B,hB⟩:∃ A,rs (stepQ ((j:Int) - (i:Int)))=A:=⟨_,rfl⟩;rw[hA] at hfi hmu;rw[hB] at hpw hmu;obtain ⟨k,hk⟩:∃ k,(j:Int) - (i:Int)=k:=⟨_,rfl⟩;rw[hk] at hpw⊢;clear hA hB hk hv hn hi hj hlt;have HN:=hid (New.refl w);have HFI:=hid hfi;have HPW:=hid hpw;have HMU:=hid hmu;clear hfi hpw hmu;go_wp2_with fail;refine (HFI.out _).mono ?_;rintro e w2 ⟨rfl,hn⟩;replace HN:=tW HN hn;clear hn;go_wp2_with fail;refine (HPW.out _).mono ?_;rintro e w3 ⟨rfl,hn⟩;replace HN:=tW HN hn;clear hn;go_wp2_with fail;refine (HMU.out _).mono ?_;rintro e w4 ⟨rfl,hn⟩;replace HN:=tW HN hn;clear hn;go_wp2_with fail;go_ret;exact ⟨rfl,HN.out⟩
theorem negz_int:floatToIntVal .f32 2147483648 .i64=some 0:=by decide +kernel
theorem zero_float:floatOfInt .f32 0=0:=by decide +kernel
theorem negz_eq:(FloatKind.f32.format.order 2147483648 0 != some .eq)=false:=by decide +kernel
theorem negz_ge1:(FloatKind.f32.format.order 2147483648 1266679808==some .gt)=false:=by decide +kernel
theorem negz_ge2:(FloatKind.f32.format.order 2147483648 1266679808==some .eq)=false:=by decide +kernel
theorem negz_lt:(FloatKind.f32.format.order 2147483648 0==some .lt)=false:=by decide +kernel
theorem rparted_negz (w:World):Calls Tryz.prog 105 #[.float .f32 2147483648] w fun e w'=>e=.returned (.tuple #[.int .i64 0,.int .i64 0])∧w'=w:=by
 obtain ⟨z,hz⟩:∃ z:Nat,2147483648=z:=⟨_,rfl⟩;have hcv:=fun W=>run_convert_float_int (P:=Tryz.prog) W 35 3 .f32 .i64 2147483648 0 (by kernel_rfl) Tryz.underlying3 negz_int;have h0:=zero_float;have h1:=negz_eq;have h2:=negz_ge1;have h3:=negz_ge2;rw[hz] at hcv h1 h2 h3⊢;clear hz;go_enter Tryz.func105,Tryz.ntmps105;go_wp2_with fail;go_loopw [0,4] (fun f k wr=>f=.float .f32 z∧k=.int .i64 0∧Hid (wr=w)) (fun _ _ _=>0)
 case atStart=>exact ⟨rfl,rfl,hid (by first | trivial | rfl)⟩
 case round=>
  obtain ⟨rfl,rfl,HW⟩:=hrel;rw[HW.out];go_wp2_with fail;go_loopw [0,4] (fun f k wr=>f=.float .f32 z∧k=.int .i64 0∧Hid (wr=w)) (fun _ _ _=>0)
  case atStart=>exact ⟨rfl,rfl,hid (by first | trivial | rfl)⟩
  case round=>
   obtain ⟨rfl,rfl,HW2⟩:=hrel;rw[HW2.out];go_wp2_with fail;go_ret2;exact ⟨rfl,rfl⟩
theorem fq_negz:fq 2147483648=0:=by decide +kernel
theorem rexact_negz (w:World):Calls Tryz.prog 48 #[.float .f32 2147483648] w (RetS w (fq 2147483648)):=by
 have hp:=fun W=>rparted_negz W;have hlt:=negz_lt;have hfi:=fun W=>(rfromInt_calls 0 W (by omega) (by omega)).mono fun e w' h=>RetS.to rfl h;have hpw:=fun W=>(rpow2_calls 0 W (by omega) (by omega)).mono fun e w' h=>RetS.to rfl h;have hmu:=fun W=>(rmulQ_calls 25 150 ((0:Int):Rat) (stepQ 0) W (rfb_int (by decide) (by omega)) (stepQ_rfb (i:=0) (j:=0) (by omega) (by omega)) (by omega));rw[show ((0:Int):Rat)*stepQ 0=0 by decide +kernel] at hmu;obtain ⟨A,hA⟩:∃ A,rs ((0:Int):Rat)=A:=⟨_,rfl⟩;obtain ⟨B,hB⟩:∃ A,rs (stepQ 0)=A:=⟨_,rfl⟩;rw[hA] at hfi hmu;rw[hB] at hpw hmu;rw[fq_negz];obtain ⟨z,hz⟩:∃ z:Nat,2147483648=z:=⟨_,rfl⟩;simp only[hz] at hp hlt;rw[hz];clear hz hA hB;have HN:=hid (New.refl w);have HP:=hid hp;have HFI:=hid hfi;have HPW:=hid hpw;have HMU:=hid hmu;clear hp hfi hpw hmu;go_enter Tryz.func48,Tryz.ntmps48;go_wp2_with fail;refine (HP.out _).mono ?_;rintro e w1 ⟨rfl,hw⟩;rw[hw];clear hw hlt;go_wp2_with fail;refine (HFI.out _).mono ?_;rintro e w2 ⟨rfl,hn⟩;replace HN:=tW HN hn;clear hn;go_wp2_with fail;refine (HPW.out _).mono ?_;rintro e w3 ⟨rfl,hn⟩;replace HN:=tW HN hn;clear hn;go_wp2_with fail;refine (HMU.out _).mono ?_;rintro e w4 ⟨rfl,hn⟩;replace HN:=tW HN hn;clear hn;go_wp2_with fail;go_ret;exact ⟨rfl,HN.out⟩
theorem sopp {r:Nat}(h:r < 2139095040):floatBits .sub .f32 0 (2147483648+r)=some r:=by
 show Ieee.single.sub 0 _=_;obtain ⟨hs,hr,hF, -⟩:=neg_float h;obtain ⟨m,k,h1,h2⟩:=Flo.read_fin Ieee.single hF;rw[hs,Flo.slp] at h1;rw[hr] at h2;unfold Ieee.Format.sub;rw[h1,show Ieee.single.read 0=.number false 0 (-149) by decide];simp only[Ieee.Datum.opposite,Ieee.Datum.sum,Option.map_some]
 have hb:min (-149) (-149+(k:Int))= -149:=by omega
 rw[hb]
 have e1:(-149 - -149:Int).toNat=0:=by omega
 have e2:(-149+(k:Int) - -149).toNat=k:=by omega
 rw[e1,e2,Flo.signed_val,Flo.signed_val];simp only[Bool.not_true,Bool.false_eq_true,if_false,Nat.zero_mul,h2];show some (Ieee.single.nearest _ _ _)=_
 have e3:(((0:Nat):Int)+(Flo.V Ieee.single r:Int)).natAbs=Flo.V Ieee.single r:=by omega
 have e4:decide (((0:Nat):Int)+(Flo.V Ieee.single r:Int) < 0)=false:=decide_eq_false (by omega);rw[e3,e4];have key:=Flo.nearest_V Ieee.single false (r:=r) (by rw[Flo.sinf];exact h);rw[Flo.slp] at key;split
 ·rename_i h0;simp only[Bool.and_self];rw[key];rfl
 ·rw[key];rfl
theorem fq_neg {r:Nat}(h:r < 2139095040):fq (2147483648+r)= -fq r:=by
 unfold fq;rw[(neg_float h).2.2.2,(pos_float h).2.2.2,Rat.neg_divInt]
theorem fq_rfb {x:Nat}(hx:x < 2139095040):RFB 280 (fq x):=by
 unfold fq;rw[(pos_float hx).2.2.2];have h1:=Flo.V_lt Ieee.single hx
 have h2:Flo.V Ieee.single 2139095040 < 2^280:=by decide +kernel
 exact RFB.divInt (by rw[Int.natAbs_natCast];exact Nat.lt_trans h1 h2) (by decide +kernel) (by decide)
theorem rexact_neg (r:Nat)(w:World)(h:r < 2139095040)(h0:r≠0):Calls Tryz.prog 48 #[.float .f32 (2147483648+r)] w (RetS w (fq (2147483648+r))):=by
 have hex:=fun W=>(rexact_pos r W h).mono fun e w' h=>RetS.to rfl h;have hrun:=fun W=>run_float_arith (P:=Tryz.prog) W .sub 35 .f32 _ _ _ (sopp h)
 have hlt:(FloatKind.f32.format.order (2147483648+r) 0==some .lt)=true:=by
  have:=Flo.order_fin Ieee.single (neg_float h).2.2.1 (pos_float (x:=0) (by omega)).2.2.1;rw[(neg_float h).2.2.2,(pos_float (x:=0) (by omega)).2.2.2,Flo.V_zero] at this;show (Ieee.single.order _ _==_)=_;rw[this,cmp_lt];have:=Flo.V_lt Ieee.single (r:=0) (r':=r) (by omega);rw[Flo.V_zero] at this;exact decide_eq_true (by omega)
 have hsz:=(fq_rfb h).len;have hng:=fun W=>rneg_calls (fq r) W (by omega);rw[fq_neg h];obtain ⟨A,hA⟩:∃ A,rs (fq r)=A:=⟨_,rfl⟩;rw[hA] at hex hng;obtain ⟨x,hx⟩:∃ x:Nat,2147483648+r=x:=⟨_,rfl⟩;rw[hx] at hlt⊢;simp only[hx] at hrun;clear hx hA hsz h h0;have HN:=hid (New.refl w);have HEX:=hid hex;have HNG:=hid hng;clear hex hng;go_enter Tryz.func48,Tryz.ntmps48;go_wp2_with fail;refine (HEX.out _).mono ?_;rintro e w1 ⟨rfl,hn⟩;replace HN:=tW HN hn;clear hn;go_wp2_with fail;refine (HNG.out _).mono ?_;rintro e w2 ⟨rfl,hn⟩;replace HN:=tW HN hn;clear hn;go_wp2_with fail;go_ret;exact ⟨rfl,HN.out⟩
theorem rexact_calls (x:Nat)(w:World)(hx:x < 4294967296)(hf:isFin x=true):Calls Tryz.prog 48 #[.float .f32 x] w (RetS w (fq x)):=by
 have hr:x % 2147483648 < 2139095040:=by
  unfold isFin Ieee.Format.read at hf;simp only[Flo.ssw,Flo.sbin,Flo.sinf] at hf;split at hf
  ·rename_i hh;split at hh
   ·omega
   ·split at hh
    ·assumption
    ·split at hh <;> cases hh
  ·cases hf
 by_cases h1:x < 2147483648
 ·exact rexact_pos x w (by omega)
 ·obtain ⟨r,rfl⟩:∃ r,x=2147483648+r:=⟨x - 2147483648,by omega⟩;by_cases h0:r=0
  ·subst h0;exact rexact_negz w
  ·exact rexact_neg r w (by omega) h0
theorem rawQ_nom {s z c:Int}(lo: -20≤s)(hi:s≤4):rawQ s z (stepQ s*((c - z:Int):Rat))=c:=by
 have h0:=stepQ_ne lo hi;unfold rawQ;rw[Rat.mul_comm,Rat.mul_div_cancel h0,←Rat.intCast_add,Int.sub_add_cancel,Rat.add_comm,Rat.floor_add_intCast]
 have:(((2:Int):Rat)⁻¹).floor=0:=by decide +kernel
 rw[this];omega
theorem fq_vol {d s:Int}(hd:d.natAbs < 16777216)(lo: -100≤s)(hi:s≤100):fq (Flo.vol d s)=stepQ s*(d:Rat):=by
 obtain ⟨j,hj⟩:∃ j:Nat,s=(j:Int) - ((100:Nat):Int):=⟨(s+100).toNat,by omega⟩;unfold fq;rw[(Flo.vol_val hd lo hi).2];rw[hj,stepQ_div,int_divInt,Rat.divInt_mul_divInt]
 have e:((j:Int) - ((100:Nat):Int)+149).toNat=j+49:=by omega
 rw[e];have p:∀ n:Nat,(2:Int)^n≠0:=fun n=>Int.ne_of_gt (Int.pow_pos (by decide));rw[Rat.divInt_eq_divInt_iff (p _) (Int.mul_ne_zero (p _) (by decide)),Int.mul_one];rw[Int.pow_add,Int.mul_comm d,Int.mul_assoc,Int.mul_assoc,Int.mul_assoc];congr 1;rw[Int.mul_comm d,←Int.mul_assoc];rw[show (2:Int)^49*2^100=2^149 by decide +kernel,Int.mul_comm]
theorem fin_of {x:Nat}(h:isFin x=true):Flo.Fin Ieee.single x:=by
 unfold isFin Ieee.Format.read at h;unfold Flo.Fin Flo.rung;simp only at h;split at h
 ·rename_i hh;split at hh
  ·have:Ieee.single.binade≤Ieee.single.infRung:=by decide
   omega
  ·split at hh
   ·assumption
   ·split at hh <;> cases hh
 ·cases h
theorem same_val {x y:Nat}(hx:Flo.Fin Ieee.single x)(hy:Flo.Fin Ieee.single y):sameF x y=decide (Flo.sval Ieee.single x=Flo.sval Ieee.single y):=Flo.order_eq_iff hx hy
theorem code_match {s z tp:Int}{x N:Nat}(hx:isFin x=true)(lo: -20≤s)(hi:s≤4)(hz:0≤z)(hz':z≤5000)(ht:0≤tp)(ht':tp≤5000)(hN:(N:Int)=tp+1){k:Int}(hk:(clipC (rawQ s z (fq x)) tp).1=k):
  sameF (Flo.vol (k - z) s) x=(codeOf (volN s z) N x).2∧((codeOf (volN s z) N x).2=true→(codeOf (volN s z) N x).1=k):=by
 have hF:=fin_of hx;have hv:∀ c:Int,0≤c→c≤5000→Flo.Fin Ieee.single (Flo.vol (c - z) s):=fun c h1 h2=>(Flo.vol_val (d:=c - z) (s:=s) (by omega) (by omega) (by omega)).1;obtain ⟨hk0,hk1⟩:=clipC_range (rawQ s z (fq x)) ht;rw[hk] at hk0 hk1;unfold codeOf
 cases hf:(List.range N).find? fun j=>sameF x (volN s z j) with
 | some j=>
  have h1:=List.find?_some hf
  have h2:j < N:=by simpa using List.mem_of_find?_eq_some hf
  unfold volN at h1;rw[same_val hF (hv j (by omega) (by omega)),decide_eq_true_eq] at h1
  have h3:fq x=stepQ s*(((j:Int) - z:Int):Rat):=by
   rw[←fq_vol (d:=(j:Int) - z) (s:=s) (by omega) (by omega) (by omega)];unfold fq;rw[h1]
  have h4:k=(j:Int):=by
   rw[←hk,h3,rawQ_nom lo hi];unfold clipC;rw[if_neg (by omega),if_neg (by omega)]
  refine ⟨?_,fun _=>h4.symm⟩;show _=true;rw[h4,same_val (hv j (by omega) (by omega)) hF,decide_eq_true_eq,h1]
 | none=>
  refine ⟨?_,fun h=>by cases h⟩;show _=false;obtain ⟨n,rfl⟩:∃ n:Nat,k=(n:Int):=⟨k.toNat,by omega⟩;have h1:=List.find?_eq_none.1 hf n (by simp;omega);unfold volN at h1;rw[same_val hF (hv n (by omega) (by omega))] at h1;rw[same_val (hv n (by omega) (by omega)) hF];rw[Bool.not_eq_true,decide_eq_false_iff_not] at h1;rw[decide_eq_false_iff_not];exact fun h=>h1 h.symm
def ClipInv (p:Nat→Bool)(n:Nat)(total:List (Nat × Nat))(i f:Nat)(ys:List (Nat × Nat)):Prop:=
 f≤i∧i≤n∧(∀ j,f≤j→j < i→p j=true)∧ys ++ clipR p n (n+2 - f) f=total∧∀ r∈ys,r.2 < f
def clipOut (i f:Nat)(ys:List (Nat × Nat)):List (Nat × Nat):=ys ++ (if f < i then [(f,i)] else [])
theorem ClipInv.start {p:Nat→Bool}{n:Nat}:ClipInv p n (clipR p n (n+2) 0) 0 0 []:=⟨Nat.le_refl _,Nat.zero_le _,fun j h1 h2=>by omega,rfl,fun r hr=>by cases hr⟩
theorem ClipInv.skip {p:Nat→Bool}{n i f:Nat}{total ys:List (Nat × Nat)}(h:ClipInv p n total i f ys)(hi:i < n)(hp:p i=false):ClipInv p n total (i+1) (i+1) (clipOut i f ys)∧clipOut (i+1) (i+1) (clipOut i f ys)=clipOut i f ys:=by
 obtain ⟨h1,h2,h3,h4,h5⟩:=h;refine ⟨⟨Nat.le_refl _,hi,fun j a b=>by omega,clip_next h4 (by omega) h1 h2 h3 (.inr hp),fun r hr=>?_⟩,?_⟩
 ·unfold clipOut at hr;rcases List.mem_append.1 hr with hr | hr
  ·have:=h5 r hr;omega
  ·split at hr
   ·rw[List.mem_singleton] at hr;rw[hr];exact Nat.lt_succ_self i
   ·cases hr
 ·show clipOut i f ys ++ (if i+1 < i+1 then [(i+1,i+1)] else [])=_;rw[if_neg (Nat.lt_irrefl _),List.append_nil]
theorem ClipInv.more {p:Nat→Bool}{n i f:Nat}{total ys:List (Nat × Nat)}(h:ClipInv p n total i f ys)(hi:i < n)(hp:p i=true):ClipInv p n total (i+1) f ys:=by
 obtain ⟨h1,h2,h3,h4,h5⟩:=h;refine ⟨by omega,hi,fun j a b=>?_,h4,h5⟩;by_cases e:j=i
 ·rw[e];exact hp
 ·exact h3 j a (by omega)
theorem rrow_calls (a:Option Addr)(cap n:Nat)(vs:List ByteArray)(E:Int)(w:World)(hn0:vs.length=n)(hl:n≤4096)(hr:RdL w a (strs vs))(hE:rowErr vs=E)(hsz:∀ (k:Nat) (h1:k < vs.length),(vs[k]).size≤100000):
  Calls Tryz.prog 96 #[.slice a n cap] w (RetNew w E):=by
 have hck:∀ (k:Nat) (h1:k < vs.length) (W:World),Calls Tryz.prog 17 #[.string vs[k]] W fun e w'=>e=.returned (.int .i64 (ratErr vs[k].data.toList))∧New W w':=fun k h1 W=>rcheck_calls vs[k] W (by have:=hsz k h1;omega)
 have hli:(n:Int)≤4096:=by omega
 clear hsz hl;have HCK:=hid hck;have HR:=hid hr;have HEE:=hid hE;have HNN:=hid hn0;clear hck hr hE hn0;go_enter Tryz.func96,Tryz.ntmps96;go_wp2_with fail;go_loopw [3] (fun i wr=>∃ (k:Nat),k≤n∧i=.int .i64 (k:Int)∧Hid (rowErr (vs.drop k)=E)∧Hid (New w wr)) (fun i _=>n - (RowKit.intOf i).toNat)
 case atStart=>exact ⟨0,Nat.zero_le _,rfl,HEE,hid (New.refl _)⟩
 case round=>
  obtain ⟨k,hk,rfl,HP,HN⟩:=hrel;by_cases hlt:k < n
  ·have hlt3:k < vs.length:=by rw[HNN.out];exact hlt
   obtain ⟨b1,off,rfl,hcell⟩:=HR.out.str k hlt3;have hcell:=HN.out.cell hcell;have hcall:=HCK.out k hlt3;have hrd:=rowErr_drop vs k hlt3;rw[HP.out] at hrd;obtain ⟨x,hx⟩:∃ x,vs[k]=x:=⟨_,rfl⟩;rw[hx] at hcell hrd;simp only[hx] at hcall;obtain ⟨r,hr⟩:∃ r,ratErr x.data.toList=r:=⟨_,rfl⟩;rw[hr] at hrd;simp only[hr] at hcall;by_cases hr0:r=0
   ·subst hr0;rw[if_pos rfl] at hrd;have HCALL:=hid hcall;have HX:=hid hx;have HRD:=hid hrd;have HRR:=hid hr;clear hcall hx hrd hr;go_wp2_with fail;refine (HCALL.out _).mono ?_;rintro e w4 ⟨rfl,hn⟩;clear hcell;replace HN:=tW HN hn;clear hn;go_wp2_with fail;go_roundw
    case rel=>exact ⟨k+1,by omega,by go_num,hid HRD.out.symm,HN⟩
    case measure=>simp[RowKit.intOf];omega
   ·rw[if_neg hr0] at hrd
    have ht:(r != 0)=true:=by simpa using hr0
    have HCALL:=hid hcall;have HX:=hid hx;have HRD:=hid hrd;have HRR:=hid hr;clear hcall hx hrd hr;clear hr0;go_wp2_with fail;refine (HCALL.out _).mono ?_;rintro e w4 ⟨rfl,hn⟩;clear hcell;replace HN:=tW HN hn;clear hn;go_wp2_with fail;go_ret;exact ⟨by rw[←HRD.out];rfl,HN.out⟩
  ·have hkk:k=n:=by omega
   have hE1:E=0:=by
    rw[←HP.out,hkk,←HNN.out,List.drop_length];rfl
   have HKK:=hid hkk;have HE1:=hid hE1;clear hkk hE1;go_wp2_with fail;go_ret;exact ⟨by rw[HE1.out];rfl,HN.out⟩
def RdPost (w:World)(n:Nat)(xs:List Value)(en:Ending)(w':World):Prop:=∃ (a:Option Addr) (cap:Nat),en=.returned (.slice a n cap)∧New w w'∧RdL w' a xs∧n≤cap∧(a=none→cap=0)
theorem own_rd' {w:World}{base:Nat}{e:TypeId}{v:Value}{n:Nat}{xs:List Value}(h:w.ownsRow base e 1 v n xs):∃ (a:Option Addr) (cap:Nat),v=.slice a n cap∧RdL w a xs∧n≤cap∧(a=none→cap=0):=by
 have h1:=own_rd h;rcases h.2 with ⟨rfl,rfl⟩ | ⟨g,cap,cur,rfl,hb,hc,h2,h3,h4,h5⟩
 ·obtain ⟨a,cap,e,hr, -⟩:=h1;injection e with e1 e2 e3;subst e1;subst e3;exact ⟨none,0,rfl,hr,Nat.le_refl _,fun _=>rfl⟩
 ·obtain ⟨a,cap',e,hr, -⟩:=h1;injection e with e1 e2 e3;subst e1;subst e3;exact ⟨_,_,rfl,hr,h2,fun h=>by cases h⟩
theorem own_none {w:World}{base:Nat}{e:TypeId}(hb:base≤w.heap.size):(w.alloc (.cells #[] e)).ownsRow base e 1 (.slice (some ⟨w.heap.size,0,none⟩) 0 0) 0 []:=by
 refine ⟨rfl,.inr ⟨w.heap.size,0,#[],rfl,hb,?_,Nat.le_refl _,Nat.zero_le _,rfl,rfl⟩⟩;exact Box.alloc w _ e #[] rfl
theorem info_rat:(Tryz.prog.info? 22).map (fun i=>(i.zero,i.size,i.bytes))=some (some (.string ⟨#[]⟩),1,16):=by kernel_rfl
theorem rats_calls (a:Option Addr)(cap:Nat)(vs:List Value)(w:World)(hl:vs.length≤5000)(hr:RdL w a vs)(hz:a=none→cap=0)(h1:∀ u∈vs,u.oneCell'=true):
  Calls Tryz.prog 28 #[.slice a vs.length cap] w (RdPost w vs.length vs):=by
 obtain ⟨i0,hi,hz0,hz1,hz2⟩:=info_parts info_rat;have hO:(w.alloc (.cells #[] 22)).ownsRow w.heap.size 22 1 (.slice (some ⟨w.heap.size,0,none⟩) 0 0) 0 []:=own_none (e:=22) (Nat.le_refl _);obtain ⟨n,hn⟩:∃ n,vs.length=n:=⟨_,rfl⟩;rw[hn] at hl⊢
 cases a with
 | none=>
  have h0:n=0:=by
   cases vs with
   | nil=>exact hn.symm
   | cons v vs=>obtain ⟨b,off,e, -⟩:=hr 0 (by simp);cases e
  have hv:vs=[]:=by
   cases vs with
   | nil=>rfl
   | cons v vs=>rw[h0] at hn;simp at hn
  subst h0;subst hv;rw[hz rfl];clear hr h1 hl hz hn;have HO:=hid hO;clear hO;go_enter Tryz.func28,Tryz.ntmps28;go_wp2_with (at_builtin;refine wpList_append_own_none rfl _ _ 51 rfl w.heap.size 22 i0 1 Tryz.underlying51 hi _ 0 [] rfl HO.out rfl ?_);go_wp2_with fail;go_ret;exact ⟨_,0,rfl,(New.refl _).alloc _,fun i hi=>by simp at hi,Nat.le_refl _,fun h=>by cases h⟩
 | some ad=>
  have hsrc:∀ (j:Nat) (v:Value),vs[j]?=some v→w.cell? (ad.add j)=some v:=by
   intro j v hj
   have h0:0 < vs.length:=by have:=(List.getElem?_eq_some_iff.1 hj).1;omega
   obtain ⟨ad',e,hs⟩:=hr.src h0;injection e with e;rw[e];exact hs j v hj
  clear hr hz;have HO:=hid hO;have HSRC:=hid hsrc;have H1:=hid h1;have HN:=hid hn;have HL:=hid hl;clear hO hsrc h1 hn hl;go_enter Tryz.func28,Tryz.ntmps28;go_wp2_with (at_builtin;refine wpList_append_own _ rfl _ _ 51 rfl w.heap.size 22 i0 (.string ⟨#[]⟩) 1 16 Tryz.underlying51 hi hz0 hz1 hz2 rfl (by decide) _ 0 [] rfl HO.out ad n cap vs rfl (by rw[HN.out,Nat.mul_one]) (fun j u hj=>by exact ((New.refl w).alloc _).cell (HSRC.out j u hj)) H1.out (by have:=HL.out;unfold maxLen;omega) (by have:=HL.out;omega) (by rw[←size_alloc];omega) ?_);intro v' w9 hown' hgrow _;have hN1:New w w9:=grown_newS' ((New.refl w).alloc _) HO.out hgrow
  have hO1:w9.ownsRow w.heap.size 22 1 v' n vs:=by simpa using hown'
  clear hown' hgrow;obtain ⟨a',cap',rfl,hrd,hc,hnn⟩:=own_rd' hO1;clear hO1;have HN1:=hid hN1;have HRD:=hid hrd;have HC:=hid hc;have HNN:=hid hnn;clear hN1 hrd hc hnn;go_wp2_with fail;go_ret;exact ⟨a',cap',rfl,HN1.out,HRD.out,HC.out,HNN.out⟩
theorem rfin_calls (b:Nat)(w:World):Calls Tryz.prog 47 #[.float .f32 b] w (FinPost w (isFin b)):=by
 cases h:isFin b with
 | true=>
  have hrun:=fun W=>run_float_arith (P:=Tryz.prog) W .sub 35 .f32 b b 0 (sub_self_fin h)
  have ho:(FloatKind.f32.format.order 0 0==some .eq)=true:=by decide
  have H:=hid h;clear h;go_enter Tryz.func47,Tryz.ntmps47;go_wp2_with fail;go_ret;exact ⟨rfl,0,rfl⟩
 | false=>
  have hrun:=fun W=>nan_run (P:=Tryz.prog) 35 b h W;have ho:=fun W=>nan_order W b 0;have H:=hid h;clear h;go_enter Tryz.func47,Tryz.ntmps47;go_wp2_with fail;go_ret;exact ⟨rfl,1,rfl⟩
theorem rfin_new (b:Nat)(w:World):Calls Tryz.prog 47 #[.float .f32 b] w fun e w'=>e=.returned (.bool (isFin b))∧New w w':=
 (rfin_calls b w).mono fun e w' h=>by
  obtain ⟨rfl,n,rfl⟩:=h;exact ⟨rfl,(New.refl _).drewN n⟩
end Go.Proofs.YtbkcjmojgglbkaaGreatDoor
