/- Part CardLn06. -/
import Derived.Maps.OwnOps
import Derived.Lib.SmallJoins
import Derived.Maps.AppendAt
import Derived.Laws.AppendOwnNone
import Derived.Test.YtnjonlnemagomaaGreatDoorB31
import Derived.Test.YtnjonlnemagomaaGreatDoorB32
import Derived.Test.YtnjonlnemagomaaGreatDoorCardLn05
namespace Go.Proofs.YtnjonlnemagomaaGreatDoor
open Go.RowKit Big Go.Lib Go.Proofs.Tryz
set_option maxRecDepth 100000
set_option maxHeartbeats 8000000
set_option linter.all false
theorem cmp_lt (a b:Int):(some (compare a b)==some Ordering.lt)=decide (a < b):=by
 rw[Flo.compare_int];by_cases h1:a < b
 ·rw[if_pos h1,decide_eq_true h1];rfl
 ·rw[if_neg h1,decide_eq_false h1];by_cases h2:a=b
  ·rw[if_pos h2];rfl
  ·rw[if_neg h2];rfl
theorem rparted_calls (x:Nat)(w:World)(h:x < 2139095040):
  Calls prog 132 #[.float .f32 x] w fun e w'=>(∃ n i j:Nat,n < 16777216∧i≤149∧j≤104∧((n:Int):Rat)*stepQ ((j:Int) - (i:Int))=fq x∧e=.returned (.tuple #[.int .i64 (n:Int),.int .i64 ((j:Int) - (i:Int))]))∧w'=w:=by
 have af:=fun (n i j:Nat) hh=>part_val (x:=x) (n:=n) (i:=i) (j:=j) h hh;obtain ⟨U,hU⟩:∃ U,U=2^149:=⟨_,rfl⟩;obtain ⟨V,hV⟩:∃ V,Flo.V Ieee.single=V:=⟨_,rfl⟩
 have a2:∀ y,16777216≤y→V y=V (y - 8388608)*2:=fun y hy=>by
  have:=Flo.V_up (x:=y - 8388608) (by omega);rw[Nat.sub_add_cancel (by omega),hV] at this;omega
 have a4:∀ y,y < 2139095040→geqF y 1266679808=decide (1266679808≤y):=fun y hy=>by
  unfold geqF;rw[ord_pos hy (by omega),cmp_gt,cmp_eq];rw[Bool.eq_iff_iff,Bool.or_eq_true,decide_eq_true_eq,decide_eq_true_eq,decide_eq_true_eq];constructor
  ·intro hh;rcases Nat.lt_or_ge y 1266679808 with h1 | h1
   ·have:=Flo.V_lt Ieee.single h1;omega
   ·exact h1
  ·intro hh;have:=Flo.V_le Ieee.single hh;omega
 have ab:∀ y,1266679808≤y→y < 2139095040→∀ W,(binOp .quo 62 (.float .f32 y) (.float .f32 1073741824)).run prog W=.ok (.float .f32 (y - 8388608)) W:=fun y h1 h2 W=>run_float_arith W .quo 62 .f32 _ _ _ (Flo.shalve (y:=y - 8388608) (by omega) (by omega) h2)
 have ac:∀ y,y < 1266679808→V y < 16777216*U:=fun y hy=>by
  have:=Flo.V_lt Ieee.single hy;rw[Flo.one_unit,←hU,hV] at this;exact this
 have ai:∀ z,z≠0→z < 1258291200→(∀ W,(binOp .mul 62 (.float .f32 z) (.float .f32 1073741824)).run prog W=.ok (.float .f32 (Flo.dbl z)) W)∧V (Flo.dbl z)=V z*2:=fun z h1 h2=>⟨fun W=>run_float_arith W .mul 62 .f32 _ _ _ (Flo.sdouble h1 (by omega)),by rw[←hV,Flo.V_dbl];omega⟩;have a9:∀ z,V z < 16777216*U→z < 1266679808:=fun z hz=>Flo.inf_lt (by rw[hV,←hU];exact hz)
 have aj:∀ z,z < 1266679808→∃ r n:Nat,n < 16777216∧r < 1266679808∧n=V z / U∧V r=n*U∧floatToIntVal .f32 z .i64=some (n:Int)∧floatOfInt .f32 (n:Int)=r:=fun z hz=>by
  have h1:=Flo.stoInt hz;have h2:=ac z hz;have h3:V z / U < 16777216:=Nat.div_lt_of_lt_mul (by rw[Nat.mul_comm];exact h2);rw[hV,←hU] at h1;obtain ⟨r,hr,he,hv⟩:=Flo.sofInt h3;rw[hV,←hU] at hv;exact ⟨r,_,h3,hr,rfl,hv,h1,he⟩
 have ae:∀ z,V z < 16777216*U→¬V z % U=0→V z*2 < 16777216*U∧z≠0∧z < 1258291200:=fun z h1 h2=>by
  rw[←hV]at h1 h2⊢;exact part_step hU h1 h2
 have ak:∀ z r,z < 1266679808→r < 1266679808→(FloatKind.f32.format.order z r==some .eq)=decide (V z=V r):=fun z r h1 h2=>by
  rw[ord_pos (by omega) (by omega),cmp_eq,hV];exact decide_eq_decide.2 (by omega)
 simp only[hV,←hU]at af
 have a3:∀ v i:Nat,149≤i→v*2^i % U=0:=fun v i hi=>by
  obtain ⟨k,rfl⟩:∃ k,i=149+k:=⟨i - 149,by omega⟩;rw[hU,Nat.pow_add,Nat.mul_left_comm];exact Nat.mul_mod_right _ _
 clear hV hU;refine zh12 ?_ af a2 a4 ab ac ai a9 aj ae ak h a3;clear af a2 a4 ab ac ai a9 aj ae ak h a3;intro a1 bj av am ax au a0 aw ao ay H be;go_in;go_wp2_with fail;go_loopw [0,4] (fun f k wr=>∃ (y j:Nat) (K:Int),Hid (K=(j:Int)∧y+8388608*j=x∧V x=V y*2^j∧j≤104)∧f=.float .f32 y∧k=.int .i64 K∧Hid (wr=w)) (fun _ k _=>(105 - RowKit.intOf k).toNat)
 case atStart=>exact ⟨x,0,0,hid ⟨rfl,by omega,by rw[Nat.pow_zero,Nat.mul_one],by omega⟩,rfl,rfl,hid (by first | trivial | rfl)⟩
 case round=>
  obtain ⟨y,j,K,HI,rfl,rfl,HW⟩:=hrel;rw[HW.out];obtain ⟨hK,bb,ah,hj⟩:=HI.out;have hx:=H.out
  have bl:0≤K:=by omega
  have bk:K≤104:=by omega
  by_cases hlt:1266679808≤y
  ·have hg:=av.out y (by omega);rw[decide_eq_true hlt] at hg;unfold geqF at hg;have hr:=am.out y hlt (by omega);have hv:=bj.out y (by omega);obtain ⟨y1,ba⟩:∃ q,y - 8388608=q:=⟨_,rfl⟩;rw[ba] at hr hv
   have an:Hid (K+1=((j+1:Nat):Int)∧y1+8388608*(j+1)=x∧V x=V y1*2^(j+1)∧j+1≤104):=by
    refine hid ⟨by omega,by omega,?_,by omega⟩;rw[ah,hv,Nat.pow_succ,Nat.mul_comm (2^j),Nat.mul_assoc]
   clear HI bb ah hlt ba hv hK hj hx;go_wp2_with fail;go_roundw
   case rel=>exact ⟨y1,j+1,K+1,an,rfl,rfl,hid (by first | trivial | rfl)⟩
   case measure=>simp[RowKit.intOf];omega
  ·have hg:=av.out y (by omega);rw[decide_eq_false hlt] at hg;unfold geqF at hg;rw[Bool.or_eq_false_iff] at hg;obtain ⟨bo,bp⟩:=hg;have aq:=ax.out y (by omega);replace aq:=hid aq;clear HI bb hlt hx;refine zh3 ?_ ah hj hK;clear ah hj hK;intro HV HJ bg;go_wp2_with fail;clear bo bp;go_loopw [0,4] (fun f k wr=>∃ (z i:Nat) (L:Int),Hid (L=(j:Int) - (i:Int)∧V z=V y*2^i∧i≤149∧V z < 16777216*U)∧f=.float .f32 z∧k=.int .i64 L∧Hid (wr=w)) (fun _ k _=>(150+RowKit.intOf k).toNat)
   case atStart=>exact ⟨y,0,K,hid ⟨by have:=bg.out;omega,by rw[Nat.pow_zero,Nat.mul_one],by omega,aq.out⟩,rfl,rfl,hid (by first | trivial | rfl)⟩
   case round=>
    clear bl bk;obtain ⟨z,i,L,HI,rfl,rfl,HW⟩:=hrel;rw[HW.out];obtain ⟨hL,aa,hi,ag⟩:=HI.out;have hj:=HJ.out
    have bm: -149≤L:=by omega
    have bt:L≤104:=by omega
    obtain ⟨r,n,hn,hr,ar,ad,bn,bv⟩:=aw.out z (a0.out z ag);have bu:=fun W=>run_convert_float_int (P:=prog) W 62 3 .f32 .i64 z n (by kernel_rfl) underlying3 bn;have hq:=ay.out z r (a0.out z ag) hr;by_cases hd:V z % U=0
    ·have e:V z=V r:=by
      rw[ad,ar];have:=Nat.div_add_mod (V z) U;rw[hd,Nat.add_zero,Nat.mul_comm] at this;exact this.symm
     rw[decide_eq_true e]at hq
     replace hq:(FloatKind.f32.format.order z r != some .eq)=false:=by unfold bne;rw[hq];rfl
     have al:=a1.out n i j (by rw[HV.out,Nat.mul_right_comm,←aa,e,ad]);refine zh4 ?_ al hn hi hL;clear HI aa ag hn hr ar ad hd e al hi hL hj;intro az bi bf bh;go_wp2_with fail;go_ret2;exact ⟨⟨n,i,j,bi,bf,HJ,az,by rw[←bh.out];rfl⟩,rfl⟩
    ·have e:¬V z=V r:=by
      intro e;apply hd;rw[e,ad];exact Nat.mul_mod_left _ _
     rw[decide_eq_false e]at hq
     replace hq:(FloatKind.f32.format.order z r != some .eq)=true:=by unfold bne;rw[hq];rfl
     obtain ⟨bq,a7,a8⟩:=ao.out z ag hd;obtain ⟨a6,ap⟩:=au.out z a7 a8;obtain ⟨z1,bc⟩:∃ q,Flo.dbl z=q:=⟨_,rfl⟩;rw[bc] at a6 ap
     have a5:i < 149:=by
      rcases Nat.lt_or_ge i 149 with h | h
      ·exact h
      ·rw[aa] at hd;exact absurd (be _ _ h) hd
     have an:Hid (L - 1=(j:Int) - ((i+1:Nat):Int)∧V z1=V y*2^(i+1)∧i+1≤149∧V z1 < 16777216*U):=by
      refine hid ⟨by omega,?_,a5,by omega⟩;rw[ap,aa,Nat.pow_succ,Nat.mul_assoc]
     have br: -149≤L - 1:=by omega
     clear HI aa ag hn hr ar ad hd e hi hL hj bq a7 a8 ap bc a5 bm;go_wp2_with fail;go_roundw
     case rel=>exact ⟨z1,i+1,L - 1,an,rfl,rfl,hid (by first | trivial | rfl)⟩
     case measure=>simp[RowKit.intOf];omega
theorem stepQ_rfb {i j:Nat}(hi:i≤149)(hj:j≤149):RFB 150 (stepQ ((j:Int) - (i:Int))):=by
 rw[stepQ_div]
 have p:∀ n:Nat,n≤149→((2:Int)^n).natAbs < 2^150:=fun n hn=>by
  rw[Int.natAbs_pow];exact Nat.pow_lt_pow_right (by decide) (by omega)
 exact RFB.divInt (p j hj) (p i hi) (Int.ne_of_gt (Int.pow_pos (by decide)))
theorem rexact_pos (x:Nat)(w:World)(h:x < 2139095040):Calls prog 46 #[.float .f32 x] w (RetS w (fq x)):=by
 have hp:=fun W=>rparted_calls x W h
 have ag:(FloatKind.f32.format.order x 0==some .lt)=false:=by
  rw[ord_pos h (by omega),cmp_lt,Flo.V_zero];exact decide_eq_false (by omega)
 clear h;replace hp:=hid hp;go_in;go_wp2_with fail;refine (hp _).mono ?_;rintro e w1 ⟨⟨n,i,j,hn,hi,hj,hv,rfl⟩,hw⟩;rw[hw];clear hw;have ac:=fun W=>(rfromInt_calls (n:Int) W (by omega) (by omega)).mono fun e w' h=>RetS.to rfl h;have ab:=fun W=>(rpow2_calls ((j:Int) - (i:Int)) W (by omega) (by omega)).mono fun e w' h=>RetS.to rfl h;have aa:=fun W=>(rmulQ_calls 25 150 ((n:Int):Rat) (stepQ ((j:Int) - (i:Int))) W (rfb_int (by omega) (by omega)) (stepQ_rfb hi (by omega)) (by omega));rw[hv] at aa;obtain ⟨A,hA⟩:∃ A,rs ((n:Int):Rat)=A:=⟨_,rfl⟩;obtain ⟨B,hB⟩:∃ A,rs (stepQ ((j:Int) - (i:Int)))=A:=⟨_,rfl⟩;rw[hA] at ac aa;rw[hB] at ab aa;obtain ⟨k,hk⟩:∃ k,(j:Int) - (i:Int)=k:=⟨_,rfl⟩;rw[hk] at ab⊢;clear hA hB hk hv hn hi hj ag;refine zh4 ?_ (New.refl w) ac ab aa;clear ac ab aa;intro HN ad af ae;go_wp2_with fail;refine zM (ad _) fun w2 hn=>?_;replace HN:=tW HN hn;clear hn;go_wp2_with fail;refine zM (af _) fun w3 hn=>?_;replace HN:=tW HN hn;clear hn;go_wp2_with fail;refine zM (ae _) fun w4 hn=>?_;replace HN:=tW HN hn;clear hn;go_wp2_with fail;go_ret;exact ⟨rfl,HN⟩
theorem negz_int:floatToIntVal .f32 2147483648 .i64=some 0:=by decide +kernel
theorem zero_float:floatOfInt .f32 0=0:=by decide +kernel
theorem negz_eq:(FloatKind.f32.format.order 2147483648 0 != some .eq)=false:=by decide +kernel
theorem negz_ge1:(FloatKind.f32.format.order 2147483648 1266679808==some .gt)=false:=by decide +kernel
theorem negz_ge2:(FloatKind.f32.format.order 2147483648 1266679808==some .eq)=false:=by decide +kernel
theorem negz_lt:(FloatKind.f32.format.order 2147483648 0==some .lt)=false:=by decide +kernel
theorem rparted_negz (w:World):Calls prog 132 #[.float .f32 2147483648] w fun e w'=>e=.returned (.tuple #[.int .i64 0,.int .i64 0])∧w'=w:=by
 obtain ⟨z,hz⟩:∃ z:Nat,2147483648=z:=⟨_,rfl⟩;have ab:=fun W=>run_convert_float_int (P:=prog) W 62 3 .f32 .i64 2147483648 0 (by kernel_rfl) underlying3 negz_int;have h0:=zero_float;have h1:=negz_eq;have h2:=negz_ge1;have h3:=negz_ge2;rw[hz] at ab h1 h2 h3⊢;clear hz;go_in;go_wp2_with fail;go_loopw [0,4] (fun f k wr=>f=.float .f32 z∧k=.int .i64 0∧Hid (wr=w)) (fun _ _ _=>0)
 case atStart=>exact ⟨rfl,rfl,hid (by first | trivial | rfl)⟩
 case round=>
  obtain ⟨rfl,rfl,HW⟩:=hrel;rw[HW.out];go_wp2_with fail;go_loopw [0,4] (fun f k wr=>f=.float .f32 z∧k=.int .i64 0∧Hid (wr=w)) (fun _ _ _=>0)
  case atStart=>exact ⟨rfl,rfl,hid (by first | trivial | rfl)⟩
  case round=>
   obtain ⟨rfl,rfl,aa⟩:=hrel;rw[aa.out];go_wp2_with fail;go_ret2;exact ⟨rfl,rfl⟩
theorem fq_negz:fq 2147483648=0:=by decide +kernel
theorem rexact_negz (w:World):Calls prog 46 #[.float .f32 2147483648] w (RetS w (fq 2147483648)):=by
 have hp:=fun W=>rparted_negz W;have ad:=negz_lt;have ab:=fun W=>(rfromInt_calls 0 W (by omega) (by omega)).mono fun e w' h=>RetS.to rfl h;have ac:=fun W=>(rpow2_calls 0 W (by omega) (by omega)).mono fun e w' h=>RetS.to rfl h;have aa:=fun W=>(rmulQ_calls 25 150 ((0:Int):Rat) (stepQ 0) W (rfb_int (by decide) (by omega)) (stepQ_rfb (i:=0) (j:=0) (by omega) (by omega)) (by omega));rw[show ((0:Int):Rat)*stepQ 0=0 by decide +kernel] at aa;obtain ⟨A,hA⟩:∃ A,rs ((0:Int):Rat)=A:=⟨_,rfl⟩;obtain ⟨B,hB⟩:∃ A,rs (stepQ 0)=A:=⟨_,rfl⟩;rw[hA] at ab aa;rw[hB] at ac aa;rw[fq_negz];obtain ⟨z,hz⟩:∃ z:Nat,2147483648=z:=⟨_,rfl⟩;simp only[hz] at hp ad;rw[hz];clear hz hA hB;refine zh5 ?_ (New.refl w) hp ab ac aa;clear hp ab ac aa;intro HN HP ae ag af;go_in;go_wp2_with fail;refine (HP _).mono ?_;rintro e w1 ⟨rfl,hw⟩;rw[hw];clear hw ad;go_wp2_with fail;refine zM (ae _) fun w2 hn=>?_;replace HN:=tW HN hn;clear hn;go_wp2_with fail;refine zM (ag _) fun w3 hn=>?_;replace HN:=tW HN hn;clear hn;go_wp2_with fail;refine zM (af _) fun w4 hn=>?_;replace HN:=tW HN hn;clear hn;go_wp2_with fail;go_ret;exact ⟨rfl,HN⟩
theorem sopp {r:Nat}(h:r < 2139095040):floatBits .sub .f32 0 (2147483648+r)=some r:=by
 show Ieee.single.sub 0 _=_;obtain ⟨hs,hr,hF, -⟩:=neg_float h;obtain ⟨m,k,h1,h2⟩:=Flo.read_fin Ieee.single hF;rw[hs,Flo.slp] at h1;rw[hr] at h2;unfold Ieee.Format.sub;rw[h1,show Ieee.single.read 0=.number false 0 (-149) by decide];simp only[Ieee.Datum.opposite,Ieee.Datum.sum,Option.map_some]
 have hb:min (-149) (-149+(k:Int))= -149:=by omega
 rw[hb]
 have e1:(-149 - -149:Int).toNat=0:=by omega
 have e2:(-149+(k:Int) - -149).toNat=k:=by omega
 rw[e1,e2,Flo.signed_val,Flo.signed_val];simp only[Bool.not_true,Bool.false_eq_true,if_false,Nat.zero_mul,h2];show some (Ieee.single.nearest _ _ _)=_
 have e3:(((0:Nat):Int)+(Flo.V Ieee.single r:Int)).natAbs=Flo.V Ieee.single r:=by omega
 have e4:decide (((0:Nat):Int)+(Flo.V Ieee.single r:Int) < 0)=false:=decide_eq_false (by omega);rw[e3,e4];have aa:=Flo.nearest_V Ieee.single false (r:=r) (by rw[Flo.sinf];exact h);rw[Flo.slp] at aa;split
 ·rename_i h0;simp only[Bool.and_true,Bool.and_self,Bool.and_false];rw[aa];rfl
 ·rw[aa];rfl
theorem fq_rfb {x:Nat}(hx:x < 2139095040):RFB 280 (fq x):=by
 unfold fq;rw[(pos_float hx).2.2.2];have h1:=Flo.V_lt Ieee.single hx
 have h2:Flo.V Ieee.single 2139095040 < 2^280:=by decide +kernel
 exact RFB.divInt (by rw[Int.natAbs_natCast];exact Nat.lt_trans h1 h2) (by decide +kernel) (by decide)
theorem rexact_neg (r:Nat)(w:World)(h:r < 2139095040)(h0:r≠0):Calls prog 46 #[.float .f32 (2147483648+r)] w (RetS w (fq (2147483648+r))):=by
 have aa:=fun W=>(rexact_pos r W h).mono fun e w' h=>RetS.to rfl h;have ac:=fun W=>run_float_arith (P:=prog) W .sub 62 .f32 _ _ _ (sopp h)
 have af:(FloatKind.f32.format.order (2147483648+r) 0==some .lt)=true:=by
  have:=Flo.order_fin Ieee.single (neg_float h).2.2.1 (pos_float (x:=0) (by omega)).2.2.1;rw[(neg_float h).2.2.2,(pos_float (x:=0) (by omega)).2.2.2,Flo.V_zero] at this;show (Ieee.single.order _ _==_)=_;rw[this,cmp_lt];have:=Flo.V_lt Ieee.single (r:=0) (r':=r) (by omega);rw[Flo.V_zero] at this;exact decide_eq_true (by omega)
 have ag:=(fq_rfb h).len;have ab:=fun W=>rneg_calls (fq r) W (by omega);rw[fq_neg h];obtain ⟨A,hA⟩:∃ A,rs (fq r)=A:=⟨_,rfl⟩;rw[hA] at aa ab;obtain ⟨x,hx⟩:∃ x:Nat,2147483648+r=x:=⟨_,rfl⟩;rw[hx] at af⊢;simp only[hx] at ac;clear hx hA ag h h0;refine zh3 ?_ (New.refl w) aa ab;clear aa ab;intro HN ad ae;go_in;go_wp2_with fail;refine zM (ad _) fun w1 hn=>?_;replace HN:=tW HN hn;clear hn;go_wp2_with fail;refine zM (ae _) fun w2 hn=>?_;replace HN:=tW HN hn;clear hn;go_wp2_with fail;go_ret;exact ⟨rfl,HN⟩
theorem rexact_calls (x:Nat)(w:World)(hx:x < 4294967296)(hf:isFin x=true):Calls prog 46 #[.float .f32 x] w (RetS w (fq x)):=by
 have hr:x % 2147483648 < 2139095040:=by
  unfold isFin Ieee.Format.read at hf;simp only[Flo.ssw,Flo.sbin,Flo.sinf] at hf;split at hf
  ·rename_i hh;split at hh
   ·omega
   ·split at hh
    ·assumption
    ·split at hh <;> cases hh
  ·cases hf
 by_cases h1:x < 2147483648
 ·exact rexact_pos x w (by omega)
 ·obtain ⟨r,rfl⟩:∃ r,x=2147483648+r:=⟨x - 2147483648,by omega⟩;by_cases h0:r=0
  ·subst h0;exact rexact_negz w
  ·exact rexact_neg r w (by omega) h0
theorem stepQ_hi:stepQ 128=((2^128:Int):Rat):=by
 unfold stepQ;rw[if_neg (by decide)];rfl
theorem stepQ_lo:stepQ (-151)=Rat.divInt 1 (2^151):=by
 unfold stepQ;rw[if_pos (by decide),int_divInt,Rat.inv_divInt];rfl
theorem rfb_hi:RFB 130 (stepQ 128):=by
 rw[stepQ_hi];exact rfb_int (by decide +kernel) (by omega)
theorem rfb_lo:RFB 153 (stepQ (-151)):=by
 rw[stepQ_lo];exact RFB.divInt (by decide +kernel) (by decide +kernel) (by decide +kernel)
theorem rs_16777216:rs ((16777216:Int):Rat)=⟨#[49,54,55,55,55,50,49,54]⟩:=by
 rw[rs_int];decide +kernel
theorem rs_8388608:rs ((8388608:Int):Rat)=⟨#[56,51,56,56,54,48,56]⟩:=by
 rw[rs_int];decide +kernel
end Go.Proofs.YtnjonlnemagomaaGreatDoor
namespace Go.Proofs.YtnjonlnemagomaaGreatDoor
open Go.RowKit Big Go.ChangeShapes Go.WideShapes Go.Deep Go.Joins Go.Proofs.Tryz
open Go.Lib (hid)
set_option maxRecDepth 100000
set_option maxHeartbeats 8000000
set_option linter.all false
theorem rfin_calls (b:Nat)(w:World):Calls prog 39 #[.float .f32 b] w (FinPost w (isFin b)):=by
 cases h:isFin b with
 | true=>
  have aa:=fun W=>run_float_arith (P:=prog) W .sub 62 .f32 b b 0 (sub_self_fin h)
  have ho:(FloatKind.f32.format.order 0 0==some .eq)=true:=by decide
  have H:=hid h;clear h;go_in;go_wp2_with fail;go_ret;exact ⟨rfl,0,rfl⟩
 | false=>
  have aa:=fun W=>nan_run (P:=prog) 62 b h W;have ho:=fun W=>nan_order W b 0;replace h:=hid h;go_in;go_wp2_with fail;go_ret;exact ⟨rfl,1,rfl⟩
theorem rfin_new (b:Nat)(w:World):Calls prog 39 #[.float .f32 b] w fun e w'=>e=.returned (.bool (isFin b))∧New w w':=
 (rfin_calls b w).mono fun e w' h=>by
  obtain ⟨rfl,n,rfl⟩:=h;exact ⟨rfl,(New.refl _).drewN n⟩
theorem rsamples_calls (a:Option Addr)(cap:Nat)(l:List Nat)(w:World)(hl:l.length≤9223372036854775807)(hr:RdL w a (flts l)):
  Calls prog 67 #[.slice a l.length cap] w (RetNew w (samplesErr l)):=by
 obtain ⟨n,hn⟩:∃ n,l.length=n:=⟨_,rfl⟩;by_cases hm:4096 < n
 ·have hs:samplesErr l=5:=by unfold samplesErr;rw[hn,if_pos hm]
  have ai:(4096:Int) < n:=by omega
  rw[hs,hn];clear hs hr hl hn;go_in;go_wp2_with fail;go_ret;exact ⟨rfl,New.refl _⟩
 have ai:¬(4096:Int) < n:=by omega
 have hs:samplesErr l=if l.all isFin then 0 else 1:=by unfold samplesErr;rw[hn,if_neg hm]
 obtain ⟨r,ad⟩:∃ r:Int,(if l.all isFin=true then 0 else 1)=r:=⟨_,rfl⟩;rw[hs,ad,hn];rw[hn] at hl;clear hs hm;refine zh4 ?_ hr ad hl hn;clear hr ad hl hn;intro HR ae HL ag;go_in;go_wp2_with fail;go_loopw [3] (fun i wr=>∃ k:Nat,k≤n∧i=.int .i64 (k:Int)∧Hid ((l.take k).all isFin=true)∧Hid (New w wr)) (fun i _=>n - (intOf i).toNat)
 case atStart=>exact ⟨0,Nat.zero_le _,rfl,hid rfl,hid (New.refl _)⟩
 case round=>
  obtain ⟨k,hk,rfl,HK,HN⟩:=hrel;by_cases hlt:k < n
  ·have ab:k < l.length:=by rw[ag.out];exact hlt
   obtain ⟨b,aj,rfl,aa⟩:=HR.out.flt k ab;obtain ⟨x,hx⟩:∃ x,l[k]=x:=⟨_,rfl⟩;rw[hx] at aa;replace aa:=HN.cell aa
   cases hfx:isFin x with
   | true=>
    have hd:=all_take_succ ab HK.out (by rw[hx];exact hfx);have hc:=fun W=>rfin_new x W;rw[hfx] at hc;refine zh4 ?_ hx hfx hd hc;clear hx hfx hd hc;intro HX ah HD HC;go_wp2_with fail;refine (HC _).mono ?_;rintro e w' ⟨rfl,hn⟩;have ac:=HN.out.trans hn;clear hn HN;have HN:=hid ac;clear ac;go_wp2_with fail;go_roundw
    case rel=>exact ⟨k+1,by omega,by go_num,HD,HN⟩
    case measure=>simp[intOf];omega
   | false=>
    have hd:=all_false_at ab (by rw[hx];exact hfx);have hc:=fun W=>rfin_new x W;rw[hfx] at hc;refine zh4 ?_ hx hfx hd hc;clear hx hfx hd hc;intro HX ah HD HC;go_wp2_with fail;refine (HC _).mono ?_;rintro e w' ⟨rfl,hn⟩;have ac:=HN.out.trans hn;clear hn HN;have HN:=hid ac;clear ac;go_wp2_with fail;go_ret;exact ⟨ret_i64 (by rw[←ae.out,HD.out];rfl),HN⟩
  ·have af:k=n:=by omega
   have hz:r=0:=by rw[←ae.out,if_pos];have:=HK.out;rwa [af,←ag.out,List.take_length] at this
   replace af:=hid af;replace hz:=hid hz;go_wp2_with fail;go_ret;exact ⟨ret_i64 hz.symm,HN⟩
section
variable {H:Type} {enc:TypeId × Value→H} {P:Program} {w:World} {base:Nat} {sp:Nat→Bool} {held:Bool}
theorem in_str {r:Reach}{b0:Nat}{t:TypeId}{v:Value}{d:DataW H}{p:List MemPlace}(ht:P.underlying t=some .string)(hval:Value.okWide P w r b0 t v)(hd:DataW.Trod enc P w base sp held t v d p):
  ∃ s:ByteArray,v=.string s∧s.size≤9223372036854775807:=by
 obtain ⟨s,rfl⟩:=okWide_string ht hval;obtain ⟨aa,hf⟩:=hd;obtain ⟨s',h,_,hs⟩:=DataW.trod_string ht hf;simp[Value.cells] at h;subst h;exact ⟨_,rfl,hs⟩
end
section
variable {H:Type} {enc:TypeId × Value→H} {P:Program} {w:World} {base:Nat} {sp:Nat→Bool} {held:Bool}
theorem in_flt {t:TypeId}{r:Reach}{b0:Nat}{v:Value}{d:DataW H}{p:List MemPlace}(ht:P.underlying t=some (.float .f32))(hval:Value.okWide P w r b0 t v)(hd:DataW.Trod enc P w base sp held t v d p):∃ x:Nat,v=.float .f32 x∧x < 4294967296:=by
 obtain ⟨b,rfl⟩:∃ b,v=.float .f32 b:=by
  simp only[Value.okWide,ht,Cell.okWide]at hval
  cases v <;> simp_all [Cell.ok]
 obtain ⟨aa,hf⟩:=hd;refine ⟨b,rfl,?_⟩
 cases aa with
 | zero=>simp[DataW.trod] at hf
 | succ n=>
  simp[DataW.trod,Value.cells,ht]at hf;obtain ⟨hw, -⟩:=hf;simp[Lit.wf] at hw;omega
end
end Go.Proofs.YtnjonlnemagomaaGreatDoor
namespace Go.Proofs.YtnjonlnemagomaaGreatDoor
open Go.RowKit Big Go.Lib Flo Go.Proofs.Tryz
set_option maxRecDepth 100000
set_option maxHeartbeats 8000000
set_option linter.all false
theorem eight_tenN {k n:Nat}(h:k≤3*n):2^k≤10^n:=Nat.le_trans (Nat.pow_le_pow_right (by omega) h) (by
 rw[Nat.pow_mul]
 exact Nat.pow_le_pow_left (by decide) n)
theorem fitsN_of {k n:Nat}{q:Rat}(h:FB k q)(hk:k≤3*n):q.num.natAbs < 10^n∧q.den < 10^n:=by
 have h3:q.num.natAbs < 2^k:=h.num
 have h4:q.den < 2^k:=by simpa[BdK] using h.den
 exact ⟨Nat.lt_of_lt_of_le h3 (eight_tenN hk),Nat.lt_of_lt_of_le h4 (eight_tenN hk)⟩
theorem FB.fitsN {k:Nat}{q:Rat}(h:FB k q)(hk:k≤1800):Fits q:=Fits.iff.2 (fitsN_of (n:=600) h (by omega))
theorem csgn_lt {x y:Rat}(h:x < y):(x - y).num.sign= -1:=by
 have h1:¬(y - x).num.sign≤0:=by rw[sign_le];exact Rat.not_le.2 h
 have h2:(x - y).num= -(y - x).num:=by rw[←Rat.neg_sub,Rat.neg_num]
 rw[h2,Int.sign_neg];rcases Int.lt_trichotomy (y - x).num 0 with h3 | h3 | h3
 ·rw[Int.sign_eq_neg_one_of_neg h3] at h1;omega
 ·rw[h3] at h1;exact absurd (by decide) h1
 ·rw[Int.sign_eq_one_of_pos h3]
theorem csgn_gt {x y:Rat}(h:y < x):(x - y).num.sign=1:=by
 have h1:¬(x - y).num.sign≤0:=by rw[sign_le];exact Rat.not_le.2 h
 rcases Int.lt_trichotomy (x - y).num 0 with h3 | h3 | h3
 ·rw[Int.sign_eq_neg_one_of_neg h3] at h1;omega
 ·rw[h3] at h1;exact absurd (by decide) h1
 ·rw[Int.sign_eq_one_of_pos h3]
theorem csgn_eq (x:Rat):(x - x).num.sign=0:=by
 rw[Rat.sub_self];rfl
theorem crossed_sign (x y:Rat):(crossed x y).sign=(x - y).num.sign:=by
 have aa:x < y∨x=y∨y < x:=by
  by_cases h:x < y
  ·exact .inl h
  ·by_cases h2:y < x
   ·exact .inr (.inr h2)
   ·exact .inr (.inl (Rat.le_antisymm (Rat.not_lt.1 h2) (Rat.not_lt.1 h)))
 rcases aa with h | h | h
 ·rw[csgn_lt h];have h1:=crossed_neg.2 h;rcases Int.lt_trichotomy (crossed x y) 0 with h2 | h2 | h2
  ·exact Int.sign_eq_neg_one_of_neg h2
  ·rw[h2] at h1;exact absurd h1 (by decide)
  ·rw[Int.sign_eq_one_of_pos h2] at h1;omega
 ·rw[h,csgn_eq]
  have e:crossed y y=0:=by unfold crossed;omega
  rw[e];rfl
 ·rw[csgn_gt h];have h1:=crossed_pos.2 h;rcases Int.lt_trichotomy (crossed x y) 0 with h2 | h2 | h2
  ·rw[Int.sign_eq_neg_one_of_neg h2] at h1;omega
  ·rw[h2] at h1;exact absurd h1 (by decide)
  ·exact Int.sign_eq_one_of_pos h2
theorem rdenQ_calls (k:Nat)(q:Rat)(w:World)(hq:RFB k q)(hk:k≤40000):Calls prog 111 #[.string (rs q)] w (RetS w ((q.den:Int):Rat)):=by
 have ad:=hq.len;have aa:=fun W=>rslash_calls (rs q) W (by omega);by_cases hd:q.den=1
 ·have e1:upTo (rs q).data.toList=(rs q).data.toList:=by
   rw[rs_list];unfold ratText;rw[if_pos hd];exact (split_plain (slashed_itoa' _)).1
  have hr:rs (((1:Nat):Int):Rat)=⟨#[49]⟩:=by
   unfold rs;rw[ratText_int,Big.itoa_nonneg,decDigits_one'];rfl
  rw[hd];unfold RetS;rw[hr];rw[e1] at aa;obtain ⟨s,hs⟩:∃ s,rs q=s:=⟨_,rfl⟩;simp only[hs] at aa
  have aa:∀ W,Calls prog 96 #[.string s] W fun e w'=>e=.returned (.int .i64 (s.size:Nat))∧w'=W:=fun W=>(aa W).mono fun e w' h=>by
   rw[h.1,Array.length_toList];exact ⟨rfl,h.2⟩
  rw[hs];clear e1 hr hs ad hq hk hd;have hb:((s.size:Int)==(s.size:Int))=true:=beq_self_eq_true _;have ag:=hid aa;clear aa;go_in;go_wp2_with fail;refine (ag _).mono ?_;rintro e w1 ⟨rfl,ab⟩;rw[ab];clear ab;go_wp2_with fail;go_ret;exact ⟨rfl,New.refl _⟩
 ·have e1:upTo (rs q).data.toList=itoa q.num:=by
   rw[rs_list];unfold ratText;rw[if_neg hd];exact (parts_itoa' _ _).1
  have ac:(rs q).data.toList=itoa q.num ++ 47::decDigits q.den:=by
   rw[rs_list];unfold ratText;rw[if_neg hd]
  have hr:rs ((q.den:Int):Rat)=(rs q).extract ((itoa q.num).length+1) (rs q).size:=by
   apply ByteArray.ext;apply Array.toList_inj.1;rw[rs_list,ratText_int,Big.itoa_nonneg,Lib.extract_to_end,ac];rw[List.drop_append,List.drop_of_length_le (by omega)];simp
  have ae:(itoa q.num).length+1≤(rs q).size:=by
   have:(rs q).data.toList.length=(rs q).size:=by simp
   rw[←this,ac,List.length_append,List.length_cons];omega
  rw[e1]at aa;unfold RetS;rw[hr];obtain ⟨m,hm⟩:∃ m,(itoa q.num).length=m:=⟨_,rfl⟩;obtain ⟨s,hs⟩:∃ s,rs q=s:=⟨_,rfl⟩;rw[hm,hs] at ae;simp only[hm,hs] at aa;rw[hm,hs];rw[hs] at ad;have hb:((m:Int)==(s.size:Int))=false:=beq_false_of_ne (by omega);obtain ⟨m1,af⟩:∃ z,m+1=z:=⟨_,rfl⟩;rw[af]
  have ah:(m:Int)+1=(m1:Int):=by omega
  have ai:(m1:Int)≤(s.size:Int):=by omega
  have aj:(s.size:Int)≤1000000:=by omega
  have ak:IntKind.i64.wrap (m1:Int)=(m1:Int):=by rw[IntKind.wrap_i64];omega
  clear hs hm e1 hr hq hk ad ae hd ac af;replace aa:=hid aa;go_in;go_wp2_with fail;refine (aa _).mono ?_;rintro e w1 ⟨rfl,ab⟩;rw[ab];clear ab;go_wp2_with fail;go_ret;exact ⟨rfl,New.refl _⟩
theorem dig_of_pow {u k m:Nat}(h:u < 2^k)(hk:k≤3*m)(hm:1≤m):(decDigits u).length≤m:=by
 rw[decDigits_length,nDigits_le_iff hm];refine Nat.lt_of_lt_of_le h (Nat.le_trans (Nat.pow_le_pow_right (by omega) hk) ?_);rw[Nat.pow_mul];exact Nat.pow_le_pow_left (by decide) m
theorem rs_nat (n:Nat):(rs ((n:Int):Rat)).size=(decDigits n).length:=by
 unfold rs;rw[ratText_int,Big.itoa_nonneg,bs_size]
theorem rlarge_calls (k:Nat)(q:Rat)(w:World)(hq:RFB k q)(hk:k≤1800):Calls prog 104 #[.string (rs q)] w (RetNew w 0):=by
 have hn:=fun W=>rnum_calls k q W hq (by omega);have aa:RFB (k+1) ((q.num:Int):Rat):=rfb_int (Nat.lt_of_lt_of_le hq.num (Nat.pow_le_pow_right (by omega) (by omega))) (by omega);have ha:=fun W=>rabs_calls ((q.num:Int):Rat) W (by have:=aa.len;omega);have hd:=fun W=>rdenQ_calls k q W hq (by omega)
 have e1:absQ ((q.num:Int):Rat)=((q.num.natAbs:Int):Rat):=by
  unfold absQ;rw[Rat.num_intCast];split
  ·rw[←Rat.intCast_neg,show -q.num=(q.num.natAbs:Int) by omega]
  ·rw[show (q.num.natAbs:Int)=q.num by omega]
 rw[e1]at ha;have s1:=rs_nat q.num.natAbs;have s2:=rs_nat q.den;have d1:=dig_of_pow (m:=600) hq.num (by omega) (by omega);have d2:=dig_of_pow (m:=600) hq.den (by omega) (by omega);obtain ⟨N,hN⟩:∃ X,rs ((q.num:Int):Rat)=X:=⟨_,rfl⟩;obtain ⟨A,hA⟩:∃ X,rs ((q.num.natAbs:Int):Rat)=X:=⟨_,rfl⟩;obtain ⟨D,hD⟩:∃ X,rs ((q.den:Int):Rat)=X:=⟨_,rfl⟩;have hn:=fun W=>(hn W).mono fun e w' h=>RetS.to hN h;have ha:=fun W=>(ha W).mono fun e w' h=>RetS.to hA h;have hd:=fun W=>(hd W).mono fun e w' h=>RetS.to hD h;simp only[hN] at ha;rw[hA] at s1;rw[hD] at s2
 have i1:¬(600:Int) < (A.size:Int):=by omega
 have i2:¬(600:Int) < (D.size:Int):=by omega
 have b1:decide ((600:Int) < (A.size:Int))=false:=decide_eq_false i1;have b2:decide ((600:Int) < (D.size:Int))=false:=decide_eq_false i2;obtain ⟨s,hs⟩:∃ s,rs q=s:=⟨_,rfl⟩;simp only[hs] at hn hd;rw[hs];clear hN hA hD hs s1 s2 d1 d2 e1 aa hq hk;refine zh3 ?_ hn ha hd;clear hn ha hd;intro ad ab ac;go_in;go_wp2_with fail;refine zM (ad _) fun w1 hn=>?_;have HN:=hid hn;clear hn;go_wp2_with fail;refine zM (ab _) fun w2 hn=>?_;replace HN:=tW HN hn;clear hn;go_wp2_with fail;refine zM (ac _) fun w3 hn=>?_;replace HN:=tW HN hn;clear hn;go_wp2_with fail;go_ret;exact ⟨rfl,HN⟩
theorem lnum_bad (bad:Int)(want:ByteArray)(w:World)(h:bad≠0):Calls prog 21 #[.string ⟨#[]⟩,.int .i64 bad,.int .i64 bad,.string want] w fun e w'=>e=.returned (.bool true)∧New w w':=by
 have hb:(bad==0)=false:=beq_false_of_ne h;have aa:(bad != 0)=true:=bne_iff_ne.2 h;clear h;go_in;go_wp2_with fail;go_ret;exact ⟨rfl,New.refl _⟩
theorem lnum_ok (big:Bool)(want:ByteArray)(w:World)(hL:∀ W,New w W→Calls prog 104 #[.string want] W (RetNew W (if big=true then 4 else 0))):Calls prog 21 #[.string (if big=true then ⟨#[]⟩ else want),.int .i64 (if big=true then 4 else 0),.int .i64 0,.string want] w fun e w'=>e=.returned (.bool true)∧New w w':=by
 have HN:=hid (New.refl w);replace hL:=hid hL
 cases big with
 | true=>
  go_in;go_wp2_with fail;refine zM (hL _ HN) fun w1 hn=>?_;replace HN:=tW HN hn;clear hn;go_wp2_with fail;go_ret;exact ⟨rfl,HN⟩
 | false=>
  go_in;go_wp2_with fail;refine zM (hL _ HN) fun w1 hn=>?_;replace HN:=tW HN hn;clear hn;go_wp2_with fail;go_ret;exact ⟨rfl,HN⟩
theorem nfloat_err (s:ByteArray)(E:Int)(hE:ratErr s.data.toList=E)(h0:E≠0)(hl:s.size≤100000)(w:World)(he:Env w):Calls prog 41 #[.string s] w (FltPost w 0 E):=by
 have aa:=fun W hW=>check_calls s W hW hl;rw[hE] at aa
 have ht:(E != 0)=true:=by simpa using h0
 clear hE h0 hl;unfold FltPost;replace he:=hid he;replace aa:=hid aa;go_in;go_wp2_with fail;refine zM (aa _ he) fun w1 hn=>?_;replace hn:=hid hn;go_wp2_with fail;go_ret2;exact ⟨rfl,hn⟩
theorem nfloat_zero (s:ByteArray)(q:Rat)(hs:s.data.toList=ratText q)(hf:Fits q)(hl:s.size≤100000)(h0:q.num=0)(w:World)(he:Env w):Calls prog 41 #[.string s] w (FltPost w 0 0):=by
 have aa:=fun W hW=>check_calls s W hW hl;rw[hs,ratErr_ratText hf] at aa;have ab:=fun W hW=>from_calls s q W hW hs (by omega)
 have ht:q.num.sign=0:=by rw[h0];rfl
 clear hs hf hl h0;unfold FltPost;refine zh4 ?_ he aa ab ht;clear he aa ab ht;intro HE ac ad ae;go_in;go_wp2_with fail;refine zM (ac _ HE) fun w1 hn=>?_;have HN:=hid hn;clear hn;go_upto_region 4 with (fail);go_wp2_with fail;refine zS (ad _ (HE.new HN)) fun w2 s2 a2 l2 c2 t2 d2 m2 k2 hn hf=>?_;have HF:=hid hf;clear hf;replace HN:=tW HN hn;clear hn;go_upto_region 5 with (fail);obtain ⟨BX,hn⟩:=lay1 w2 115 #[.int .i64 s2,.slice a2 l2 c2,.int .i64 t2,.slice d2 m2 k2];obtain ⟨HN,HF⟩:=zn2 hn HN HF.new;clear hn;have pa:=BX.out.four;go_wp2_with fail;refine zM (fsign_calls _ q _ HF) fun w3 hn=>?_;rw[ae.out];clear pa;obtain ⟨HN,BX,HF⟩:=zn3 hn HN BX.new HF.new;clear hn;go_wp2_with fail;go_ret2;exact ⟨rfl,HN⟩
theorem nexact_err (x:Nat)(h:isFin x=false)(w:World):Calls prog 40 #[.float .f32 x] w (TxtPost w ⟨#[]⟩ 1):=by
 have aa:=fun W=>finite_calls x W;rw[h] at aa;have HN:=hid (New.refl w);replace aa:=hid aa;go_in;go_wp2_with fail;refine (aa _).mono ?_;rintro e w1 ⟨rfl,m,rfl⟩;have hn:=(New.refl w).drewN m;replace HN:=tW HN hn;clear hn;go_wp2_with fail;refine bodyPost_ret (v:=.tuple #[.string ⟨#[]⟩,.int .i64 1]) (by simp[results,results40,go_sem]) rfl ?_;exact ⟨rfl,HN⟩
theorem sread_low {x:Nat}(h:x < 16777216):Ieee.single.read x=.number false x (-149):=by
 unfold Ieee.Format.read;simp only;rw[ssw,sbin,sinf,slp]
 have e1:x / 2147483648 % 2=0:=by omega
 have e2:x % 2147483648=x:=by omega
 rw[e1,e2];by_cases hb:x < 8388608
 ·rw[if_pos hb];rfl
 ·rw[if_neg hb,if_pos (by omega)]
  have e3:x / 8388608=1:=by omega
  have e4:8388608+x % 8388608=x:=by omega
  rw[e3,e4];rfl
theorem shalve_low {y:Nat}(h0:y≠0)(h:y < 8388608):Ieee.single.div (2*y) 1073741824=some y:=by
 have h3:Ieee.single.read 1073741824=.number false 8388608 (-22):=by decide
 have h1:=sread_low (x:=2*y) (by omega)
 have aa:2*y≠0:=by omega
 have hl:=log2_small aa (by omega)
 have e0:(8388608:Nat).log2=23:=by decide
 have hv:=V_low (x:=y) (by omega);unfold Ieee.Format.div;rw[h1,h3];obtain ⟨c,hc⟩:∃ c,25 - (2*y).log2=c:=⟨_,rfl⟩
 have e8:23+2+23 - (2*y).log2=23+c:=by omega
 have e1:(2*y) <<< (Ieee.single.fractionBits+2+(8388608:Nat).log2 - (2*y).log2)=8388608*(2*y*2^c):=by
  rw[e0,sfb,Nat.shiftLeft_eq,e8,Nat.pow_add,show (2:Nat)^23=8388608 by decide,Nat.mul_left_comm]
 have e2:8388608*(2*y*2^c) / 8388608=2*y*2^c:=Nat.mul_div_cancel_left _ (by decide);have e3:8388608*(2*y*2^c) % 8388608=0:=Nat.mul_mod_right _ _;unfold Ieee.Datum.quotient;simp only[show ¬(8388608:Nat)=0 by decide,if_false,Option.map_some];rw[e1,e2,e3,e0,sfb,e8];show some (Ieee.single.nearest (false ^^ false) (2*(2*y*2^c)+0) _)=_;rw[Bool.xor_false];refine congrArg some ?_;have hp:0 < 2^c:=Nat.two_pow_pos c
 have:=nearest_rung false (m:=2*(2*y*2^c)+0) (r:=y) (p:= -149 - -22 - ((23+c:Nat):Int) - 1) (by
  have:=Nat.mul_pos (show 0 < 2*y by omega) hp
  omega) (by omega)
 rw[this]
 ·rfl
 ·have e5:(-149 - -22 - ((23+c:Nat):Int) - 1+149).toNat=0:=by omega
  have e6:(-149 - (-149 - -22 - ((23+c:Nat):Int) - 1)).toNat=c+2:=by omega
  rw[e5,e6,hv,Nat.pow_zero,Nat.mul_one,Nat.pow_add,←Nat.mul_assoc y,Nat.mul_assoc 2 y];generalize y*2^c=X;omega
theorem shalve_dbl {y:Nat}(h:dbl y < 2139095040):Ieee.single.div (dbl y) 1073741824=some y:=by
 by_cases h0:y=0
 ·subst h0;decide
 by_cases hb:y < 8388608
 ·have e:dbl y=2*y:=by unfold dbl;rw[if_pos hb]
  rw[e];exact shalve_low h0 hb
 ·have e:dbl y=y+8388608:=by unfold dbl;rw[if_neg hb]
  rw[e]at h⊢;exact shalve rfl (by omega) h
theorem smul_dbl {x:Nat}(h:dbl x < 2139095040):Ieee.single.mul x 1073741824=some (dbl x):=by
 by_cases h0:x=0
 ·subst h0;decide
 ·exact sdouble h0 (by unfold dbl at h;split at h <;> omega)
def yQ (q:Rat)(z:Int):Rat:=q*twoQ (-z)
theorem yQ_zero (q:Rat):yQ q 0=q:=by
 unfold yQ;exact Rat.mul_one q
theorem yQ_half (q:Rat)(z:Int):yQ q z*(1 / 2)=yQ q (z+1):=by
 unfold yQ;rw[show -(z+1)= -z+ -1 by omega,twoQ_add,Rat.mul_assoc,show twoQ (-1)=1 / 2 by decide +kernel]
theorem yQ_dbl (q:Rat)(z:Int):yQ q z*2=yQ q (z - 1):=by
 unfold yQ;rw[show -(z - 1)= -z+1 by omega,twoQ_add,Rat.mul_assoc,show twoQ 1=2 by decide +kernel]
theorem yQ_mul (q:Rat)(z:Int):yQ q z*twoQ z=q:=by
 unfold yQ;rw[Rat.mul_assoc,←twoQ_add,show -z+z=0 by omega];exact Rat.mul_one q
theorem yQ_lt {q:Rat}{z t:Int}:yQ q z < twoQ t ↔ q < twoQ (z+t):=by
 rw[←Rat.mul_lt_mul_right (twoQ_pos z),yQ_mul,←twoQ_add,Int.add_comm t z]
theorem yQ_le {q:Rat}{z t:Int}:twoQ t≤yQ q z ↔ twoQ (z+t)≤q:=by
 constructor
 ·intro h;exact Rat.not_lt.1 fun h2=>Rat.not_lt.2 h (yQ_lt.2 h2)
 ·intro h;exact Rat.not_lt.1 fun h2=>Rat.not_lt.2 h (yQ_lt.1 h2)
theorem yQ_nonneg {q:Rat}(h:0≤q)(z:Int):0≤yQ q z:=Rat.mul_nonneg h (Rat.le_of_lt (twoQ_pos _))
theorem yQ_rfb {q:Rat}{J:Nat}(h:RFB J q){z:Int}(lo: -149≤z)(hi:z≤149):RFB (J+150) (yQ q z):=by
 unfold yQ;refine h.mul ?_;have:=stepQ_rfb (i:=z.toNat) (j:=(-z).toNat) (by omega) (by omega);rw[stepQ_two] at this
 rwa [show (((-z).toNat:Nat):Int) - ((z.toNat:Nat):Int)= -z by omega] at this
theorem yQ_top {q:Rat}{z:Int}(h:q < twoQ 128)(hz:¬yQ q z < twoQ 24):z < 104:=by
 rcases Int.lt_or_le z 104 with h1 | h1
 ·exact h1
 ·have h2:=yQ_le.1 (Rat.not_lt.1 hz);have h3:=twoQ_le (show (128:Int)≤z+24 by omega);exact absurd (Rat.le_trans h3 h2) (Rat.not_le.2 h)
theorem yQ_place {q:Rat}{z:Int}(lo: -149≤z)(hi:yQ q z < twoQ 24)(h:z= -149∨twoQ 23≤yQ q z):IsPl (q*twoQ 149) (z+149).toNat∧sigF (q*twoQ 149) (z+149).toNat=rndE (yQ q z):=by
 have ej:(((z+149).toNat:Nat):Int)=z+149:=by omega
 have p:=twoQ_pos 149;refine ⟨⟨?_,?_⟩,?_⟩
 ·have h2:=Rat.mul_lt_mul_of_pos_right (yQ_lt.1 hi) p;rw[←twoQ_add] at h2;rw[←twoQ_cast,show (((z+149).toNat+24:Nat):Int)=z+24+149 by omega];exact h2
 ·rcases h with h | h
  ·left;omega
  ·right;have h2:=Rat.mul_le_mul_of_nonneg_right (yQ_le.1 h) (Rat.le_of_lt p);rw[←twoQ_add] at h2;rw[←twoQ_cast,show (((z+149).toNat+23:Nat):Int)=z+23+149 by omega];exact h2
 ·unfold sigF yQ;rw[←twoQ_cast,ej,Rat.div_def,←twoQ_neg,Rat.mul_assoc,←twoQ_add,show 149+ -(z+149)= -z by omega]
theorem absR_of {q:Rat}(h:0≤q):absR q=q:=by unfold absR;rw[if_neg (Rat.not_lt.2 h)]
theorem nearF_y {q:Rat}{R:Nat}{z:Int}(h0:0≤q)(hR:NearF q R)(lo: -149≤z)(hi:yQ q z < twoQ 24)(h:z= -149∨twoQ 23≤yQ q z):(V Ieee.single R:Int)=rndE (yQ q z)*((2^(z+149).toNat:Nat):Int):=by
 obtain ⟨j,h1,h2⟩:=hR.ex;rw[absR_of h0] at h1 h2;obtain ⟨g1,g2⟩:=yQ_place lo hi h;obtain rfl:=h1.unique g1;rw[h2,g2]
theorem nearF_big {q:Rat}{R:Nat}(h0:0≤q)(hR:NearF q R)(h:twoQ 128≤q):2139095040≤R:=by
 obtain ⟨j,h1,h2⟩:=hR.ex;rw[absR_of h0] at h1 h2;refine rung_big h1 h2 ?_;rcases Nat.lt_or_ge j 254 with h3 | h3
 ·have h4:=h1.hi;rw[←twoQ_cast] at h4;have h5:=Rat.mul_le_mul_of_nonneg_right h (Rat.le_of_lt (twoQ_pos 149));rw[←twoQ_add] at h5;have h6:=twoQ_le (show ((j+24:Nat):Int)≤128+149 by omega);exact absurd (Rat.le_trans h6 h5) (Rat.not_le.2 h4)
 ·exact h3
theorem nearF_small {q:Rat}{R:Nat}(h0:0≤q)(hR:NearF q R)(h:q < twoQ (-151)):R=0:=by
 obtain ⟨j,h1,h2⟩:=hR.ex;rw[absR_of h0] at h1 h2;have h3:=Rat.mul_lt_mul_of_pos_right h (twoQ_pos 149);rw[←twoQ_add,show twoQ (-151+149)=1 / 4 by decide +kernel] at h3;have h4:0≤q*twoQ 149:=Rat.mul_nonneg h0 (Rat.le_of_lt (twoQ_pos 149));obtain ⟨x,hx⟩:∃ x,q*twoQ 149=x:=⟨_,rfl⟩;rw[hx] at h1 h2 h3 h4
 have h5:IsPl x 0:=⟨by
  have e:((2^(0+24):Nat):Rat)=16777216:=by decide +kernel
  rw[e]
  grind,.inl rfl⟩
 obtain rfl:=h1.unique h5
 have h6:sigF x 0=0:=by
  unfold sigF
  have e:((2^0:Nat):Rat)=1:=by decide +kernel
  have e2:x / 1=x:=by grind
  rw[e,e2]
  have f0:x.floor=0:=by
   have a1:0≤x.floor:=Rat.le_floor_iff.2 h4;have a2:x.floor < 1:=Rat.floor_lt_iff.2 (by show x < 1;grind);omega
  unfold rndE;rw[f0,if_pos (by show x - 0 < 1 / 2;grind)]
 rw[h6,Int.zero_mul]at h2;exact V_inj Ieee.single (by rw[V_zero];omega)
theorem nearF_fin {q:Rat}{R N:Nat}{z:Int}(h0:0≤q)(hR:NearF q R)(lo: -149≤z)(hz:z≤104)(hi:yQ q z < twoQ 24)(h:z= -149∨twoQ 23≤yQ q z)(hN:rndE (yQ q z)=(N:Int)):
  N≤16777216∧(V Ieee.single R:Int)=(N:Int)*((2^(z+149).toNat:Nat):Int)∧(R < 2139095040 ↔ ¬(N=16777216∧z=104)):=by
 have h1:=nearF_y h0 hR lo hi h;rw[hN] at h1;obtain ⟨g1,g2⟩:=yQ_place lo hi h;have h2:=sigF_le g1.hi;rw[g2,hN] at h2;exact ⟨by omega,h1,rung_fin (by omega) lo hz h1⟩
theorem yQ_floor {q:Rat}{z:Int}(h0:0≤q)(hi:yQ q z < twoQ 24):0≤(yQ q z).floor∧(yQ q z).floor < 16777216:=by
 constructor
 ·exact Rat.le_floor_iff.2 (yQ_nonneg h0 z)
 ·refine Rat.floor_lt_iff.2 ?_
  have e:((16777216:Int):Rat)=twoQ 24:=by decide +kernel
  rw[e];exact hi
theorem rnd_cases (y:Rat):((y - (y.floor:Rat) - 1 / 2).num.sign=1∧rndE y=y.floor+1)∨((y - (y.floor:Rat) - 1 / 2).num.sign=0∧rndE y=y.floor+y.floor % 2)∨((y - (y.floor:Rat) - 1 / 2).num.sign= -1∧rndE y=y.floor):=by
 have h:=half_cases y;rw[crossed_sign,show Rat.divInt 1 2=(1 / 2:Rat) by decide +kernel] at h;exact h
theorem twoQ_24:((16777216:Int):Rat)=twoQ 24:=by decide +kernel
theorem twoQ_23:((8388608:Int):Rat)=twoQ 23:=by decide +kernel
theorem fbl_of_len {q:Rat}{n k:Nat}(h:(ratText q).length≤n)(hk:4*n≤k)(hk1:1≤k):FB k q:=by
 have ab:∀ m,10^m≤2^(4*m):=fun m=>by
  rw[Nat.pow_mul];exact Nat.pow_le_pow_left (by decide) m
 have aa:∀ m,m≤n→10^m≤2^k:=fun m hm=>Nat.le_trans (ab m) (Nat.pow_le_pow_right (by omega) (by omega))
 have dl:∀ u:Nat,(decDigits u).length≤n→u < 2^k:=fun u hu=>by
  have h0:u < 10^(decDigits u).length:=by
   rw[decDigits_length];exact (nDigits_le_iff (k:=nDigits u) (by rw[←decDigits_length];exact List.length_pos_iff.2 (decDigits_ne_nil u))).1 (Nat.le_refl _)
  exact Nat.lt_of_lt_of_le h0 (aa _ hu)
 have il:(decDigits q.num.natAbs).length≤(itoa q.num).length:=by
  rcases Int.lt_or_le q.num 0 with hz | hz
  ·rw[show q.num= -(q.num.natAbs:Int) by omega,Big.itoa_neg (by omega)];simp
  ·rw[show q.num=(q.num.natAbs:Int) by omega,Big.itoa_nonneg];simp
 unfold ratText at h;split at h
 ·rename_i hd;exact ⟨dl _ (by omega),by unfold BdK;rw[hd];exact Nat.one_lt_two_pow (by omega)⟩
 ·rw[List.length_append,List.length_cons] at h;exact ⟨dl _ (by omega),by unfold BdK;rw[Int.natAbs_natCast];exact dl _ (by omega)⟩
theorem short_num {s:ByteArray}{n:Nat}(hl:s.size≤n)(he:ratErr s.data.toList=0)(h1:1≤n):∃ q:Rat,s=rs q∧FB (4*n) q:=by
 obtain ⟨q,hf,hq⟩:=ratText_of_err he;refine ⟨q,?_,fbl_of_len (n:=n) ?_ (Nat.le_refl _) (by omega)⟩
 ·apply ByteArray.ext;apply Array.toList_inj.1;rw[hq,rs_list]
 ·rw[←hq,Array.length_toList];exact hl
theorem RFB.sub {j k:Nat}{a b:Rat}(ha:RFB j a)(hb:RFB k b):RFB (j+k+1) (a - b):=by
 rw[Rat.sub_eq_add_neg];exact ha.add hb.neg
theorem isPl_ex {x:Rat}(h0:0≤x):∃ j,IsPl x j:=by
 have aa:∃ n:Nat,x < ((2^(n+24):Nat):Rat):=by
  have h1:=Rat.lt_floor_add_one x;have ab:0≤x.floor:=Rat.le_floor_iff.2 h0;refine ⟨(x.floor+1).toNat,Std.lt_of_lt_of_le h1 ?_⟩;have h2:(x.floor+1).toNat≤2^((x.floor+1).toNat+24):=Nat.le_of_lt (Nat.lt_of_lt_of_le Nat.lt_two_pow_self (Nat.pow_le_pow_right (by omega) (by omega)))
  have h3:x.floor+1=(((x.floor+1).toNat:Nat):Int):=by omega
  rw[h3,Rat.intCast_natCast];exact Rat.natCast_le_natCast.2 (by rw[Int.toNat_natCast];exact h2)
 obtain ⟨n,hn⟩:=aa
 induction n with
 | zero=>exact ⟨0,hn,.inl rfl⟩
 | succ n ih=>
  by_cases h:x < ((2^(n+24):Nat):Rat)
  ·exact ih h
  ·exact ⟨n+1,hn,.inr (by rw[show n+1+23=n+24 by omega];exact Rat.not_lt.1 h)⟩
theorem absR_nonneg (q:Rat):0≤absR q:=by unfold absR;split <;> grind
theorem nearF_ex (q:Rat):∃ R,NearF q R:=by
 have h0:0≤absR q*twoQ 149:=Rat.mul_nonneg (absR_nonneg q) (Rat.le_of_lt (twoQ_pos 149));obtain ⟨j,hj⟩:=isPl_ex h0;obtain ⟨R,hR, -⟩:=near_rung h0 hj;exact ⟨R,⟨j,hj,hR⟩⟩
theorem NearF.all {q:Rat}{R:Nat}(h:NearF q R)(r:Nat):absR (absR q*twoQ 149 - (V Ieee.single R:Rat))≤absR (absR q*twoQ 149 - (V Ieee.single r:Rat)):=by
 obtain ⟨j,h1,h2⟩:=h;refine near_all h1.lo ?_ r;have:=congrArg (fun z:Int=>(z:Rat)) h2;rw[Rat.intCast_mul] at this;exact this
theorem NearF.zero {R:Nat}(h:NearF 0 R):R=0:=by
 have h1:=h.all 0
 have e0:V Ieee.single 0=0:=by decide +kernel
 rw[e0]at h1
 have e1:absR 0=0:=by unfold absR;split <;> grind
 rw[e1,Rat.zero_mul]at h1;have e2:((0:Nat):Rat)=0:=rfl;rw[e2,Rat.sub_self,e1] at h1
 have h2:(0:Rat)≤(V Ieee.single R:Rat):=by
  have:((0:Nat):Rat)≤((V Ieee.single R:Nat):Rat):=Rat.natCast_le_natCast.2 (Nat.zero_le _);exact this
 have h3:(V Ieee.single R:Rat)=0:=by
  unfold absR at h1;split at h1 <;> grind
 have h4:V Ieee.single R=0:=by
  have:((V Ieee.single R:Nat):Rat)=((0:Nat):Rat):=h3;exact Rat.natCast_inj.1 this
 exact V_inj Ieee.single (by rw[h4,e0])
def sg (s:Bool)(R:Nat):Int:=if s then -(V Ieee.single R:Int) else (V Ieee.single R:Int)
theorem NearF.best {q:Rat}{R:Nat}(h:NearF q R)(s:Bool)(r:Nat):absR (q*twoQ 149 - ((sg (decide (q < 0)) R:Int):Rat))≤absR (q*twoQ 149 - ((sg s r:Int):Rat)):=by
 have h1:=h.all r;have p:=twoQ_pos 149;have v0:(0:Rat)≤(V Ieee.single R:Rat):=Rat.natCast_nonneg;have v1:(0:Rat)≤(V Ieee.single r:Rat):=Rat.natCast_nonneg
 have e:∀ (t:Bool) (m:Nat),((sg t m:Int):Rat)=if t=true then -(V Ieee.single m:Rat) else (V Ieee.single m:Rat):=fun t m=>by
  unfold sg
  cases t
  ·rfl
  ·rw[if_pos rfl,if_pos rfl,Rat.intCast_neg];rfl
 rw[e,e];generalize (V Ieee.single R:Rat)=X at h1 v0⊢;generalize (V Ieee.single r:Rat)=Y at h1 v1⊢;by_cases hq:q < 0
 ·have ea:absR q= -q:=by unfold absR;rw[if_pos hq]
  rw[ea]at h1;have hz:0 < -q*twoQ 149:=Rat.mul_pos (by grind) p
  have ez: -q*twoQ 149= -(q*twoQ 149):=by grind
  rw[ez]at h1 hz;generalize q*twoQ 149=Z at h1 hz⊢;rw[decide_eq_true hq,if_pos rfl]
  cases s
  ·rw[if_neg (by decide)];unfold absR at h1⊢;split at h1 <;> split at h1 <;> split <;> split <;> grind
  ·rw[if_pos rfl];unfold absR at h1⊢;split at h1 <;> split at h1 <;> split <;> split <;> grind
 ·have ea:absR q=q:=by unfold absR;rw[if_neg hq]
  rw[ea]at h1;have hz:0≤q*twoQ 149:=Rat.mul_nonneg (Rat.not_lt.1 hq) (Rat.le_of_lt p);generalize q*twoQ 149=Z at h1 hz⊢;rw[decide_eq_false hq,if_neg (by decide)]
  cases s
  ·rw[if_neg (by decide)];exact h1
  ·rw[if_pos rfl];unfold absR at h1⊢;split at h1 <;> split at h1 <;> split <;> split <;> grind
theorem fbs_len {x:Rat}{k:Nat}(h:FB k x)(hk:k≤1800):(rs x).size≤100000:=by have:=(RFB.of h).len;omega
end Go.Proofs.YtnjonlnemagomaaGreatDoor
