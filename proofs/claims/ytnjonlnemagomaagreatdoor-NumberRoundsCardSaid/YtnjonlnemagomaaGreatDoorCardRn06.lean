/- Part CardRn06. -/
import Derived.Maps.OwnOps
import Derived.Lib.SmallJoins
import Derived.Maps.AppendAt
import Derived.Laws.AppendOwnNone
import Derived.Test.YtnjonlnemagomaaGreatDoorB31
import Derived.Test.YtnjonlnemagomaaGreatDoorB32
import Derived.Test.YtnjonlnemagomaaGreatDoorCardRn05
namespace Go.Proofs.YtnjonlnemagomaaGreatDoor
open Go.RowKit Big Go.Lib Go.ChangeShapes Go.WideShapes Go.Deep Go.Joins Flo Go.Proofs.Tryz
set_option maxRecDepth 100000
set_option maxHeartbeats 8000000
set_option linter.all false
theorem cmp_lt (a b:Int):(some (compare a b)==some Ordering.lt)=decide (a < b):=by
 rw[Flo.compare_int];by_cases h1:a < b
 ·rw[if_pos h1,decide_eq_true h1];rfl
 ·rw[if_neg h1,decide_eq_false h1];by_cases h2:a=b
  ·rw[if_pos h2];rfl
  ·rw[if_neg h2];rfl
theorem rparted_calls (x:Nat)(w:World)(h:x < 2139095040):
  Calls prog 132 #[.float .f32 x] w fun e w'=>(∃ n i j:Nat,n < 16777216∧i≤149∧j≤104∧((n:Int):Rat)*stepQ ((j:Int) - (i:Int))=fq x∧e=.returned (.tuple #[.int .i64 (n:Int),.int .i64 ((j:Int) - (i:Int))]))∧w'=w:=by
 have af:=fun (n i j:Nat) hh=>part_val (x:=x) (n:=n) (i:=i) (j:=j) h hh;obtain ⟨U,hU⟩:∃ U,U=2^149:=⟨_,rfl⟩;obtain ⟨V,hV⟩:∃ V,Flo.V Ieee.single=V:=⟨_,rfl⟩
 have a2:∀ y,16777216≤y→V y=V (y - 8388608)*2:=fun y hy=>by
  have:=Flo.V_up (x:=y - 8388608) (by omega);rw[Nat.sub_add_cancel (by omega),hV] at this;omega
 have a4:∀ y,y < 2139095040→geqF y 1266679808=decide (1266679808≤y):=fun y hy=>by
  unfold geqF;rw[ord_pos hy (by omega),cmp_gt,cmp_eq];rw[Bool.eq_iff_iff,Bool.or_eq_true,decide_eq_true_eq,decide_eq_true_eq,decide_eq_true_eq];constructor
  ·intro hh;rcases Nat.lt_or_ge y 1266679808 with h1 | h1
   ·have:=Flo.V_lt Ieee.single h1;omega
   ·exact h1
  ·intro hh;have:=Flo.V_le Ieee.single hh;omega
 have ab:∀ y,1266679808≤y→y < 2139095040→∀ W,(binOp .quo 62 (.float .f32 y) (.float .f32 1073741824)).run prog W=.ok (.float .f32 (y - 8388608)) W:=fun y h1 h2 W=>run_float_arith W .quo 62 .f32 _ _ _ (Flo.shalve (y:=y - 8388608) (by omega) (by omega) h2)
 have ac:∀ y,y < 1266679808→V y < 16777216*U:=fun y hy=>by
  have:=Flo.V_lt Ieee.single hy;rw[Flo.one_unit,←hU,hV] at this;exact this
 have ai:∀ z,z≠0→z < 1258291200→(∀ W,(binOp .mul 62 (.float .f32 z) (.float .f32 1073741824)).run prog W=.ok (.float .f32 (Flo.dbl z)) W)∧V (Flo.dbl z)=V z*2:=fun z h1 h2=>⟨fun W=>run_float_arith W .mul 62 .f32 _ _ _ (Flo.sdouble h1 (by omega)),by rw[←hV,Flo.V_dbl];omega⟩;have a9:∀ z,V z < 16777216*U→z < 1266679808:=fun z hz=>Flo.inf_lt (by rw[hV,←hU];exact hz)
 have aj:∀ z,z < 1266679808→∃ r n:Nat,n < 16777216∧r < 1266679808∧n=V z / U∧V r=n*U∧floatToIntVal .f32 z .i64=some (n:Int)∧floatOfInt .f32 (n:Int)=r:=fun z hz=>by
  have h1:=Flo.stoInt hz;have h2:=ac z hz;have h3:V z / U < 16777216:=Nat.div_lt_of_lt_mul (by rw[Nat.mul_comm];exact h2);rw[hV,←hU] at h1;obtain ⟨r,hr,he,hv⟩:=Flo.sofInt h3;rw[hV,←hU] at hv;exact ⟨r,_,h3,hr,rfl,hv,h1,he⟩
 have ae:∀ z,V z < 16777216*U→¬V z % U=0→V z*2 < 16777216*U∧z≠0∧z < 1258291200:=fun z h1 h2=>by
  rw[←hV]at h1 h2⊢;exact part_step hU h1 h2
 have ak:∀ z r,z < 1266679808→r < 1266679808→(FloatKind.f32.format.order z r==some .eq)=decide (V z=V r):=fun z r h1 h2=>by
  rw[ord_pos (by omega) (by omega),cmp_eq,hV];exact decide_eq_decide.2 (by omega)
 simp only[hV,←hU]at af
 have a3:∀ v i:Nat,149≤i→v*2^i % U=0:=fun v i hi=>by
  obtain ⟨k,rfl⟩:∃ k,i=149+k:=⟨i - 149,by omega⟩;rw[hU,Nat.pow_add,Nat.mul_left_comm];exact Nat.mul_mod_right _ _
 clear hV hU;refine zh12 ?_ af a2 a4 ab ac ai a9 aj ae ak h a3;clear af a2 a4 ab ac ai a9 aj ae ak h a3;intro a1 bj av am ax au a0 aw ao ay H be;go_in;go_wp2_with fail;go_loopw [0,4] (fun f k wr=>∃ (y j:Nat) (K:Int),Hid (K=(j:Int)∧y+8388608*j=x∧V x=V y*2^j∧j≤104)∧f=.float .f32 y∧k=.int .i64 K∧Hid (wr=w)) (fun _ k _=>(105 - RowKit.intOf k).toNat)
 case atStart=>exact ⟨x,0,0,hid ⟨rfl,by omega,by rw[Nat.pow_zero,Nat.mul_one],by omega⟩,rfl,rfl,hid (by first | trivial | rfl)⟩
 case round=>
  obtain ⟨y,j,K,HI,rfl,rfl,HW⟩:=hrel;rw[HW.out];obtain ⟨hK,bb,ah,hj⟩:=HI.out;have hx:=H.out
  have bl:0≤K:=by omega
  have bk:K≤104:=by omega
  by_cases hlt:1266679808≤y
  ·have hg:=av.out y (by omega);rw[decide_eq_true hlt] at hg;unfold geqF at hg;have hr:=am.out y hlt (by omega);have hv:=bj.out y (by omega);obtain ⟨y1,ba⟩:∃ q,y - 8388608=q:=⟨_,rfl⟩;rw[ba] at hr hv
   have an:Hid (K+1=((j+1:Nat):Int)∧y1+8388608*(j+1)=x∧V x=V y1*2^(j+1)∧j+1≤104):=by
    refine hid ⟨by omega,by omega,?_,by omega⟩;rw[ah,hv,Nat.pow_succ,Nat.mul_comm (2^j),Nat.mul_assoc]
   clear HI bb ah hlt ba hv hK hj hx;go_wp2_with fail;go_roundw
   case rel=>exact ⟨y1,j+1,K+1,an,rfl,rfl,hid (by first | trivial | rfl)⟩
   case measure=>simp[RowKit.intOf];omega
  ·have hg:=av.out y (by omega);rw[decide_eq_false hlt] at hg;unfold geqF at hg;rw[Bool.or_eq_false_iff] at hg;obtain ⟨bo,bp⟩:=hg;have aq:=ax.out y (by omega);replace aq:=hid aq;clear HI bb hlt hx;refine zh3 ?_ ah hj hK;clear ah hj hK;intro HV HJ bg;go_wp2_with fail;clear bo bp;go_loopw [0,4] (fun f k wr=>∃ (z i:Nat) (L:Int),Hid (L=(j:Int) - (i:Int)∧V z=V y*2^i∧i≤149∧V z < 16777216*U)∧f=.float .f32 z∧k=.int .i64 L∧Hid (wr=w)) (fun _ k _=>(150+RowKit.intOf k).toNat)
   case atStart=>exact ⟨y,0,K,hid ⟨by have:=bg.out;omega,by rw[Nat.pow_zero,Nat.mul_one],by omega,aq.out⟩,rfl,rfl,hid (by first | trivial | rfl)⟩
   case round=>
    clear bl bk;obtain ⟨z,i,L,HI,rfl,rfl,HW⟩:=hrel;rw[HW.out];obtain ⟨hL,aa,hi,ag⟩:=HI.out;have hj:=HJ.out
    have bm: -149≤L:=by omega
    have bt:L≤104:=by omega
    obtain ⟨r,n,hn,hr,ar,ad,bn,bv⟩:=aw.out z (a0.out z ag);have bu:=fun W=>run_convert_float_int (P:=prog) W 62 3 .f32 .i64 z n (by kernel_rfl) underlying3 bn;have hq:=ay.out z r (a0.out z ag) hr;by_cases hd:V z % U=0
    ·have e:V z=V r:=by
      rw[ad,ar];have:=Nat.div_add_mod (V z) U;rw[hd,Nat.add_zero,Nat.mul_comm] at this;exact this.symm
     rw[decide_eq_true e]at hq
     replace hq:(FloatKind.f32.format.order z r != some .eq)=false:=by unfold bne;rw[hq];rfl
     have al:=a1.out n i j (by rw[HV.out,Nat.mul_right_comm,←aa,e,ad]);refine zh4 ?_ al hn hi hL;clear HI aa ag hn hr ar ad hd e al hi hL hj;intro az bi bf bh;go_wp2_with fail;go_ret2;exact ⟨⟨n,i,j,bi,bf,HJ,az,by rw[←bh.out];rfl⟩,rfl⟩
    ·have e:¬V z=V r:=by
      intro e;apply hd;rw[e,ad];exact Nat.mul_mod_left _ _
     rw[decide_eq_false e]at hq
     replace hq:(FloatKind.f32.format.order z r != some .eq)=true:=by unfold bne;rw[hq];rfl
     obtain ⟨bq,a7,a8⟩:=ao.out z ag hd;obtain ⟨a6,ap⟩:=au.out z a7 a8;obtain ⟨z1,bc⟩:∃ q,Flo.dbl z=q:=⟨_,rfl⟩;rw[bc] at a6 ap
     have a5:i < 149:=by
      rcases Nat.lt_or_ge i 149 with h | h
      ·exact h
      ·rw[aa] at hd;exact absurd (be _ _ h) hd
     have an:Hid (L - 1=(j:Int) - ((i+1:Nat):Int)∧V z1=V y*2^(i+1)∧i+1≤149∧V z1 < 16777216*U):=by
      refine hid ⟨by omega,?_,a5,by omega⟩;rw[ap,aa,Nat.pow_succ,Nat.mul_assoc]
     have br: -149≤L - 1:=by omega
     clear HI aa ag hn hr ar ad hd e hi hL hj bq a7 a8 ap bc a5 bm;go_wp2_with fail;go_roundw
     case rel=>exact ⟨z1,i+1,L - 1,an,rfl,rfl,hid (by first | trivial | rfl)⟩
     case measure=>simp[RowKit.intOf];omega
theorem stepQ_rfb {i j:Nat}(hi:i≤149)(hj:j≤149):RFB 150 (stepQ ((j:Int) - (i:Int))):=by
 rw[stepQ_div]
 have p:∀ n:Nat,n≤149→((2:Int)^n).natAbs < 2^150:=fun n hn=>by
  rw[Int.natAbs_pow];exact Nat.pow_lt_pow_right (by decide) (by omega)
 exact RFB.divInt (p j hj) (p i hi) (Int.ne_of_gt (Int.pow_pos (by decide)))
theorem rexact_pos (x:Nat)(w:World)(h:x < 2139095040):Calls prog 46 #[.float .f32 x] w (RetS w (fq x)):=by
 have hp:=fun W=>rparted_calls x W h
 have ag:(FloatKind.f32.format.order x 0==some .lt)=false:=by
  rw[ord_pos h (by omega),cmp_lt,Flo.V_zero];exact decide_eq_false (by omega)
 clear h;replace hp:=hid hp;go_in;go_wp2_with fail;refine (hp _).mono ?_;rintro e w1 ⟨⟨n,i,j,hn,hi,hj,hv,rfl⟩,hw⟩;rw[hw];clear hw;have ac:=fun W=>(rfromInt_calls (n:Int) W (by omega) (by omega)).mono fun e w' h=>RetS.to rfl h;have ab:=fun W=>(rpow2_calls ((j:Int) - (i:Int)) W (by omega) (by omega)).mono fun e w' h=>RetS.to rfl h;have aa:=fun W=>(rmulQ_calls 25 150 ((n:Int):Rat) (stepQ ((j:Int) - (i:Int))) W (rfb_int (by omega) (by omega)) (stepQ_rfb hi (by omega)) (by omega));rw[hv] at aa;obtain ⟨A,hA⟩:∃ A,rs ((n:Int):Rat)=A:=⟨_,rfl⟩;obtain ⟨B,hB⟩:∃ A,rs (stepQ ((j:Int) - (i:Int)))=A:=⟨_,rfl⟩;rw[hA] at ac aa;rw[hB] at ab aa;obtain ⟨k,hk⟩:∃ k,(j:Int) - (i:Int)=k:=⟨_,rfl⟩;rw[hk] at ab⊢;clear hA hB hk hv hn hi hj ag;refine zh4 ?_ (New.refl w) ac ab aa;clear ac ab aa;intro HN ad af ae;go_wp2_with fail;refine zM (ad _) fun w2 hn=>?_;replace HN:=tW HN hn;clear hn;go_wp2_with fail;refine zM (af _) fun w3 hn=>?_;replace HN:=tW HN hn;clear hn;go_wp2_with fail;refine zM (ae _) fun w4 hn=>?_;replace HN:=tW HN hn;clear hn;go_wp2_with fail;go_ret;exact ⟨rfl,HN⟩
theorem fq_rfb {x:Nat}(hx:x < 2139095040):RFB 280 (fq x):=by
 unfold fq;rw[(pos_float hx).2.2.2];have h1:=Flo.V_lt Ieee.single hx
 have h2:Flo.V Ieee.single 2139095040 < 2^280:=by decide +kernel
 exact RFB.divInt (by rw[Int.natAbs_natCast];exact Nat.lt_trans h1 h2) (by decide +kernel) (by decide)
theorem rfin_calls (b:Nat)(w:World):Calls prog 39 #[.float .f32 b] w (FinPost w (isFin b)):=by
 cases h:isFin b with
 | true=>
  have aa:=fun W=>run_float_arith (P:=prog) W .sub 62 .f32 b b 0 (sub_self_fin h)
  have ho:(FloatKind.f32.format.order 0 0==some .eq)=true:=by decide
  have H:=hid h;clear h;go_in;go_wp2_with fail;go_ret;exact ⟨rfl,0,rfl⟩
 | false=>
  have aa:=fun W=>nan_run (P:=prog) 62 b h W;have ho:=fun W=>nan_order W b 0;replace h:=hid h;go_in;go_wp2_with fail;go_ret;exact ⟨rfl,1,rfl⟩
theorem rfin_new (b:Nat)(w:World):Calls prog 39 #[.float .f32 b] w fun e w'=>e=.returned (.bool (isFin b))∧New w w':=
 (rfin_calls b w).mono fun e w' h=>by
  obtain ⟨rfl,n,rfl⟩:=h;exact ⟨rfl,(New.refl _).drewN n⟩
section
variable {H:Type} {enc:TypeId × Value→H} {P:Program} {w:World} {base:Nat} {sp:Nat→Bool} {held:Bool}
theorem in_str {r:Reach}{b0:Nat}{t:TypeId}{v:Value}{d:DataW H}{p:List MemPlace}(ht:P.underlying t=some .string)(hval:Value.okWide P w r b0 t v)(hd:DataW.Trod enc P w base sp held t v d p):
  ∃ s:ByteArray,v=.string s∧s.size≤9223372036854775807:=by
 obtain ⟨s,rfl⟩:=okWide_string ht hval;obtain ⟨aa,hf⟩:=hd;obtain ⟨s',h,_,hs⟩:=DataW.trod_string ht hf;simp[Value.cells] at h;subst h;exact ⟨_,rfl,hs⟩
end
section
variable {H:Type} {enc:TypeId × Value→H} {P:Program} {w:World} {base:Nat} {sp:Nat→Bool} {held:Bool}
theorem in_flt {t:TypeId}{r:Reach}{b0:Nat}{v:Value}{d:DataW H}{p:List MemPlace}(ht:P.underlying t=some (.float .f32))(hval:Value.okWide P w r b0 t v)(hd:DataW.Trod enc P w base sp held t v d p):∃ x:Nat,v=.float .f32 x∧x < 4294967296:=by
 obtain ⟨b,rfl⟩:∃ b,v=.float .f32 b:=by
  simp only[Value.okWide,ht,Cell.okWide]at hval
  cases v <;> simp_all [Cell.ok]
 obtain ⟨aa,hf⟩:=hd;refine ⟨b,rfl,?_⟩
 cases aa with
 | zero=>simp[DataW.trod] at hf
 | succ n=>
  simp[DataW.trod,Value.cells,ht]at hf;obtain ⟨hw, -⟩:=hf;simp[Lit.wf] at hw;omega
end
theorem rden_calls (s:ByteArray)(w:World)(hl:s.size≤1000000):Calls prog 111 #[.string s] w fun e w'=>(∃ d:ByteArray,d.size≤1000000∧e=.returned (.string d))∧New w w':=by
 have aa:=fun W=>rslash_calls s W hl;have ac:=sl_len s.data.toList
 have ad:s.data.toList.length=s.size:=by simp
 rw[ad]at ac;obtain ⟨m,hm⟩:∃ m,(upTo s.data.toList).length=m:=⟨_,rfl⟩;rw[hm] at ac;simp only[hm] at aa;clear hm ad;by_cases h:m=s.size
 ·have hb:((m:Int)==(s.size:Int))=true:=by rw[h];exact beq_self_eq_true _
  clear ac;have af:=hid aa;have H:=hid h;clear aa h;go_in;go_wp2_with fail;refine (af _).mono ?_;rintro e w1 ⟨rfl,ab⟩;rw[ab];clear ab;go_wp2_with fail;go_ret;exact ⟨⟨_,by decide,rfl⟩,New.refl _⟩
 ·have hb:((m:Int)==(s.size:Int))=false:=beq_false_of_ne (by omega);obtain ⟨m1,ag⟩:∃ z,m+1=z:=⟨_,rfl⟩
  have ah:(m:Int)+1=(m1:Int):=by omega
  have ai:(m1:Int)≤(s.size:Int):=by omega
  have aj:(s.size:Int)≤1000000:=by omega
  have ak:IntKind.i64.wrap (m1:Int)=(m1:Int):=by rw[IntKind.wrap_i64];omega
  have ae:(s.extract m1 s.size).size≤1000000:=by simp;omega
  clear ac h ag;replace aa:=hid aa;replace ae:=hid ae;go_in;go_wp2_with fail;refine (aa _).mono ?_;rintro e w1 ⟨rfl,ab⟩;rw[ab];clear ab;go_wp2_with fail;go_ret;exact ⟨⟨_,ae,rfl⟩,New.refl _⟩
theorem eight_tenN {k n:Nat}(h:k≤3*n):2^k≤10^n:=Nat.le_trans (Nat.pow_le_pow_right (by omega) h) (by
 rw[Nat.pow_mul]
 exact Nat.pow_le_pow_left (by decide) n)
theorem fitsN_of {k n:Nat}{q:Rat}(h:FB k q)(hk:k≤3*n):q.num.natAbs < 10^n∧q.den < 10^n:=by
 have h3:q.num.natAbs < 2^k:=h.num
 have h4:q.den < 2^k:=by simpa[BdK] using h.den
 exact ⟨Nat.lt_of_lt_of_le h3 (eight_tenN hk),Nat.lt_of_lt_of_le h4 (eight_tenN hk)⟩
theorem FB.fitsN {k:Nat}{q:Rat}(h:FB k q)(hk:k≤1800):Fits q:=Fits.iff.2 (fitsN_of (n:=600) h (by omega))
theorem csgn_lt {x y:Rat}(h:x < y):(x - y).num.sign= -1:=by
 have h1:¬(y - x).num.sign≤0:=by rw[sign_le];exact Rat.not_le.2 h
 have h2:(x - y).num= -(y - x).num:=by rw[←Rat.neg_sub,Rat.neg_num]
 rw[h2,Int.sign_neg];rcases Int.lt_trichotomy (y - x).num 0 with h3 | h3 | h3
 ·rw[Int.sign_eq_neg_one_of_neg h3] at h1;omega
 ·rw[h3] at h1;exact absurd (by decide) h1
 ·rw[Int.sign_eq_one_of_pos h3]
theorem nfloat_zero (s:ByteArray)(q:Rat)(hs:s.data.toList=ratText q)(hf:Fits q)(hl:s.size≤100000)(h0:q.num=0)(w:World)(he:Env w):Calls prog 41 #[.string s] w (FltPost w 0 0):=by
 have aa:=fun W hW=>check_calls s W hW hl;rw[hs,ratErr_ratText hf] at aa;have ab:=fun W hW=>from_calls s q W hW hs (by omega)
 have ht:q.num.sign=0:=by rw[h0];rfl
 clear hs hf hl h0;unfold FltPost;refine zh4 ?_ he aa ab ht;clear he aa ab ht;intro HE ac ad ae;go_in;go_wp2_with fail;refine zM (ac _ HE) fun w1 hn=>?_;have HN:=hid hn;clear hn;go_upto_region 4 with (fail);go_wp2_with fail;refine zS (ad _ (HE.new HN)) fun w2 s2 a2 l2 c2 t2 d2 m2 k2 hn hf=>?_;have HF:=hid hf;clear hf;replace HN:=tW HN hn;clear hn;go_upto_region 5 with (fail);obtain ⟨BX,hn⟩:=lay1 w2 115 #[.int .i64 s2,.slice a2 l2 c2,.int .i64 t2,.slice d2 m2 k2];obtain ⟨HN,HF⟩:=zn2 hn HN HF.new;clear hn;have pa:=BX.out.four;go_wp2_with fail;refine zM (fsign_calls _ q _ HF) fun w3 hn=>?_;rw[ae.out];clear pa;obtain ⟨HN,BX,HF⟩:=zn3 hn HN BX.new HF.new;clear hn;go_wp2_with fail;go_ret2;exact ⟨rfl,HN⟩
def FewP40 (v:ByteArray)(w:World)(e:Ending)(w':World):Prop:=(∃ t:Bool,e=.returned (.bool t)∧(t=true→v.size≤82∧ratErr v.data.toList=0))∧New w w'
theorem rfew40_calls (v:ByteArray)(w:World)(hl:(v.size:Int)≤9223372036854775807):Calls prog 30 #[.string v,.int .i64 40] w (FewP40 v w):=by
 by_cases h1:v.size≤82
 ·have ac:(v.size:Int)≤82:=by omega
  have al:decide ((v.size:Int)≤82)=true:=decide_eq_true ac;have aa:=fun W=>rcheck_calls v W (by omega);have HS:=hid h1;obtain ⟨r,hr⟩:∃ r,ratErr v.data.toList=r:=⟨_,rfl⟩;simp only[hr] at aa;by_cases h0:r=0
  ·subst h0;obtain ⟨q,hf,hv⟩:=ratText_of_err hr
   have ag:v=rs q:=by
    apply ByteArray.ext;apply Array.toList_inj.1;rw[hv,rs_list]
   have hb:RFB 2000 q:=RFB.of (Fits.fb hf);have ab:RFB 2000 ((q.num:Int):Rat):=rfb_int hb.num (by omega);have ae:=fun W=>(rnum_calls 2000 q W hb (by omega)).mono fun e w' h=>RetS.to rfl h;have ad:=fun W=>(rabs_calls ((q.num:Int):Rat) W (by have:=ab.len;omega)).mono fun e w' h=>RetS.to rfl h;have af:=fun W=>rden_calls v W (by omega);obtain ⟨B,hB⟩:∃ B,rs ((q.num:Int):Rat)=B:=⟨_,rfl⟩;obtain ⟨D,hD⟩:∃ B,rs (absQ ((q.num:Int):Rat))=B:=⟨_,rfl⟩
   have an:D.size≤10000:=by
    rw[←hD]
    have:RFB 2000 (absQ ((q.num:Int):Rat)):=by
     unfold absQ;split
     ·exact ab.neg
     ·exact ab
    have:=this.len;omega
   have ap:(D.size:Int)≤10000:=by omega
   simp only[←ag,hB]at ae;simp only[hB,hD] at ad;clear hB hD hb ab ag hf hv an h1;refine zh6 ?_ (New.refl w) aa ae ad af hr;clear aa ae ad af hr;intro HN ai ak ah aj HR;go_in;go_wp2_with fail;refine zM (ai _) fun w1 hn=>?_;replace HN:=tW HN hn;clear hn;go_wp2_with fail;refine zM (ak _) fun w2 hn=>?_;replace HN:=tW HN hn;clear hn;go_wp2_with fail;refine zM (ah _) fun w3 hn=>?_;replace HN:=tW HN hn;clear hn;by_cases h2:(D.size:Int)≤40
   ·have am:decide ((D.size:Int)≤40)=true:=decide_eq_true h2;go_wp2_with fail;refine (aj _).mono ?_;rintro e w4 ⟨⟨d,hd,rfl⟩,hn⟩
    have aq:(d.size:Int)≤1000000:=by omega
    clear hd;replace HN:=tW HN hn;clear hn;go_wp2_with fail;go_ret;exact ⟨⟨_,rfl,fun _=>⟨HS,HR⟩⟩,HN⟩
   ·have am:decide ((D.size:Int)≤40)=false:=decide_eq_false h2;go_wp2_with fail;go_ret;exact ⟨⟨_,rfl,fun h=>by cases h⟩,HN⟩
  ·have ao:(r==0)=false:=beq_false_of_ne h0;have HN:=hid (New.refl w);clear hr h0 h1;replace aa:=hid aa;go_in;go_wp2_with fail;refine zM (aa _) fun w1 hn=>?_;replace HN:=tW HN hn;clear hn;go_wp2_with fail;go_ret;exact ⟨⟨_,rfl,fun h=>by cases h⟩,HN⟩
 ·have ac:¬(v.size:Int)≤82:=by omega
  have al:decide ((v.size:Int)≤82)=false:=decide_eq_false ac;clear h1;go_in;go_wp2_with fail;go_ret;exact ⟨⟨_,rfl,fun h=>by cases h⟩,New.refl _⟩
theorem sread_low {x:Nat}(h:x < 16777216):Ieee.single.read x=.number false x (-149):=by
 unfold Ieee.Format.read;simp only;rw[ssw,sbin,sinf,slp]
 have e1:x / 2147483648 % 2=0:=by omega
 have e2:x % 2147483648=x:=by omega
 rw[e1,e2];by_cases hb:x < 8388608
 ·rw[if_pos hb];rfl
 ·rw[if_neg hb,if_pos (by omega)]
  have e3:x / 8388608=1:=by omega
  have e4:8388608+x % 8388608=x:=by omega
  rw[e3,e4];rfl
theorem shalve_low {y:Nat}(h0:y≠0)(h:y < 8388608):Ieee.single.div (2*y) 1073741824=some y:=by
 have h3:Ieee.single.read 1073741824=.number false 8388608 (-22):=by decide
 have h1:=sread_low (x:=2*y) (by omega)
 have aa:2*y≠0:=by omega
 have hl:=log2_small aa (by omega)
 have e0:(8388608:Nat).log2=23:=by decide
 have hv:=V_low (x:=y) (by omega);unfold Ieee.Format.div;rw[h1,h3];obtain ⟨c,hc⟩:∃ c,25 - (2*y).log2=c:=⟨_,rfl⟩
 have e8:23+2+23 - (2*y).log2=23+c:=by omega
 have e1:(2*y) <<< (Ieee.single.fractionBits+2+(8388608:Nat).log2 - (2*y).log2)=8388608*(2*y*2^c):=by
  rw[e0,sfb,Nat.shiftLeft_eq,e8,Nat.pow_add,show (2:Nat)^23=8388608 by decide,Nat.mul_left_comm]
 have e2:8388608*(2*y*2^c) / 8388608=2*y*2^c:=Nat.mul_div_cancel_left _ (by decide);have e3:8388608*(2*y*2^c) % 8388608=0:=Nat.mul_mod_right _ _;unfold Ieee.Datum.quotient;simp only[show ¬(8388608:Nat)=0 by decide,if_false,Option.map_some];rw[e1,e2,e3,e0,sfb,e8];show some (Ieee.single.nearest (false ^^ false) (2*(2*y*2^c)+0) _)=_;rw[Bool.xor_false];refine congrArg some ?_;have hp:0 < 2^c:=Nat.two_pow_pos c
 have:=nearest_rung false (m:=2*(2*y*2^c)+0) (r:=y) (p:= -149 - -22 - ((23+c:Nat):Int) - 1) (by
  have:=Nat.mul_pos (show 0 < 2*y by omega) hp
  omega) (by omega)
 rw[this]
 ·rfl
 ·have e5:(-149 - -22 - ((23+c:Nat):Int) - 1+149).toNat=0:=by omega
  have e6:(-149 - (-149 - -22 - ((23+c:Nat):Int) - 1)).toNat=c+2:=by omega
  rw[e5,e6,hv,Nat.pow_zero,Nat.mul_one,Nat.pow_add,←Nat.mul_assoc y,Nat.mul_assoc 2 y];generalize y*2^c=X;omega
theorem shalve_dbl {y:Nat}(h:dbl y < 2139095040):Ieee.single.div (dbl y) 1073741824=some y:=by
 by_cases h0:y=0
 ·subst h0;decide
 by_cases hb:y < 8388608
 ·have e:dbl y=2*y:=by unfold dbl;rw[if_pos hb]
  rw[e];exact shalve_low h0 hb
 ·have e:dbl y=y+8388608:=by unfold dbl;rw[if_neg hb]
  rw[e]at h⊢;exact shalve rfl (by omega) h
theorem smul_dbl {x:Nat}(h:dbl x < 2139095040):Ieee.single.mul x 1073741824=some (dbl x):=by
 by_cases h0:x=0
 ·subst h0;decide
 ·exact sdouble h0 (by unfold dbl at h;split at h <;> omega)
theorem fbl_of_len {q:Rat}{n k:Nat}(h:(ratText q).length≤n)(hk:4*n≤k)(hk1:1≤k):FB k q:=by
 have ab:∀ m,10^m≤2^(4*m):=fun m=>by
  rw[Nat.pow_mul];exact Nat.pow_le_pow_left (by decide) m
 have aa:∀ m,m≤n→10^m≤2^k:=fun m hm=>Nat.le_trans (ab m) (Nat.pow_le_pow_right (by omega) (by omega))
 have dl:∀ u:Nat,(decDigits u).length≤n→u < 2^k:=fun u hu=>by
  have h0:u < 10^(decDigits u).length:=by
   rw[decDigits_length];exact (nDigits_le_iff (k:=nDigits u) (by rw[←decDigits_length];exact List.length_pos_iff.2 (decDigits_ne_nil u))).1 (Nat.le_refl _)
  exact Nat.lt_of_lt_of_le h0 (aa _ hu)
 have il:(decDigits q.num.natAbs).length≤(itoa q.num).length:=by
  rcases Int.lt_or_le q.num 0 with hz | hz
  ·rw[show q.num= -(q.num.natAbs:Int) by omega,Big.itoa_neg (by omega)];simp
  ·rw[show q.num=(q.num.natAbs:Int) by omega,Big.itoa_nonneg];simp
 unfold ratText at h;split at h
 ·rename_i hd;exact ⟨dl _ (by omega),by unfold BdK;rw[hd];exact Nat.one_lt_two_pow (by omega)⟩
 ·rw[List.length_append,List.length_cons] at h;exact ⟨dl _ (by omega),by unfold BdK;rw[Int.natAbs_natCast];exact dl _ (by omega)⟩
theorem short_num {s:ByteArray}{n:Nat}(hl:s.size≤n)(he:ratErr s.data.toList=0)(h1:1≤n):∃ q:Rat,s=rs q∧FB (4*n) q:=by
 obtain ⟨q,hf,hq⟩:=ratText_of_err he;refine ⟨q,?_,fbl_of_len (n:=n) ?_ (Nat.le_refl _) (by omega)⟩
 ·apply ByteArray.ext;apply Array.toList_inj.1;rw[hq,rs_list]
 ·rw[←hq,Array.length_toList];exact hl
theorem RFB.sub {j k:Nat}{a b:Rat}(ha:RFB j a)(hb:RFB k b):RFB (j+k+1) (a - b):=by
 rw[Rat.sub_eq_add_neg];exact ha.add hb.neg
theorem isPl_ex {x:Rat}(h0:0≤x):∃ j,IsPl x j:=by
 have aa:∃ n:Nat,x < ((2^(n+24):Nat):Rat):=by
  have h1:=Rat.lt_floor_add_one x;have ab:0≤x.floor:=Rat.le_floor_iff.2 h0;refine ⟨(x.floor+1).toNat,Std.lt_of_lt_of_le h1 ?_⟩;have h2:(x.floor+1).toNat≤2^((x.floor+1).toNat+24):=Nat.le_of_lt (Nat.lt_of_lt_of_le Nat.lt_two_pow_self (Nat.pow_le_pow_right (by omega) (by omega)))
  have h3:x.floor+1=(((x.floor+1).toNat:Nat):Int):=by omega
  rw[h3,Rat.intCast_natCast];exact Rat.natCast_le_natCast.2 (by rw[Int.toNat_natCast];exact h2)
 obtain ⟨n,hn⟩:=aa
 induction n with
 | zero=>exact ⟨0,hn,.inl rfl⟩
 | succ n ih=>
  by_cases h:x < ((2^(n+24):Nat):Rat)
  ·exact ih h
  ·exact ⟨n+1,hn,.inr (by rw[show n+1+23=n+24 by omega];exact Rat.not_lt.1 h)⟩
theorem absR_nonneg (q:Rat):0≤absR q:=by unfold absR;split <;> grind
theorem nearF_ex (q:Rat):∃ R,NearF q R:=by
 have h0:0≤absR q*twoQ 149:=Rat.mul_nonneg (absR_nonneg q) (Rat.le_of_lt (twoQ_pos 149));obtain ⟨j,hj⟩:=isPl_ex h0;obtain ⟨R,hR, -⟩:=near_rung h0 hj;exact ⟨R,⟨j,hj,hR⟩⟩
theorem NearF.unique {q:Rat}{R S:Nat}(h:NearF q R)(g:NearF q S):R=S:=by
 obtain ⟨j,h1,h2⟩:=h;obtain ⟨i,g1,g2⟩:=g;obtain rfl:=h1.unique g1;rw[←h2] at g2;exact (V_inj Ieee.single (by omega)).symm
theorem NearF.all {q:Rat}{R:Nat}(h:NearF q R)(r:Nat):absR (absR q*twoQ 149 - (V Ieee.single R:Rat))≤absR (absR q*twoQ 149 - (V Ieee.single r:Rat)):=by
 obtain ⟨j,h1,h2⟩:=h;refine near_all h1.lo ?_ r;have:=congrArg (fun z:Int=>(z:Rat)) h2;rw[Rat.intCast_mul] at this;exact this
theorem absR_neg (q:Rat):absR (-q)=absR q:=by unfold absR;split <;> split <;> grind
theorem NearF.neg {q:Rat}{R:Nat}(h:NearF q R):NearF (-q) R:=by
 obtain ⟨j,h1,h2⟩:=h;exact ⟨j,by rw[absR_neg];exact h1,by rw[absR_neg];exact h2⟩
theorem NearF.zero {R:Nat}(h:NearF 0 R):R=0:=by
 have h1:=h.all 0
 have e0:V Ieee.single 0=0:=by decide +kernel
 rw[e0]at h1
 have e1:absR 0=0:=by unfold absR;split <;> grind
 rw[e1,Rat.zero_mul]at h1;have e2:((0:Nat):Rat)=0:=rfl;rw[e2,Rat.sub_self,e1] at h1
 have h2:(0:Rat)≤(V Ieee.single R:Rat):=by
  have:((0:Nat):Rat)≤((V Ieee.single R:Nat):Rat):=Rat.natCast_le_natCast.2 (Nat.zero_le _);exact this
 have h3:(V Ieee.single R:Rat)=0:=by
  unfold absR at h1;split at h1 <;> grind
 have h4:V Ieee.single R=0:=by
  have:((V Ieee.single R:Nat):Rat)=((0:Nat):Rat):=h3;exact Rat.natCast_inj.1 this
 exact V_inj Ieee.single (by rw[h4,e0])
def sg (s:Bool)(R:Nat):Int:=if s then -(V Ieee.single R:Int) else (V Ieee.single R:Int)
theorem NearF.best {q:Rat}{R:Nat}(h:NearF q R)(s:Bool)(r:Nat):absR (q*twoQ 149 - ((sg (decide (q < 0)) R:Int):Rat))≤absR (q*twoQ 149 - ((sg s r:Int):Rat)):=by
 have h1:=h.all r;have p:=twoQ_pos 149;have v0:(0:Rat)≤(V Ieee.single R:Rat):=Rat.natCast_nonneg;have v1:(0:Rat)≤(V Ieee.single r:Rat):=Rat.natCast_nonneg
 have e:∀ (t:Bool) (m:Nat),((sg t m:Int):Rat)=if t=true then -(V Ieee.single m:Rat) else (V Ieee.single m:Rat):=fun t m=>by
  unfold sg
  cases t
  ·rfl
  ·rw[if_pos rfl,if_pos rfl,Rat.intCast_neg];rfl
 rw[e,e];generalize (V Ieee.single R:Rat)=X at h1 v0⊢;generalize (V Ieee.single r:Rat)=Y at h1 v1⊢;by_cases hq:q < 0
 ·have ea:absR q= -q:=by unfold absR;rw[if_pos hq]
  rw[ea]at h1;have hz:0 < -q*twoQ 149:=Rat.mul_pos (by grind) p
  have ez: -q*twoQ 149= -(q*twoQ 149):=by grind
  rw[ez]at h1 hz;generalize q*twoQ 149=Z at h1 hz⊢;rw[decide_eq_true hq,if_pos rfl]
  cases s
  ·rw[if_neg (by decide)];unfold absR at h1⊢;split at h1 <;> split at h1 <;> split <;> split <;> grind
  ·rw[if_pos rfl];unfold absR at h1⊢;split at h1 <;> split at h1 <;> split <;> split <;> grind
 ·have ea:absR q=q:=by unfold absR;rw[if_neg hq]
  rw[ea]at h1;have hz:0≤q*twoQ 149:=Rat.mul_nonneg (Rat.not_lt.1 hq) (Rat.le_of_lt p);generalize q*twoQ 149=Z at h1 hz⊢;rw[decide_eq_false hq,if_neg (by decide)]
  cases s
  ·rw[if_neg (by decide)];exact h1
  ·rw[if_pos rfl];unfold absR at h1⊢;split at h1 <;> split at h1 <;> split <;> split <;> grind
theorem NearF.mono {a b:Rat}{R S:Nat}(h:NearF a R)(g:NearF b S)(hab:a≤b):sg (decide (a < 0)) R≤sg (decide (b < 0)) S:=by
 rcases Int.lt_or_le (sg (decide (b < 0)) S) (sg (decide (a < 0)) R) with aa | ac
 ·have h1:=h.best (decide (b < 0)) S;have g1:=g.best (decide (a < 0)) R;have hl:((sg (decide (b < 0)) S:Int):Rat) < ((sg (decide (a < 0)) R:Int):Rat):=Rat.intCast_lt_intCast.2 aa;have p:=twoQ_pos 149
  have ad:b*twoQ 149≤a*twoQ 149:=by
   generalize ((sg (decide (b < 0)) S:Int):Rat)=Y at h1 g1 hl;generalize ((sg (decide (a < 0)) R:Int):Rat)=X at h1 g1 hl;generalize a*twoQ 149=A at h1⊢;generalize b*twoQ 149=B at g1⊢;unfold absR at h1 g1;split at h1 <;> split at h1 <;> split at g1 <;> split at g1 <;> grind
  have ab:b≤a:=Rat.le_of_mul_le_mul_right ad p;have e:a=b:=Rat.le_antisymm hab ab;subst e;rw[h.unique g] at aa;omega
 ·exact ac
theorem NearF.own {s:Bool}{y R:Nat}(hy:y < 2139095040)(h:NearF (fq (sw s y)) R):R=y:=by
 have hf:=(sw_fin s hy).2.2.2
 have e1:fq (sw s y)*twoQ 149=((sg s y:Int):Rat):=by
  unfold fq;rw[hf]
  have e:twoQ 149=(((2:Int)^149:Int):Rat):=by
   rw[show (149:Int)=((149:Nat):Int) from rfl,twoQ_cast];rfl
  rw[e,Rat.divInt_eq_div];exact Rat.div_mul_cancel (by decide +kernel)
 have h1:=h.best s y;rw[e1] at h1
 have e0:absR 0=0:=by unfold absR;split <;> grind
 rw[Rat.sub_self,e0]at h1
 have h2:((sg s y:Int):Rat)=((sg (decide (fq (sw s y) < 0)) R:Int):Rat):=by
  unfold absR at h1;split at h1 <;> grind
 have h3:sg s y=sg (decide (fq (sw s y) < 0)) R:=Rat.intCast_inj.1 h2
 have h4:V Ieee.single y=V Ieee.single R:=by
  unfold sg at h3;split at h3 <;> split at h3 <;> omega
 exact (V_inj Ieee.single h4).symm
theorem fbs_len {x:Rat}{k:Nat}(h:FB k x)(hk:k≤1800):(rs x).size≤100000:=by have:=(RFB.of h).len;omega
end Go.Proofs.YtnjonlnemagomaaGreatDoor
