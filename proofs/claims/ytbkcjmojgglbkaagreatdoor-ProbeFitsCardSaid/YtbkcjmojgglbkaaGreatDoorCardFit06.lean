/- Part CardFit06. -/
import Derived.Laws.FloatArith
import Derived.BigQuiet
import Derived.Deep.DeepCutAuto
import Derived.Deep.CutBlock
import Derived.Test.YtbkcjmojgglbkaaGreatDoorCardFit05
namespace Go.Proofs.YtbkcjmojgglbkaaGreatDoor
open Go.RowKit Big Go.Lib
set_option maxRecDepth 100000
set_option maxHeartbeats 8000000
theorem rcheckAdc_bw (b s z:Int) (g o:ByteArray) (w:World) (hgl:g.size≤9223372036854775807) (hb:outside b 8 12=false) (hs:outside s (-20) 4=false) (r:Int)
  (hz:(outside z 0 (2^b.toNat - 1)=true∧r=3)∨(outside z 0 (2^b.toNat - 1)=false∧r=ratErr g.data.toList∧r≠0)):
  Calls Tryz.prog 14 #[.agg #[.int .i64 b,.int .i64 s,.int .i64 z,.string g,.string o]] w (RetNew w r):=by
 have h1:¬b < 8:=by simp only[outside,Bool.or_eq_false_iff,decide_eq_false_iff_not] at hb;omega
 have h2:¬12 < b:=by simp only[outside,Bool.or_eq_false_iff,decide_eq_false_iff_not] at hb;omega
 have h3:¬s < -20:=by simp only[outside,Bool.or_eq_false_iff,decide_eq_false_iff_not] at hs;omega
 have h4:¬4 < s:=by simp only[outside,Bool.or_eq_false_iff,decide_eq_false_iff_not] at hs;omega
 have h1b:=decide_eq_false h1;have h2b:=decide_eq_false h2;have h3b:=decide_eq_false h3;have h4b:=decide_eq_false h4;have hcc:=fun W=>rcheckCode_calls b s z z g o W (by omega) (by omega);have hck:=fun W=>rcheck_wide g W (by omega);rcases hz with ⟨hz,rfl⟩ | ⟨hz,hr,hr0⟩
 ·rw[hz,if_pos rfl] at hcc;clear hb hs hz hck hgl;have HCC:=hid hcc;clear hcc;go_enter Tryz.func14,Tryz.ntmps14;go_upto_region 1 with (fail);obtain ⟨BA,HN⟩:=lay1 w 24 #[.int .i64 b,.int .i64 s,.int .i64 z,.string g,.string o];obtain ⟨⟨pa0,pa1,pa2,pa3,pa4⟩,pa5⟩:=BA.out.five;go_wp2_with fail;refine (HCC.out _).mono ?_;rintro e w1 ⟨rfl,hn⟩;clear pa0 pa1 pa2 pa3 pa4 pa5;replace BA:=bW BA hn;replace HN:=tW HN hn;clear hn;obtain ⟨⟨pa0,pa1,pa2,pa3,pa4⟩,pa5⟩:=BA.out.five;go_wp2_with fail;go_ret;exact ⟨rfl,HN.out⟩
 ·rw[hz,if_neg (by decide)] at hcc;rw[←hr] at hck
  have hrb:(r != 0)=true:=by simpa using hr0
  have hrc:(r==0)=false:=by simpa using hr0
  clear hb hs hz hr hr0 hgl;have HCC:=hid hcc;have HCK:=hid hck;clear hcc hck;go_enter Tryz.func14,Tryz.ntmps14;go_upto_region 1 with (fail);obtain ⟨BA,HN⟩:=lay1 w 24 #[.int .i64 b,.int .i64 s,.int .i64 z,.string g,.string o];obtain ⟨⟨pa0,pa1,pa2,pa3,pa4⟩,pa5⟩:=BA.out.five;go_wp2_with fail;refine (HCC.out _).mono ?_;rintro e w1 ⟨rfl,hn⟩;clear pa0 pa1 pa2 pa3 pa4 pa5;replace BA:=bW BA hn;replace HN:=tW HN hn;clear hn;obtain ⟨⟨pa0,pa1,pa2,pa3,pa4⟩,pa5⟩:=BA.out.five;go_wp2_with fail;refine (HCK.out _).mono ?_;rintro e w2 ⟨rfl,hn⟩;clear pa0 pa1 pa2 pa3 pa4 pa5;replace BA:=bW BA hn;replace HN:=tW HN hn;clear hn;go_wp2_with fail;go_ret;exact ⟨rfl,HN.out⟩
theorem rcheckAdc_cw (b s z:Int) (g o:ByteArray) (w:World) (hgl:g.size≤9223372036854775807) (hol:o.size≤9223372036854775807) (hb:outside b 8 12=false) (hs:outside s (-20) 4=false)
  (hz:outside z 0 (2^b.toNat - 1)=false) (q:Rat) (hf:Fits q) (hg:g.data.toList=ratText q):
  Calls Tryz.prog 14 #[.agg #[.int .i64 b,.int .i64 s,.int .i64 z,.string g,.string o]] w (RetNew w (if q.num.sign≤0 then 3 else ratErr o.data.toList)):=by
 have h1:¬b < 8:=by simp only[outside,Bool.or_eq_false_iff,decide_eq_false_iff_not] at hb;omega
 have h2:¬12 < b:=by simp only[outside,Bool.or_eq_false_iff,decide_eq_false_iff_not] at hb;omega
 have h3:¬s < -20:=by simp only[outside,Bool.or_eq_false_iff,decide_eq_false_iff_not] at hs;omega
 have h4:¬4 < s:=by simp only[outside,Bool.or_eq_false_iff,decide_eq_false_iff_not] at hs;omega
 have h1b:=decide_eq_false h1;have h2b:=decide_eq_false h2;have h3b:=decide_eq_false h3;have h4b:=decide_eq_false h4;have hcc:=fun W=>rcheckCode_calls b s z z g o W (by omega) (by omega);have hck:=fun W=>rcheck_wide g W (by omega);have hco:=fun W=>rcheck_wide o W (by omega);rw[hg,ratErr_ratText hf] at hck;rw[hz,if_neg (by decide)] at hcc;have hsg:=fun W=>rsign_calls q W
 have hgq:rs q=g:=by
  apply ByteArray.ext;apply Array.toList_inj.1;rw[rs_list,hg]
 simp only[hgq]at hsg;obtain ⟨t,ht⟩:∃ t,q.num.sign=t:=⟨_,rfl⟩;obtain ⟨r,hr⟩:∃ r,ratErr o.data.toList=r:=⟨_,rfl⟩;simp only[ht] at hsg;rw[hr] at hco;rw[ht,hr];clear hb hs hz hgl hol hf hg hgq ht hr;by_cases h0:t≤0
 ·rw[if_pos h0];have h0b:=decide_eq_true h0;have HCC:=hid hcc;have HCK:=hid hck;have HSG:=hid hsg;clear hcc hck hsg;go_enter Tryz.func14,Tryz.ntmps14;go_upto_region 1 with (fail);obtain ⟨BA,HN⟩:=lay1 w 24 #[.int .i64 b,.int .i64 s,.int .i64 z,.string g,.string o];obtain ⟨⟨pa0,pa1,pa2,pa3,pa4⟩,pa5⟩:=BA.out.five;go_wp2_with fail;refine (HCC.out _).mono ?_;rintro e w1 ⟨rfl,hn⟩;clear pa0 pa1 pa2 pa3 pa4 pa5;replace BA:=bW BA hn;replace HN:=tW HN hn;clear hn;obtain ⟨⟨pa0,pa1,pa2,pa3,pa4⟩,pa5⟩:=BA.out.five;go_wp2_with fail;refine (HCK.out _).mono ?_;rintro e w2 ⟨rfl,hn⟩;clear pa0 pa1 pa2 pa3 pa4 pa5;replace BA:=bW BA hn;replace HN:=tW HN hn;clear hn;obtain ⟨⟨pa0,pa1,pa2,pa3,pa4⟩,pa5⟩:=BA.out.five;go_wp2_with fail;refine (HSG.out _).mono ?_;rintro e w3 ⟨rfl,hw⟩;rw[hw];clear hw;go_wp2_with fail;go_ret;exact ⟨rfl,HN.out⟩
 ·rw[if_neg h0];have h0b:=decide_eq_false h0;have HCC:=hid hcc;have HCK:=hid hck;have HSG:=hid hsg;have HCO:=hid hco;clear hcc hck hsg hco;go_enter Tryz.func14,Tryz.ntmps14;go_upto_region 1 with (fail);obtain ⟨BA,HN⟩:=lay1 w 24 #[.int .i64 b,.int .i64 s,.int .i64 z,.string g,.string o];obtain ⟨⟨pa0,pa1,pa2,pa3,pa4⟩,pa5⟩:=BA.out.five;go_wp2_with fail;refine (HCC.out _).mono ?_;rintro e w1 ⟨rfl,hn⟩;clear pa0 pa1 pa2 pa3 pa4 pa5;replace BA:=bW BA hn;replace HN:=tW HN hn;clear hn;obtain ⟨⟨pa0,pa1,pa2,pa3,pa4⟩,pa5⟩:=BA.out.five;go_wp2_with fail;refine (HCK.out _).mono ?_;rintro e w2 ⟨rfl,hn⟩;clear pa0 pa1 pa2 pa3 pa4 pa5;replace BA:=bW BA hn;replace HN:=tW HN hn;clear hn;obtain ⟨⟨pa0,pa1,pa2,pa3,pa4⟩,pa5⟩:=BA.out.five;go_wp2_with fail;refine (HSG.out _).mono ?_;rintro e w3 ⟨rfl,hw⟩;rw[hw];clear hw;go_wp2_with fail;refine (HCO.out _).mono ?_;rintro e w4 ⟨rfl,hn⟩;clear pa0 pa1 pa2 pa3 pa4 pa5;replace HN:=tW HN hn;clear hn;go_wp2_with fail;go_ret;exact ⟨rfl,HN.out⟩
theorem radc_err (b s z:Int)(g o:ByteArray)(hgl:g.size≤9223372036854775807)(hol:o.size≤9223372036854775807):∃ n:Int,
  (∀ W,Calls Tryz.prog 14 #[adcV b s z g o] W (RetNew W n))∧(n=0→g.size≤100000→o.size≤100000→∃ qg qo,AdcOk b s z g o qg qo):=by
 by_cases h1:outside b 8 12=true∨outside s (-20) 4=true
 ·exact ⟨3,fun W=>rcheckAdc_a b s z g o W h1,fun h=>by omega⟩
 rw[not_or,Bool.not_eq_true,Bool.not_eq_true]at h1;by_cases h2:outside z 0 (2^b.toNat - 1)=true
 ·exact ⟨3,fun W=>rcheckAdc_bw b s z g o W hgl h1.1 h1.2 3 (.inl ⟨h2,rfl⟩),fun h=>by omega⟩
 rw[Bool.not_eq_true]at h2;by_cases h3:ratErr g.data.toList=0
 ·obtain ⟨q,hf,hg⟩:=ratText_of_err h3;refine ⟨_,fun W=>rcheckAdc_cw b s z g o W hgl hol h1.1 h1.2 h2 q hf hg,fun h hgs hos=>?_⟩;by_cases h4:q.num.sign≤0
  ·rw[if_pos h4] at h;omega
  rw[if_neg h4]at h;obtain ⟨q2,hf2,ho⟩:=ratText_of_err h;simp only[outside,Bool.or_eq_false_iff,decide_eq_false_iff_not] at h1 h2;exact ⟨q,q2,by omega,by omega,by omega,by omega,by omega,by omega,hg,hf,Int.sign_pos_iff.1 (by omega),hgs,ho,hf2,hos⟩
 ·exact ⟨_,fun W=>rcheckAdc_bw b s z g o W hgl h1.1 h1.2 _ (.inr ⟨h2,rfl,h3⟩),fun h=>absurd h h3⟩
theorem rfewAdc_calls (b s z:Int)(g o:ByteArray)(w:World)(hgl:(g.size:Int)≤9223372036854775807)(hol:(o.size:Int)≤9223372036854775807):
  Calls Tryz.prog 42 #[adcV b s z g o] w fun e w'=>(∃ t:Bool,e=.returned (.bool t)∧(t=true→∃ qg qo,AdcOk b s z g o qg qo))∧New w w':=by
 obtain ⟨n,hca,hok⟩:=radc_err b s z g o (by omega) (by omega);have hfg:=fun W=>rfew_calls g W hgl;have hfo:=fun W=>rfew_calls o W hol;unfold adcV at *;clear hgl hol;by_cases h0:n=0
 ·subst h0;have hok:=hok rfl;have HCA:=hid hca;have HOK:=hid hok;have HFG:=hid hfg;have HFO:=hid hfo;clear hca hok hfg hfo;go_enter Tryz.func42,Tryz.ntmps42;go_upto_region 1 with (fail);obtain ⟨BA,HN⟩:=lay1 w 24 #[.int .i64 b,.int .i64 s,.int .i64 z,.string g,.string o];obtain ⟨⟨pa0,pa1,pa2,pa3,pa4⟩,pa5⟩:=BA.out.five;go_wp2_with fail;refine (HCA.out _).mono ?_;rintro e w1 ⟨rfl,hn⟩;clear pa0 pa1 pa2 pa3 pa4 pa5;replace BA:=bW BA hn;replace HN:=tW HN hn;clear hn;obtain ⟨⟨pa0,pa1,pa2,pa3,pa4⟩,pa5⟩:=BA.out.five;go_wp2_with fail;refine (HFG.out _).mono ?_;rintro e w2 ⟨⟨t,rfl,ht⟩,hn⟩;clear pa0 pa1 pa2 pa3 pa4 pa5;replace BA:=bW BA hn;replace HN:=tW HN hn;clear hn;obtain ⟨⟨pa0,pa1,pa2,pa3,pa4⟩,pa5⟩:=BA.out.five
  cases t with
  | false=>
   clear ht;go_wp2_with fail;go_ret;exact ⟨⟨_,rfl,fun h=>by cases h⟩,HN.out⟩
  | true=>
   have hg26:=(ht rfl).1;clear ht;have HG:=hid hg26;clear hg26;go_wp2_with fail;refine (HFO.out _).mono ?_;rintro e w3 ⟨⟨t,rfl,ht⟩,hn⟩;clear pa0 pa1 pa2 pa3 pa4 pa5;replace HN:=tW HN hn;clear hn;have HT:=hid ht;clear ht;go_wp2_with fail;go_ret;exact ⟨⟨_,rfl,fun h=>HOK.out (by have:=HG.out;omega) (by have:=(HT.out h).1;omega)⟩,HN.out⟩
 ·have h0b:(n==0)=false:=beq_false_of_ne h0;clear hok h0;have HCA:=hid hca;clear hca;go_enter Tryz.func42,Tryz.ntmps42;go_upto_region 1 with (fail);obtain ⟨BA,HN⟩:=lay1 w 24 #[.int .i64 b,.int .i64 s,.int .i64 z,.string g,.string o];obtain ⟨⟨pa0,pa1,pa2,pa3,pa4⟩,pa5⟩:=BA.out.five;go_wp2_with fail;refine (HCA.out _).mono ?_;rintro e w1 ⟨rfl,hn⟩;clear pa0 pa1 pa2 pa3 pa4 pa5;replace HN:=tW HN hn;clear hn;go_wp2_with fail;go_ret;exact ⟨⟨_,rfl,fun h=>by cases h⟩,HN.out⟩
def fq (x:Nat):Rat:=Rat.divInt (Flo.sval Ieee.single x) (2^149)
def ClipInv (p:Nat→Bool)(n:Nat)(total:List (Nat × Nat))(i f:Nat)(ys:List (Nat × Nat)):Prop:=
 f≤i∧i≤n∧(∀ j,f≤j→j < i→p j=true)∧ys ++ clipR p n (n+2 - f) f=total∧∀ r∈ys,r.2 < f
def clipOut (i f:Nat)(ys:List (Nat × Nat)):List (Nat × Nat):=ys ++ (if f < i then [(f,i)] else [])
theorem ClipInv.skip {p:Nat→Bool}{n i f:Nat}{total ys:List (Nat × Nat)}(h:ClipInv p n total i f ys)(hi:i < n)(hp:p i=false):ClipInv p n total (i+1) (i+1) (clipOut i f ys)∧clipOut (i+1) (i+1) (clipOut i f ys)=clipOut i f ys:=by
 obtain ⟨h1,h2,h3,h4,h5⟩:=h;refine ⟨⟨Nat.le_refl _,hi,fun j a b=>by omega,clip_next h4 (by omega) h1 h2 h3 (.inr hp),fun r hr=>?_⟩,?_⟩
 ·unfold clipOut at hr;rcases List.mem_append.1 hr with hr | hr
  ·have:=h5 r hr;omega
  ·split at hr
   ·rw[List.mem_singleton] at hr;rw[hr];exact Nat.lt_succ_self i
   ·cases hr
 ·show clipOut i f ys ++ (if i+1 < i+1 then [(i+1,i+1)] else [])=_;rw[if_neg (Nat.lt_irrefl _),List.append_nil]
theorem ClipInv.more {p:Nat→Bool}{n i f:Nat}{total ys:List (Nat × Nat)}(h:ClipInv p n total i f ys)(hi:i < n)(hp:p i=true):ClipInv p n total (i+1) f ys:=by
 obtain ⟨h1,h2,h3,h4,h5⟩:=h;refine ⟨by omega,hi,fun j a b=>?_,h4,h5⟩;by_cases e:j=i
 ·rw[e];exact hp
 ·exact h3 j a (by omega)
theorem stq_pos {s:Int}(lo: -20≤s)(hi:s≤4):0 < stepQ s:=by
 have h1:0≤stepQ s:=Rat.num_nonneg.1 (Int.le_of_lt (stepQ_pos lo hi));have h2:=stepQ_ne lo hi
 grind
theorem hfq_eq (s:Int):halfQ s=stepQ s*(1 / 2):=by
 unfold halfQ;rw[half_inv,Rat.div_def]
theorem half_two (s:Int):halfQ s+halfQ s=stepQ s:=by rw[hfq_eq];grind
theorem half_pos {s:Int}(lo: -20≤s)(hi:s≤4):0 < halfQ s:=by
 have h1:=stq_pos lo hi;have h2:=half_two s
 grind
theorem nom_succ (s z c:Int):nomQ s z (c+1)=nomQ s z c+stepQ s:=by
 unfold nomQ;rw[show c+1 - z=(c - z)+1 by omega,Rat.intCast_add,Rat.mul_add,show ((1:Int):Rat)=1 from rfl,Rat.mul_one]
theorem eight_ten {k n:Nat}(h:k≤3*n):2^k≤10^n:=Nat.le_trans (Nat.pow_le_pow_right (by omega) h) (by
 rw[Nat.pow_mul]
 exact Nat.pow_le_pow_left (by decide) n)
theorem fits3_of {k n:Nat}{q:Rat}(h:FB k q)(hk:k≤3*n):q.num.natAbs < 10^n∧q.den < 10^n:=by
 have h3:q.num.natAbs < 2^k:=h.num
 have h4:q.den < 2^k:=by simpa[BdK] using h.den
 exact ⟨Nat.lt_of_lt_of_le h3 (eight_ten hk),Nat.lt_of_lt_of_le h4 (eight_ten hk)⟩
theorem FB.fits3 {k:Nat}{q:Rat}(h:FB k q)(hk:k≤1800):Fits q:=Fits.iff.2 (fits3_of (n:=600) h (by omega))
theorem rcheckAdc_ok {b s z:Int}{g o:ByteArray}{qg qo:Rat}(K:AdcOk b s z g o qg qo)(w:World):Calls Tryz.prog 14 #[adcV b s z g o] w (RetNew w 0):=by
 have k1:=K.blo;have k2:=K.bhi;have k3:=K.slo;have k4:=K.shi;have k5:=K.zlo;have k6:=K.zhi;have k7:=K.gl;have k8:=K.ol;have h:=rcheckAdc_cw b s z g o w (by omega) (by omega) (by simp only[outside,Bool.or_eq_false_iff,decide_eq_false_iff_not];omega) (by simp only[outside,Bool.or_eq_false_iff,decide_eq_false_iff_not];omega) (by simp only[outside,Bool.or_eq_false_iff,decide_eq_false_iff_not];omega) qg K.gf K.gt;rw[K.ot,ratErr_ratText K.of,Int.sign_eq_one_of_pos K.gpos,if_neg (by decide)] at h;exact h
theorem fit_true {b s z:Int}{gain off:Rat}(K:AdcOk b s z (rs gain) (rs off) gain off)(bg:FB 300 gain)(bo:FB 500 off)(c:Int)(lo:0≤c)(hi:c≤2^b.toNat - 1)(h0:¬c=0)(ht:¬c=2^b.toNat - 1)(W:World)(hW:Env W):
  Calls Tryz.prog 22 #[adcV b s z (rs gain) (rs off),.int .i64 c] W fun e w'=>e=.returned (.tuple #[.agg #[.string (rs ((nomQ s z c - halfQ s)*gain+off)),.string (rs ((nomQ s z c+halfQ s)*gain+off))],.int .i64 0])∧New W w':=by
 have htb:=top_bd K.blo K.bhi;have hbn:=nomQ_fb K lo (show c≤4095 by omega);have hhb:=halfQ_fb K.slo K.shi;have fx:FB 57 (nomQ s z c - halfQ s):=(hbn.sub hhb).mono (by omega);have fy:FB 57 (nomQ s z c+halfQ s):=(hbn.add hhb).mono (by omega)
 exact true_big _ b s z (rs gain) (rs off) c _ _ gain off (fx.mono (by omega)) (fy.mono (by omega)) (((fx.mul bg).add bo).mono (by omega)) (((fy.mul bg).add bo).mono (by omega)) W hW rfl K.gt (bg.mono (by omega)) K.gl K.ot (bo.mono (by omega)) K.ol
  fun W hW=>ends_mid K c lo hi h0 ht W hW
theorem fit_el {b s z:Int}(g o:ByteArray){gain off:Rat}(K:AdcOk b s z (rs gain) (rs off) gain off)(bg:FB 300 gain)(bo:FB 500 off)(c:Int)(lo:0≤c)(hi:c≤2^b.toNat - 1)(t:ByteArray)(q:Rat)(ht:t=rs q)(he:gain*nomQ s z c+off=q):
  FitEl Env b s z g o (rs gain) (rs off) c t:=by
 have htb:=top_bd K.blo K.bhi;by_cases h0:c=0
 ·subst h0;exact .inl fun W hW=>true_clip _ b s z _ _ 0 _ _ 15 (by decide) W hW rfl fun W hW=>ends_zero K W hW
 by_cases h1:c=2^b.toNat - 1
 ·exact .inl fun W hW=>true_clip _ b s z _ _ c _ _ 15 (by decide) W hW rfl fun W hW=>ends_top K c h1 W hW
 have hbn:=nomQ_fb K lo (show c≤4095 by omega);have hhb:=halfQ_fb K.slo K.shi;have fx:FB 57 (nomQ s z c - halfQ s):=(hbn.sub hhb).mono (by omega);have fy:FB 57 (nomQ s z c+halfQ s):=(hbn.add hhb).mono (by omega);have bx:FB 858 ((nomQ s z c - halfQ s)*gain+off):=((fx.mul bg).add bo).mono (by omega);have by':FB 858 ((nomQ s z c+halfQ s)*gain+off):=((fy.mul bg).add bo).mono (by omega);have hp:=half_pos K.slo K.shi;have h2:=half_two s;have gp:0≤gain:=Rat.num_nonneg.1 (Int.le_of_lt K.gpos)
 have el:(nomQ s z c - halfQ s)*gain+off≤(nomQ s z c+halfQ s)*gain+off:=by
  have:=Rat.mul_le_mul_of_nonneg_right (show nomQ s z c - halfQ s≤nomQ s z c+halfQ s by grind) gp
  grind
 have eh:((nomQ s z c - halfQ s)*gain+off+((nomQ s z c+halfQ s)*gain+off))*(1 / 2)=q:=by
  rw[←he]
  grind
 have ed:(nomQ s z c+halfQ s)*gain+off - ((nomQ s z c - halfQ s)*gain+off)=gain*stepQ s:=by
  rw[←h2]
  grind
 refine .inr ⟨rs ((nomQ s z c - halfQ s)*gain+off),rs ((nomQ s z c+halfQ s)*gain+off),rs ((nomQ s z c - halfQ s)*gain+off+((nomQ s z c+halfQ s)*gain+off)),rs (gain*stepQ s),rs (stepQ s),
  fun W hW=>fit_true K bg bo c lo hi h0 h1 W hW,fun W=>rspan_calls _ _ W (bx.fits3 (by omega)) (by'.fits3 (by omega)) el (by have:=(RFB.of bx).len;omega) (by have:=(RFB.of by').len;omega),fun W=>raddQ_calls 858 858 _ _ W (RFB.of bx) (RFB.of by') (by omega),fun W=>?_,fun W=>?_,fun W=>rlsb_calls b s z g o W K.slo K.shi,fun W=>rmulQ_calls 300 21 _ _ W (RFB.of bg) (RFB.of (stepQ_fb21 K.slo K.shi)) (by omega),⟨lo,by omega⟩,?_⟩
 ·have:=rhalf_calls 1717 ((nomQ s z c - halfQ s)*gain+off+((nomQ s z c+halfQ s)*gain+off)) W ((RFB.of bx).add (RFB.of by')) (by omega);rw[eh] at this;rw[ht];exact this
 ·have:=rsubQ_calls 858 858 _ _ W (RFB.of by') (RFB.of bx) (by omega);rw[ed] at this;exact this
 ·by_cases h3:c+1=2^b.toNat - 1
  ·exact .inl fun W hW=>true_clip _ b s z _ _ (c+1) _ _ 15 (by decide) W hW rfl fun W hW=>ends_top K (c+1) h3 W hW
  ·refine .inr ⟨rs ((nomQ s z (c+1)+halfQ s)*gain+off),fun W hW=>?_⟩;have:=fit_true K bg bo (c+1) (by omega) (by omega) (by omega) h3 W hW;rw[show nomQ s z (c+1) - halfQ s=nomQ s z c+halfQ s by rw[nom_succ,←h2];grind] at this;exact this
theorem fits_all {b s z:Int}{g o:ByteArray}{qg qo:Rat}(K:AdcOk b s z g o qg qo)(c1 c2:Int)(t1 t2:ByteArray)(h1:t1.size≤26∧ratErr t1.data.toList=0)(h2:t2.size≤26∧ratErr t2.data.toList=0)(hpc:∀ W,Env W→Calls Tryz.prog 15 #[adcV b s z g o] W (RetNew W 0)):
  FitAll Env b s z c1 c2 g o t1 t2:=by
 have htb:=top_bd K.blo K.bhi;have hlo:=K.blo;have hzh:=K.zhi
 have hzz:z≤4095:=by omega
 have hcc1:=fun W hW=>checkCode_calls K c1 W hW;have hcc2:=fun W hW=>checkCode_calls K c2 W hW;have hck1:=fun W hW=>check_calls t1 W hW (by omega);have hck2:=fun W hW=>check_calls t2 W hW (by omega);obtain ⟨tp,htp⟩:∃ tp:Int,(2:Int)^b.toNat - 1=tp:=⟨_,rfl⟩;simp only[htp] at hcc1 hcc2;have f1:fst3 0 (if outside c1 0 tp then 3 else 0) (ratErr t1.data.toList)=markE c1 tp t1:=fst3_mark 0 c1 tp t1
 have f2:fst3 (markE c1 tp t1) (if outside c2 0 tp then 3 else 0) (ratErr t2.data.toList)=if markE c1 tp t1=0 then markE c2 tp t2 else markE c1 tp t1:=fst3_mark _ c2 tp t2
 have e3:∀ {c:Int} {t:ByteArray},ratErr t.data.toList=0→markE c tp t=0∨markE c tp t=3:=fun {c t} h=>by
  unfold markE;split
  ·exact .inr rfl
  ·exact .inl h
 obtain ⟨n,hn⟩:∃ n,(if markE c1 tp t1=0 then markE c2 tp t2 else markE c1 tp t1)=n:=⟨_,rfl⟩
 have hn3:n=0∨n=3:=by
  rw[←hn];split
  ·exact e3 h2.2
  ·exact e3 h1.2
 rcases hn3 with h0 | h0
 ·subst h0
  obtain ⟨e1,e2⟩:markE c1 tp t1=0∧markE c2 tp t2=0:=by
   split at hn
   ·rename_i h;exact ⟨h,hn⟩
   ·rename_i h;exact absurd hn h
  by_cases hc:c1=c2
  ·subst hc;exact .inl ⟨9,.inr rfl,fun W hW=>Calibrated_errs b s z g o c1 t1 c1 t2 0 _ _ _ _ _ _ _ f1 (f2.trans hn) (by rw[if_pos rfl,if_pos rfl]) (by decide) hpc hcc1 hcc2 hck1 hck2 W hW⟩
  ·have good:∀ {c:Int} {t:ByteArray},markE c tp t=0→outside c 0 tp=false∧ratErr t.data.toList=0:=fun {c t} h=>by
    unfold markE at h;split at h
    ·omega
    ·rename_i ho;exact ⟨by simpa using ho,h⟩
   obtain ⟨ho1,hr1⟩:=good e1;obtain ⟨ho2,hr2⟩:=good e2
   have rng:∀ {c:Int},outside c 0 tp=false→0≤c∧c≤tp:=fun {c} h=>by
    simp only[outside,Bool.or_eq_false_iff,decide_eq_false_iff_not]at h;omega
   obtain ⟨lo1,hi1⟩:=rng ho1;obtain ⟨lo2,hi2⟩:=rng ho2;obtain ⟨q1, -,et1⟩:=ratText_of_err hr1;obtain ⟨q2, -,et2⟩:=ratText_of_err hr2
   have len:∀ {t:ByteArray} {q:Rat},t.data.toList=ratText q→t.size≤26→FB 104 q:=fun {t q} h hl=>fb_of_len (n:=26) (by
    rw[←h,Array.length_toList]
    exact hl) (by omega) (by omega)
   have b1:=len et1 h1.1;have b2:=len et2 h2.1;have hne:=nom_ne (z:=z) K.slo K.shi hc;have bl:=nomQ_fb K lo1 (show c1≤4095 by omega);have bh:=nomQ_fb K lo2 (show c2≤4095 by omega);have bx:=b2.sub b1;have by':=bh.sub bl;have bg:=bx.div by' hne;have bp:=bg.mul bl;have bo:=b1.sub bp
   have I:CalIn b s z g o c1 t1 c2 t2 0 0 0 0 0 0 0 0 0 false false:=
    {chk:=hpc
     cc1:=fun W hW=>by have:=hcc1 W hW;rwa [ho1] at this
     cc2:=fun W hW=>by have:=hcc2 W hW;rwa [ho2] at this
     ck1:=fun W hW=>by have:=hck1 W hW;rwa [hr1] at this
     ck2:=fun W hW=>by have:=hck2 W hW;rwa [hr2] at this
     f1:=rfl
     f2:=rfl
     f3:=rfl
     f9:=rfl
     hc:=beq_eq_false_iff_ne.2 hc
     em:=eq_mark c1 c2 t1 t2 hc}
   have G:CalMid b s z g o c1 t1 c2 t2 q1 q2 (nomQ s z c1) (nomQ s z c2) ((q2 - q1) / (nomQ s z c2 - nomQ s z c1)) (q1 - (q2 - q1) / (nomQ s z c2 - nomQ s z c1)*nomQ s z c1) (rs ((q2 - q1) / (nomQ s z c2 - nomQ s z c1))) (rs (q1 - (q2 - q1) / (nomQ s z c2 - nomQ s z c1)*nomQ s z c1)):=
    {nom1:=fun W=>nominal_calls K c1 W lo1 (by omega)
     nom2:=fun W=>nominal_calls K c2 W lo2 (by omega)
     fr1:=fun W hW=>from_calls t1 q1 W hW et1 (by omega)
     fr2:=fun W hW=>from_calls t2 q2 W hW et2 (by omega)
     bl:=bl
     bh:=bh
     b1:=b1.mono (by omega)
     b2:=b2.mono (by omega)
     hne:=hne
     hg:=rfl
     ho:=rfl
     gs:=bg.mono (by omega)
     os:=bo.mono (by omega)
     tx:=fun va W hx hW=>text_calls va _ W hx (bg.mono (by omega)) hW
     ty:=fun va W hx hW=>text_calls va _ W hx (bo.mono (by omega)) hW}
   have s1:=rs_of et1;have s2:=rs_of et2;by_cases hsg:((q2 - q1) / (nomQ s z c2 - nomQ s z c1)).num.sign≤0
   ·exact .inl ⟨3,.inl rfl,fun W hW=>Calibrated_gen b s z g o c1 t1 c2 t2 q1 q2 _ _ _ _ _ _ _ _ _ _ _ _ _ _ _ _ _ I W hW _ _ (fun h=>absurd rfl h) (fun _=>⟨G,fun _=>⟨rfl,rfl⟩,fun h=>absurd hsg h⟩)⟩
   ·have hcal:=fun W hW=>Calibrated_gen b s z g o c1 t1 c2 t2 q1 q2 _ _ _ _ _ _ _ _ _ _ _ _ _ _ _ _ _ I W hW _ _ (fun h=>absurd rfl h) (fun _=>⟨G,fun h=>absurd h hsg,fun _=>⟨rfl,rfl⟩⟩);clear G I;have eg:(q2 - q1) / (nomQ s z c2 - nomQ s z c1)*(nomQ s z c2 - nomQ s z c1)=q2 - q1:=Rat.div_mul_cancel hne;obtain ⟨gain,hgain⟩:∃ x,(q2 - q1) / (nomQ s z c2 - nomQ s z c1)=x:=⟨_,rfl⟩;simp only[hgain] at hcal hsg eg bg bp bo;obtain ⟨off,hoff⟩:∃ x,q1 - gain*nomQ s z c1=x:=⟨_,rfl⟩;simp only[hoff] at hcal bo;have bg3:FB 300 gain:=bg.mono (by omega);have bo5:FB 500 off:=bo.mono (by omega);have gp:0 < gain.num:=Int.sign_pos_iff.1 (by omega);have K2:AdcOk b s z (rs gain) (rs off) gain off:=⟨K.blo,K.bhi,K.slo,K.shi,K.zlo,K.zhi,rs_list _,bg3.fits3 (by omega),gp,by have:=(RFB.of bg3).len;omega,rs_list _,bo5.fits3 (by omega),by have:=(RFB.of bo5).len;omega⟩;exact .inr ⟨rs gain,rs off,hcal,fun W=>rcheckAdc_ok K2 W,fit_el g o K2 bg3 bo5 c1 lo1 (by omega) t1 q1 s1 (by rw[←hoff];grind),fit_el g o K2 bg3 bo5 c2 lo2 (by omega) t2 q2 s2 (by rw[←hoff];grind)⟩
 ·have hn0:n≠0:=by omega
  by_cases hc:c1=c2
  ·subst hc;exact .inl ⟨n,.inl h0,fun W hW=>Calibrated_errs b s z g o c1 t1 c1 t2 0 _ _ _ _ _ _ _ f1 (f2.trans hn) (by rw[if_neg hn0]) hn0 hpc hcc1 hcc2 hck1 hck2 W hW⟩
  ·exact .inl ⟨n,.inl h0,fun W hW=>Calibrated_errs b s z g o c1 t1 c2 t2 0 _ _ _ _ _ _ _ f1 (f2.trans hn) (by rw[if_neg hn0]) hn0 hpc hcc1 hcc2 hck1 hck2 W hW⟩
theorem fits_law (haw:AwakeOk)(b s z c1 c2:Int)(g o t1 t2:ByteArray)(w:World)(he:Env w)(hg:(g.size:Int)≤9223372036854775807)(ho:(o.size:Int)≤9223372036854775807)(h1:(t1.size:Int)≤9223372036854775807)(h2:(t2.size:Int)≤9223372036854775807):
  Calls Tryz.prog 8 #[adcF b s z g o,mkF c1 t1,mkF c2 t2] w fun e w'=>e=.returned (.bool true)∧New w w':=
 fits_walk Env (fun _ _ h hn=>h.new hn) haw b s z c1 c2 g o t1 t2 w he (∃ qg qo,AdcOk b s z g o qg qo) (t1.size≤26∧ratErr t1.data.toList=0) (t2.size≤26∧ratErr t2.data.toList=0) (fun W=>rfewAdc_calls b s z g o W hg ho) (fun W=>rfew_calls t1 W h1) (fun W=>rfew_calls t2 W h2)
  fun ⟨_,_,K⟩ h1 h2=>fits_all K c1 c2 t1 t2 h1 h2 fun W hW=>checkAdc_ok K W hW
end Go.Proofs.YtbkcjmojgglbkaaGreatDoor
