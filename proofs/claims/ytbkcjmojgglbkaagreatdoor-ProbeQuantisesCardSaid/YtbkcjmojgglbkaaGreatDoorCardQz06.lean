/- For every converter and every list of voltages the law ProbeQuantises returns true, and its arguments read behind the call as before it; conditions: the package-level variables of the library of Go that the row lists hold what start-up lays. -/
import Derived.Deep.DeepCutAuto
import Derived.Laws.AppendOwnNone
import Derived.Laws.FloatArith
import Derived.BigQuiet
import Derived.Deep.CutBlock
import Derived.Lib.SmallJoins
import Derived.Maps.AppendAt
import Derived.Test.YtbkcjmojgglbkaaGreatDoorCardQz05
namespace Go.Proofs.YtbkcjmojgglbkaaGreatDoor
open Go.RowKit Big Go.Lib Go.ChangeShapes Go.WideShapes Go.Deep
set_option maxRecDepth 100000
set_option maxHeartbeats 8000000
theorem rcheckAdc_bw (b s z:Int) (g o:ByteArray) (w:World) (hgl:g.size≤9223372036854775807) (hb:outside b 8 12=false) (hs:outside s (-20) 4=false) (r:Int)
  (hz:(outside z 0 (2^b.toNat - 1)=true∧r=3)∨(outside z 0 (2^b.toNat - 1)=false∧r=ratErr g.data.toList∧r≠0)):
  Calls Tryz.prog 14 #[.agg #[.int .i64 b,.int .i64 s,.int .i64 z,.string g,.string o]] w (RetNew w r):=by
 have h1:¬b < 8:=by simp only[outside,Bool.or_eq_false_iff,decide_eq_false_iff_not] at hb;omega
 have h2:¬12 < b:=by simp only[outside,Bool.or_eq_false_iff,decide_eq_false_iff_not] at hb;omega
 have h3:¬s < -20:=by simp only[outside,Bool.or_eq_false_iff,decide_eq_false_iff_not] at hs;omega
 have h4:¬4 < s:=by simp only[outside,Bool.or_eq_false_iff,decide_eq_false_iff_not] at hs;omega
 have h1b:=decide_eq_false h1;have h2b:=decide_eq_false h2;have h3b:=decide_eq_false h3;have h4b:=decide_eq_false h4;have hcc:=fun W=>rcheckCode_calls b s z z g o W (by omega) (by omega);have hck:=fun W=>rcheck_wide g W (by omega);rcases hz with ⟨hz,rfl⟩ | ⟨hz,hr,hr0⟩
 ·rw[hz,if_pos rfl] at hcc;clear hb hs hz hck hgl;have HCC:=hid hcc;clear hcc;go_enter Tryz.func14,Tryz.ntmps14;go_upto_region 1 with (fail);obtain ⟨BA,HN⟩:=lay1 w 24 #[.int .i64 b,.int .i64 s,.int .i64 z,.string g,.string o];obtain ⟨⟨pa0,pa1,pa2,pa3,pa4⟩,pa5⟩:=BA.out.five;go_wp2_with fail;refine (HCC.out _).mono ?_;rintro e w1 ⟨rfl,hn⟩;clear pa0 pa1 pa2 pa3 pa4 pa5;replace BA:=bW BA hn;replace HN:=tW HN hn;clear hn;obtain ⟨⟨pa0,pa1,pa2,pa3,pa4⟩,pa5⟩:=BA.out.five;go_wp2_with fail;go_ret;exact ⟨rfl,HN.out⟩
 ·rw[hz,if_neg (by decide)] at hcc;rw[←hr] at hck
  have hrb:(r != 0)=true:=by simpa using hr0
  have hrc:(r==0)=false:=by simpa using hr0
  clear hb hs hz hr hr0 hgl;have HCC:=hid hcc;have HCK:=hid hck;clear hcc hck;go_enter Tryz.func14,Tryz.ntmps14;go_upto_region 1 with (fail);obtain ⟨BA,HN⟩:=lay1 w 24 #[.int .i64 b,.int .i64 s,.int .i64 z,.string g,.string o];obtain ⟨⟨pa0,pa1,pa2,pa3,pa4⟩,pa5⟩:=BA.out.five;go_wp2_with fail;refine (HCC.out _).mono ?_;rintro e w1 ⟨rfl,hn⟩;clear pa0 pa1 pa2 pa3 pa4 pa5;replace BA:=bW BA hn;replace HN:=tW HN hn;clear hn;obtain ⟨⟨pa0,pa1,pa2,pa3,pa4⟩,pa5⟩:=BA.out.five;go_wp2_with fail;refine (HCK.out _).mono ?_;rintro e w2 ⟨rfl,hn⟩;clear pa0 pa1 pa2 pa3 pa4 pa5;replace BA:=bW BA hn;replace HN:=tW HN hn;clear hn;go_wp2_with fail;go_ret;exact ⟨rfl,HN.out⟩
theorem rcheckAdc_cw (b s z:Int) (g o:ByteArray) (w:World) (hgl:g.size≤9223372036854775807) (hol:o.size≤9223372036854775807) (hb:outside b 8 12=false) (hs:outside s (-20) 4=false)
  (hz:outside z 0 (2^b.toNat - 1)=false) (q:Rat) (hf:Fits q) (hg:g.data.toList=ratText q):
  Calls Tryz.prog 14 #[.agg #[.int .i64 b,.int .i64 s,.int .i64 z,.string g,.string o]] w (RetNew w (if q.num.sign≤0 then 3 else ratErr o.data.toList)):=by
 have h1:¬b < 8:=by simp only[outside,Bool.or_eq_false_iff,decide_eq_false_iff_not] at hb;omega
 have h2:¬12 < b:=by simp only[outside,Bool.or_eq_false_iff,decide_eq_false_iff_not] at hb;omega
 have h3:¬s < -20:=by simp only[outside,Bool.or_eq_false_iff,decide_eq_false_iff_not] at hs;omega
 have h4:¬4 < s:=by simp only[outside,Bool.or_eq_false_iff,decide_eq_false_iff_not] at hs;omega
 have h1b:=decide_eq_false h1;have h2b:=decide_eq_false h2;have h3b:=decide_eq_false h3;have h4b:=decide_eq_false h4;have hcc:=fun W=>rcheckCode_calls b s z z g o W (by omega) (by omega);have hck:=fun W=>rcheck_wide g W (by omega);have hco:=fun W=>rcheck_wide o W (by omega);rw[hg,ratErr_ratText hf] at hck;rw[hz,if_neg (by decide)] at hcc;have hsg:=fun W=>rsign_calls q W
 have hgq:rs q=g:=by
  apply ByteArray.ext;apply Array.toList_inj.1;rw[rs_list,hg]
 simp only[hgq]at hsg;obtain ⟨t,ht⟩:∃ t,q.num.sign=t:=⟨_,rfl⟩;obtain ⟨r,hr⟩:∃ r,ratErr o.data.toList=r:=⟨_,rfl⟩;simp only[ht] at hsg;rw[hr] at hco;rw[ht,hr];clear hb hs hz hgl hol hf hg hgq ht hr;by_cases h0:t≤0
 ·rw[if_pos h0];have h0b:=decide_eq_true h0;have HCC:=hid hcc;have HCK:=hid hck;have HSG:=hid hsg;clear hcc hck hsg;go_enter Tryz.func14,Tryz.ntmps14;go_upto_region 1 with (fail);obtain ⟨BA,HN⟩:=lay1 w 24 #[.int .i64 b,.int .i64 s,.int .i64 z,.string g,.string o];obtain ⟨⟨pa0,pa1,pa2,pa3,pa4⟩,pa5⟩:=BA.out.five;go_wp2_with fail;refine (HCC.out _).mono ?_;rintro e w1 ⟨rfl,hn⟩;clear pa0 pa1 pa2 pa3 pa4 pa5;replace BA:=bW BA hn;replace HN:=tW HN hn;clear hn;obtain ⟨⟨pa0,pa1,pa2,pa3,pa4⟩,pa5⟩:=BA.out.five;go_wp2_with fail;refine (HCK.out _).mono ?_;rintro e w2 ⟨rfl,hn⟩;clear pa0 pa1 pa2 pa3 pa4 pa5;replace BA:=bW BA hn;replace HN:=tW HN hn;clear hn;obtain ⟨⟨pa0,pa1,pa2,pa3,pa4⟩,pa5⟩:=BA.out.five;go_wp2_with fail;refine (HSG.out _).mono ?_;rintro e w3 ⟨rfl,hw⟩;rw[hw];clear hw;go_wp2_with fail;go_ret;exact ⟨rfl,HN.out⟩
 ·rw[if_neg h0];have h0b:=decide_eq_false h0;have HCC:=hid hcc;have HCK:=hid hck;have HSG:=hid hsg;have HCO:=hid hco;clear hcc hck hsg hco;go_enter Tryz.func14,Tryz.ntmps14;go_upto_region 1 with (fail);obtain ⟨BA,HN⟩:=lay1 w 24 #[.int .i64 b,.int .i64 s,.int .i64 z,.string g,.string o];obtain ⟨⟨pa0,pa1,pa2,pa3,pa4⟩,pa5⟩:=BA.out.five;go_wp2_with fail;refine (HCC.out _).mono ?_;rintro e w1 ⟨rfl,hn⟩;clear pa0 pa1 pa2 pa3 pa4 pa5;replace BA:=bW BA hn;replace HN:=tW HN hn;clear hn;obtain ⟨⟨pa0,pa1,pa2,pa3,pa4⟩,pa5⟩:=BA.out.five;go_wp2_with fail;refine (HCK.out _).mono ?_;rintro e w2 ⟨rfl,hn⟩;clear pa0 pa1 pa2 pa3 pa4 pa5;replace BA:=bW BA hn;replace HN:=tW HN hn;clear hn;obtain ⟨⟨pa0,pa1,pa2,pa3,pa4⟩,pa5⟩:=BA.out.five;go_wp2_with fail;refine (HSG.out _).mono ?_;rintro e w3 ⟨rfl,hw⟩;rw[hw];clear hw;go_wp2_with fail;refine (HCO.out _).mono ?_;rintro e w4 ⟨rfl,hn⟩;clear pa0 pa1 pa2 pa3 pa4 pa5;replace HN:=tW HN hn;clear hn;go_wp2_with fail;go_ret;exact ⟨rfl,HN.out⟩
theorem radc_err (b s z:Int)(g o:ByteArray)(hgl:g.size≤9223372036854775807)(hol:o.size≤9223372036854775807):∃ n:Int,
  (∀ W,Calls Tryz.prog 14 #[adcV b s z g o] W (RetNew W n))∧(n=0→g.size≤100000→o.size≤100000→∃ qg qo,AdcOk b s z g o qg qo):=by
 by_cases h1:outside b 8 12=true∨outside s (-20) 4=true
 ·exact ⟨3,fun W=>rcheckAdc_a b s z g o W h1,fun h=>by omega⟩
 rw[not_or,Bool.not_eq_true,Bool.not_eq_true]at h1;by_cases h2:outside z 0 (2^b.toNat - 1)=true
 ·exact ⟨3,fun W=>rcheckAdc_bw b s z g o W hgl h1.1 h1.2 3 (.inl ⟨h2,rfl⟩),fun h=>by omega⟩
 rw[Bool.not_eq_true]at h2;by_cases h3:ratErr g.data.toList=0
 ·obtain ⟨q,hf,hg⟩:=ratText_of_err h3;refine ⟨_,fun W=>rcheckAdc_cw b s z g o W hgl hol h1.1 h1.2 h2 q hf hg,fun h hgs hos=>?_⟩;by_cases h4:q.num.sign≤0
  ·rw[if_pos h4] at h;omega
  rw[if_neg h4]at h;obtain ⟨q2,hf2,ho⟩:=ratText_of_err h;simp only[outside,Bool.or_eq_false_iff,decide_eq_false_iff_not] at h1 h2;exact ⟨q,q2,by omega,by omega,by omega,by omega,by omega,by omega,hg,hf,Int.sign_pos_iff.1 (by omega),hgs,ho,hf2,hos⟩
 ·exact ⟨_,fun W=>rcheckAdc_bw b s z g o W hgl h1.1 h1.2 _ (.inr ⟨h2,rfl,h3⟩),fun h=>absurd h h3⟩
theorem rfewAdc_calls (b s z:Int)(g o:ByteArray)(w:World)(hgl:(g.size:Int)≤9223372036854775807)(hol:(o.size:Int)≤9223372036854775807):
  Calls Tryz.prog 42 #[adcV b s z g o] w fun e w'=>(∃ t:Bool,e=.returned (.bool t)∧(t=true→∃ qg qo,AdcOk b s z g o qg qo))∧New w w':=by
 obtain ⟨n,hca,hok⟩:=radc_err b s z g o (by omega) (by omega);have hfg:=fun W=>rfew_calls g W hgl;have hfo:=fun W=>rfew_calls o W hol;unfold adcV at *;clear hgl hol;by_cases h0:n=0
 ·subst h0;have hok:=hok rfl;have HCA:=hid hca;have HOK:=hid hok;have HFG:=hid hfg;have HFO:=hid hfo;clear hca hok hfg hfo;go_enter Tryz.func42,Tryz.ntmps42;go_upto_region 1 with (fail);obtain ⟨BA,HN⟩:=lay1 w 24 #[.int .i64 b,.int .i64 s,.int .i64 z,.string g,.string o];obtain ⟨⟨pa0,pa1,pa2,pa3,pa4⟩,pa5⟩:=BA.out.five;go_wp2_with fail;refine (HCA.out _).mono ?_;rintro e w1 ⟨rfl,hn⟩;clear pa0 pa1 pa2 pa3 pa4 pa5;replace BA:=bW BA hn;replace HN:=tW HN hn;clear hn;obtain ⟨⟨pa0,pa1,pa2,pa3,pa4⟩,pa5⟩:=BA.out.five;go_wp2_with fail;refine (HFG.out _).mono ?_;rintro e w2 ⟨⟨t,rfl,ht⟩,hn⟩;clear pa0 pa1 pa2 pa3 pa4 pa5;replace BA:=bW BA hn;replace HN:=tW HN hn;clear hn;obtain ⟨⟨pa0,pa1,pa2,pa3,pa4⟩,pa5⟩:=BA.out.five
  cases t with
  | false=>
   clear ht;go_wp2_with fail;go_ret;exact ⟨⟨_,rfl,fun h=>by cases h⟩,HN.out⟩
  | true=>
   have hg26:=(ht rfl).1;clear ht;have HG:=hid hg26;clear hg26;go_wp2_with fail;refine (HFO.out _).mono ?_;rintro e w3 ⟨⟨t,rfl,ht⟩,hn⟩;clear pa0 pa1 pa2 pa3 pa4 pa5;replace HN:=tW HN hn;clear hn;have HT:=hid ht;clear ht;go_wp2_with fail;go_ret;exact ⟨⟨_,rfl,fun h=>HOK.out (by have:=HG.out;omega) (by have:=(HT.out h).1;omega)⟩,HN.out⟩
 ·have h0b:(n==0)=false:=beq_false_of_ne h0;clear hok h0;have HCA:=hid hca;clear hca;go_enter Tryz.func42,Tryz.ntmps42;go_upto_region 1 with (fail);obtain ⟨BA,HN⟩:=lay1 w 24 #[.int .i64 b,.int .i64 s,.int .i64 z,.string g,.string o];obtain ⟨⟨pa0,pa1,pa2,pa3,pa4⟩,pa5⟩:=BA.out.five;go_wp2_with fail;refine (HCA.out _).mono ?_;rintro e w1 ⟨rfl,hn⟩;clear pa0 pa1 pa2 pa3 pa4 pa5;replace HN:=tW HN hn;clear hn;go_wp2_with fail;go_ret;exact ⟨⟨_,rfl,fun h=>by cases h⟩,HN.out⟩
theorem rows_zero:∀ (l:List ByteArray),(∀ v∈l,ratErr v.data.toList=0)→rowErr l=0:=by
 intro l
 induction l with
 | nil=>intro _;rfl
 | cons v l ih=>
  intro h;unfold rowErr;rw[if_pos (h v (List.mem_cons_self ..))];exact ih fun x hx=>h x (List.mem_cons_of_mem _ hx)
theorem quant_el {b s z:Int}{g o:ByteArray}{qg qo:Rat}(K:AdcOk b s z g o qg qo){v:ByteArray}{q:Rat}(hv:v.data.toList=ratText q)(hf:Fits q)(hsz:v.size≤26)(tp:Int)(htp:tp=2^b.toNat - 1)(c cl:Int)(hcl:clipC (rawQ s z q) tp=(c,cl)):
  QzEl b s z g o (rs (nomQ s z 0)) (rs (nomQ s z tp)) (rs (halfQ s)) v (Flo.vol (c - z) s) c cl (rs (nomQ s z c)):=by
 have htb:=top_bd K.blo K.bhi;have k1:=K.blo;have k2:=K.bhi;have lo:=K.slo;have hi:=K.shi;have k5:=K.zlo;have k6:=K.zhi
 have ht0:0≤tp:=by omega
 have ht1:tp≤4095:=by omega
 have hz:z≤tp:=by omega
 have hcr:=clipC_range (rawQ s z q) ht0;rw[hcl] at hcr;simp only at hcr
 have hd:(c - z).natAbs < 16777216:=by omega
 have hfq:fq (Flo.vol (c - z) s)=nomQ s z c:=fq_vol hd (by omega) (by omega);have hfb:∀ x,0≤x→x≤tp→FB 33 (nomQ s z x):=fun x h1 h2=>nomQ_fb K h1 (by omega);have hbn:=hfb c hcr.1 hcr.2;have hhb:=halfQ_fb lo hi;have hqb:=Fits.fb hf;have hvr:=rs_of hv;have hco:=fun W (hW:Env W)=>Code_ok K v q W hW hv hf (by omega);rw[←htp,hcl] at hco;have hcn:=fun W (hW:Env W)=>Code_ok K (rs (nomQ s z c)) (nomQ s z c) W hW (rs_list _) (hbn.fits (by omega)) (by have:=(RFB.of hbn).len;omega);rw[←htp,show rawQ s z (nomQ s z c)=c from rawQ_nom lo hi,clip_self hcr.1 hcr.2] at hcn;refine ⟨hco,fun W=>?_,fun W=>?_,hcn,fun W=>?_,?_⟩
 ·have:=rfin_new (Flo.vol (c - z) s) W;rw[vol_fin hd (by omega) (by omega)] at this;exact this
 ·have:=rexact_calls (Flo.vol (c - z) s) W (vol_lt hd (by omega) (by omega)) (vol_fin hd (by omega) (by omega));rw[hfq] at this;exact this
 ·exact rhas_calls _ _ _ W 33 (by omega) (RFB.of (hfb 0 (by omega) ht0)) (RFB.of (hfb tp ht0 (Int.le_refl _))) (RFB.of hbn) (nom_mono lo hi hcr.1) (nom_mono lo hi hcr.2)
 ·rcases clip_cases (rawQ s z q) ht0 with ⟨h1,e1⟩ | ⟨h1,e1⟩ | ⟨h1,h1',e1⟩
  ·rw[hcl] at e1;obtain ⟨rfl,rfl⟩:=Prod.mk.inj e1;refine .inr (.inl ⟨rfl,rfl,(q - nomQ s z 0).num.sign,fun W=>?_,sign_neg.2 (rawQ_neg lo hi h1)⟩);rw[hvr];exact rcmpQ_calls 2000 33 q _ W (RFB.of hqb) (RFB.of hbn) (by omega)
  ·rw[hcl] at e1;obtain ⟨rfl,rfl⟩:=Prod.mk.inj e1;refine .inr (.inr ⟨rfl,rfl,(q - nomQ s z c).num.sign,fun W=>?_,sign_pos.2 (rawQ_gt lo hi h1)⟩);rw[hvr];exact rcmpQ_calls 2000 33 q _ W (RFB.of hqb) (RFB.of hbn) (by omega)
  ·rw[hcl] at e1;obtain ⟨hc,rfl⟩:=Prod.mk.inj e1;have hlo:=rawQ_lo lo hi hc.symm;have hhi:=rawQ_hi lo hi (Int.le_of_eq hc.symm);have hsb:=RFB.of (hqb.sub hbn);have hle:absQ (q - nomQ s z c)≤halfQ s:=absQ_le (by grind) (by grind)
   have hab:RFB 2034 (absQ (q - nomQ s z c)):=by
    unfold absQ;split
    ·exact (hsb.neg).mono (by omega)
    ·exact hsb.mono (by omega)
   refine .inl ⟨rfl,⟨rs (q - nomQ s z c),rs (absQ (q - nomQ s z c)),_,fun W=>?_,fun W=>rabs_calls _ W (by have:=hsb.len;omega),fun W=>rcmpQ_calls 2034 33 _ _ W hab (RFB.of (hhb.mono (by omega))) (by omega),sign_le.2 hle⟩,?_⟩
   ·rw[hvr];exact rsubQ_calls 2000 33 q _ W (RFB.of hqb) (RFB.of hbn) (by omega)
   ·by_cases h0:c=0
    ·subst h0;exact .inl fun W hW=>interval_clip _ b s z g o 0 _ _ 15 (by decide) W hW rfl fun W hW=>ends_zero K W hW
    by_cases ht:c=tp
    ·exact .inl fun W hW=>interval_clip _ b s z g o c _ _ 15 (by decide) W hW rfl fun W hW=>ends_top K c (by omega) W hW
    have fx:FB 57 (nomQ s z c - halfQ s):=(hbn.sub hhb).mono (by omega);have fy:FB 57 (nomQ s z c+halfQ s):=(hbn.add hhb).mono (by omega);have hp:=half_pos lo hi;refine .inr ⟨rs (nomQ s z c - halfQ s),rs (nomQ s z c+halfQ s),fun W hW=>?_,fun W=>?_,fun W=>?_⟩
    ·exact interval_mid _ b s z g o c _ _ (fx.mono (by omega)).sm (fy.mono (by omega)).sm W hW rfl fun W hW=>ends_mid K c hcr.1 (by omega) h0 (by omega) W hW
    ·exact rspan_calls _ _ W (fx.fits (by omega)) (fy.fits (by omega)) (by grind) (by have:=(RFB.of fx).len;omega) (by have:=(RFB.of fy).len;omega)
    ·rw[hvr];exact rhas_calls _ _ q W 2000 (by omega) (RFB.of (fx.mono (by omega))) (RFB.of (fy.mono (by omega))) (RFB.of hqb) hlo (Rat.le_of_lt hhi)
theorem quant_ok {b s z:Int}{g o:ByteArray}{qg qo:Rat}(K:AdcOk b s z g o qg qo)(n:Nat)(vs:List ByteArray)(w:World)(he:Env w)(hn0:vs.length=n)(h20:n≤20)(hv:∀ (k:Nat) (h:k < vs.length),vs[k].size≤26∧ratErr vs[k].data.toList=0):
  ∃ (ys:List Nat) (cs:List Int) (F1 F2 L H:ByteArray),QzOk b s z g o n vs w ys cs F1 F2 L H:=by
 have hre:rowErr vs=0:=rows_zero vs fun v hm=>by
  obtain ⟨k,hk,rfl⟩:=List.getElem_of_mem hm;exact (hv k hk).2
 obtain ⟨qs,hql,hq⟩:=rats_of vs hre;have htb:=top_bd K.blo K.bhi;have k1:=K.blo;have k2:=K.bhi;have lo:=K.slo;have hi:=K.shi;have k5:=K.zlo;have k6:=K.zhi;obtain ⟨tp,htp⟩:∃ tp:Int,(2:Int)^b.toNat - 1=tp:=⟨_,rfl⟩;obtain ⟨N,hN⟩:∃ N:Nat,(N:Int)=2^b.toNat:=⟨(2^b.toNat:Int).toNat,by omega⟩
 have hNt:(N:Int)=tp+1:=by omega
 have ht0:0≤tp:=by omega
 have hcr:=fun q=>clipC_range (rawQ s z q) ht0
 have hd:=fun q=>show ((clipC (rawQ s z q) tp).1 - z).natAbs < 16777216 by have:=hcr q;omega
 have hys:samplesErr (qs.map (sampQ s z tp))=0:=by
  unfold samplesErr;rw[if_neg (by rw[List.length_map];omega),if_pos];rw[List.all_eq_true];intro y hy;obtain ⟨q, -,rfl⟩:=List.mem_map.1 hy;exact vol_fin (hd q) (by omega) (by omega)
 have hone:∀ q,(codeOf (volN s z) N (sampQ s z tp q)).2=true∧(codeOf (volN s z) N (sampQ s z tp q)).1=(clipC (rawQ s z q) tp).1:=fun q=>by
  have hfin:=vol_fin (s:=s) (hd q) (by omega) (by omega);have hfq:fq (sampQ s z tp q)=nomQ s z (clipC (rawQ s z q) tp).1:=fq_vol (hd q) (by omega) (by omega)
  obtain ⟨h1,h2⟩:=code_match (s:=s) (z:=z) (tp:=tp) (x:=sampQ s z tp q) (N:=N) hfin lo hi k5 (by omega) ht0 (by omega) hNt (k:=(clipC (rawQ s z q) tp).1)
   (by rw[hfq,show rawQ s z (nomQ s z (clipC (rawQ s z q) tp).1)=_ from rawQ_nom lo hi,clip_self (hcr q).1 (hcr q).2])
  have h3:sameF (Flo.vol ((clipC (rawQ s z q) tp).1 - z) s) (sampQ s z tp q)=true:=by
   have hF:=fin_of (x:=sampQ s z tp q) hfin;exact (same_val hF hF).trans (decide_eq_true rfl)
  rw[h3]at h1;exact ⟨h1.symm,h2 h1.symm⟩
 have hcB:codesB (volN s z) N (qs.map (sampQ s z tp))=true:=by
  unfold codesB;rw[List.all_eq_true];intro y hy;obtain ⟨q, -,rfl⟩:=List.mem_map.1 hy;exact (hone q).1
 have hcL:∀ l:List Rat,codesL (volN s z) N (l.map (sampQ s z tp))=l.map fun q=>(clipC (rawQ s z q) tp).1:=fun l=>by
  induction l with
  | nil=>rfl
  | cons q l ih=>show _::codesL (volN s z) N (l.map (sampQ s z tp))=_::_;rw[ih,(hone q).2]
 refine ⟨qs.map (sampQ s z tp),qs.map (fun q=>(clipC (rawQ s z q) tp).1),rs (nomQ s z 0),rs (nomQ s z tp),rs (stepQ s),rs (halfQ s),⟨fun W a c hW hr=>?_,fun W a c hW hr=>?_,fun W hW=>?_,fun W=>?_,fun W=>?_,fun W=>?_,by rw[List.length_map];omega,by rw[List.length_map];omega,fun k h hy hc=>?_,fun j k hj hk hj2 hk2=>?_⟩⟩
 ·have:=Sampled_all K a c n vs qs 0 W (he.new hW) hn0 (by omega) hr hre (fun k h=>by have:=(hv k h).1;omega) (fun _=>⟨by omega,hq⟩) (fun h=>absurd rfl h);rw[htp] at this;exact this
 ·have:=Codes_all K a c (qs.map (sampQ s z tp)) W (he.new hW) (by rw[List.length_map];omega) hr hys N hN _ 0 (by rw[if_pos hcB,hcL]) (if_pos hcB);rw[show (qs.map (sampQ s z tp)).length=n by rw[List.length_map];omega] at this;exact this
 ·have:=full_calls K W (he.new hW);rw[htp] at this;exact this
 ·have hfb:∀ x,0≤x→x≤tp→FB 33 (nomQ s z x):=fun x h1 h2=>nomQ_fb K h1 (by omega);have h1:=hfb 0 (by omega) ht0;have h2:=hfb tp ht0 (Int.le_refl _);exact rspan_calls _ _ W (h1.fits (by omega)) (h2.fits (by omega)) (nom_mono lo hi ht0) (by have:=(RFB.of h1).len;omega) (by have:=(RFB.of h2).len;omega)
 ·exact rlsb_calls b s z g o W lo hi
 ·have:=rhalf_calls 21 (stepQ s) W (RFB.of (stepQ_fb21 lo hi)) (by omega);rw[←hfq_eq] at this;exact this
 ·have hkq:k < qs.length:=by omega
  obtain ⟨e1,e2⟩:=hq k h hkq;refine ⟨(clipC (rawQ s z qs[k]) tp).2,rs (nomQ s z (clipC (rawQ s z qs[k]) tp).1),?_⟩;rw[List.getElem_map,List.getElem_map];exact quant_el K e1 e2 (hv k h).1 tp htp.symm _ _ rfl
 ·have hjq:j < qs.length:=by omega
  have hkq:k < qs.length:=by omega
  obtain ⟨e1,f1⟩:=hq j hj hjq;obtain ⟨e2,f2⟩:=hq k hk hkq;refine ⟨(qs[j] - qs[k]).num.sign,fun W=>?_,fun h=>?_,fun h=>?_,fun h=>?_⟩
  ·rw[rs_of e1,rs_of e2];exact rcmpQ_calls 2000 2000 _ _ W (RFB.of (Fits.fb f1)) (RFB.of (Fits.fb f2)) (by omega)
  ·rw[List.getElem_map,List.getElem_map];exact clip_mono ht0 (rawQ_mono lo hi (Rat.le_of_lt (sign_neg.1 h)))
  ·rw[List.getElem_map,List.getElem_map];exact clip_mono ht0 (rawQ_mono lo hi (Rat.le_of_lt (sign_pos.1 h)))
  ·rw[List.getElem_map,List.getElem_map,sign_zero h]
theorem quant_law (haw:AwakeOk) (b s z:Int) (g o:ByteArray) (av:Option Addr) (cv:Nat) (vs:List ByteArray) (w:World) (he:Env w) (hg:(g.size:Int)≤9223372036854775807) (ho:(o.size:Int)≤9223372036854775807)
  (hrv:RdL w av (strs vs)) (hzv:av=none→cv=0) (hnl:(vs.length:Int)≤9223372036854775807) (hvs:∀ (k:Nat) (h:k < vs.length),(vs[k].size:Int)≤9223372036854775807):
  Calls Tryz.prog 7 #[adcV b s z g o,.slice av vs.length cv] w fun e w'=>e=.returned (.bool true)∧New w w':=by
 refine quant_walk haw b s z g o av cv _ vs w he rfl (∃ qg qo,AdcOk b s z g o qg qo) (vs.length≤20∧∀ (k:Nat) (h:k < vs.length),vs[k].size≤26∧ratErr vs[k].data.toList=0) hrv hzv hnl (fun W=>rfewAdc_calls b s z g o W hg ho) (fun W hW=>rfewList_calls av cv _ 20 vs W rfl hnl (by omega) (hrv.new hW) hvs) fun ⟨qg,qo,K⟩ h20 hv=>quant_ok K _ vs w he rfl h20 hv.2
theorem quant_lifted (os:Os)(started:os.Started)(H:Type)(enc:TypeId × Value→H):
  ReturnsInHanded {} Tryz.checked os 7 .any (fun w args=>(Rows.probeQuantisesSpec.pre enc Tryz.prog Tryz.f7 [] false w args∧laidMetH Tryz.prog Listed w)∧sizedMet enc Tryz.prog Tryz.f7 (OpenSpec.ofChange Rows.probeQuantisesSpec) false w args)
   (Rows.probeQuantisesSpec.post enc Tryz.prog Tryz.f7 false true false false):=by
 refine returns_and_shaped (C:=Tryz.checked) (X:=fun w _=>laidMetH Tryz.prog Listed w) (fun _ _ _ hh h=>h.of_heap hh) own started (by kernel_rfl) Tryz.func7
  (ChangeSpec.witness_shaped (enc:=enc) (C:=Tryz.checked) (os:=os) (X:=fun w _=>laidMetH Tryz.prog Listed w) false (World.laidAll Tryz.prog os Listed) #[.agg #[.int .i64 0,.int .i64 0,.int .i64 0,.string ⟨#[]⟩,.string ⟨#[]⟩],.slice none 0 0] 8 (World.laidAll_os _ _ _)
   (World.shaped_of_ZipB (by kernel_rfl) (by kernel_rfl)) (by kernel_rfl) (by kernel_rfl) (by kernel_rfl) (witness_laid os _)) ?_
 intro W base args ds gs before hval0 hW hL hsh;have hval:∀ (j:Nat) t v,Tryz.f7.params[j]?=some t→args[j]?=some v→Value.okWide Tryz.prog W .any base t v:=hval0;have hW':=hW;obtain ⟨p,q,hA0,hV,rfl,_,_⟩:=hW;have hA:DataW.TrodAll enc Tryz.prog W 0 (fun _=>true) true Tryz.f7.params.toList args.toList ds p:=hA0;rw[Tryz.params7] at hA hval;obtain ⟨v0,v1,d0,d1,p0,p1,rfl,rfl,rfl,h0,h1⟩:=trodAll_two hA;obtain ⟨rfl,rfl⟩:=trodVars_none hV;have he:=env_of hL hsh
 have hlt:∀ x∈p0 ++ p1,x.block < W.heap.size:=fun x hx=>by simpa using hW'.lt x (by simpa using hx)
 have hv0:=hval 0 _ _ rfl rfl;have hv1:=hval 1 _ _ rfl rfl;clear hA0 hval0 hval hA
 have up:∀ W',New W W'→DataW.TrodAll enc Tryz.prog W' 0 (fun b=>decide (b < W.heap.size)) true [24,51] [v0,v1] [d0,d1] (p0 ++ p1):=fun W' hn=>
  trodAll_mk2 (Below.trod laidOut (by kernel_rfl) (of_decide_eq_true (by kernel_rfl)) h0 hn fun x hx=>hlt x (by simp[hx]))
   (Below.trod laidOut (by kernel_rfl) (of_decide_eq_true (by kernel_rfl)) h1 hn fun x hx=>hlt x (by simp[hx]))
 obtain ⟨b,s,z,g,o,rfl,hg,ho⟩:=in_adc hv0 h0;obtain ⟨av,cv,vs,rfl,hrv,hzv,hc1,hc2,hvs⟩:=in_rats Tryz.underlying51 Tryz.underlying22 (by kernel_rfl) hv1 h1;unfold maxLen at hc2;refine (quant_law awake_calls b s z g o av cv vs W he (by omega) (by omega) hrv hzv (by omega) hvs).mono fun e W' hp=>?_;obtain ⟨rfl,hn⟩:=hp;exact ⟨_,rfl,_,_,_,[],p0 ++ p1,[],hW',trodAll_mk1 (shut_bool Tryz.underlying4 _),up W' hn,rfl,Below.frame hn _,fun h=>by cases h⟩
theorem quant_holds:Rows.ProbeQuantisesSaid:=
 OpenClaim.holds_of_wide 7 Tryz.f7 rfl rfl rfl rfl rfl rfl rfl ⟨rfl,rfl,rfl,rfl,rfl⟩ rfl rfl rfl rfl rfl (by kernel_rfl) Tryz.func7 (by kernel_rfl)
  (of_decide_eq_true (by kernel_rfl)) (by unfold Func.isWrapper;first | (rw[if_pos (by decide +kernel)];kernel_rfl) | (rw[if_neg (by decide +kernel)];exact ⟨rfl,rfl⟩))
  (fun os started H enc _=>quant_lifted os started H enc)
theorem quant_card_holds:Rows.ProbeQuantisesCardSaid:=
 Claim7.holds_tied_plain_at .later [] [.data, .data, .data, .data, .sentinel, .sentinel, .pinned] true (true, "0317c1efc2cc73041a6463d23eedf5ef37cef014deea2dd9430a94fd6af32783") true
  quant_holds (fun _ h=>by cases h) (by kernel_rfl) (fun _ h=>by cases h) probeQuantises_row_tie rfl ⟨rfl,rfl⟩ (by kernel_rfl) rfl
  (fun f fn hf hfn=>by
   obtain rfl : f = 7 := Option.some.inj ((show Tryz.prog.funcNamed "strobe/strobelaw02.ProbeQuantises" = some 7 by kernel_rfl).symm.trans hf) |>.symm
   obtain rfl:fn=Tryz.f7:=(Option.some.inj (Tryz.func7.symm.trans hfn)).symm
   exact ⟨by kernel_rfl,fun j t ht=>by
    rw[Tryz.params7]at ht
    have hm:t∈[24,51]:=by simpa using Array.mem_of_getElem? ht
    have hall:([24,51].all fun u=>!Tryz.prog.wantsStandIn u)=true:=by kernel_rfl
    exact (show Tryz.prog.wantsStandIn t=false by simpa using List.all_eq_true.1 hall t hm)⟩)
  (by kernel_rfl)
end Go.Proofs.YtbkcjmojgglbkaaGreatDoor
