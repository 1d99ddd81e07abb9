/- Part CardCal01. -/
import Derived.Deep.RegionHeld
import Derived.Test.YtbkcjmojgglbkaaGreatDoorB33
namespace Go.Proofs.YtbkcjmojgglbkaaGreatDoor
open Go.RowKit Big Go.Lib
set_option maxRecDepth 100000
set_option maxHeartbeats 8000000
theorem checkAdc_a (b s z:Int)(g o:ByteArray)(w:World)(hb:outside b 8 12=true∨outside s (-20) 4=true):
  Calls Tryz.prog 15 #[.agg #[.int .i64 b,.int .i64 s,.int .i64 z,.string g,.string o]] w (RetNew w 3):=by
 obtain ⟨e1,he1⟩:∃ e1:Int,(if outside b 8 12 then 3 else 0)=e1:=⟨_,rfl⟩;obtain ⟨e2,he2⟩:∃ e2:Int,(if outside s (-20) 4 then 3 else 0)=e2:=⟨_,rfl⟩;obtain ⟨r,hr⟩:∃ r,(if e1=0 then e2 else e1)=r:=⟨_,rfl⟩
 have hr3:r=3:=by
  rw[←hr,←he1,←he2];rcases hb with h | h
  ·rw[h];rfl
  ·rw[h]
   cases outside b 8 12 <;> rfl
 clear hb
 have ht:(r != 0)=true:=by rw[hr3];rfl
 have HE1:=hid he1;have HE2:=hid he2;have HR1:=hid hr;have HR3:=hid hr3;clear he1 he2 hr hr3;go_enter Tryz.func15,Tryz.ntmps15;go_wp2_with fail;obtain ⟨BA,HN⟩:=lay1 w 32 #[.int .i64 b,.int .i64 s,.int .i64 z,.string g,.string o];obtain ⟨⟨pa0,pa1,pa2,pa3,pa4⟩,pa5⟩:=BA.out.five;clear pa0 pa1 pa2 pa3 pa4 pa5;refine wp_region_T 8 (fun W=>W.cell? ⟨w.heap.size,0,none⟩=some (.int .i64 b)∧W.cell? ⟨w.heap.size,1,none⟩=some (.int .i64 s)∧W.cell? ⟨w.heap.size,2,none⟩=some (.int .i64 z)∧W.cell? ⟨w.heap.size,3,none⟩=some (.string g)∧W.cell? ⟨w.heap.size,4,none⟩=some (.string o)) 9 #[false,false,false,false,false,false,false,false,false] rfl (by kernel_rfl) (by kernel_rfl) ?_;refine tk 0 (by exact cW5 BA) ?_
 try simp only[PT]
 refine tk 1 (by exact cW5 BA) ?_
 try simp only[PT]
 refine tk 3 (by exact cW5 BA) ?_
 try simp only[PT]
 refine tk 4 (by exact cW5 BA) ?_
 try simp only[PT]
 refine tk1 2 fun K hK=>?_;go_simp;refine (pwithin_new b 8 12 _).mono ?_;rintro e w1 ⟨rfl,hn⟩;rw[HE1.out];have hn:=hn.undrew;replace BA:=bW BA hn;replace HN:=tW HN hn;clear hn;refine hK.out _ _ (fun _=>cW5 BA) ?_;clear hK K
 try simp only[PT]
 refine tk1 5 fun K hK=>?_;go_simp;refine (pwithin_new s (-20) 4 _).mono ?_;rintro e w2 ⟨rfl,hn⟩;rw[HE2.out];replace BA:=bW BA hn;replace HN:=tW HN hn;clear hn;refine hK.out _ _ (fun _=>cW5 BA) ?_;clear hK K
 try simp only[PT]
 refine tk1 6 fun K hK=>?_;go_simp;have HN0:=HN;clear HN;obtain ⟨BG,HN⟩:=lay1 w2 29 #[.int .i64 e1,.int .i64 e2];replace BA:=hid (BA.out.new HN.out);have HN_:=HN0.out.trans HN.out;clear HN HN0;have HN:=hid HN_;clear HN_;refine hK.out _ _ (fun _=>cW5 BA) ?_;clear hK K
 try simp only[PT]
 refine tk1 7 fun K hK=>?_;go_simp;refine (pfirst2_new e1 e2 _ _ 29 _ BG.out).mono ?_;rintro e w3 ⟨rfl,hn⟩;rw[HR1.out];replace BA:=bW BA hn;replace HN:=tW HN hn;clear hn;refine hK.out _ _ (fun _=>cW5 BA) ?_;clear hK K
 try simp only[PT]
 refine tlW ?_;obtain ⟨⟨pa0,pa1,pa2,pa3,pa4⟩,pa5⟩:=BA.out.five;go_wp2_with fail;go_ret;exact ⟨ret_i64 HR3.out,HN.out⟩
theorem checkAdc_b (b s z:Int) (g o:ByteArray) (w:World) (he:Env w) (hgl:g.size≤100000) (hb:outside b 8 12=false) (hs:outside s (-20) 4=false) (r:Int)
  (hz:(outside z 0 (2^b.toNat - 1)=true∧r=3)∨(outside z 0 (2^b.toNat - 1)=false∧r=ratErr g.data.toList∧r≠0)):
  Calls Tryz.prog 15 #[.agg #[.int .i64 b,.int .i64 s,.int .i64 z,.string g,.string o]] w (RetNew w r):=by
 obtain ⟨e1,he1⟩:∃ e1:Int,(if outside b 8 12 then 3 else 0)=e1:=⟨_,rfl⟩;obtain ⟨e2,he2⟩:∃ e2:Int,(if outside s (-20) 4 then 3 else 0)=e2:=⟨_,rfl⟩;obtain ⟨r1,hr1⟩:∃ r,(if e1=0 then e2 else e1)=r:=⟨_,rfl⟩;obtain ⟨tp,htp⟩:∃ tp:Int,2^b.toNat - 1=tp:=⟨_,rfl⟩;rw[htp] at hz;obtain ⟨e3,he3⟩:∃ e3:Int,(if outside z 0 tp then 3 else 0)=e3:=⟨_,rfl⟩;obtain ⟨e4,he4⟩:∃ e4:Int,ratErr g.data.toList=e4:=⟨_,rfl⟩;obtain ⟨r2,hr2⟩:∃ r,(if e3=0 then e4 else e3)=r:=⟨_,rfl⟩
 have ht1:(r1 != 0)=false:=by rw[←hr1,←he1,←he2,hb,hs];rfl
 have hlo:8≤b:=by simp[outside] at hb;omega
 have hhi:b≤12:=by simp[outside] at hb;omega
 clear hb hs
 have hrr:r2=r∧r≠0:=by
  rw[←hr2,←he3,←he4];rcases hz with ⟨h,h1⟩ | ⟨h,h1,h2⟩
  ·rw[h,h1];exact ⟨rfl,by decide⟩
  ·rw[h];exact ⟨h1.symm,h2⟩
 have ht2:(r2 != 0)=true:=by rw[hrr.1];simpa using hrr.2
 clear hz;have HE1:=hid he1;have HE2:=hid he2;have HR1:=hid hr1;have HTP:=hid htp;have HE3:=hid he3;have HE4:=hid he4;have HR2:=hid hr2;have HRR:=hid hrr;have HLO:=hid hlo;have HHI:=hid hhi;have HE:=hid he;have HGL:=hid hgl;clear he1 he2 hr1 htp he3 he4 hr2 hrr hlo hhi he hgl;go_enter Tryz.func15,Tryz.ntmps15;go_wp2_with fail;obtain ⟨BA,HN⟩:=lay1 w 32 #[.int .i64 b,.int .i64 s,.int .i64 z,.string g,.string o];obtain ⟨⟨pa0,pa1,pa2,pa3,pa4⟩,pa5⟩:=BA.out.five;clear pa0 pa1 pa2 pa3 pa4 pa5;refine wp_region_T 8 (fun W=>W.cell? ⟨w.heap.size,0,none⟩=some (.int .i64 b)∧W.cell? ⟨w.heap.size,1,none⟩=some (.int .i64 s)∧W.cell? ⟨w.heap.size,2,none⟩=some (.int .i64 z)∧W.cell? ⟨w.heap.size,3,none⟩=some (.string g)∧W.cell? ⟨w.heap.size,4,none⟩=some (.string o)) 9 #[false,false,false,false,false,false,false,false,false] rfl (by kernel_rfl) (by kernel_rfl) ?_;refine tk 0 (by exact cW5 BA) ?_
 try simp only[PT]
 refine tk 1 (by exact cW5 BA) ?_
 try simp only[PT]
 refine tk 3 (by exact cW5 BA) ?_
 try simp only[PT]
 refine tk 4 (by exact cW5 BA) ?_
 try simp only[PT]
 refine tk1 2 fun K hK=>?_;go_simp;refine (pwithin_new b 8 12 _).mono ?_;rintro e w1 ⟨rfl,hn⟩;rw[HE1.out];have hn:=hn.undrew;replace BA:=bW BA hn;replace HN:=tW HN hn;clear hn;refine hK.out _ _ (fun _=>cW5 BA) ?_;clear hK K
 try simp only[PT]
 refine tk1 5 fun K hK=>?_;go_simp;refine (pwithin_new s (-20) 4 _).mono ?_;rintro e w2 ⟨rfl,hn⟩;rw[HE2.out];replace BA:=bW BA hn;replace HN:=tW HN hn;clear hn;refine hK.out _ _ (fun _=>cW5 BA) ?_;clear hK K
 try simp only[PT]
 refine tk1 6 fun K hK=>?_;go_simp;have HN0:=HN;clear HN;obtain ⟨BG,HN⟩:=lay1 w2 29 #[.int .i64 e1,.int .i64 e2];replace BA:=hid (BA.out.new HN.out);have HN_:=HN0.out.trans HN.out;clear HN HN0;have HN:=hid HN_;clear HN_;refine hK.out _ _ (fun _=>cW5 BA) ?_;clear hK K
 try simp only[PT]
 refine tk1 7 fun K hK=>?_;go_simp;refine (pfirst2_new e1 e2 _ _ 29 _ BG.out).mono ?_;rintro e w3 ⟨rfl,hn⟩;rw[HR1.out];replace BA:=bW BA hn;replace HN:=tW HN hn;clear hn;refine hK.out _ _ (fun _=>cW5 BA) ?_;clear hK K
 try simp only[PT]
 refine tlW ?_;obtain ⟨⟨pa0,pa1,pa2,pa3,pa4⟩,pa5⟩:=BA.out.five;go_wp2_with fail;clear pa0 pa1 pa2 pa3 pa4 pa5;refine wp_region_T 10 (fun W=>W.cell? ⟨w.heap.size,0,none⟩=some (.int .i64 b)∧W.cell? ⟨w.heap.size,1,none⟩=some (.int .i64 s)∧W.cell? ⟨w.heap.size,2,none⟩=some (.int .i64 z)∧W.cell? ⟨w.heap.size,3,none⟩=some (.string g)∧W.cell? ⟨w.heap.size,4,none⟩=some (.string o)) 11 #[false,false,false,false,false,false,false,false,false,false,false] rfl (by kernel_rfl) (by kernel_rfl) ?_;refine tk 0 (by exact cW5 BA) ?_
 try simp only[PT]
 refine tk 1 (by exact cW5 BA) ?_
 try simp only[PT]
 refine tk 2 (by exact cW5 BA) ?_
 try simp only[PT]
 refine tk 5 (by exact cW5 BA) ?_
 try simp only[PT]
 refine tk 6 (by exact cW5 BA) ?_
 try simp only[PT]
 refine tk1 3 fun K hK=>?_;go_simp;refine (top_calls b s z g o _ HLO.out HHI.out).mono ?_;rintro e w4 ⟨rfl,hn⟩;rw[HTP.out];have hn:=hn.undrew;replace BA:=bW BA hn;replace HN:=tW HN hn;clear hn;refine hK.out _ _ (fun _=>cW5 BA) ?_;clear hK K
 try simp only[PT]
 refine tk1 4 fun K hK=>?_;go_simp;refine (pwithin_new z 0 tp _).mono ?_;rintro e w5 ⟨rfl,hn⟩;rw[HE3.out];replace BA:=bW BA hn;replace HN:=tW HN hn;clear hn;refine hK.out _ _ (fun _=>cW5 BA) ?_;clear hK K
 try simp only[PT]
 refine tk1 7 fun K hK=>?_;go_simp;refine (check_calls g _ (HE.out.new HN.out) HGL.out).mono ?_;rintro e w6 ⟨rfl,hn⟩;rw[HE4.out];replace BA:=bW BA hn;replace HN:=tW HN hn;clear hn;refine hK.out _ _ (fun _=>cW5 BA) ?_;clear hK K
 try simp only[PT]
 refine tk1 8 fun K hK=>?_;go_simp;have HN0:=HN;clear HN;obtain ⟨BH,HN⟩:=lay1 w6 29 #[.int .i64 e3,.int .i64 e4];replace BA:=hid (BA.out.new HN.out);have HN_:=HN0.out.trans HN.out;clear HN HN0;have HN:=hid HN_;clear HN_;refine hK.out _ _ (fun _=>cW5 BA) ?_;clear hK K
 try simp only[PT]
 refine tk1 9 fun K hK=>?_;go_simp;refine (pfirst2_new e3 e4 _ _ 29 _ BH.out).mono ?_;rintro e w7 ⟨rfl,hn⟩;rw[HR2.out];replace BA:=bW BA hn;replace HN:=tW HN hn;clear hn;refine hK.out _ _ (fun _=>cW5 BA) ?_;clear hK K
 try simp only[PT]
 refine tlW ?_;obtain ⟨⟨pa0,pa1,pa2,pa3,pa4⟩,pa5⟩:=BA.out.five;go_wp2_with fail;go_ret;exact ⟨ret_i64 HRR.out.1,HN.out⟩
theorem rminus_calls (v:Value)(z:Int)(w:World)(h:IsZ w v z):
  Calls Tryz.prog 166 #[v] w (RetZ w (-z)):=by
 obtain ⟨b,a,l,c,rfl⟩:=h.shape;obtain ⟨hb,hd⟩:=h.parts;have hs:=fun W (hW:New w W) b=>rsigned_calls b _ _ W (hd.n.new hW)
 have e:sgnd (!b) z.natAbs= -z:=by
  rw[hb];unfold sgnd;by_cases h:z < 0
  ·rw[decide_eq_true h];simp;omega
  ·rw[decide_eq_false h];simp;omega
 clear h hd hb;have HS:=hid hs;have HE:=hid e;clear hs e;go_enter Tryz.func166,Tryz.ntmps166;go_wp2_with fail;obtain ⟨BA,BP,HN⟩:=lay2 w 137 #[.bool b,.slice a l c] 137 #[.bool false,.slice none 0 0];refine (HS.out _ HN.out _).mono ?_;rintro e w1 ⟨v1,rfl,hn,hz⟩;rw[HE.out] at hz;obtain ⟨b9,a9,l9,c9,rfl⟩:=hz.shape;have HZ:=hid hz;clear hz;replace BP:=bW BP hn;replace HN:=tW HN hn;clear hn;obtain ⟨p0,p1,p2,p3,p4⟩:=BP.out.two;go_wp2_with fail;refine bodyPost_ret (v:=.agg #[.bool b9,.slice a9 l9 c9]) (by simp[results,Tryz.results166,go_sem,p0,p1]) rfl ?_;exact z_ret HN.out BP.out (by omega) HZ.out
theorem rfromInt_calls (z:Int)(w:World)(lo: -9223372036854775808≤z)(hi:z≤9223372036854775807):Calls Tryz.prog 85 #[.int .i64 z] w (RetS w (z:Rat)):=by
 have hwh:=fun W=>rwhole_calls z W lo hi
 have hK:z.natAbs < B9^3:=by
  have:B9^3=1000000000000000000000000000:=by decide
  omega
 have htx:=fun W v (h:IsZ W v z)=>rtext_calls 3 v z W h (by omega) hK
 have hr:rs (z:Rat)=bs (itoa z):=by unfold rs;rw[ratText_int]
 clear lo hi hK;have HWH:=hid hwh;have HTX:=hid htx;have HR:=hid hr;clear hwh htx hr;go_enter Tryz.func85,Tryz.ntmps85;go_wp2_with fail;refine (HWH.out _).mono ?_;rintro e w1 ⟨v1,rfl,hn,hz⟩;obtain ⟨b1,a1,l1,c1,rfl⟩:=hz.shape;have HZ:=hid hz;have HN:=hid hn;clear hz hn;go_wp2_with fail;refine (HTX.out _ _ HZ.out).mono ?_;rintro e w2 ⟨rfl,hn⟩;replace HN:=tW HN hn;clear hn;go_wp2_with fail;go_ret;exact ⟨by rw[HR.out];rfl,HN.out⟩
theorem rnominal_calls (b s z code:Int)(g o:ByteArray)(w:World)(lo: -20≤s)(hi:s≤4)(zl:0≤z)(zh:z≤4095)(cl:0≤code)(ch:code≤4096):Calls Tryz.prog 77 #[.agg #[.int .i64 b,.int .i64 s,.int .i64 z,.string g,.string o],.int .i64 code] w (RetS w (nomQ s z code)):=by
 have hls:=fun W=>rlsb_calls b s z g o W lo hi;have hfi:=fun W=>rfromInt_calls (code - z) W (by omega) (by omega);have hmu:=fun W=>rmulQ_calls 41 13 (stepQ s) ((code - z:Int):Rat) W (RFB.of (stepQ_fb lo hi)) (rfb_int (by omega) (by omega)) (by omega);obtain ⟨R,hR⟩:∃ R,nomQ s z code=R:=⟨_,rfl⟩;have hR':=hR;unfold nomQ at hR';obtain ⟨A,hA⟩:∃ A,rs (stepQ s)=A:=⟨_,rfl⟩;obtain ⟨B,hB⟩:∃ B,rs ((code - z:Int):Rat)=B:=⟨_,rfl⟩;have hls:=fun W=>(hls W).mono fun e w' h=>RetS.to hA h;have hfi:=fun W=>(hfi W).mono fun e w' h=>RetS.to hB h;simp only[hA,hB,hR'] at hmu;rw[hR]
 have hcz:IntKind.i64.wrap (code - z)=code - z:=by rw[IntKind.wrap_i64];omega
 clear hR hR' hA hB lo hi;have HLS:=hid hls;have HFI:=hid hfi;have HMU:=hid hmu;clear hls hfi hmu;go_enter Tryz.func77,Tryz.ntmps77;go_upto_region 1 with (fail);obtain ⟨BA,HN⟩:=lay1 w 24 #[.int .i64 b,.int .i64 s,.int .i64 z,.string g,.string o];obtain ⟨⟨pa0,pa1,pa2,pa3,pa4⟩,pa5⟩:=BA.out.five;clear pa0 pa1 pa2 pa3 pa4 pa5;refine wp_region_T 8 (fun W=>W.cell? ⟨w.heap.size,0,none⟩=some (.int .i64 b)∧W.cell? ⟨w.heap.size,1,none⟩=some (.int .i64 s)∧W.cell? ⟨w.heap.size,2,none⟩=some (.int .i64 z)∧W.cell? ⟨w.heap.size,3,none⟩=some (.string g)∧W.cell? ⟨w.heap.size,4,none⟩=some (.string o)) 9 #[false,false,false,false,false,false,false,false,false] rfl (by kernel_rfl) (by kernel_rfl) ?_;refine tk 0 (by exact cW5 BA) ?_
 try simp only[PT]
 refine tk 2 (by exact cW5 BA) ?_
 try simp only[PT]
 refine tk 3 (by exact cW5 BA) ?_
 try simp only[PT]
 refine tk 4 (by exact cW5 BA) ?_
 try simp only[PT]
 refine tk 5 (by exact cW5 BA) ?_
 try simp only[PT]
 refine tk1 1 fun K hK=>?_;go_simp;refine (HLS.out _).mono ?_;rintro e w1 ⟨rfl,hn⟩;have hn:=hn.undr;replace BA:=bW BA hn;replace HN:=tW HN hn;clear hn;refine hK.out _ _ (fun _=>cW5 BA) ?_;clear hK K
 try simp only[PT]
 refine tk1 6 fun K hK=>?_;go_simp;refine (HFI.out _).mono ?_;rintro e w2 ⟨rfl,hn⟩;replace BA:=bW BA hn;replace HN:=tW HN hn;clear hn;refine hK.out _ _ (fun _=>cW5 BA) ?_;clear hK K
 try simp only[PT]
 refine tk1 7 fun K hK=>?_;go_simp;refine (HMU.out _).mono ?_;rintro e w3 ⟨rfl,hn⟩;replace BA:=bW BA hn;replace HN:=tW HN hn;clear hn;refine hK.out _ _ (fun _=>cW5 BA) ?_;clear hK K
 try simp only[PT]
 refine tlW ?_;obtain ⟨⟨pa0,pa1,pa2,pa3,pa4⟩,pa5⟩:=BA.out.five;go_wp2_with fail;go_ret;exact ⟨rfl,HN.out⟩
theorem rcheckAdc_b (b s z:Int) (g o:ByteArray) (w:World) (hgl:g.size≤100000) (hb:outside b 8 12=false) (hs:outside s (-20) 4=false) (r:Int)
  (hz:(outside z 0 (2^b.toNat - 1)=true∧r=3)∨(outside z 0 (2^b.toNat - 1)=false∧r=ratErr g.data.toList∧r≠0)):
  Calls Tryz.prog 14 #[.agg #[.int .i64 b,.int .i64 s,.int .i64 z,.string g,.string o]] w (RetNew w r):=by
 have h1:¬b < 8:=by simp only[outside,Bool.or_eq_false_iff,decide_eq_false_iff_not] at hb;omega
 have h2:¬12 < b:=by simp only[outside,Bool.or_eq_false_iff,decide_eq_false_iff_not] at hb;omega
 have h3:¬s < -20:=by simp only[outside,Bool.or_eq_false_iff,decide_eq_false_iff_not] at hs;omega
 have h4:¬4 < s:=by simp only[outside,Bool.or_eq_false_iff,decide_eq_false_iff_not] at hs;omega
 have h1b:=decide_eq_false h1;have h2b:=decide_eq_false h2;have h3b:=decide_eq_false h3;have h4b:=decide_eq_false h4;have hcc:=fun W=>rcheckCode_calls b s z z g o W (by omega) (by omega);have hck:=fun W=>rcheck_calls g W (by omega);rcases hz with ⟨hz,rfl⟩ | ⟨hz,hr,hr0⟩
 ·rw[hz,if_pos rfl] at hcc;clear hb hs hz hck hgl;have HCC:=hid hcc;clear hcc;go_enter Tryz.func14,Tryz.ntmps14;go_upto_region 1 with (fail);obtain ⟨BA,HN⟩:=lay1 w 24 #[.int .i64 b,.int .i64 s,.int .i64 z,.string g,.string o];obtain ⟨⟨pa0,pa1,pa2,pa3,pa4⟩,pa5⟩:=BA.out.five;go_wp2_with fail;refine (HCC.out _).mono ?_;rintro e w1 ⟨rfl,hn⟩;clear pa0 pa1 pa2 pa3 pa4 pa5;replace BA:=bW BA hn;replace HN:=tW HN hn;clear hn;obtain ⟨⟨pa0,pa1,pa2,pa3,pa4⟩,pa5⟩:=BA.out.five;go_wp2_with fail;go_ret;exact ⟨rfl,HN.out⟩
 ·rw[hz,if_neg (by decide)] at hcc;rw[←hr] at hck
  have hrb:(r != 0)=true:=by simpa using hr0
  have hrc:(r==0)=false:=by simpa using hr0
  clear hb hs hz hr hr0 hgl;have HCC:=hid hcc;have HCK:=hid hck;clear hcc hck;go_enter Tryz.func14,Tryz.ntmps14;go_upto_region 1 with (fail);obtain ⟨BA,HN⟩:=lay1 w 24 #[.int .i64 b,.int .i64 s,.int .i64 z,.string g,.string o];obtain ⟨⟨pa0,pa1,pa2,pa3,pa4⟩,pa5⟩:=BA.out.five;go_wp2_with fail;refine (HCC.out _).mono ?_;rintro e w1 ⟨rfl,hn⟩;clear pa0 pa1 pa2 pa3 pa4 pa5;replace BA:=bW BA hn;replace HN:=tW HN hn;clear hn;obtain ⟨⟨pa0,pa1,pa2,pa3,pa4⟩,pa5⟩:=BA.out.five;go_wp2_with fail;refine (HCK.out _).mono ?_;rintro e w2 ⟨rfl,hn⟩;clear pa0 pa1 pa2 pa3 pa4 pa5;replace BA:=bW BA hn;replace HN:=tW HN hn;clear hn;go_wp2_with fail;go_ret;exact ⟨rfl,HN.out⟩
theorem rcheckAdc_c (b s z:Int) (g o:ByteArray) (w:World) (hgl:g.size≤100000) (hol:o.size≤100000) (hb:outside b 8 12=false) (hs:outside s (-20) 4=false)
  (hz:outside z 0 (2^b.toNat - 1)=false) (q:Rat) (hf:Fits q) (hg:g.data.toList=ratText q):
  Calls Tryz.prog 14 #[.agg #[.int .i64 b,.int .i64 s,.int .i64 z,.string g,.string o]] w (RetNew w (if q.num.sign≤0 then 3 else ratErr o.data.toList)):=by
 have h1:¬b < 8:=by simp only[outside,Bool.or_eq_false_iff,decide_eq_false_iff_not] at hb;omega
 have h2:¬12 < b:=by simp only[outside,Bool.or_eq_false_iff,decide_eq_false_iff_not] at hb;omega
 have h3:¬s < -20:=by simp only[outside,Bool.or_eq_false_iff,decide_eq_false_iff_not] at hs;omega
 have h4:¬4 < s:=by simp only[outside,Bool.or_eq_false_iff,decide_eq_false_iff_not] at hs;omega
 have h1b:=decide_eq_false h1;have h2b:=decide_eq_false h2;have h3b:=decide_eq_false h3;have h4b:=decide_eq_false h4;have hcc:=fun W=>rcheckCode_calls b s z z g o W (by omega) (by omega);have hck:=fun W=>rcheck_calls g W (by omega);have hco:=fun W=>rcheck_calls o W (by omega);rw[hg,ratErr_ratText hf] at hck;rw[hz,if_neg (by decide)] at hcc;have hsg:=fun W=>rsign_calls q W
 have hgq:rs q=g:=by
  apply ByteArray.ext;apply Array.toList_inj.1;rw[rs_list,hg]
 simp only[hgq]at hsg;obtain ⟨t,ht⟩:∃ t,q.num.sign=t:=⟨_,rfl⟩;obtain ⟨r,hr⟩:∃ r,ratErr o.data.toList=r:=⟨_,rfl⟩;simp only[ht] at hsg;rw[hr] at hco;rw[ht,hr];clear hb hs hz hgl hol hf hg hgq ht hr;by_cases h0:t≤0
 ·rw[if_pos h0];have h0b:=decide_eq_true h0;have HCC:=hid hcc;have HCK:=hid hck;have HSG:=hid hsg;clear hcc hck hsg;go_enter Tryz.func14,Tryz.ntmps14;go_upto_region 1 with (fail);obtain ⟨BA,HN⟩:=lay1 w 24 #[.int .i64 b,.int .i64 s,.int .i64 z,.string g,.string o];obtain ⟨⟨pa0,pa1,pa2,pa3,pa4⟩,pa5⟩:=BA.out.five;go_wp2_with fail;refine (HCC.out _).mono ?_;rintro e w1 ⟨rfl,hn⟩;clear pa0 pa1 pa2 pa3 pa4 pa5;replace BA:=bW BA hn;replace HN:=tW HN hn;clear hn;obtain ⟨⟨pa0,pa1,pa2,pa3,pa4⟩,pa5⟩:=BA.out.five;go_wp2_with fail;refine (HCK.out _).mono ?_;rintro e w2 ⟨rfl,hn⟩;clear pa0 pa1 pa2 pa3 pa4 pa5;replace BA:=bW BA hn;replace HN:=tW HN hn;clear hn;obtain ⟨⟨pa0,pa1,pa2,pa3,pa4⟩,pa5⟩:=BA.out.five;go_wp2_with fail;refine (HSG.out _).mono ?_;rintro e w3 ⟨rfl,hw⟩;rw[hw];clear hw;go_wp2_with fail;go_ret;exact ⟨rfl,HN.out⟩
 ·rw[if_neg h0];have h0b:=decide_eq_false h0;have HCC:=hid hcc;have HCK:=hid hck;have HSG:=hid hsg;have HCO:=hid hco;clear hcc hck hsg hco;go_enter Tryz.func14,Tryz.ntmps14;go_upto_region 1 with (fail);obtain ⟨BA,HN⟩:=lay1 w 24 #[.int .i64 b,.int .i64 s,.int .i64 z,.string g,.string o];obtain ⟨⟨pa0,pa1,pa2,pa3,pa4⟩,pa5⟩:=BA.out.five;go_wp2_with fail;refine (HCC.out _).mono ?_;rintro e w1 ⟨rfl,hn⟩;clear pa0 pa1 pa2 pa3 pa4 pa5;replace BA:=bW BA hn;replace HN:=tW HN hn;clear hn;obtain ⟨⟨pa0,pa1,pa2,pa3,pa4⟩,pa5⟩:=BA.out.five;go_wp2_with fail;refine (HCK.out _).mono ?_;rintro e w2 ⟨rfl,hn⟩;clear pa0 pa1 pa2 pa3 pa4 pa5;replace BA:=bW BA hn;replace HN:=tW HN hn;clear hn;obtain ⟨⟨pa0,pa1,pa2,pa3,pa4⟩,pa5⟩:=BA.out.five;go_wp2_with fail;refine (HSG.out _).mono ?_;rintro e w3 ⟨rfl,hw⟩;rw[hw];clear hw;go_wp2_with fail;refine (HCO.out _).mono ?_;rintro e w4 ⟨rfl,hn⟩;clear pa0 pa1 pa2 pa3 pa4 pa5;replace HN:=tW HN hn;clear hn;go_wp2_with fail;go_ret;exact ⟨rfl,HN.out⟩
end Go.Proofs.YtbkcjmojgglbkaaGreatDoor
