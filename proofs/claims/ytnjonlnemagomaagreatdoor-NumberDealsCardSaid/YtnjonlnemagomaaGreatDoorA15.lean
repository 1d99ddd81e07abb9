/- Part A15. -/
import Derived.WalkMore
import Derived.Maps.OwnOps
import Derived.Deep.DeepCutAuto
import Derived.Deep.RegionHeld
import Derived.WalkSpells
import Derived.Shelf.Strings.BuilderK
import Derived.Test.YtnjonlnemagomaaGreatDoorA14
namespace Go.Proofs.YtnjonlnemagomaaGreatDoor
open Go.RowKit Big Go.ChangeMaps Go.MapKept Go.Lib
set_option maxRecDepth 100000
set_option maxHeartbeats 8000000
def serU47:Int:=100000000000000000000000000000000000000000000000
def serSum:Int:=70710678118654752440084436210484903928483593768848
theorem low_val:(Rat.divInt (serSum - 1000000) serU47).floor=707:=by decide +kernel
theorem high_val:(Rat.divInt (serSum+1000000) serU47).floor=707:=by decide +kernel
theorem ser_bds:serSum.natAbs < 2^400∧serU47.natAbs < 2^400∧(serSum - 1000000).natAbs < 2^400∧(serSum+1000000).natAbs < 2^400∧serU47≠0:=by decide +kernel
theorem idx_scale (W:World):(Instr.index 96 (.agg #[.int .i64 50,.int .i64 100]) (.int .i64 0)).run Tryz.prog W=.ok (.int .i64 50) W:=by kernel_rfl
theorem below_calls (va:Value)(w:World)(hx:IsFrac w va (Rat.divInt 1 8)):Calls Tryz.prog 213 #[va,.int .i64 3] w (IntPost w 707):=by
 obtain ⟨sa,aa,la,ca,ta,ba,ma,na,rfl⟩:=hx.shape;have bd:∀ z:Int,z.natAbs < 2^400→Bd z:=fun z h=>⟨400,by omega,h⟩;have hse:=fun va W h=>series_calls va W h;rw[show serS 20=serSum from ser_sum] at hse;have hten:=fun W=>ten_calls 47 W (by omega);rw[show ((47:Nat):Int)=47 from rfl,show (10:Int)^47=serU47 from ser_unit] at hten;obtain ⟨b1,b2,b3,b4,b5⟩:=ser_bds;have s6:∀ W,IsInt W (.agg #[.int .i64 1000000,.slice none 0 0]) 1000000:=fun W=>.small rfl (by omega) (by omega);have hsb:=fun va W h=>sub_calls va _ serSum 1000000 W h (s6 W) (bd _ b1) (bd _ (by decide +kernel));have had:=fun va W h=>add_calls va _ serSum 1000000 W h (s6 W) (bd _ b1) (bd _ (by decide +kernel));have hm1:=fun va vb W h1 h2=>make_calls va vb (serSum - 1000000) serU47 W h1 h2 (bd _ b3) (bd _ b2) b5;have hm2:=fun va vb W h1 h2=>make_calls va vb (serSum+1000000) serU47 W h1 h2 (bd _ b4) (bd _ b2) b5;have hf1:=fun va W h=>floor_calls va (Rat.divInt (serSum - 1000000) serU47) 400 W h (FB.divInt b3 b2 b5) (by omega);have hf2:=fun va W h=>floor_calls va (Rat.divInt (serSum+1000000) serU47) 400 W h (FB.divInt b4 b2 b5) (by omega);rw[low_val] at hf1;rw[high_val] at hf2;have hcm:=fun va vb W h1 h2=>cmp_calls va vb 707 707 W h1 h2 (bd _ (by decide +kernel)) (bd _ (by decide +kernel));unfold SignPost at hcm;rw[show ((707:Int) - 707).sign=0 by decide] at hcm;obtain ⟨S,hS⟩:∃ S,serSum=S:=⟨_,rfl⟩;obtain ⟨U,hU⟩:∃ S,serU47=S:=⟨_,rfl⟩;simp only[hS] at hse hsb had hm1 hm2 hf1 hf2;simp only[hU] at hten hm1 hm2 hf1 hf2;obtain ⟨S1,hS1⟩:∃ x,S - 1000000=x:=⟨_,rfl⟩;obtain ⟨S2,hS2⟩:∃ x,S+1000000=x:=⟨_,rfl⟩;simp only[hS1] at hsb hm1 hf1;simp only[hS2] at had hm2 hf2;obtain ⟨q1,hq1⟩:∃ q,Rat.divInt S1 U=q:=⟨_,rfl⟩;obtain ⟨q2,hq2⟩:∃ q,Rat.divInt S2 U=q:=⟨_,rfl⟩;simp only[hq1] at hm1 hf1;simp only[hq2] at hm2 hf2;obtain ⟨Z,hZ⟩:∃ Z:Int,707=Z:=⟨_,rfl⟩;simp only[hZ] at hf1 hf2 hcm;rw[hZ];clear hS hU hS1 hS2 hq1 hq2 b1 b2 b3 b4 b5 s6 bd hZ;have HX:=hid hx;have HSE:=hid hse;have HTEN:=hid hten;have HSB:=hid hsb;have HAD:=hid had;have HM1:=hid hm1;have HM2:=hid hm2;have HF1:=hid hf1;have HF2:=hid hf2;have HCM:=hid hcm;clear hx hse hten hsb had hm1 hm2 hf1 hf2 hcm;go_enter Tryz.func213,Tryz.ntmps213;go_wp2_with fail
 go_step3
 go_wp2_with fail
 go_step3
 go_wp2_with fail;obtain ⟨BA,BP,BL,HN⟩:=lay3 w 115 #[.int .i64 sa,.slice aa la ca,.int .i64 ta,.slice ba ma na] 113 #[.int .i64 0,.slice none 0 0] 113 #[.int .i64 0,.slice none 0 0];replace HX:=hid (HX.out.new HN.out);obtain ⟨w0,hw0⟩:∃ u,((w.alloc (.cells #[.int .i64 sa,.slice aa la ca,.int .i64 ta,.slice ba ma na] 115)).alloc (.cells #[.int .i64 0,.slice none 0 0] 113)).alloc (.cells #[.int .i64 0,.slice none 0 0] 113)=u:=⟨_,rfl⟩;rw[hw0] at BA BP BL HN HX⊢;clear hw0;go_loopw [12] (fun i wr=>i=.int .i64 0∧Hid (wr=w0)) (fun _ _=>0)
 case atStart=>exact ⟨rfl,hid rfl⟩
 case round=>
  obtain ⟨rfl,HW⟩:=hrel;rw[HW.out];clear HW;have hix:=idx_scale;obtain ⟨⟨pa0,pa1,pa2,pa3⟩,pa4,pa5,pa6,pa7,pa8⟩:=BA.out.four;go_wp2_with fail;refine (HSE.out _ _ HX.out).mono ?_;rintro e w1 ⟨v1,rfl,hn,hi⟩;obtain ⟨s1,a1,l1,k1,rfl⟩:=hi.shape;have HI1:=hid hi;clear hi;clear pa0 pa1 pa2 pa3 pa4 pa5 pa6 pa7 pa8;clear BA HX;replace BP:=hid (BP.out.new hn);replace BL:=hid (BL.out.new hn);replace HN:=hid (HN.out.trans hn);clear hn;have lo1:=BL.out.lt;go_upto_region 6 with (fail);have HN0:=HN;clear HN;obtain ⟨BS,HN⟩:=lay1 w1 113 #[.int .i64 s1,.slice a1 l1 k1];replace BP:=hid (BP.out.new HN.out);replace BL:=hid (BL.out.new HN.out);replace HI1:=hid (HI1.out.new HN.out);have HN_:=HN0.out.trans HN.out;clear HN HN0;have HN:=hid HN_;clear HN_;obtain ⟨w2,hw2⟩:∃ u,w1.alloc (.cells #[.int .i64 s1,.slice a1 l1 k1] 113)=u:=⟨_,rfl⟩;rw[hw2] at BS BP BL HN HI1⊢;clear hw2;go_wp2_with fail;refine (HTEN.out _).mono ?_;rintro e w3 ⟨v3,rfl,hn,hi⟩;obtain ⟨s3,a3,l3,k3,rfl⟩:=hi.shape;have HI3:=hid hi;clear hi;replace BP:=hid (BP.out.new hn);replace BL:=hid (BL.out.new hn);replace BS:=hid (BS.out.new hn);replace HI1:=hid (HI1.out.new hn);replace HN:=hid (HN.out.trans hn);clear hn;have lo2:=BS.out.lt;go_upto_region 7 with (fail);have HN0:=HN;clear HN;obtain ⟨BU,HN⟩:=lay1 w3 113 #[.int .i64 s3,.slice a3 l3 k3];replace BP:=hid (BP.out.new HN.out);replace BL:=hid (BL.out.new HN.out);replace BS:=hid (BS.out.new HN.out);replace HI1:=hid (HI1.out.new HN.out);replace HI3:=hid (HI3.out.new HN.out);have HN_:=HN0.out.trans HN.out;clear HN HN0;have HN:=hid HN_;clear HN_;obtain ⟨w4,hw4⟩:∃ u,w3.alloc (.cells #[.int .i64 s3,.slice a3 l3 k3] 113)=u:=⟨_,rfl⟩;rw[hw4] at BU BS BP BL HN HI1 HI3⊢;clear hw4;obtain ⟨xs0,xs1,xs2,xs3,xs4⟩:=BS.out.two;obtain ⟨xu0,xu1,xu2,xu3,xu4⟩:=BU.out.two;obtain ⟨xl0,xl1,xl2,xl3,xl4⟩:=BL.out.two;refine wp_region_T 6 (fun W=>W.cell? ⟨w1.heap.size,0,none⟩=some (.int .i64 s1)∧W.cell? ⟨w1.heap.size,1,none⟩=some (.slice a1 l1 k1)∧W.cell? ⟨w3.heap.size,0,none⟩=some (.int .i64 s3)∧W.cell? ⟨w3.heap.size,1,none⟩=some (.slice a3 l3 k3)) 7 #[false,false,false,false,false,false,false] rfl (by kernel_rfl) (by kernel_rfl) ?_;refine tk 0 (by exact ⟨xs0,xs1,xu0,xu1⟩) ?_
  try simp only[PT]
  refine tk 3 (by exact ⟨xs0,xs1,xu0,xu1⟩) ?_
  try simp only[PT]
  refine wpT_one 1 rfl (by kernel_rfl) (fun K hK=>?_);go_simp;refine (of_calls 1000000 _).mono ?_;rintro e w5 ⟨rfl,hn⟩;have hn:=hn.undrew;clear xs0 xs1 xs2 xs3 xs4 xu0 xu1 xu2 xu3 xu4 xl0 xl1 xl2 xl3 xl4;replace BP:=hid (BP.out.new hn);replace BL:=hid (BL.out.new hn);replace BS:=hid (BS.out.new hn);replace BU:=hid (BU.out.new hn);replace HI1:=hid (HI1.out.new hn);replace HI3:=hid (HI3.out.new hn);replace HN:=hid (HN.out.trans hn);clear hn;obtain ⟨xs0,xs1,xs2,xs3,xs4⟩:=BS.out.two;obtain ⟨xu0,xu1,xu2,xu3,xu4⟩:=BU.out.two;obtain ⟨xl0,xl1,xl2,xl3,xl4⟩:=BL.out.two;refine hK.out _ _ (fun _=>?_) ?_
  ·exact ⟨xs0,xs1,xu0,xu1⟩
  clear hK K
  try simp only[PT]
  refine wpT_one 2 rfl (by kernel_rfl) (fun K hK=>?_);go_simp;refine (HSB.out _ _ HI1.out).mono ?_;rintro e w6 ⟨v6,rfl,hn,hi⟩;have HI6:=hid hi;clear hi;clear xs0 xs1 xs2 xs3 xs4 xu0 xu1 xu2 xu3 xu4 xl0 xl1 xl2 xl3 xl4;replace BP:=hid (BP.out.new hn);replace BL:=hid (BL.out.new hn);replace BS:=hid (BS.out.new hn);replace BU:=hid (BU.out.new hn);replace HI1:=hid (HI1.out.new hn);replace HI3:=hid (HI3.out.new hn);replace HN:=hid (HN.out.trans hn);clear hn;obtain ⟨xs0,xs1,xs2,xs3,xs4⟩:=BS.out.two;obtain ⟨xu0,xu1,xu2,xu3,xu4⟩:=BU.out.two;obtain ⟨xl0,xl1,xl2,xl3,xl4⟩:=BL.out.two;refine hK.out _ _ (fun _=>?_) ?_
  ·exact ⟨xs0,xs1,xu0,xu1⟩
  clear hK K
  try simp only[PT]
  refine wpT_one 4 rfl (by kernel_rfl) (fun K hK=>?_);go_simp;refine (HM1.out _ _ _ HI6.out HI3.out).mono ?_;rintro e w7 ⟨v7,rfl,hn,hf⟩;clear HI6;have HF7:=hid hf;clear hf;clear xs0 xs1 xs2 xs3 xs4 xu0 xu1 xu2 xu3 xu4 xl0 xl1 xl2 xl3 xl4;replace BP:=hid (BP.out.new hn);replace BL:=hid (BL.out.new hn);replace BS:=hid (BS.out.new hn);replace BU:=hid (BU.out.new hn);replace HI1:=hid (HI1.out.new hn);replace HI3:=hid (HI3.out.new hn);replace HN:=hid (HN.out.trans hn);clear hn;obtain ⟨xs0,xs1,xs2,xs3,xs4⟩:=BS.out.two;obtain ⟨xu0,xu1,xu2,xu3,xu4⟩:=BU.out.two;obtain ⟨xl0,xl1,xl2,xl3,xl4⟩:=BL.out.two;refine hK.out _ _ (fun _=>?_) ?_
  ·exact ⟨xs0,xs1,xu0,xu1⟩
  clear hK K
  try simp only[PT]
  refine wpT_one 5 rfl (by kernel_rfl) (fun K hK=>?_);go_simp;refine (HF1.out _ _ HF7.out).mono ?_;rintro e w8 ⟨v8,rfl,hn,hi⟩;obtain ⟨s8,a8,l8,k8,rfl⟩:=hi.shape;clear HF7;have HI8:=hid hi;clear hi;clear xs0 xs1 xs2 xs3 xs4 xu0 xu1 xu2 xu3 xu4 xl0 xl1 xl2 xl3 xl4;replace BP:=hid (BP.out.new hn);replace BL:=hid (BL.out.new hn);replace BS:=hid (BS.out.new hn);replace BU:=hid (BU.out.new hn);replace HI1:=hid (HI1.out.new hn);replace HI3:=hid (HI3.out.new hn);replace HN:=hid (HN.out.trans hn);clear hn;obtain ⟨xs0,xs1,xs2,xs3,xs4⟩:=BS.out.two;obtain ⟨xu0,xu1,xu2,xu3,xu4⟩:=BU.out.two;obtain ⟨xl0,xl1,xl2,xl3,xl4⟩:=BL.out.two;refine hK.out _ _ (fun _=>?_) ?_
  ·exact ⟨xs0,xs1,xu0,xu1⟩
  clear hK K
  try simp only[PT]
  refine wpT_tail rfl (by kernel_rfl) ?_;simp only[List.drop_succ_cons,List.drop_zero];go_upto_region 8 with (fail);clear xs0 xs1 xs2 xs3 xs4 xu0 xu1 xu2 xu3 xu4 xl0 xl1 xl2 xl3 xl4;have BP_:=BP.out.away BL.out (by omega) (.int .i64 s8) (.slice a8 l8 k8);have BS_:=BS.out.away BL.out (by omega) (.int .i64 s8) (.slice a8 l8 k8);have BU_:=BU.out.away BL.out (by omega) (.int .i64 s8) (.slice a8 l8 k8);have HI1_:=HI1.out.put2 BL.out s8 a8 l8 k8;have HI3_:=HI3.out.put2 BL.out s8 a8 l8 k8;have HI8_:=HI8.out.put2 BL.out s8 a8 l8 k8;have HN_:=HN.out.putAt BL.out (by omega) (.int .i64 s8) (.slice a8 l8 k8);have BL_:=BL.out.put2 (.int .i64 s8) (.slice a8 l8 k8);clear BP BS BU HI1 HI3 HI8 HN BL;have BP:=hid BP_;have BS:=hid BS_;have BU:=hid BU_;have HI1:=hid HI1_;have HI3:=hid HI3_;have HI8:=hid HI8_;have HN:=hid HN_;have BL:=hid BL_;clear BP_ BS_ BU_ HI1_ HI3_ HI8_ HN_ BL_;obtain ⟨w9,hw9⟩:∃ u,((w8.setCell ⟨w.heap.size+1+1,0,none⟩ (.int .i64 s8)).setCell ⟨w.heap.size+1+1,1,none⟩ (.slice a8 l8 k8))=u:=⟨_,rfl⟩;rw[hw9] at BL BP BS BU HN HI1 HI3 HI8⊢;clear hw9;have HN1:=HN;clear HN
  go_cut [10] from 22 to 38 (fun x wx=>∃ P:Nat,x=.pointer (some ⟨P,0,none⟩)∧New w9 wx∧w9.heap.size≤P∧IntBox wx P Z)
  case first=>
   have HN:=hid (New.refl w9);obtain ⟨xs0,xs1,xs2,xs3,xs4⟩:=BS.out.two;obtain ⟨xu0,xu1,xu2,xu3,xu4⟩:=BU.out.two;refine wp_region_T 7 (fun W=>W.cell? ⟨w1.heap.size,0,none⟩=some (.int .i64 s1)∧W.cell? ⟨w1.heap.size,1,none⟩=some (.slice a1 l1 k1)∧W.cell? ⟨w3.heap.size,0,none⟩=some (.int .i64 s3)∧W.cell? ⟨w3.heap.size,1,none⟩=some (.slice a3 l3 k3)) 8 #[false,false,false,false,false,false,false,false] rfl (by kernel_rfl) (by kernel_rfl) ?_;clear xs0 xs1 xs2 xs3 xs4 xu0 xu1 xu2 xu3 xu4;replace BS:=hid (BS.out.new (New.refl w9).drew);replace BU:=hid (BU.out.new (New.refl w9).drew);replace HI1:=hid (HI1.out.new (New.refl w9).drew);replace HI3:=hid (HI3.out.new (New.refl w9).drew);replace HN:=hid (HN.out.drew);obtain ⟨wdr,hwd⟩:∃ x,w9.drew=x:=⟨_,rfl⟩;rw[hwd] at HN BS BU HI1 HI3⊢;clear hwd;obtain ⟨xs0,xs1,xs2,xs3,xs4⟩:=BS.out.two;obtain ⟨xu0,xu1,xu2,xu3,xu4⟩:=BU.out.two;refine tk 0 (by exact ⟨xs0,xs1,xu0,xu1⟩) ?_
   try simp only[PT]
   refine tk 3 (by exact ⟨xs0,xs1,xu0,xu1⟩) ?_
   try simp only[PT]
   refine wpT_two 1 6 rfl rfl (by kernel_rfl) (fun K hK=>?_) (fun K hK=>?_)
   ·skip
    go_simp;refine (of_calls 1000000 _).mono ?_;rintro e wb ⟨rfl,hn⟩;clear xs0 xs1 xs2 xs3 xs4 xu0 xu1 xu2 xu3 xu4;replace BS:=hid (BS.out.new hn);replace BU:=hid (BU.out.new hn);replace HI1:=hid (HI1.out.new hn);replace HI3:=hid (HI3.out.new hn);replace HN:=hid (HN.out.trans hn);clear hn;obtain ⟨xs0,xs1,xs2,xs3,xs4⟩:=BS.out.two;obtain ⟨xu0,xu1,xu2,xu3,xu4⟩:=BU.out.two;refine hK.out _ _ (fun _=>?_) ?_
    ·exact ⟨xs0,xs1,xu0,xu1⟩
    clear hK K
    try simp only[PT]
    refine wpT_two 2 6 rfl rfl (by kernel_rfl) (fun K hK=>?_) (fun K hK=>?_)
    ·skip
     go_simp;refine (HAD.out _ _ HI1.out).mono ?_;rintro e wc ⟨v6,rfl,hn,hi⟩;have HI6:=hid hi;clear hi;clear xs0 xs1 xs2 xs3 xs4 xu0 xu1 xu2 xu3 xu4;replace BS:=hid (BS.out.new hn);replace BU:=hid (BU.out.new hn);replace HI1:=hid (HI1.out.new hn);replace HI3:=hid (HI3.out.new hn);replace HN:=hid (HN.out.trans hn);clear hn;obtain ⟨xs0,xs1,xs2,xs3,xs4⟩:=BS.out.two;obtain ⟨xu0,xu1,xu2,xu3,xu4⟩:=BU.out.two;refine hK.out _ _ (fun _=>?_) ?_
     ·exact ⟨xs0,xs1,xu0,xu1⟩
     clear hK K
     try simp only[PT]
     refine wpT_two 4 6 rfl rfl (by kernel_rfl) (fun K hK=>?_) (fun K hK=>?_)
     ·skip
      go_simp;refine (HM2.out _ _ _ HI6.out HI3.out).mono ?_;rintro e wd ⟨v7,rfl,hn,hf⟩;clear HI6;have HF7:=hid hf;clear hf;clear xs0 xs1 xs2 xs3 xs4 xu0 xu1 xu2 xu3 xu4;replace BS:=hid (BS.out.new hn);replace BU:=hid (BU.out.new hn);replace HI1:=hid (HI1.out.new hn);replace HI3:=hid (HI3.out.new hn);replace HN:=hid (HN.out.trans hn);clear hn;obtain ⟨xs0,xs1,xs2,xs3,xs4⟩:=BS.out.two;obtain ⟨xu0,xu1,xu2,xu3,xu4⟩:=BU.out.two;refine hK.out _ _ (fun _=>?_) ?_
      ·exact ⟨xs0,xs1,xu0,xu1⟩
      clear hK K
      try simp only[PT]
      refine wpT_two 5 6 rfl rfl (by kernel_rfl) (fun K hK=>?_) (fun K hK=>?_)
      ·skip
       go_simp;refine (HF2.out _ _ HF7.out).mono ?_;rintro e we ⟨vb,rfl,hn,hi⟩;obtain ⟨sb,ab,lb,kb,rfl⟩:=hi.shape;clear HF7;have HIB:=hid hi;clear hi;clear xs0 xs1 xs2 xs3 xs4 xu0 xu1 xu2 xu3 xu4;replace BS:=hid (BS.out.new hn);replace BU:=hid (BU.out.new hn);replace HI1:=hid (HI1.out.new hn);replace HI3:=hid (HI3.out.new hn);replace HN:=hid (HN.out.trans hn);clear hn;obtain ⟨xs0,xs1,xs2,xs3,xs4⟩:=BS.out.two;obtain ⟨xu0,xu1,xu2,xu3,xu4⟩:=BU.out.two;refine hK.out _ _ (fun _=>?_) ?_
       ·exact ⟨xs0,xs1,xu0,xu1⟩
       clear hK K
       try simp only[PT]
       refine wpT_one 6 rfl (by kernel_rfl) (fun K hK=>?_);go_simp;clear xs0 xs1 xs2 xs3 xs4 xu0 xu1 xu2 xu3 xu4;have LBM:=hid (HN.out.size);obtain ⟨wa1,hwa,BM_,hn⟩:=laid1 we 113 #[.int .i64 0,.slice none 0 0];rw[hwa];clear hwa;have BM:=hid BM_;clear BM_;replace BS:=hid (BS.out.new hn);replace BU:=hid (BU.out.new hn);replace HI1:=hid (HI1.out.new hn);replace HI3:=hid (HI3.out.new hn);replace HIB:=hid (HIB.out.new hn);replace HN:=hid (HN.out.trans hn);clear hn;obtain ⟨xs0,xs1,xs2,xs3,xs4⟩:=BS.out.two;obtain ⟨xu0,xu1,xu2,xu3,xu4⟩:=BU.out.two;refine hK.out _ _ (fun _=>?_) ?_
       ·exact ⟨xs0,xs1,xu0,xu1⟩
       clear hK K
       try simp only[PT]
       refine wpT_tail rfl (by kernel_rfl) ?_;simp only[List.drop_succ_cons,List.drop_zero];clear xs0 xs1 xs2 xs3 xs4 xu0 xu1 xu2 xu3 xu4;obtain ⟨u0,u1,u2,u3,u4⟩:=BM.out.two;go_wp2_with fail
       go_meet
       exact ⟨_,rfl,HN.out.put2 LBM.out _ _,LBM.out,⟨_,_,_,_,BM.out.put2 _ _,HIB.out.put2 BM.out _ _ _ _⟩⟩
      ·skip
       go_simp;clear xs0 xs1 xs2 xs3 xs4 xu0 xu1 xu2 xu3 xu4;have LBM:=hid (HN.out.size);obtain ⟨wa1,hwa,BM_,hn⟩:=laid1 wd 113 #[.int .i64 0,.slice none 0 0];rw[hwa];clear hwa;have BM:=hid BM_;clear BM_;replace BS:=hid (BS.out.new hn);replace BU:=hid (BU.out.new hn);replace HI1:=hid (HI1.out.new hn);replace HI3:=hid (HI3.out.new hn);replace HF7:=hid (HF7.out.new hn);replace HN:=hid (HN.out.trans hn);clear hn;obtain ⟨xs0,xs1,xs2,xs3,xs4⟩:=BS.out.two;obtain ⟨xu0,xu1,xu2,xu3,xu4⟩:=BU.out.two;refine hK.out _ _ (fun _=>?_) ?_
       ·exact ⟨xs0,xs1,xu0,xu1⟩
       clear hK K
       try simp only[PT]
       refine wpT_one 5 rfl (by kernel_rfl) (fun K hK=>?_);go_simp;refine (HF2.out _ _ HF7.out).mono ?_;rintro e we ⟨vb,rfl,hn,hi⟩;obtain ⟨sb,ab,lb,kb,rfl⟩:=hi.shape;clear HF7;have HIB:=hid hi;clear hi;clear xs0 xs1 xs2 xs3 xs4 xu0 xu1 xu2 xu3 xu4;replace BS:=hid (BS.out.new hn);replace BU:=hid (BU.out.new hn);replace HI1:=hid (HI1.out.new hn);replace HI3:=hid (HI3.out.new hn);replace BM:=hid (BM.out.new hn);replace HN:=hid (HN.out.trans hn);clear hn;obtain ⟨xs0,xs1,xs2,xs3,xs4⟩:=BS.out.two;obtain ⟨xu0,xu1,xu2,xu3,xu4⟩:=BU.out.two;refine hK.out _ _ (fun _=>?_) ?_
       ·exact ⟨xs0,xs1,xu0,xu1⟩
       clear hK K
       try simp only[PT]
       refine wpT_tail rfl (by kernel_rfl) ?_;simp only[List.drop_succ_cons,List.drop_zero];clear xs0 xs1 xs2 xs3 xs4 xu0 xu1 xu2 xu3 xu4;obtain ⟨u0,u1,u2,u3,u4⟩:=BM.out.two;go_wp2_with fail
       go_meet
       exact ⟨_,rfl,HN.out.put2 LBM.out _ _,LBM.out,⟨_,_,_,_,BM.out.put2 _ _,HIB.out.put2 BM.out _ _ _ _⟩⟩
     ·skip
      go_simp;clear xs0 xs1 xs2 xs3 xs4 xu0 xu1 xu2 xu3 xu4;have LBM:=hid (HN.out.size);obtain ⟨wa1,hwa,BM_,hn⟩:=laid1 wc 113 #[.int .i64 0,.slice none 0 0];rw[hwa];clear hwa;have BM:=hid BM_;clear BM_;replace BS:=hid (BS.out.new hn);replace BU:=hid (BU.out.new hn);replace HI1:=hid (HI1.out.new hn);replace HI3:=hid (HI3.out.new hn);replace HI6:=hid (HI6.out.new hn);replace HN:=hid (HN.out.trans hn);clear hn;obtain ⟨xs0,xs1,xs2,xs3,xs4⟩:=BS.out.two;obtain ⟨xu0,xu1,xu2,xu3,xu4⟩:=BU.out.two;refine hK.out _ _ (fun _=>?_) ?_
      ·exact ⟨xs0,xs1,xu0,xu1⟩
      clear hK K
      try simp only[PT]
      refine wpT_one 4 rfl (by kernel_rfl) (fun K hK=>?_);go_simp;refine (HM2.out _ _ _ HI6.out HI3.out).mono ?_;rintro e wd ⟨v7,rfl,hn,hf⟩;clear HI6;have HF7:=hid hf;clear hf;clear xs0 xs1 xs2 xs3 xs4 xu0 xu1 xu2 xu3 xu4;replace BS:=hid (BS.out.new hn);replace BU:=hid (BU.out.new hn);replace HI1:=hid (HI1.out.new hn);replace HI3:=hid (HI3.out.new hn);replace BM:=hid (BM.out.new hn);replace HN:=hid (HN.out.trans hn);clear hn;obtain ⟨xs0,xs1,xs2,xs3,xs4⟩:=BS.out.two;obtain ⟨xu0,xu1,xu2,xu3,xu4⟩:=BU.out.two;refine hK.out _ _ (fun _=>?_) ?_
      ·exact ⟨xs0,xs1,xu0,xu1⟩
      clear hK K
      try simp only[PT]
      refine wpT_one 5 rfl (by kernel_rfl) (fun K hK=>?_);go_simp;refine (HF2.out _ _ HF7.out).mono ?_;rintro e we ⟨vb,rfl,hn,hi⟩;obtain ⟨sb,ab,lb,kb,rfl⟩:=hi.shape;clear HF7;have HIB:=hid hi;clear hi;clear xs0 xs1 xs2 xs3 xs4 xu0 xu1 xu2 xu3 xu4;replace BS:=hid (BS.out.new hn);replace BU:=hid (BU.out.new hn);replace HI1:=hid (HI1.out.new hn);replace HI3:=hid (HI3.out.new hn);replace BM:=hid (BM.out.new hn);replace HN:=hid (HN.out.trans hn);clear hn;obtain ⟨xs0,xs1,xs2,xs3,xs4⟩:=BS.out.two;obtain ⟨xu0,xu1,xu2,xu3,xu4⟩:=BU.out.two;refine hK.out _ _ (fun _=>?_) ?_
      ·exact ⟨xs0,xs1,xu0,xu1⟩
      clear hK K
      try simp only[PT]
      refine wpT_tail rfl (by kernel_rfl) ?_;simp only[List.drop_succ_cons,List.drop_zero];clear xs0 xs1 xs2 xs3 xs4 xu0 xu1 xu2 xu3 xu4;obtain ⟨u0,u1,u2,u3,u4⟩:=BM.out.two;go_wp2_with fail
      go_meet
      exact ⟨_,rfl,HN.out.put2 LBM.out _ _,LBM.out,⟨_,_,_,_,BM.out.put2 _ _,HIB.out.put2 BM.out _ _ _ _⟩⟩
    ·skip
     go_simp;clear xs0 xs1 xs2 xs3 xs4 xu0 xu1 xu2 xu3 xu4;have LBM:=hid (HN.out.size);obtain ⟨wa1,hwa,BM_,hn⟩:=laid1 wb 113 #[.int .i64 0,.slice none 0 0];rw[hwa];clear hwa;have BM:=hid BM_;clear BM_;replace BS:=hid (BS.out.new hn);replace BU:=hid (BU.out.new hn);replace HI1:=hid (HI1.out.new hn);replace HI3:=hid (HI3.out.new hn);replace HN:=hid (HN.out.trans hn);clear hn;obtain ⟨xs0,xs1,xs2,xs3,xs4⟩:=BS.out.two;obtain ⟨xu0,xu1,xu2,xu3,xu4⟩:=BU.out.two;refine hK.out _ _ (fun _=>?_) ?_
     ·exact ⟨xs0,xs1,xu0,xu1⟩
     clear hK K
     try simp only[PT]
     refine wpT_one 2 rfl (by kernel_rfl) (fun K hK=>?_);go_simp;refine (HAD.out _ _ HI1.out).mono ?_;rintro e wc ⟨v6,rfl,hn,hi⟩;have HI6:=hid hi;clear hi;clear xs0 xs1 xs2 xs3 xs4 xu0 xu1 xu2 xu3 xu4;replace BS:=hid (BS.out.new hn);replace BU:=hid (BU.out.new hn);replace HI1:=hid (HI1.out.new hn);replace HI3:=hid (HI3.out.new hn);replace BM:=hid (BM.out.new hn);replace HN:=hid (HN.out.trans hn);clear hn;obtain ⟨xs0,xs1,xs2,xs3,xs4⟩:=BS.out.two;obtain ⟨xu0,xu1,xu2,xu3,xu4⟩:=BU.out.two;refine hK.out _ _ (fun _=>?_) ?_
     ·exact ⟨xs0,xs1,xu0,xu1⟩
     clear hK K
     try simp only[PT]
     refine wpT_one 4 rfl (by kernel_rfl) (fun K hK=>?_);go_simp;refine (HM2.out _ _ _ HI6.out HI3.out).mono ?_;rintro e wd ⟨v7,rfl,hn,hf⟩;clear HI6;have HF7:=hid hf;clear hf;clear xs0 xs1 xs2 xs3 xs4 xu0 xu1 xu2 xu3 xu4;replace BS:=hid (BS.out.new hn);replace BU:=hid (BU.out.new hn);replace HI1:=hid (HI1.out.new hn);replace HI3:=hid (HI3.out.new hn);replace BM:=hid (BM.out.new hn);replace HN:=hid (HN.out.trans hn);clear hn;obtain ⟨xs0,xs1,xs2,xs3,xs4⟩:=BS.out.two;obtain ⟨xu0,xu1,xu2,xu3,xu4⟩:=BU.out.two;refine hK.out _ _ (fun _=>?_) ?_
     ·exact ⟨xs0,xs1,xu0,xu1⟩
     clear hK K
     try simp only[PT]
     refine wpT_one 5 rfl (by kernel_rfl) (fun K hK=>?_);go_simp;refine (HF2.out _ _ HF7.out).mono ?_;rintro e we ⟨vb,rfl,hn,hi⟩;obtain ⟨sb,ab,lb,kb,rfl⟩:=hi.shape;clear HF7;have HIB:=hid hi;clear hi;clear xs0 xs1 xs2 xs3 xs4 xu0 xu1 xu2 xu3 xu4;replace BS:=hid (BS.out.new hn);replace BU:=hid (BU.out.new hn);replace HI1:=hid (HI1.out.new hn);replace HI3:=hid (HI3.out.new hn);replace BM:=hid (BM.out.new hn);replace HN:=hid (HN.out.trans hn);clear hn;obtain ⟨xs0,xs1,xs2,xs3,xs4⟩:=BS.out.two;obtain ⟨xu0,xu1,xu2,xu3,xu4⟩:=BU.out.two;refine hK.out _ _ (fun _=>?_) ?_
     ·exact ⟨xs0,xs1,xu0,xu1⟩
     clear hK K
     try simp only[PT]
     refine wpT_tail rfl (by kernel_rfl) ?_;simp only[List.drop_succ_cons,List.drop_zero];clear xs0 xs1 xs2 xs3 xs4 xu0 xu1 xu2 xu3 xu4;obtain ⟨u0,u1,u2,u3,u4⟩:=BM.out.two;go_wp2_with fail
     go_meet
     exact ⟨_,rfl,HN.out.put2 LBM.out _ _,LBM.out,⟨_,_,_,_,BM.out.put2 _ _,HIB.out.put2 BM.out _ _ _ _⟩⟩
   ·skip
    go_simp;clear xs0 xs1 xs2 xs3 xs4 xu0 xu1 xu2 xu3 xu4;have LBM:=hid (HN.out.size);obtain ⟨wa1,hwa,BM_,hn⟩:=laid1 wdr 113 #[.int .i64 0,.slice none 0 0];rw[hwa];clear hwa;have BM:=hid BM_;clear BM_;replace BS:=hid (BS.out.new hn);replace BU:=hid (BU.out.new hn);replace HI1:=hid (HI1.out.new hn);replace HI3:=hid (HI3.out.new hn);replace HN:=hid (HN.out.trans hn);clear hn;obtain ⟨xs0,xs1,xs2,xs3,xs4⟩:=BS.out.two;obtain ⟨xu0,xu1,xu2,xu3,xu4⟩:=BU.out.two;refine hK.out _ _ (fun _=>?_) ?_
    ·exact ⟨xs0,xs1,xu0,xu1⟩
    clear hK K
    try simp only[PT]
    refine wpT_one 1 rfl (by kernel_rfl) (fun K hK=>?_);go_simp;refine (of_calls 1000000 _).mono ?_;rintro e wb ⟨rfl,hn⟩;clear xs0 xs1 xs2 xs3 xs4 xu0 xu1 xu2 xu3 xu4;replace BS:=hid (BS.out.new hn);replace BU:=hid (BU.out.new hn);replace HI1:=hid (HI1.out.new hn);replace HI3:=hid (HI3.out.new hn);replace BM:=hid (BM.out.new hn);replace HN:=hid (HN.out.trans hn);clear hn;obtain ⟨xs0,xs1,xs2,xs3,xs4⟩:=BS.out.two;obtain ⟨xu0,xu1,xu2,xu3,xu4⟩:=BU.out.two;refine hK.out _ _ (fun _=>?_) ?_
    ·exact ⟨xs0,xs1,xu0,xu1⟩
    clear hK K
    try simp only[PT]
    refine wpT_one 2 rfl (by kernel_rfl) (fun K hK=>?_);go_simp;refine (HAD.out _ _ HI1.out).mono ?_;rintro e wc ⟨v6,rfl,hn,hi⟩;have HI6:=hid hi;clear hi;clear xs0 xs1 xs2 xs3 xs4 xu0 xu1 xu2 xu3 xu4;replace BS:=hid (BS.out.new hn);replace BU:=hid (BU.out.new hn);replace HI1:=hid (HI1.out.new hn);replace HI3:=hid (HI3.out.new hn);replace BM:=hid (BM.out.new hn);replace HN:=hid (HN.out.trans hn);clear hn;obtain ⟨xs0,xs1,xs2,xs3,xs4⟩:=BS.out.two;obtain ⟨xu0,xu1,xu2,xu3,xu4⟩:=BU.out.two;refine hK.out _ _ (fun _=>?_) ?_
    ·exact ⟨xs0,xs1,xu0,xu1⟩
    clear hK K
    try simp only[PT]
    refine wpT_one 4 rfl (by kernel_rfl) (fun K hK=>?_);go_simp;refine (HM2.out _ _ _ HI6.out HI3.out).mono ?_;rintro e wd ⟨v7,rfl,hn,hf⟩;clear HI6;have HF7:=hid hf;clear hf;clear xs0 xs1 xs2 xs3 xs4 xu0 xu1 xu2 xu3 xu4;replace BS:=hid (BS.out.new hn);replace BU:=hid (BU.out.new hn);replace HI1:=hid (HI1.out.new hn);replace HI3:=hid (HI3.out.new hn);replace BM:=hid (BM.out.new hn);replace HN:=hid (HN.out.trans hn);clear hn;obtain ⟨xs0,xs1,xs2,xs3,xs4⟩:=BS.out.two;obtain ⟨xu0,xu1,xu2,xu3,xu4⟩:=BU.out.two;refine hK.out _ _ (fun _=>?_) ?_
    ·exact ⟨xs0,xs1,xu0,xu1⟩
    clear hK K
    try simp only[PT]
    refine wpT_one 5 rfl (by kernel_rfl) (fun K hK=>?_);go_simp;refine (HF2.out _ _ HF7.out).mono ?_;rintro e we ⟨vb,rfl,hn,hi⟩;obtain ⟨sb,ab,lb,kb,rfl⟩:=hi.shape;clear HF7;have HIB:=hid hi;clear hi;clear xs0 xs1 xs2 xs3 xs4 xu0 xu1 xu2 xu3 xu4;replace BS:=hid (BS.out.new hn);replace BU:=hid (BU.out.new hn);replace HI1:=hid (HI1.out.new hn);replace HI3:=hid (HI3.out.new hn);replace BM:=hid (BM.out.new hn);replace HN:=hid (HN.out.trans hn);clear hn;obtain ⟨xs0,xs1,xs2,xs3,xs4⟩:=BS.out.two;obtain ⟨xu0,xu1,xu2,xu3,xu4⟩:=BU.out.two;refine hK.out _ _ (fun _=>?_) ?_
    ·exact ⟨xs0,xs1,xu0,xu1⟩
    clear hK K
    try simp only[PT]
    refine wpT_tail rfl (by kernel_rfl) ?_;simp only[List.drop_succ_cons,List.drop_zero];clear xs0 xs1 xs2 xs3 xs4 xu0 xu1 xu2 xu3 xu4;obtain ⟨u0,u1,u2,u3,u4⟩:=BM.out.two;go_wp2_with fail
    go_meet
    exact ⟨_,rfl,HN.out.put2 LBM.out _ _,LBM.out,⟨_,_,_,_,BM.out.put2 _ _,HIB.out.put2 BM.out _ _ _ _⟩⟩
  case rest=>
   obtain ⟨G,rfl,hn,hG,sg,ag,lg,kg,bg,ig⟩:=hcut;obtain ⟨wx,hwx⟩:∃ x,x=wc:=⟨_,rfl⟩;rw[←hwx] at hn bg ig⊢;clear hwx BS BU HI1 HI3;replace BP:=hid (BP.out.new hn);replace BL:=hid (BL.out.new hn);replace HI8:=hid (HI8.out.new hn);have HN:=hid (HN1.out.trans hn);clear HN1 hn;have BG:=hid bg;have IG:=hid ig;clear bg ig;obtain ⟨g0,g1,g2,g3,g4⟩:=BG.out.two;obtain ⟨xl0,xl1,xl2,xl3,xl4⟩:=BL.out.two
   go_step
   go_wp2_with fail;refine (HCM.out _ _ _ HI8.out IG.out).mono ?_;rintro e wy ⟨rfl,hn⟩;clear g0 g1 g2 g3 g4 xl0 xl1 xl2 xl3 xl4;clear BG IG;replace BP:=hid (BP.out.new hn);replace BL:=hid (BL.out.new hn);replace HI8:=hid (HI8.out.new hn);replace HN:=hid (HN.out.trans hn);clear hn;obtain ⟨xl0,xl1,xl2,xl3,xl4⟩:=BL.out.two;obtain ⟨p0,p1,p2,p3,p4⟩:=BP.out.two;go_wp2_with fail;refine bodyPost_ret (v:=.agg #[.int .i64 s8,.slice a8 l8 k8]) (by simp[results,Tryz.results213,go_sem,p0,p1]) rfl ?_;exact ⟨_,rfl,HN.out.putAt BP.out (by omega) _ _,HI8.out.put2 BP.out _ _ _ _⟩
def txtEs (l:List (ByteArray × ByteArray))(i:Nat):List MapEntry:=match l with
 | []=>[]
 | (k,v)::l=>{key:=.string k,val:=.string v,born:=i}::txtEs l (i+1)
theorem txtEs_snoc (l:List (ByteArray × ByteArray))(k v:ByteArray):∀ i,txtEs (l ++ [(k,v)]) i=txtEs l i ++ [{key:=.string k,val:=.string v,born:=i+l.length}]:=by
 induction l with
 | nil=>intro i;rfl
 | cons x l ih=>
  intro i;show _::txtEs (l ++ [(k,v)]) (i+1)=_::(txtEs l (i+1) ++ _);rw[ih]
  have e:i+1+l.length=i+(x::l).length:=by simp;omega
  rw[e]
def findS (x:ByteArray):List (ByteArray × ByteArray)→Nat→Option (Nat × Value)
 | [],_=>none
 | (k,v)::l,i=>if x==k then some (i,.string v) else findS x l (i+1)
theorem findNow_str (x:ByteArray):∀ (l:List (ByteArray × ByteArray)) (j i:Nat),Instr.findNow .string (.string x) (txtEs l j) i=some (findS x l i)
 | [],_,_=>rfl
 | (k,v)::l,j,i=>by
  show (match Instr.sameNow .string (.string x) (.string k) with
   | some true=>some (some (i,.string v))
   | some false=>Instr.findNow .string (.string x) (txtEs l (j+1)) (i+1)
   | none=>none)=some (if x==k then some (i,.string v) else findS x l (i+1))
  have e:Instr.sameNow .string (.string x) (.string k)=some (x==k):=rfl;rw[e]
  cases h:(x==k) with
  | true=>rfl
  | false=>exact findNow_str x l (j+1) (i+1)
theorem run_findKey_str {P:Program}{kt:TypeId}(ht:P.underlying kt=some .string)(w:World)(x:ByteArray)(l:List (ByteArray × ByteArray))(j:Nat):
  (Instr.findKey kt (.string x) (txtEs l j)).run P w=.ok (findS x l 0) w:=by
 unfold Instr.findKey;simp only[Sem.run_bind,run_underlying ht,Result.andThen,findNow_str];simp
theorem run_checkKey_str {P:Program}{kt:TypeId}(ht:P.underlying kt=some .string)(w:World)(x:ByteArray)(b:Bool):(Instr.checkKey b 10000 kt (.string x)).run P w=.ok () w:=by
 have h:=run_underlying ht w;unfold Instr.checkKey;simp[h,Result.andThen]
def TxtMap (w:World)(b:Nat)(l:List (ByteArray × ByteArray)):Prop:=∃ es:Array MapEntry,w.heap[b]?=some (.map es l.length)∧es.toList=txtEs l 0
theorem TxtMap.made (w:World):TxtMap (w.alloc (.map #[] 0)) w.heap.size []:=⟨#[],by show (w.heap.push _)[w.heap.size]?=_;simp,rfl⟩
theorem TxtMap.lt {w:World}{b:Nat}{l:List (ByteArray × ByteArray)}(h:TxtMap w b l):b < w.heap.size:=by
 obtain ⟨es,h1,_⟩:=h;rcases Nat.lt_or_ge b w.heap.size with h2 | h2
 ·exact h2
 ·rw[Array.getElem?_eq_none h2] at h1;cases h1
theorem TxtMap.new {w w':World}{b:Nat}{l:List (ByteArray × ByteArray)}(h:TxtMap w b l)(hn:New w w'):TxtMap w' b l:=by
 have hl:=h.lt;obtain ⟨es,h1,h2⟩:=h;exact ⟨es,by rw[Below.block hn b hl,h1],h2⟩
theorem TxtMap.put {P:Program}{t kt e:TypeId}(ht:P.underlying t=some (.map kt e))(hk:P.underlying kt=some .string){w:World}{b:Nat}{l:List (ByteArray × ByteArray)}(h:TxtMap w b l)(x v:ByteArray)(hx:findS x l 0=none):
  ∃ w',(Instr.mapUpdate t (.map (some b)) (.string x) (.string v)).run P w=.ok () w'∧TxtMap w' b (l ++ [(x,v)])∧w.grownBy w' (some b):=by
 obtain ⟨es,hb,he⟩:=h;have hf:=run_findKey_str hk w x l 0;rw[hx,←he] at hf;refine ⟨setBlock w b (.map (es.push {key:=.string x,val:=.string v,born:=l.length}) (l.length+1)),?_,⟨_,by rw[List.length_append];exact heap_setBlock_same hb _,by rw[Array.toList_push,he,txtEs_snoc,Nat.zero_add]⟩,⟨rfl,rfl,rfl,by simp[setBlock],fun i _ hi=>heap_setBlock_other hb _ (fun e=>hi (by rw[e]))⟩⟩;simp[Instr.mapUpdate,run_underlying ht,MapKept.run_getObj_map hb,run_checkKey_str hk,hf,MapKept.run_setObj_map _ hb,Result.andThen,setBlock]
theorem TxtMap.look {P:Program}{t kt e:TypeId}(ht:P.underlying t=some (.map kt e))(hk:P.underlying kt=some .string){w:World}(hz:(zeroValue e).run P w=.ok (.string ⟨#[]⟩) w){b:Nat}{l:List (ByteArray × ByteArray)}(h:TxtMap w b l)(x:ByteArray):
  (Instr.lookup t (.map (some b)) (.string x) true).run P w=.ok (match findS x l 0 with | some (_,v)=>.tuple #[v,.bool true] | none=>.tuple #[.string ⟨#[]⟩,.bool false]) w:=by
 obtain ⟨es,hb,he⟩:=h;have hf:=run_findKey_str hk w x l 0;rw[←he] at hf
 cases hfd:findS x l 0 with
 | none=>
  rw[hfd]at hf;simp[Instr.lookup,run_underlying ht,MapKept.run_getObj_map hb,run_checkKey_str hk,hf,hz,Result.andThen]
 | some p=>
  obtain ⟨i,v⟩:=p;rw[hfd] at hf;simp[Instr.lookup,run_underlying ht,MapKept.run_getObj_map hb,run_checkKey_str hk,hf,Result.andThen]
theorem wpList_txtPut {P:Program} (w:World) {ops:Array Oper} {rest:List Oper} {o:Oper} {a:Act} {Q:Exit→Act→World→Prop}
  (hg:o.guard=none) (m x v:Operand) (t:TypeId) (hop:o.op=Op.insert t m x v) (kt e:TypeId) (ht:P.underlying t=some (.map kt e)) (hk:P.underlying kt=some .string) (b:Nat) (l:List (ByteArray × ByteArray)) (X V:ByteArray)
  (hm:a.eval m=.map (some b)) (h:TxtMap w b l) (hx:a.eval x=.string X) (hv:a.eval v=.string V) (hd:findS X l 0=none)
  (hK:∀ w',TxtMap w' b (l ++ [(X,V)])→w.grownBy w' (some b)→wpList P ops Q rest (a.put o.dst undef) w'):
  wpList P ops Q (o::rest) a w:=by
 refine wpList_plain hg fun K' hK'=>?_;obtain ⟨w',hrun,r1,r2⟩:=h.put ht hk X V hd;unfold Oper.wp;simp[execOp,hop,hm,hx,hv,hrun,Result.andThen];exact hK' _ _ (hK w' r1 r2)
theorem New.grownAt {w wr w1:World}{b:Nat}(hn:New w wr)(hb:w.heap.size≤b)(hg:wr.grownBy w1 (some b)):New w w1:=by
 obtain ⟨a1,a2,a3,a4,a5⟩:=hn;refine ⟨hg.os.trans a1,?_,?_,Nat.le_trans a4 hg.size,fun j hj=>?_⟩
 ·first | exact hg.tape.trans a2 | exact hg.output.trans a2
 ·first | exact hg.output.trans a3 | exact hg.tape.trans a3
 ·refine (hg.block j (Nat.lt_of_lt_of_le hj a4) ?_).trans (a5 j hj);intro h;injection h with h;omega
def ratEs:List (ByteArray × ByteArray):=[(⟨#[48]⟩,⟨#[49]⟩),(⟨#[49,47,54]⟩,⟨#[49,47,50]⟩),(⟨#[49,47,52]⟩,⟨#[48]⟩),(⟨#[49,47,51]⟩,⟨#[45,49,47,50]⟩),(⟨#[49,47,50]⟩,⟨#[45,49]⟩),(⟨#[50,47,51]⟩,⟨#[45,49,47,50]⟩),(⟨#[51,47,52]⟩,⟨#[48]⟩),(⟨#[53,47,54]⟩,⟨#[49,47,50]⟩)]
theorem rational_calls (w:World):Calls Tryz.prog 212 #[] w fun e w'=>∃ b,e=.returned (.map (some b))∧New w w'∧TxtMap w' b ratEs:=by
 have tm0:TxtMap (w.alloc (.map #[] 0)) w.heap.size (ratEs.take 0):=TxtMap.made w;have hn0:=(New.refl w).alloc (.map #[] 0)
 have hmk:∀ W:World,(Instr.makeMap 212 none).run Tryz.prog W=.ok (.map (some W.heap.size)) (W.alloc (.map #[] 0)):=fun W=>by
  simp[Instr.makeMap,Result.andThen]
 have TM:=hid tm0;have HN:=hid hn0;clear tm0 hn0;go_enter Tryz.func212,Tryz.ntmps212;go_wp2_with (refine wpList_txtPut _ rfl _ _ _ 212 rfl 23 23 Tryz.underlying212 Tryz.underlying23 w.heap.size (ratEs.take 0) ⟨#[48]⟩ ⟨#[49]⟩ rfl TM.out rfl rfl (by decide) ?_);intro w1 tm_ hg;have hn_:=HN.out.grownAt (Nat.le_refl _) hg;clear TM HN hg;have TM:=hid tm_;have HN:=hid hn_;clear tm_ hn_;go_wp2_with (refine wpList_txtPut _ rfl _ _ _ 212 rfl 23 23 Tryz.underlying212 Tryz.underlying23 w.heap.size (ratEs.take 1) ⟨#[49,47,54]⟩ ⟨#[49,47,50]⟩ rfl TM.out rfl rfl (by decide) ?_);intro w2 tm_ hg;have hn_:=HN.out.grownAt (Nat.le_refl _) hg;clear TM HN hg;have TM:=hid tm_;have HN:=hid hn_;clear tm_ hn_;go_wp2_with (refine wpList_txtPut _ rfl _ _ _ 212 rfl 23 23 Tryz.underlying212 Tryz.underlying23 w.heap.size (ratEs.take 2) ⟨#[49,47,52]⟩ ⟨#[48]⟩ rfl TM.out rfl rfl (by decide) ?_);intro w3 tm_ hg;have hn_:=HN.out.grownAt (Nat.le_refl _) hg;clear TM HN hg;have TM:=hid tm_;have HN:=hid hn_;clear tm_ hn_;go_wp2_with (refine wpList_txtPut _ rfl _ _ _ 212 rfl 23 23 Tryz.underlying212 Tryz.underlying23 w.heap.size (ratEs.take 3) ⟨#[49,47,51]⟩ ⟨#[45,49,47,50]⟩ rfl TM.out rfl rfl (by decide) ?_);intro w4 tm_ hg;have hn_:=HN.out.grownAt (Nat.le_refl _) hg;clear TM HN hg;have TM:=hid tm_;have HN:=hid hn_;clear tm_ hn_;go_wp2_with (refine wpList_txtPut _ rfl _ _ _ 212 rfl 23 23 Tryz.underlying212 Tryz.underlying23 w.heap.size (ratEs.take 4) ⟨#[49,47,50]⟩ ⟨#[45,49]⟩ rfl TM.out rfl rfl (by decide) ?_);intro w5 tm_ hg;have hn_:=HN.out.grownAt (Nat.le_refl _) hg;clear TM HN hg;have TM:=hid tm_;have HN:=hid hn_;clear tm_ hn_;go_wp2_with (refine wpList_txtPut _ rfl _ _ _ 212 rfl 23 23 Tryz.underlying212 Tryz.underlying23 w.heap.size (ratEs.take 5) ⟨#[50,47,51]⟩ ⟨#[45,49,47,50]⟩ rfl TM.out rfl rfl (by decide) ?_);intro w6 tm_ hg;have hn_:=HN.out.grownAt (Nat.le_refl _) hg;clear TM HN hg;have TM:=hid tm_;have HN:=hid hn_;clear tm_ hn_;go_wp2_with (refine wpList_txtPut _ rfl _ _ _ 212 rfl 23 23 Tryz.underlying212 Tryz.underlying23 w.heap.size (ratEs.take 6) ⟨#[51,47,52]⟩ ⟨#[48]⟩ rfl TM.out rfl rfl (by decide) ?_);intro w7 tm_ hg;have hn_:=HN.out.grownAt (Nat.le_refl _) hg;clear TM HN hg;have TM:=hid tm_;have HN:=hid hn_;clear tm_ hn_;go_wp2_with (refine wpList_txtPut _ rfl _ _ _ 212 rfl 23 23 Tryz.underlying212 Tryz.underlying23 w.heap.size (ratEs.take 7) ⟨#[53,47,54]⟩ ⟨#[49,47,50]⟩ rfl TM.out rfl rfl (by decide) ?_);intro w8 tm_ hg;have hn_:=HN.out.grownAt (Nat.le_refl _) hg;clear TM HN hg;have TM:=hid tm_;have HN:=hid hn_;clear tm_ hn_;go_wp2_with fail;go_ret;exact ⟨_,rfl,HN.out,TM.out⟩
def grpT (q r:Nat):List UInt8:=if q=0 then decDigits r else padDigits 18 r
def Grp (T V:Nat)(ps:List (List UInt8)):Prop:=(if V=0 then [] else decDigits V) ++ ps.reverse.flatten=decDigits T
theorem Grp.start {T:Nat}(h:T≠0):Grp T T []:=by unfold Grp;rw[if_neg h];simp
theorem Grp.step {T V q r:Nat}{ps:List (List UInt8)}(h:Grp T V ps)(h0:V≠0)(hq:q*1000000000000000000+r=V)(hr:r < 1000000000000000000):Grp T q (ps ++ [grpT q r]):=by
 unfold Grp at h⊢;rw[if_neg h0] at h;rw[List.reverse_append,List.flatten_append,List.reverse_singleton,List.flatten_singleton,←h,←List.append_assoc];congr 1;unfold grpT;by_cases hq0:q=0
 ·rw[if_pos hq0,if_pos hq0,List.nil_append];rw[hq0,Nat.zero_mul,Nat.zero_add] at hq;rw[hq]
 ·rw[if_neg hq0,if_neg hq0,←hq]
  have e:(10:Nat)^18=1000000000000000000:=by decide
  have:=decDigits_pad hq0 18 r (by rw[e];exact hr);rw[e] at this;exact this.symm
theorem Grp.end_ {T:Nat}{ps:List (List UInt8)}(h:Grp T 0 ps):ps.reverse.flatten=decDigits T:=by
 unfold Grp at h;rw[if_pos rfl,List.nil_append] at h;exact h
theorem dig18 {r:Nat}(h:r < 1000000000000000000):(decDigits r).length≤18:=by
 rw[decDigits_length,nDigits_le_iff (by omega)]
 have e:(10:Nat)^18=1000000000000000000:=by decide
 rw[e];exact h
theorem grp_zero (r:Nat):grpT 0 r=decDigits r:=if_pos rfl
theorem grp_pad {q r:Nat}(hq:q≠0)(h:r < 1000000000000000000):grpT q r=List.replicate (18 - (decDigits r).length) 48 ++ decDigits r:=by
 unfold grpT;rw[if_neg hq,padDigits_of_nDigits (by rw[←decDigits_length];exact dig18 h),decDigits_length]
theorem grp_len {q r:Nat}(h:r < 1000000000000000000):(grpT q r).length≤18:=by
 unfold grpT;split
 ·exact dig18 h
 ·rw[padDigits_length];exact Nat.le_refl _
def GrpN (T g L:Nat):Prop:=L≤40001∧(g≠0→2^L*g≤T)
theorem GrpN.start (T:Nat):GrpN T T 0:=⟨by omega,fun _=>by rw[Nat.pow_zero,Nat.one_mul];exact Nat.le_refl _⟩
theorem GrpN.lt {T g L:Nat}(h:GrpN T g L)(hT:T < 2^40000)(h0:g≠0):L < 40000:=by
 have h1:=h.2 h0;have h2:2^L*1≤2^L*g:=Nat.mul_le_mul_left _ (by omega);rw[Nat.mul_one] at h2;exact (Nat.pow_lt_pow_iff_right (by omega)).1 (Nat.lt_of_le_of_lt (Nat.le_trans h2 h1) hT)
theorem GrpN.step {T g q r L:Nat}(h:GrpN T g L)(hT:T < 2^40000)(h0:g≠0)(hq:q*1000000000000000000+r=g):GrpN T q (L+1):=by
 have h1:=h.lt hT h0;refine ⟨by omega,fun _=>Nat.le_trans ?_ (h.2 h0)⟩;rw[Nat.pow_succ,Nat.mul_assoc];exact Nat.mul_le_mul_left _ (by omega)
def grpOut (ps:List (List UInt8))(k:Nat):List UInt8:=(ps.drop k).reverse.flatten
theorem grpOut_end (ps:List (List UInt8)):grpOut ps ps.length=[]:=by unfold grpOut;rw[List.drop_length];rfl
theorem grpOut_next {ps:List (List UInt8)}{k:Nat}(h:k < ps.length):grpOut ps k=grpOut ps (k+1) ++ ps[k]:=by
 unfold grpOut;rw[List.drop_eq_getElem_cons h,List.reverse_cons,List.flatten_append,List.flatten_singleton]
theorem grpOut_len {ps:List (List UInt8)}(h:∀ p∈ps,p.length≤18):∀ k,(grpOut ps k).length≤18*ps.length:=fun k=>by
 have key:∀ l:List (List UInt8),(∀ p∈l,p.length≤18)→l.reverse.flatten.length≤18*l.length:=fun l=>by
  induction l with
  | nil=>intro _;exact Nat.le_refl _
  | cons x l ih=>
   intro hl;rw[List.reverse_cons,List.flatten_append,List.flatten_singleton,List.length_append,List.length_cons];have h1:=ih fun p hp=>hl p (List.mem_cons_of_mem _ hp);have h2:=hl x (List.mem_cons_self ..);omega
 have h1:=key (ps.drop k) fun p hp=>h p (List.mem_of_mem_drop hp);rw[List.length_drop] at h1;unfold grpOut;omega
abbrev B9:Nat:=1000000000
def SlM (v:Value)(a:Option Addr)(n cap:Nat):Prop:=v=.slice a n cap∧n≤cap∧cap≤maxLen∧(a=none→cap=0)
def DgN (w:World)(v:Value)(n:Nat)(f:Nat→Nat):Prop:=∃ a cap,SlM v a n cap∧Rd w a .i64 n f∧∀ i,i < n→f i < B9
def Dg (w:World)(v:Value)(n:Nat)(f:Nat→Nat):Prop:=DgN w v n f∧(n≠0→f (n - 1)≠0)
def ds (o:Nat→Nat)(k:Nat):List Value:=(List.range k).map fun i=>.int .i64 ((o i:Nat):Int)
def IsD (w:World)(v:Value)(z:Nat):Prop:=∃ n f,Dg w v n f∧vf B9 f n=z
def RetD (w:World)(z:Nat)(e:Ending)(w':World):Prop:=∃ v,e=.returned v∧New w w'∧IsD w' v z
theorem Rd.far {w:World}{a:Option Addr}{n B:Nat}{f:Nat→Nat}(h:Rd w a .i64 n f)(hb:∀ i x,w.cell? ⟨B,i,none⟩≠some (.int .i64 x))(u u':Value):Rd ((w.setCell ⟨B,0,none⟩ u).setCell ⟨B,1,none⟩ u') a .i64 n f:=fun i hi=>by
 obtain ⟨b,off,e,hc⟩:=h i hi
 have hne:b≠B:=by
  rintro rfl;exact hb _ _ hc
 refine ⟨b,off,e,?_⟩;rw[World.cell?_setCell_far _ _ _ _ (by exact Ne.symm hne),World.cell?_setCell_far _ _ _ _ (by exact Ne.symm hne)];exact hc
def IsN (w:World)(v:Value)(z:Nat):Prop:=∃ n f,DgN w v n f∧vf B9 f n=z
theorem IsD.n {w:World}{v:Value}{z:Nat}(h:IsD w v z):IsN w v z:=by
 obtain ⟨n,f,h1,h2⟩:=h;exact ⟨n,f,h1.1,h2⟩
def RetN (w:World)(z:Nat)(e:Ending)(w':World):Prop:=∃ v,e=.returned v∧New w w'∧IsN w' v z
theorem RetD.n {w w':World}{z:Nat}{e:Ending}(h:RetD w z e w'):RetN w z e w':=by
 obtain ⟨v,h1,h2,h3⟩:=h;exact ⟨v,h1,h2,h3.n⟩
theorem IsD.far {w:World}{v:Value}{z B:Nat}(h:IsD w v z)(hb:∀ i x,w.cell? ⟨B,i,none⟩≠some (.int .i64 x))(u u':Value):IsD ((w.setCell ⟨B,0,none⟩ u).setCell ⟨B,1,none⟩ u') v z:=by
 obtain ⟨n,f,⟨⟨a,cap,h1,h2,h3⟩,h4⟩,h5⟩:=h;exact ⟨n,f,⟨⟨a,cap,h1,h2.far hb _ _,h3⟩,h4⟩,h5⟩
def IsZ (w:World)(v:Value)(z:Int):Prop:=∃ vw,v=.agg #[.bool (decide (z < 0)),vw]∧IsD w vw z.natAbs
theorem IsZ.far {w:World}{v:Value}{z:Int}{B:Nat}(h:IsZ w v z)(hb:∀ i x,w.cell? ⟨B,i,none⟩≠some (.int .i64 x))(u u':Value):IsZ ((w.setCell ⟨B,0,none⟩ u).setCell ⟨B,1,none⟩ u') v z:=by
 obtain ⟨vw,h1,h2⟩:=h;exact ⟨vw,h1,h2.far hb _ _⟩
structure GWay (B:Nat)(u v:Nat→Nat)(k t r:Nat):Prop where
 rest:t*v (k+1)+r=u (k+2)*B+u (k+1)
 hr:r < B
 ge:vf B u (k+3) < (t+1)*vf B v (k+2)
structure GFit (B:Nat)(u v:Nat→Nat)(k t:Nat):Prop where
 hh:t < B
 ge:vf B u (k+3) < (t+1)*vf B v (k+2)
 le:t*vf B v (k+2)≤vf B u (k+3)+vf B v (k+2)
section
variable {B:Nat} {u v:Nat→Nat} {k t r:Nat}
theorem topB_le (hv:∀ i,i < k+2→v i < B)(hlt:vf B (fun i=>u (1+i)) (k+2) < vf B v (k+2)):u (k+2)≤v (k+1):=by
 rcases Nat.lt_or_ge (v (k+1)) (u (k+2)) with h | h
 ·exfalso;rw[vf_succ _ v,vf_succ,show 1+(k+1)=k+2 by omega] at hlt;have h1:vf B v (k+1) < B^(k+1):=vf_lt fun i hi=>hv i (by omega);have h2:(v (k+1)+1)*B^(k+1)≤u (k+2)*B^(k+1):=Nat.mul_le_mul_right _ h;rw[Nat.add_mul,Nat.one_mul] at h2;omega
 ·exact h
theorem allB_lt (hu:∀ i,i < k+3→u i < B)(hlt:vf B (fun i=>u (1+i)) (k+2) < vf B v (k+2)):vf B u (k+3) < B*vf B v (k+2):=by
 have e:vf B u (k+3)=u 0+B*vf B (fun i=>u (i+1)) (k+2):=vf_head B u (k+2)
 have e2:(fun i=>u (i+1))=fun i=>u (1+i):=funext fun i=>by rw[Nat.add_comm]
 rw[e,e2];have h1:=hu 0 (by omega);have h2:B*(vf B (fun i=>u (1+i)) (k+2)+1)≤B*vf B v (k+2):=Nat.mul_le_mul_left _ hlt;rw[Nat.mul_add,Nat.mul_one] at h2;omega
theorem GWay.less (h:GWay B u v k t r)(hB:0 < B)(hu:∀ i,i < k+3→u i < B)(hv:∀ i,i < k+2→v i < B)(hv0:v (k+1)≠0)(hlt:vf B (fun i=>u (1+i)) (k+2) < vf B v (k+2))(hbad:B≤t∨r*B+u k < t*v k):
  0 < t∧(r+v (k+1) < B→GWay B u v k (t - 1) (r+v (k+1)))∧(B≤r+v (k+1)→GFit B u v k (t - 1)):=by
 have h0:=h.rest
 have hg:0 < t∧vf B u (k+3) < (t - 1+1)*vf B v (k+2):=by
  rcases hbad with h1 | h1
  ·refine ⟨by omega,?_⟩;have h2:=allB_lt hu hlt;have h3:B*vf B v (k+2)≤(t - 1+1)*vf B v (k+2):=Nat.mul_le_mul_right _ (by omega);omega
  ·refine guess_fail hB hu hv0 ?_;rcases Nat.lt_or_ge ((u (k+2)*B+u (k+1))*B+u k) (t*(v (k+1)*B+v k)) with h2 | h2
   ·exact h2
   ·exact absurd ((test_iff h0).2 h2) (by omega)
 obtain ⟨hp,hge⟩:=hg;obtain ⟨n,rfl⟩:∃ n,t=n+1:=⟨t - 1,by omega⟩;rw[Nat.add_mul,Nat.one_mul] at h0;simp only[Nat.add_sub_cancel] at hge⊢
 have hrest:n*v (k+1)+(r+v (k+1))=u (k+2)*B+u (k+1):=by omega
 refine ⟨hp,fun h1=>⟨hrest,h1,hge⟩,fun h1=>?_⟩;have h2:=topB_le hv hlt;have h3:=hu (k+1) (by omega)
 have hn:n < B:=by
  rcases Nat.lt_or_ge n B with h4 | h4
  ·exact h4
  ·exfalso;have h5:B*v (k+1)≤n*v (k+1):=Nat.mul_le_mul_right _ h4;have h6:u (k+2)*B≤v (k+1)*B:=Nat.mul_le_mul_right _ h2;rw[Nat.mul_comm] at h5;omega
 exact ⟨hn,hge,guess_pass hv hv0 hn (test_over hrest h1 hn (hv _ (by omega)))⟩
end
def bs (l:List UInt8):ByteArray:=⟨l.toArray⟩
theorem bs_size (l:List UInt8):(bs l).size=l.length:=by simp[bs,ByteArray.size]
theorem bs_list (l:List UInt8):(bs l).data.toList=l:=by simp[bs]
theorem bs_append (a b:List UInt8):bs a ++ bs b=bs (a ++ b):=by apply ByteArray.ext;simp[bs,ByteArray.data_append]
theorem bwrite_calls (B b:Nat)(bs:List Value)(s:ByteArray)(w:World)(h:Lib.IsBuilderF 237 5 B b bs w)(hlen:bs.length+s.size≤140737488355328)(hBw:B≤w.heap.size):
  Calls Tryz.prog 231 #[.pointer (some ⟨b,0,none⟩),.string s] w fun e w'=>e=.returned (.tuple #[.int .i64 s.size,.nilIface])∧(Lib.BuilderAtF 237 5 B b (.pointer (some ⟨b,0,none⟩)) (bs ++ Lib.strCells s) w'∧Below B w w'∧Lib.OthersKept 5 (some b) w w'):=
 Any.Builder_WriteString_k {Tryz.lays105 with} Tryz.Builder_Extra_105 B b bs s w h hlen hBw
end Go.Proofs.YtnjonlnemagomaaGreatDoor
