/- Part B13. -/
import Derived.WalkMore
import Derived.Maps.OwnOps
import Derived.Test.YtnjonlnemagomaaGreatDoorB12
namespace Go.Proofs.YtnjonlnemagomaaGreatDoor
open Go.RowKit Big Go.ChangeMaps Go.MapKept
open Go.Lib (hid)
set_option maxRecDepth 100000
set_option maxHeartbeats 8000000
def y6i:Int:=100000000000000000000000000000000000000000000000
def y4x:Int:=70710678118654752440084436210484903928483593768848
theorem yo0:(Rat.divInt (y4x - 1000000) y6i).floor=707:=by decide +kernel
theorem ymt:(Rat.divInt (y4x+1000000) y6i).floor=707:=by decide +kernel
theorem yo7:y4x.natAbs < 2^400/\y6i.natAbs < 2^400/\(y4x - 1000000).natAbs < 2^400/\(y4x+1000000).natAbs < 2^400/\y6i≠0:=by decide +kernel
theorem yj3 (W:World):(Instr.index 96 (.agg #[.int .i64 50,.int .i64 100]) (.int .i64 0)).run Tryz.prog W=.ok (.int .i64 50) W:=by kernel_rfl
theorem y8r (va:Value)(w:World)(hx:y07 w va (Rat.divInt 1 8)):Calls Tryz.prog 213 #[va,.int .i64 3] w (y0l w 707):=by
 obtain ⟨sa,aa,la,ca,ta,ba,ma,na,rfl⟩:=hx.shape;have bd:∀ z:Int,z.natAbs < 2^400->Bd z:=fun z h=>⟨400,by omega,h⟩;have hse:=fun va W h=>ycx va W h;rw[show serS 20=y4x from yoz] at hse;have hten:=fun W=>y7m 47 W (by omega);rw[show ((47:Nat):Int)=47 from rfl,show (10:Int)^47=y6i from ylj] at hten;obtain ⟨b1,b2,b3,b4,b5⟩:=yo7;have s6:∀ W,y06 W (.agg #[.int .i64 1000000,.slice none 0 0]) 1000000:=fun W=>.small rfl (by omega) (by omega);have hsb:=fun va W h=>y3v va _ y4x 1000000 W h (s6 W) (bd _ b1) (bd _ (by decide +kernel));have had:=fun va W h=>y1r va _ y4x 1000000 W h (s6 W) (bd _ b1) (bd _ (by decide +kernel));have hm1:=fun va vb W h1 h2=>y12 va vb (y4x - 1000000) y6i W h1 h2 (bd _ b3) (bd _ b2) b5;have hm2:=fun va vb W h1 h2=>y12 va vb (y4x+1000000) y6i W h1 h2 (bd _ b4) (bd _ b2) b5;have hf1:=fun va W h=>y1z va (Rat.divInt (y4x - 1000000) y6i) 400 W h (FB.divInt b3 b2 b5) (by omega);have hf2:=fun va W h=>y1z va (Rat.divInt (y4x+1000000) y6i) 400 W h (FB.divInt b4 b2 b5) (by omega);rw[yo0] at hf1;rw[ymt] at hf2;have hcm:=fun va vb W h1 h2=>y3x va vb 707 707 W h1 h2 (bd _ (by decide +kernel)) (bd _ (by decide +kernel));unfold y1t at hcm;rw[show ((707:Int) - 707).sign=0 by decide] at hcm;obtain ⟨S,hS⟩:∃ S,y4x=S:=⟨_,rfl⟩;obtain ⟨U,hU⟩:∃ S,y6i=S:=⟨_,rfl⟩;simp only[hS] at hse hsb had hm1 hm2 hf1 hf2;simp only[hU] at hten hm1 hm2 hf1 hf2;obtain ⟨S1,hS1⟩:∃ x,S - 1000000=x:=⟨_,rfl⟩;obtain ⟨S2,hS2⟩:∃ x,S+1000000=x:=⟨_,rfl⟩;simp only[hS1] at hsb hm1 hf1;simp only[hS2] at had hm2 hf2;obtain ⟨q1,hq1⟩:∃ q,Rat.divInt S1 U=q:=⟨_,rfl⟩;obtain ⟨q2,hq2⟩:∃ q,Rat.divInt S2 U=q:=⟨_,rfl⟩;simp only[hq1] at hm1 hf1;simp only[hq2] at hm2 hf2;obtain ⟨Z,hZ⟩:∃ Z:Int,707=Z:=⟨_,rfl⟩;simp only[hZ] at hf1 hf2 hcm;rw[hZ];clear hS hU hS1 hS2 hq1 hq2 b1 b2 b3 b4 b5 s6 bd hZ;have HX:=hid hx;have HSE:=hid hse;have HTEN:=hid hten;have HSB:=hid hsb;have HAD:=hid had;have HM1:=hid hm1;have HM2:=hid hm2;have HF1:=hid hf1;have HF2:=hid hf2;have HCM:=hid hcm;clear hx hse hten hsb had hm1 hm2 hf1 hf2 hcm;go_enter Tryz.func213,Tryz.ntmps213;go_wp2_with fail
 go_step3
 go_wp2_with fail
 go_step3
 go_wp2_with fail;obtain ⟨BA,BP,BL,HN⟩:=lay3 w 115 #[.int .i64 sa,.slice aa la ca,.int .i64 ta,.slice ba ma na] 113 #[.int .i64 0,.slice none 0 0] 113 #[.int .i64 0,.slice none 0 0];replace HX:=hid (HX.out.new HN.out);obtain ⟨w0,hw0⟩:∃ u,((w.alloc (.cells #[.int .i64 sa,.slice aa la ca,.int .i64 ta,.slice ba ma na] 115)).alloc (.cells #[.int .i64 0,.slice none 0 0] 113)).alloc (.cells #[.int .i64 0,.slice none 0 0] 113)=u:=⟨_,rfl⟩;rw[hw0] at BA BP BL HN HX⊢;clear hw0;go_loopw [12] (fun i wr=>i=.int .i64 0/\Hid (wr=w0)) (fun _ _=>0)
 case atStart=>exact ⟨rfl,hid rfl⟩
 case round=>
  obtain ⟨rfl,HW⟩:=hrel;rw[HW.out];clear HW;have hix:=yj3;obtain ⟨⟨pa0,pa1,pa2,pa3⟩,pa4,pa5,pa6,pa7,pa8⟩:=BA.out.four;go_wp2_with fail;refine (HSE.out _ _ HX.out).mono ?_;rintro e w1 ⟨v1,rfl,hn,hi⟩;obtain ⟨s1,a1,l1,k1,rfl⟩:=hi.shape;have HI1:=hid hi;clear hi;clear pa0 pa1 pa2 pa3 pa4 pa5 pa6 pa7 pa8;clear BA HX;replace BP:=bW BP hn;replace BL:=bW BL hn;replace HN:=tW HN hn;clear hn;have lo1:=BL.out.lt;go_upto_region 6 with (fail);have HN0:=HN;clear HN;obtain ⟨BS,HN⟩:=lay1 w1 113 #[.int .i64 s1,.slice a1 l1 k1];replace BP:=hid (BP.out.new HN.out);replace BL:=hid (BL.out.new HN.out);replace HI1:=hid (HI1.out.new HN.out);have HN_:=HN0.out.trans HN.out;clear HN HN0;have HN:=hid HN_;clear HN_;obtain ⟨w2,hw2⟩:∃ u,w1.alloc (.cells #[.int .i64 s1,.slice a1 l1 k1] 113)=u:=⟨_,rfl⟩;rw[hw2] at BS BP BL HN HI1⊢;clear hw2;go_wp2_with fail;refine (HTEN.out _).mono ?_;rintro e w3 ⟨v3,rfl,hn,hi⟩;obtain ⟨s3,a3,l3,k3,rfl⟩:=hi.shape;have HI3:=hid hi;clear hi;replace BP:=bW BP hn;replace BL:=bW BL hn;replace BS:=bW BS hn;replace HI1:=hid (HI1.out.new hn);replace HN:=tW HN hn;clear hn;have lo2:=BS.out.lt;go_upto_region 7 with (fail);have HN0:=HN;clear HN;obtain ⟨BU,HN⟩:=lay1 w3 113 #[.int .i64 s3,.slice a3 l3 k3];replace BP:=hid (BP.out.new HN.out);replace BL:=hid (BL.out.new HN.out);replace BS:=hid (BS.out.new HN.out);replace HI1:=hid (HI1.out.new HN.out);replace HI3:=hid (HI3.out.new HN.out);have HN_:=HN0.out.trans HN.out;clear HN HN0;have HN:=hid HN_;clear HN_;obtain ⟨w4,hw4⟩:∃ u,w3.alloc (.cells #[.int .i64 s3,.slice a3 l3 k3] 113)=u:=⟨_,rfl⟩;rw[hw4] at BU BS BP BL HN HI1 HI3⊢;clear hw4;obtain ⟨xs0,xs1,xs2,xs3,xs4⟩:=BS.out.two;obtain ⟨xu0,xu1,xu2,xu3,xu4⟩:=BU.out.two;obtain ⟨xl0,xl1,xl2,xl3,xl4⟩:=BL.out.two;refine y00 6 (fun W=>W.cell? ⟨w1.heap.size,0,none⟩=some (.int .i64 s1)/\W.cell? ⟨w1.heap.size,1,none⟩=some (.slice a1 l1 k1)/\W.cell? ⟨w3.heap.size,0,none⟩=some (.int .i64 s3)/\W.cell? ⟨w3.heap.size,1,none⟩=some (.slice a3 l3 k3)) 7 #[false,false,false,false,false,false,false] rfl (by kernel_rfl) (by kernel_rfl) ?_;refine tk 0 (by exact ⟨xs0,xs1,xu0,xu1⟩) ?_
  try simp only[PT]
  refine tk 3 (by exact ⟨xs0,xs1,xu0,xu1⟩) ?_
  try simp only[PT]
  refine tk1 1 fun K hK=>?_;go_simp;refine (y09 1000000 _).mono ?_;rintro e w5 ⟨rfl,hn⟩;have hn:=hn.undrew;clear xs0 xs1 xs2 xs3 xs4 xu0 xu1 xu2 xu3 xu4 xl0 xl1 xl2 xl3 xl4;replace BP:=bW BP hn;replace BL:=bW BL hn;replace BS:=bW BS hn;replace BU:=bW BU hn;replace HI1:=hid (HI1.out.new hn);replace HI3:=hid (HI3.out.new hn);replace HN:=tW HN hn;clear hn;obtain ⟨xs0,xs1,xs2,xs3,xs4⟩:=BS.out.two;obtain ⟨xu0,xu1,xu2,xu3,xu4⟩:=BU.out.two;obtain ⟨xl0,xl1,xl2,xl3,xl4⟩:=BL.out.two;refine hK.out _ _ (fun _=>⟨xs0,xs1,xu0,xu1⟩) ?_;clear hK K
  try simp only[PT]
  refine tk1 2 fun K hK=>?_;go_simp;refine (HSB.out _ _ HI1.out).mono ?_;rintro e w6 ⟨v6,rfl,hn,hi⟩;have HI6:=hid hi;clear hi;clear xs0 xs1 xs2 xs3 xs4 xu0 xu1 xu2 xu3 xu4 xl0 xl1 xl2 xl3 xl4;replace BP:=bW BP hn;replace BL:=bW BL hn;replace BS:=bW BS hn;replace BU:=bW BU hn;replace HI1:=hid (HI1.out.new hn);replace HI3:=hid (HI3.out.new hn);replace HN:=tW HN hn;clear hn;obtain ⟨xs0,xs1,xs2,xs3,xs4⟩:=BS.out.two;obtain ⟨xu0,xu1,xu2,xu3,xu4⟩:=BU.out.two;obtain ⟨xl0,xl1,xl2,xl3,xl4⟩:=BL.out.two;refine hK.out _ _ (fun _=>⟨xs0,xs1,xu0,xu1⟩) ?_;clear hK K
  try simp only[PT]
  refine tk1 4 fun K hK=>?_;go_simp;refine (HM1.out _ _ _ HI6.out HI3.out).mono ?_;rintro e w7 ⟨v7,rfl,hn,hf⟩;clear HI6;have HF7:=hid hf;clear hf;clear xs0 xs1 xs2 xs3 xs4 xu0 xu1 xu2 xu3 xu4 xl0 xl1 xl2 xl3 xl4;replace BP:=bW BP hn;replace BL:=bW BL hn;replace BS:=bW BS hn;replace BU:=bW BU hn;replace HI1:=hid (HI1.out.new hn);replace HI3:=hid (HI3.out.new hn);replace HN:=tW HN hn;clear hn;obtain ⟨xs0,xs1,xs2,xs3,xs4⟩:=BS.out.two;obtain ⟨xu0,xu1,xu2,xu3,xu4⟩:=BU.out.two;obtain ⟨xl0,xl1,xl2,xl3,xl4⟩:=BL.out.two;refine hK.out _ _ (fun _=>⟨xs0,xs1,xu0,xu1⟩) ?_;clear hK K
  try simp only[PT]
  refine tk1 5 fun K hK=>?_;go_simp;refine (HF1.out _ _ HF7.out).mono ?_;rintro e w8 ⟨v8,rfl,hn,hi⟩;obtain ⟨s8,a8,l8,k8,rfl⟩:=hi.shape;clear HF7;have HI8:=hid hi;clear hi;clear xs0 xs1 xs2 xs3 xs4 xu0 xu1 xu2 xu3 xu4 xl0 xl1 xl2 xl3 xl4;replace BP:=bW BP hn;replace BL:=bW BL hn;replace BS:=bW BS hn;replace BU:=bW BU hn;replace HI1:=hid (HI1.out.new hn);replace HI3:=hid (HI3.out.new hn);replace HN:=tW HN hn;clear hn;obtain ⟨xs0,xs1,xs2,xs3,xs4⟩:=BS.out.two;obtain ⟨xu0,xu1,xu2,xu3,xu4⟩:=BU.out.two;obtain ⟨xl0,xl1,xl2,xl3,xl4⟩:=BL.out.two;refine hK.out _ _ (fun _=>⟨xs0,xs1,xu0,xu1⟩) ?_;clear hK K
  try simp only[PT]
  refine tlW ?_;go_upto_region 8 with (fail);clear xs0 xs1 xs2 xs3 xs4 xu0 xu1 xu2 xu3 xu4 xl0 xl1 xl2 xl3 xl4;have BP_:=BP.out.away BL.out (by omega) (.int .i64 s8) (.slice a8 l8 k8);have BS_:=BS.out.away BL.out (by omega) (.int .i64 s8) (.slice a8 l8 k8);have BU_:=BU.out.away BL.out (by omega) (.int .i64 s8) (.slice a8 l8 k8);have HI1_:=HI1.out.put2 BL.out s8 a8 l8 k8;have HI3_:=HI3.out.put2 BL.out s8 a8 l8 k8;have HI8_:=HI8.out.put2 BL.out s8 a8 l8 k8;have HN_:=HN.out.putAt BL.out (by omega) (.int .i64 s8) (.slice a8 l8 k8);have BL_:=BL.out.put2 (.int .i64 s8) (.slice a8 l8 k8);clear BP BS BU HI1 HI3 HI8 HN BL;have BP:=hid BP_;have BS:=hid BS_;have BU:=hid BU_;have HI1:=hid HI1_;have HI3:=hid HI3_;have HI8:=hid HI8_;have HN:=hid HN_;have BL:=hid BL_;clear BP_ BS_ BU_ HI1_ HI3_ HI8_ HN_ BL_;obtain ⟨w9,hw9⟩:∃ u,((w8.setCell ⟨w.heap.size+1+1,0,none⟩ (.int .i64 s8)).setCell ⟨w.heap.size+1+1,1,none⟩ (.slice a8 l8 k8))=u:=⟨_,rfl⟩;rw[hw9] at BL BP BS BU HN HI1 HI3 HI8⊢;clear hw9;have HN1:=HN;clear HN
  go_cut [10] from 22 to 38 (fun x wx=>∃ P:Nat,x=.pointer (some ⟨P,0,none⟩)/\New w9 wx/\w9.heap.size<=P/\yne wx P Z)
  case first=>
   have HN:=hid (New.refl w9);obtain ⟨xs0,xs1,xs2,xs3,xs4⟩:=BS.out.two;obtain ⟨xu0,xu1,xu2,xu3,xu4⟩:=BU.out.two;refine y00 7 (fun W=>(W.cell? ⟨w1.heap.size,0,none⟩=some (.int .i64 s1)/\W.cell? ⟨w1.heap.size,1,none⟩=some (.slice a1 l1 k1))/\(W.cell? ⟨w3.heap.size,0,none⟩=some (.int .i64 s3)/\W.cell? ⟨w3.heap.size,1,none⟩=some (.slice a3 l3 k3))) 8 #[false,false,false,false,false,false,false,false] rfl (by kernel_rfl) (by kernel_rfl) ?_;clear xs0 xs1 xs2 xs3 xs4 xu0 xu1 xu2 xu3 xu4;replace BS:=hid (BS.out.new (New.refl w9).drew);replace BU:=hid (BU.out.new (New.refl w9).drew);replace HI1:=hid (HI1.out.new (New.refl w9).drew);replace HI3:=hid (HI3.out.new (New.refl w9).drew);replace HN:=hid (HN.out.drew);obtain ⟨wdr,hwd⟩:∃ x,w9.drew=x:=⟨_,rfl⟩;rw[hwd] at HN BS BU HI1 HI3⊢;clear hwd;refine tk 0 (by exact ⟨cW2 BS,cW2 BU⟩) ?_
   try simp only[PT]
   refine tk 3 (by exact ⟨cW2 BS,cW2 BU⟩) ?_
   try simp only[PT]
   refine y0h 1 6 rfl rfl (by kernel_rfl) (fun K hK=>?_) (fun K hK=>?_)
   ·skip
    go_simp;refine (y09 1000000 _).mono ?_;rintro e wb ⟨rfl,hn⟩;replace BS:=bW BS hn;replace BU:=bW BU hn;replace HI1:=hid (HI1.out.new hn);replace HI3:=hid (HI3.out.new hn);replace HN:=tW HN hn;clear hn;refine hK.out _ _ (fun _=>⟨cW2 BS,cW2 BU⟩) ?_;clear hK K
    try simp only[PT]
    refine y0h 2 6 rfl rfl (by kernel_rfl) (fun K hK=>?_) (fun K hK=>?_)
    ·skip
     go_simp;refine (HAD.out _ _ HI1.out).mono ?_;rintro e wc ⟨v6,rfl,hn,hi⟩;have HI6:=hid hi;clear hi;replace BS:=bW BS hn;replace BU:=bW BU hn;replace HI1:=hid (HI1.out.new hn);replace HI3:=hid (HI3.out.new hn);replace HN:=tW HN hn;clear hn;refine hK.out _ _ (fun _=>⟨cW2 BS,cW2 BU⟩) ?_;clear hK K
     try simp only[PT]
     refine y0h 4 6 rfl rfl (by kernel_rfl) (fun K hK=>?_) (fun K hK=>?_)
     ·skip
      go_simp;refine (HM2.out _ _ _ HI6.out HI3.out).mono ?_;rintro e wd ⟨v7,rfl,hn,hf⟩;clear HI6;have HF7:=hid hf;clear hf;replace BS:=bW BS hn;replace BU:=bW BU hn;replace HI1:=hid (HI1.out.new hn);replace HI3:=hid (HI3.out.new hn);replace HN:=tW HN hn;clear hn;refine hK.out _ _ (fun _=>⟨cW2 BS,cW2 BU⟩) ?_;clear hK K
      try simp only[PT]
      refine y0h 5 6 rfl rfl (by kernel_rfl) (fun K hK=>?_) (fun K hK=>?_)
      ·skip
       go_simp;refine (HF2.out _ _ HF7.out).mono ?_;rintro e we ⟨vb,rfl,hn,hi⟩;obtain ⟨sb,ab,lb,kb,rfl⟩:=hi.shape;clear HF7;have HIB:=hid hi;clear hi;replace BS:=bW BS hn;replace BU:=bW BU hn;replace HI1:=hid (HI1.out.new hn);replace HI3:=hid (HI3.out.new hn);replace HN:=tW HN hn;clear hn;refine hK.out _ _ (fun _=>⟨cW2 BS,cW2 BU⟩) ?_;clear hK K
       try simp only[PT]
       refine tk1 6 fun K hK=>?_;go_simp;have LBM:=hid (HN.out.size);obtain ⟨wa1,hwa,BM_,hn⟩:=y0j we 113 #[.int .i64 0,.slice none 0 0];rw[hwa];clear hwa;have BM:=hid BM_;clear BM_;replace BS:=bW BS hn;replace BU:=bW BU hn;replace HI1:=hid (HI1.out.new hn);replace HI3:=hid (HI3.out.new hn);replace HIB:=hid (HIB.out.new hn);replace HN:=tW HN hn;clear hn;refine hK.out _ _ (fun _=>⟨cW2 BS,cW2 BU⟩) ?_;clear hK K
       try simp only[PT]
       refine tlW ?_;obtain ⟨xs0,xs1,xs2,xs3,xs4⟩:=BS.out.two;obtain ⟨xu0,xu1,xu2,xu3,xu4⟩:=BU.out.two;clear xs0 xs1 xs2 xs3 xs4 xu0 xu1 xu2 xu3 xu4;obtain ⟨u0,u1,u2,u3,u4⟩:=BM.out.two;go_wp2_with fail
       go_meet
       exact ⟨_,rfl,HN.out.put2 LBM.out _ _,LBM.out,⟨_,_,_,_,BM.out.put2 _ _,HIB.out.put2 BM.out _ _ _ _⟩⟩
      ·skip
       go_simp;have LBM:=hid (HN.out.size);obtain ⟨wa1,hwa,BM_,hn⟩:=y0j wd 113 #[.int .i64 0,.slice none 0 0];rw[hwa];clear hwa;have BM:=hid BM_;clear BM_;replace BS:=bW BS hn;replace BU:=bW BU hn;replace HI1:=hid (HI1.out.new hn);replace HI3:=hid (HI3.out.new hn);replace HF7:=hid (HF7.out.new hn);replace HN:=tW HN hn;clear hn;refine hK.out _ _ (fun _=>⟨cW2 BS,cW2 BU⟩) ?_;clear hK K
       try simp only[PT]
       refine tk1 5 fun K hK=>?_;go_simp;refine (HF2.out _ _ HF7.out).mono ?_;rintro e we ⟨vb,rfl,hn,hi⟩;obtain ⟨sb,ab,lb,kb,rfl⟩:=hi.shape;clear HF7;have HIB:=hid hi;clear hi;replace BS:=bW BS hn;replace BU:=bW BU hn;replace HI1:=hid (HI1.out.new hn);replace HI3:=hid (HI3.out.new hn);replace BM:=bW BM hn;replace HN:=tW HN hn;clear hn;refine hK.out _ _ (fun _=>⟨cW2 BS,cW2 BU⟩) ?_;clear hK K
       try simp only[PT]
       refine tlW ?_;obtain ⟨xs0,xs1,xs2,xs3,xs4⟩:=BS.out.two;obtain ⟨xu0,xu1,xu2,xu3,xu4⟩:=BU.out.two;clear xs0 xs1 xs2 xs3 xs4 xu0 xu1 xu2 xu3 xu4;obtain ⟨u0,u1,u2,u3,u4⟩:=BM.out.two;go_wp2_with fail
       go_meet
       exact ⟨_,rfl,HN.out.put2 LBM.out _ _,LBM.out,⟨_,_,_,_,BM.out.put2 _ _,HIB.out.put2 BM.out _ _ _ _⟩⟩
     ·skip
      go_simp;have LBM:=hid (HN.out.size);obtain ⟨wa1,hwa,BM_,hn⟩:=y0j wc 113 #[.int .i64 0,.slice none 0 0];rw[hwa];clear hwa;have BM:=hid BM_;clear BM_;replace BS:=bW BS hn;replace BU:=bW BU hn;replace HI1:=hid (HI1.out.new hn);replace HI3:=hid (HI3.out.new hn);replace HI6:=hid (HI6.out.new hn);replace HN:=tW HN hn;clear hn;refine hK.out _ _ (fun _=>⟨cW2 BS,cW2 BU⟩) ?_;clear hK K
      try simp only[PT]
      refine tk1 4 fun K hK=>?_;go_simp;refine (HM2.out _ _ _ HI6.out HI3.out).mono ?_;rintro e wd ⟨v7,rfl,hn,hf⟩;clear HI6;have HF7:=hid hf;clear hf;replace BS:=bW BS hn;replace BU:=bW BU hn;replace HI1:=hid (HI1.out.new hn);replace HI3:=hid (HI3.out.new hn);replace BM:=bW BM hn;replace HN:=tW HN hn;clear hn;refine hK.out _ _ (fun _=>⟨cW2 BS,cW2 BU⟩) ?_;clear hK K
      try simp only[PT]
      refine tk1 5 fun K hK=>?_;go_simp;refine (HF2.out _ _ HF7.out).mono ?_;rintro e we ⟨vb,rfl,hn,hi⟩;obtain ⟨sb,ab,lb,kb,rfl⟩:=hi.shape;clear HF7;have HIB:=hid hi;clear hi;replace BS:=bW BS hn;replace BU:=bW BU hn;replace HI1:=hid (HI1.out.new hn);replace HI3:=hid (HI3.out.new hn);replace BM:=bW BM hn;replace HN:=tW HN hn;clear hn;refine hK.out _ _ (fun _=>⟨cW2 BS,cW2 BU⟩) ?_;clear hK K
      try simp only[PT]
      refine tlW ?_;obtain ⟨xs0,xs1,xs2,xs3,xs4⟩:=BS.out.two;obtain ⟨xu0,xu1,xu2,xu3,xu4⟩:=BU.out.two;clear xs0 xs1 xs2 xs3 xs4 xu0 xu1 xu2 xu3 xu4;obtain ⟨u0,u1,u2,u3,u4⟩:=BM.out.two;go_wp2_with fail
      go_meet
      exact ⟨_,rfl,HN.out.put2 LBM.out _ _,LBM.out,⟨_,_,_,_,BM.out.put2 _ _,HIB.out.put2 BM.out _ _ _ _⟩⟩
    ·skip
     go_simp;have LBM:=hid (HN.out.size);obtain ⟨wa1,hwa,BM_,hn⟩:=y0j wb 113 #[.int .i64 0,.slice none 0 0];rw[hwa];clear hwa;have BM:=hid BM_;clear BM_;replace BS:=bW BS hn;replace BU:=bW BU hn;replace HI1:=hid (HI1.out.new hn);replace HI3:=hid (HI3.out.new hn);replace HN:=tW HN hn;clear hn;refine hK.out _ _ (fun _=>⟨cW2 BS,cW2 BU⟩) ?_;clear hK K
     try simp only[PT]
     refine tk1 2 fun K hK=>?_;go_simp;refine (HAD.out _ _ HI1.out).mono ?_;rintro e wc ⟨v6,rfl,hn,hi⟩;have HI6:=hid hi;clear hi;replace BS:=bW BS hn;replace BU:=bW BU hn;replace HI1:=hid (HI1.out.new hn);replace HI3:=hid (HI3.out.new hn);replace BM:=bW BM hn;replace HN:=tW HN hn;clear hn;refine hK.out _ _ (fun _=>⟨cW2 BS,cW2 BU⟩) ?_;clear hK K
     try simp only[PT]
     refine tk1 4 fun K hK=>?_;go_simp;refine (HM2.out _ _ _ HI6.out HI3.out).mono ?_;rintro e wd ⟨v7,rfl,hn,hf⟩;clear HI6;have HF7:=hid hf;clear hf;replace BS:=bW BS hn;replace BU:=bW BU hn;replace HI1:=hid (HI1.out.new hn);replace HI3:=hid (HI3.out.new hn);replace BM:=bW BM hn;replace HN:=tW HN hn;clear hn;refine hK.out _ _ (fun _=>⟨cW2 BS,cW2 BU⟩) ?_;clear hK K
     try simp only[PT]
     refine tk1 5 fun K hK=>?_;go_simp;refine (HF2.out _ _ HF7.out).mono ?_;rintro e we ⟨vb,rfl,hn,hi⟩;obtain ⟨sb,ab,lb,kb,rfl⟩:=hi.shape;clear HF7;have HIB:=hid hi;clear hi;replace BS:=bW BS hn;replace BU:=bW BU hn;replace HI1:=hid (HI1.out.new hn);replace HI3:=hid (HI3.out.new hn);replace BM:=bW BM hn;replace HN:=tW HN hn;clear hn;refine hK.out _ _ (fun _=>⟨cW2 BS,cW2 BU⟩) ?_;clear hK K
     try simp only[PT]
     refine tlW ?_;obtain ⟨xs0,xs1,xs2,xs3,xs4⟩:=BS.out.two;obtain ⟨xu0,xu1,xu2,xu3,xu4⟩:=BU.out.two;clear xs0 xs1 xs2 xs3 xs4 xu0 xu1 xu2 xu3 xu4;obtain ⟨u0,u1,u2,u3,u4⟩:=BM.out.two;go_wp2_with fail
     go_meet
     exact ⟨_,rfl,HN.out.put2 LBM.out _ _,LBM.out,⟨_,_,_,_,BM.out.put2 _ _,HIB.out.put2 BM.out _ _ _ _⟩⟩
   ·skip
    go_simp;have LBM:=hid (HN.out.size);obtain ⟨wa1,hwa,BM_,hn⟩:=y0j wdr 113 #[.int .i64 0,.slice none 0 0];rw[hwa];clear hwa;have BM:=hid BM_;clear BM_;replace BS:=bW BS hn;replace BU:=bW BU hn;replace HI1:=hid (HI1.out.new hn);replace HI3:=hid (HI3.out.new hn);replace HN:=tW HN hn;clear hn;refine hK.out _ _ (fun _=>⟨cW2 BS,cW2 BU⟩) ?_;clear hK K
    try simp only[PT]
    refine tk1 1 fun K hK=>?_;go_simp;refine (y09 1000000 _).mono ?_;rintro e wb ⟨rfl,hn⟩;replace BS:=bW BS hn;replace BU:=bW BU hn;replace HI1:=hid (HI1.out.new hn);replace HI3:=hid (HI3.out.new hn);replace BM:=bW BM hn;replace HN:=tW HN hn;clear hn;refine hK.out _ _ (fun _=>⟨cW2 BS,cW2 BU⟩) ?_;clear hK K
    try simp only[PT]
    refine tk1 2 fun K hK=>?_;go_simp;refine (HAD.out _ _ HI1.out).mono ?_;rintro e wc ⟨v6,rfl,hn,hi⟩;have HI6:=hid hi;clear hi;replace BS:=bW BS hn;replace BU:=bW BU hn;replace HI1:=hid (HI1.out.new hn);replace HI3:=hid (HI3.out.new hn);replace BM:=bW BM hn;replace HN:=tW HN hn;clear hn;refine hK.out _ _ (fun _=>⟨cW2 BS,cW2 BU⟩) ?_;clear hK K
    try simp only[PT]
    refine tk1 4 fun K hK=>?_;go_simp;refine (HM2.out _ _ _ HI6.out HI3.out).mono ?_;rintro e wd ⟨v7,rfl,hn,hf⟩;clear HI6;have HF7:=hid hf;clear hf;replace BS:=bW BS hn;replace BU:=bW BU hn;replace HI1:=hid (HI1.out.new hn);replace HI3:=hid (HI3.out.new hn);replace BM:=bW BM hn;replace HN:=tW HN hn;clear hn;refine hK.out _ _ (fun _=>⟨cW2 BS,cW2 BU⟩) ?_;clear hK K
    try simp only[PT]
    refine tk1 5 fun K hK=>?_;go_simp;refine (HF2.out _ _ HF7.out).mono ?_;rintro e we ⟨vb,rfl,hn,hi⟩;obtain ⟨sb,ab,lb,kb,rfl⟩:=hi.shape;clear HF7;have HIB:=hid hi;clear hi;replace BS:=bW BS hn;replace BU:=bW BU hn;replace HI1:=hid (HI1.out.new hn);replace HI3:=hid (HI3.out.new hn);replace BM:=bW BM hn;replace HN:=tW HN hn;clear hn;refine hK.out _ _ (fun _=>⟨cW2 BS,cW2 BU⟩) ?_;clear hK K
    try simp only[PT]
    refine tlW ?_;obtain ⟨xs0,xs1,xs2,xs3,xs4⟩:=BS.out.two;obtain ⟨xu0,xu1,xu2,xu3,xu4⟩:=BU.out.two;clear xs0 xs1 xs2 xs3 xs4 xu0 xu1 xu2 xu3 xu4;obtain ⟨u0,u1,u2,u3,u4⟩:=BM.out.two;go_wp2_with fail
    go_meet
    exact ⟨_,rfl,HN.out.put2 LBM.out _ _,LBM.out,⟨_,_,_,_,BM.out.put2 _ _,HIB.out.put2 BM.out _ _ _ _⟩⟩
  case rest=>
   obtain ⟨G,rfl,hn,hG,sg,ag,lg,kg,bg,ig⟩:=hcut;obtain ⟨wx,hwx⟩:∃ x,x=wc:=⟨_,rfl⟩;rw[<-hwx] at hn bg ig⊢;clear hwx BS BU HI1 HI3;replace BP:=bW BP hn;replace BL:=bW BL hn;replace HI8:=hid (HI8.out.new hn);have HN:=hid (HN1.out.trans hn);clear HN1 hn;have BG:=hid bg;have IG:=hid ig;clear bg ig;obtain ⟨g0,g1,g2,g3,g4⟩:=BG.out.two;obtain ⟨xl0,xl1,xl2,xl3,xl4⟩:=BL.out.two
   go_step
   go_wp2_with fail;refine (HCM.out _ _ _ HI8.out IG.out).mono ?_;rintro e wy ⟨rfl,hn⟩;clear g0 g1 g2 g3 g4 xl0 xl1 xl2 xl3 xl4;clear BG IG;replace BP:=bW BP hn;replace BL:=bW BL hn;replace HI8:=hid (HI8.out.new hn);replace HN:=tW HN hn;clear hn;obtain ⟨xl0,xl1,xl2,xl3,xl4⟩:=BL.out.two;obtain ⟨p0,p1,p2,p3,p4⟩:=BP.out.two;go_wp2_with fail;refine bodyPost_ret (v:=.agg #[.int .i64 s8,.slice a8 l8 k8]) (by simp[results,Tryz.results213,go_sem,p0,p1]) rfl ?_;exact ⟨_,rfl,HN.out.putAt BP.out (by omega) _ _,HI8.out.put2 BP.out _ _ _ _⟩
def ycc (l:List (ByteArray × ByteArray))(i:Nat):List MapEntry:=match l with
 | []=>[]
 | (k,v)::l=>{key:=.string k,val:=.string v,born:=i}::ycc l (i+1)
theorem yhc (l:List (ByteArray × ByteArray))(k v:ByteArray):∀ i,ycc (l ++ [(k,v)]) i=ycc l i ++ [{key:=.string k,val:=.string v,born:=i+l.length}]:=by
 induction l with
 | nil=>intro i;rfl
 | cons x l ih=>
  intro i;show _::ycc (l ++ [(k,v)]) (i+1)=_::(ycc l (i+1) ++ _);rw[ih]
  have e:i+1+l.length=i+(x::l).length:=by simp;omega
  rw[e]
def y9r (x:ByteArray):List (ByteArray × ByteArray)->Nat->Option (Nat × Value)
 | [],_=>none
 | (k,v)::l,i=>if x==k then some (i,.string v) else y9r x l (i+1)
theorem y9x (x:ByteArray):∀ (l:List (ByteArray × ByteArray)) (j i:Nat),Instr.findNow .string (.string x) (ycc l j) i=some (y9r x l i)
 | [],_,_=>rfl
 | (k,v)::l,j,i=>by
  show (match Instr.sameNow .string (.string x) (.string k) with
   | some true=>some (some (i,.string v))
   | some false=>Instr.findNow .string (.string x) (ycc l (j+1)) (i+1)
   | none=>none)=some (if x==k then some (i,.string v) else y9r x l (i+1))
  have e:Instr.sameNow .string (.string x) (.string k)=some (x==k):=rfl;rw[e]
  cases h:(x==k) with
  | true=>rfl
  | false=>exact y9x x l (j+1) (i+1)
theorem y5v {P:Program}{kt:TypeId}(ht:P.underlying kt=some .string)(w:World)(x:ByteArray)(l:List (ByteArray × ByteArray))(j:Nat):
  (Instr.findKey kt (.string x) (ycc l j)).run P w=.ok (y9r x l 0) w:=by
 unfold Instr.findKey;simp only[Sem.run_bind,run_underlying ht,Result.andThen,y9x];simp
theorem y41 {P:Program}{kt:TypeId}(ht:P.underlying kt=some .string)(w:World)(x:ByteArray)(b:Bool):(Instr.checkKey b 10000 kt (.string x)).run P w=.ok () w:=by
 have h:=run_underlying ht w;unfold Instr.checkKey;simp[h,Result.andThen]
def y3u (w:World)(b:Nat)(l:List (ByteArray × ByteArray)):Prop:=∃ es:Array MapEntry,w.heap[b]?=some (.map es l.length)/\es.toList=ycc l 0
theorem y3u.made (w:World):y3u (w.alloc (.map #[] 0)) w.heap.size []:=⟨#[],by show (w.heap.push _)[w.heap.size]?=_;simp,rfl⟩
theorem y3u.lt {w:World}{b:Nat}{l:List (ByteArray × ByteArray)}(h:y3u w b l):b < w.heap.size:=by
 obtain ⟨es,h1,_⟩:=h;rcases Nat.lt_or_ge b w.heap.size with h2 | h2
 ·exact h2
 ·rw[Array.getElem?_eq_none h2] at h1;cases h1
theorem y3u.new {w w':World}{b:Nat}{l:List (ByteArray × ByteArray)}(h:y3u w b l)(hn:New w w'):y3u w' b l:=by
 have hl:=h.lt;obtain ⟨es,h1,h2⟩:=h;exact ⟨es,by rw[Below.block hn b hl,h1],h2⟩
theorem y3u.put {P:Program}{t kt e:TypeId}(ht:P.underlying t=some (.map kt e))(hk:P.underlying kt=some .string){w:World}{b:Nat}{l:List (ByteArray × ByteArray)}(h:y3u w b l)(x v:ByteArray)(hx:y9r x l 0=none):
  ∃ w',(Instr.mapUpdate t (.map (some b)) (.string x) (.string v)).run P w=.ok () w'/\y3u w' b (l ++ [(x,v)])/\w.grownBy w' (some b):=by
 obtain ⟨es,hb,he⟩:=h;have hf:=y5v hk w x l 0;rw[hx,<-he] at hf;refine ⟨setBlock w b (.map (es.push {key:=.string x,val:=.string v,born:=l.length}) (l.length+1)),?_,⟨_,by rw[List.length_append];exact heap_setBlock_same hb _,by rw[Array.toList_push,he,yhc,Nat.zero_add]⟩,⟨rfl,rfl,rfl,by simp[setBlock],fun i _ hi=>heap_setBlock_other hb _ (fun e=>hi (by rw[e]))⟩⟩;simp[Instr.mapUpdate,run_underlying ht,MapKept.run_getObj_map hb,y41 hk,hf,MapKept.run_setObj_map _ hb,Result.andThen,setBlock]
theorem y3u.look {P:Program}{t kt e:TypeId}(ht:P.underlying t=some (.map kt e))(hk:P.underlying kt=some .string){w:World}(hz:(zeroValue e).run P w=.ok (.string ⟨#[]⟩) w){b:Nat}{l:List (ByteArray × ByteArray)}(h:y3u w b l)(x:ByteArray):
  (Instr.lookup t (.map (some b)) (.string x) true).run P w=.ok (match y9r x l 0 with | some (_,v)=>.tuple #[v,.bool true] | none=>.tuple #[.string ⟨#[]⟩,.bool false]) w:=by
 obtain ⟨es,hb,he⟩:=h;have hf:=y5v hk w x l 0;rw[<-he] at hf
 cases hfd:y9r x l 0 with
 | none=>
  rw[hfd]at hf;simp[Instr.lookup,run_underlying ht,MapKept.run_getObj_map hb,y41 hk,hf,hz,Result.andThen]
 | some p=>
  obtain ⟨i,v⟩:=p;rw[hfd] at hf;simp[Instr.lookup,run_underlying ht,MapKept.run_getObj_map hb,y41 hk,hf,Result.andThen]
theorem y1q {P:Program} (w:World) {ops:Array Oper} {rest:List Oper} {o:Oper} {a:Act} {Q:Exit->Act->World->Prop}
  (hg:o.guard=none) (m x v:Operand) (t:TypeId) (hop:o.op=Op.insert t m x v) (kt e:TypeId) (ht:P.underlying t=some (.map kt e)) (hk:P.underlying kt=some .string) (b:Nat) (l:List (ByteArray × ByteArray)) (X V:ByteArray)
  (hm:a.eval m=.map (some b)) (h:y3u w b l) (hx:a.eval x=.string X) (hv:a.eval v=.string V) (hd:y9r X l 0=none)
  (hK:∀ w',y3u w' b (l ++ [(X,V)])->w.grownBy w' (some b)->wpList P ops Q rest (a.put o.dst undef) w'):
  wpList P ops Q (o::rest) a w:=by
 refine wpList_plain hg fun K' hK'=>?_;obtain ⟨w',hrun,r1,r2⟩:=h.put ht hk X V hd;unfold Oper.wp;simp[execOp,hop,hm,hx,hv,hrun,Result.andThen];exact hK' _ _ (hK w' r1 r2)
theorem New.grownAt {w wr w1:World}{b:Nat}(hn:New w wr)(hb:w.heap.size<=b)(hg:wr.grownBy w1 (some b)):New w w1:=by
 obtain ⟨a1,a2,a3,a4,a5⟩:=hn;refine ⟨hg.os.trans a1,?_,?_,Nat.le_trans a4 hg.size,fun j hj=>?_⟩
 ·first | exact hg.tape.trans a2 | exact hg.output.trans a2
 ·first | exact hg.output.trans a3 | exact hg.tape.trans a3
 ·refine (hg.block j (Nat.lt_of_lt_of_le hj a4) ?_).trans (a5 j hj);intro h;injection h with h;omega
def y7r:List (ByteArray × ByteArray):=[(⟨#[48]⟩,⟨#[49]⟩),(⟨#[49,47,54]⟩,⟨#[49,47,50]⟩),(⟨#[49,47,52]⟩,⟨#[48]⟩),(⟨#[49,47,51]⟩,⟨#[45,49,47,50]⟩),(⟨#[49,47,50]⟩,⟨#[45,49]⟩),(⟨#[50,47,51]⟩,⟨#[45,49,47,50]⟩),(⟨#[51,47,52]⟩,⟨#[48]⟩),(⟨#[53,47,54]⟩,⟨#[49,47,50]⟩)]
theorem y4w (w:World):Calls Tryz.prog 212 #[] w fun e w'=>∃ b,e=.returned (.map (some b))/\New w w'/\y3u w' b y7r:=by
 have tm0:y3u (w.alloc (.map #[] 0)) w.heap.size (y7r.take 0):=y3u.made w;have hn0:=(New.refl w).alloc (.map #[] 0)
 have hmk:∀ W:World,(Instr.makeMap 212 none).run Tryz.prog W=.ok (.map (some W.heap.size)) (W.alloc (.map #[] 0)):=fun W=>by
  simp[Instr.makeMap,Result.andThen]
 have TM:=hid tm0;have HN:=hid hn0;clear tm0 hn0;go_enter Tryz.func212,Tryz.ntmps212;go_wp2_with (refine y1q _ rfl _ _ _ 212 rfl 23 23 Tryz.underlying212 Tryz.underlying23 w.heap.size (y7r.take 0) ⟨#[48]⟩ ⟨#[49]⟩ rfl TM.out rfl rfl (by decide) ?_);intro w1 tm_ hg;have hn_:=HN.out.grownAt (Nat.le_refl _) hg;clear TM HN hg;have TM:=hid tm_;have HN:=hid hn_;clear tm_ hn_;go_wp2_with (refine y1q _ rfl _ _ _ 212 rfl 23 23 Tryz.underlying212 Tryz.underlying23 w.heap.size (y7r.take 1) ⟨#[49,47,54]⟩ ⟨#[49,47,50]⟩ rfl TM.out rfl rfl (by decide) ?_);intro w2 tm_ hg;have hn_:=HN.out.grownAt (Nat.le_refl _) hg;clear TM HN hg;have TM:=hid tm_;have HN:=hid hn_;clear tm_ hn_;go_wp2_with (refine y1q _ rfl _ _ _ 212 rfl 23 23 Tryz.underlying212 Tryz.underlying23 w.heap.size (y7r.take 2) ⟨#[49,47,52]⟩ ⟨#[48]⟩ rfl TM.out rfl rfl (by decide) ?_);intro w3 tm_ hg;have hn_:=HN.out.grownAt (Nat.le_refl _) hg;clear TM HN hg;have TM:=hid tm_;have HN:=hid hn_;clear tm_ hn_;go_wp2_with (refine y1q _ rfl _ _ _ 212 rfl 23 23 Tryz.underlying212 Tryz.underlying23 w.heap.size (y7r.take 3) ⟨#[49,47,51]⟩ ⟨#[45,49,47,50]⟩ rfl TM.out rfl rfl (by decide) ?_);intro w4 tm_ hg;have hn_:=HN.out.grownAt (Nat.le_refl _) hg;clear TM HN hg;have TM:=hid tm_;have HN:=hid hn_;clear tm_ hn_;go_wp2_with (refine y1q _ rfl _ _ _ 212 rfl 23 23 Tryz.underlying212 Tryz.underlying23 w.heap.size (y7r.take 4) ⟨#[49,47,50]⟩ ⟨#[45,49]⟩ rfl TM.out rfl rfl (by decide) ?_);intro w5 tm_ hg;have hn_:=HN.out.grownAt (Nat.le_refl _) hg;clear TM HN hg;have TM:=hid tm_;have HN:=hid hn_;clear tm_ hn_;go_wp2_with (refine y1q _ rfl _ _ _ 212 rfl 23 23 Tryz.underlying212 Tryz.underlying23 w.heap.size (y7r.take 5) ⟨#[50,47,51]⟩ ⟨#[45,49,47,50]⟩ rfl TM.out rfl rfl (by decide) ?_);intro w6 tm_ hg;have hn_:=HN.out.grownAt (Nat.le_refl _) hg;clear TM HN hg;have TM:=hid tm_;have HN:=hid hn_;clear tm_ hn_;go_wp2_with (refine y1q _ rfl _ _ _ 212 rfl 23 23 Tryz.underlying212 Tryz.underlying23 w.heap.size (y7r.take 6) ⟨#[51,47,52]⟩ ⟨#[48]⟩ rfl TM.out rfl rfl (by decide) ?_);intro w7 tm_ hg;have hn_:=HN.out.grownAt (Nat.le_refl _) hg;clear TM HN hg;have TM:=hid tm_;have HN:=hid hn_;clear tm_ hn_;go_wp2_with (refine y1q _ rfl _ _ _ 212 rfl 23 23 Tryz.underlying212 Tryz.underlying23 w.heap.size (y7r.take 7) ⟨#[53,47,54]⟩ ⟨#[49,47,50]⟩ rfl TM.out rfl rfl (by decide) ?_);intro w8 tm_ hg;have hn_:=HN.out.grownAt (Nat.le_refl _) hg;clear TM HN hg;have TM:=hid tm_;have HN:=hid hn_;clear tm_ hn_;go_wp2_with fail;go_ret;exact ⟨_,rfl,HN.out,TM.out⟩
end Go.Proofs.YtnjonlnemagomaaGreatDoor
