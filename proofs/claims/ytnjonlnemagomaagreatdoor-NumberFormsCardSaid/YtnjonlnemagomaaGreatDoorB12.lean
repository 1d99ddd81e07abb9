/- Part B12. -/
import Derived.Test.YtnjonlnemagomaaGreatDoorB11
namespace Go.Proofs.YtnjonlnemagomaaGreatDoor
open Go.RowKit Big
open Go.Lib (hid)
set_option maxRecDepth 100000
set_option maxHeartbeats 8000000
theorem y7m (k:Nat)(w:World)(hk:k<=100):Calls Tryz.prog 214 #[.int .i64 (k:Int)] w (y0l w (10^k)):=by
 have hpw:=fun va W h=>y5z va 10 k 4 W h (by unfold BdK;decide) (by omega) (by omega);have s1:∀ W,y06 W (.agg #[.int .i64 10,.slice none 0 0]) 10:=fun W=>.small rfl (by omega) (by omega);obtain ⟨z,hz⟩:∃ z,(10:Int)^k=z:=⟨_,rfl⟩;simp only[hz] at hpw;rw[hz];clear hz hk;have HPW:=hid hpw;have S1:=hid s1;clear hpw s1;go_enter Tryz.func214,Tryz.ntmps214;go_wp2_with fail;obtain ⟨BP,HN⟩:=lay1 w 113 #[.int .i64 0,.slice none 0 0];refine (y09 10 _).mono ?_;rintro e w1 ⟨rfl,hn⟩;replace BP:=bW BP hn;replace HN:=tW HN hn;clear hn;go_wp2_with fail;refine (HPW.out _ _ (S1.out _)).mono ?_;rintro e w2 ⟨v2,rfl,hn,hi⟩;obtain ⟨s2,a2,l2,k2,rfl⟩:=hi.shape;have HI:=hid hi;clear hi;replace BP:=bW BP hn;replace HN:=tW HN hn;clear hn;obtain ⟨p0,p1,p2,p3,p4⟩:=BP.out.two;go_wp2_with fail;refine bodyPost_ret (v:=.agg #[.int .i64 s2,.slice a2 l2 k2]) (by simp[results,Tryz.results214,go_sem,p0,p1]) rfl ?_;exact ⟨_,rfl,HN.out.putAt BP.out (by omega) _ _,HI.out.put2 BP.out _ _ _ _⟩
def yne (w:World)(P:Nat)(z:Int):Prop:=∃ (s:Int) (a:Option Addr) (l c:Nat),Box w P 113 #[.int .i64 s,.slice a l c]/\y06 w (.agg #[.int .i64 s,.slice a l c]) z
abbrev ylu:ByteArray:=⟨#[51,49,52,49,53,57,50,54,53,51,53,56,57,55,57,51,50,51,56,52,54,50,54,52,51,51,56,51,50,55,57,53,48,50,56,56,52,49,57,55,49,54,57,51,57,57,51,55,53,49,48]⟩
def pi51:Int:=314159265358979323846264338327950288419716939937510
theorem yp8:∀ c∈ylu.data.toList,y0z c=true:=by decide +kernel
theorem ypn:signed false (dval 0 ylu.data.toList)=pi51:=by decide +kernel
theorem yoe:(((pi51*2:Int):Rat)*Rat.divInt 1 8).floor=y6h:=by decide +kernel
theorem yl2:(∀ K,K < 20->∀ va vb W,y06 W va (serT K)->y06 W vb y6h->Calls Tryz.prog 164 #[va,vb] W (y0l W (serU K)))/\(∀ K,K < 20->∀ va vb W,y06 W va (serU K)->y06 W vb y5t->Calls Tryz.prog 180 #[va,vb] W (y0l W (serV K)))/\
  (∀ K,K < 20->∀ va vb W,y06 W va (serV K)->y06 W vb y6h->Calls Tryz.prog 164 #[va,vb] W (y0l W (serW K)))/\(∀ K,K < 20->∀ va vb W,y06 W va (serW K)->y06 W vb y5t->Calls Tryz.prog 180 #[va,vb] W (y0l W (serX K)))/\
  (∀ K,K < 20->∀ va W,y06 W va (serX K)->Calls Tryz.prog 180 #[va,.agg #[.int .i64 (serD (K+1)),.slice none 0 0]] W (y0l W (serT (K+1))))/\
  (∀ K,K < 20->∀ va vb W,y06 W va (serS K)->y06 W vb (serT (K+1))->Calls Tryz.prog 211 #[va,vb] W (y0l W (serS K - serT (K+1))))/\(∀ K,K < 20->∀ va vb W,y06 W va (serS K)->y06 W vb (serT (K+1))->Calls Tryz.prog 120 #[va,vb] W (y0l W (serS K+serT (K+1)))):=by
 have bd:∀ z:Int,z.natAbs < 2^400->Bd z:=fun z h=>⟨400,by omega,h⟩;have ba:Bd y6h:=bd _ (by decide +kernel);have bo:Bd y5t:=bd _ (by decide +kernel);refine ⟨fun K hK va vb W h1 h2=>?_,fun K hK va vb W h1 h2=>?_,fun K hK va vb W h1 h2=>?_,fun K hK va vb W h1 h2=>?_,fun K hK va W h1=>?_,fun K hK va vb W h1 h2=>?_,fun K hK va vb W h1 h2=>?_⟩
 ·exact y0u va vb _ _ W h1 h2 (bd _ (y7c K (by omega)).1) ba
 ·have h:=y2n va vb _ _ W h1 h2 (bd _ (y7c K (by omega)).2.1) bo (by decide);unfold quo at h;rw[if_neg (by decide)] at h;exact h
 ·exact y0u va vb _ _ W h1 h2 (bd _ (y7c K (by omega)).2.2.1) ba
 ·have h:=y2n va vb _ _ W h1 h2 (bd _ (y7c K (by omega)).2.2.2.1) bo (by decide);unfold quo at h;rw[if_neg (by decide)] at h;exact h
 ·obtain ⟨d0,d1⟩:=yge K (by omega);have h:=y2n va _ _ (serD (K+1)) W h1 (.small rfl (by omega) (by omega)) (bd _ (y7c K (by omega)).2.2.2.2.1) (bd _ (Nat.lt_of_lt_of_le (show (serD (K+1)).natAbs < 2000 by omega) (by decide +kernel))) (by omega);unfold quo at h;rw[if_neg (by omega)] at h;exact h
 ·exact y3v va vb _ _ W h1 h2 (bd _ (y7c K (by omega)).2.2.2.2.2) (bd _ (y7c (K+1) (by omega)).1)
 ·exact y1r va vb _ _ W h1 h2 (bd _ (y7c K (by omega)).2.2.2.2.2) (bd _ (y7c (K+1) (by omega)).1)
theorem yog (K:Nat)(h:K < 20):∃ D:Int,serD (K+1)=D/\(2*((K:Int)+1) - 1)*2*((K:Int)+1)=D/\0 < D/\D < 2000:=by
 obtain ⟨d0,d1⟩:=yge K (by omega);refine ⟨_,rfl,?_,d0,d1⟩;unfold serD;rw[show ((K+1:Nat):Int)=(K:Int)+1 by omega]
theorem ymf {Y:Nat}{D:Int}(h:Y < 20)(hD:(2*((Y:Int)+1) - 1)*2*((Y:Int)+1)=D)(h0:0 < D)(h1:D < 2000):IntKind.i64.wrap (IntKind.i64.wrap (IntKind.i64.wrap (IntKind.i64.wrap (2*((Y:Int)+1)) - 1)*2)*((Y:Int)+1))=D:=by
 have wr:∀ x:Int, -9223372036854775808<=x->x<=9223372036854775807->IntKind.i64.wrap x=x:=fun x a b=>by
  rw[IntKind.wrap_i64];omega
 rw[wr (2*((Y:Int)+1)) (by omega) (by omega),wr (2*((Y:Int)+1) - 1) (by omega) (by omega),wr ((2*((Y:Int)+1) - 1)*2) (by omega) (by omega),hD,wr D (by omega) (by omega)]
theorem ycx (va:Value)(w:World)(hx:y07 w va (Rat.divInt 1 8)):Calls Tryz.prog 253 #[va,.int .i64 50] w (y0l w (serS 20)):=by
 obtain ⟨sa,aa,la,ca,ta,ba,ma,na,rfl⟩:=hx.shape;have bd:∀ z:Int,z.natAbs < 2^400->Bd z:=fun z h=>⟨400,by omega,h⟩;have hten:=fun W=>y7m 50 W (by omega);rw[yp6,show ((50:Nat):Int)=50 from rfl] at hten;have hrd:=fun W=>y4y ylu false _ W rfl yp8 (by decide);rw[ypn] at hrd;have s2:∀ W,y06 W (.agg #[.int .i64 2,.slice none 0 0]) 2:=fun W=>.small rfl (by omega) (by omega);have hm2:=fun va W h=>y0u va _ pi51 2 W h (s2 W) (bd _ (by decide +kernel)) (bd _ (by decide +kernel));have hwh:=fun va W h=>y26 va (pi51*2) W h;have hfm:=fun va vb W h1 h2=>y3n va vb ((pi51*2:Int):Rat) (Rat.divInt 1 8) 400 10 W h1 h2 (FB.int (by unfold BdK;decide +kernel) (by omega)) (FB.divInt (by unfold BdK;decide +kernel) (by unfold BdK;decide +kernel) (by decide)) (by omega);have hfl:=fun va W h=>y1z va (((pi51*2:Int):Rat)*Rat.divInt 1 8) 410 W h (FB.mul (j:=400) (k:=10) (FB.int (by unfold BdK;decide +kernel) (by omega)) (FB.divInt (by unfold BdK;decide +kernel) (by unfold BdK;decide +kernel) (by decide))) (by omega);rw[yoe] at hfl;obtain ⟨q1,hq1⟩:∃ q,((pi51*2:Int):Rat)=q:=⟨_,rfl⟩;obtain ⟨z1,hz1⟩:∃ q,pi51*2=q:=⟨_,rfl⟩;obtain ⟨q2,hq2⟩:∃ q,Rat.divInt 1 8=q:=⟨_,rfl⟩;obtain ⟨z0,hz0⟩:∃ q,pi51=q:=⟨_,rfl⟩;simp only[hq1,hq2] at hfm hfl hwh;obtain ⟨q3,hq3⟩:∃ q,q1*q2=q:=⟨_,rfl⟩;simp only[hq3] at hfm hfl;simp only[hz1] at hm2 hwh;simp only[hz0] at hm2 hrd;rw[hq2] at hx;clear hq1 hq2 hq3 hz1 hz0 s2;have HX:=hid hx;have HTEN:=hid hten;have HRD:=hid hrd;have HM2:=hid hm2;have HWH:=hid hwh;have HFM:=hid hfm;have HFL:=hid hfl;have BD:=hid bd;clear hx hten hrd hm2 hwh hfm hfl bd;go_enter Tryz.func253,Tryz.ntmps253;go_wp2_with fail;obtain ⟨BA,BP,HN⟩:=lay2 w 115 #[.int .i64 sa,.slice aa la ca,.int .i64 ta,.slice ba ma na] 113 #[.int .i64 0,.slice none 0 0];replace HX:=hid (HX.out.new HN.out);refine (HTEN.out _).mono ?_;rintro e w1 ⟨v1,rfl,hn,hi⟩;obtain ⟨s1,a1,l1,k1,rfl⟩:=hi.shape;have HI1:=hid hi;clear hi;replace BA:=bW BA hn;replace BP:=bW BP hn;replace HX:=hid (HX.out.new hn);replace HN:=tW HN hn;clear hn;have lo1:=BP.out.lt;go_upto_region 2 with (fail);have HN0:=HN;clear HN;obtain ⟨BO,HN⟩:=lay1 w1 113 #[.int .i64 s1,.slice a1 l1 k1];replace BA:=hid (BA.out.new HN.out);replace BP:=hid (BP.out.new HN.out);replace HX:=hid (HX.out.new HN.out);replace HI1:=hid (HI1.out.new HN.out);have HN_:=HN0.out.trans HN.out;clear HN HN0;have HN:=hid HN_;clear HN_;obtain ⟨w2,hw2⟩:∃ u,w1.alloc (.cells #[.int .i64 s1,.slice a1 l1 k1] 113)=u:=⟨_,rfl⟩;rw[hw2] at BO BA BP HN HX HI1⊢;clear hw2;have HN1:=HN;clear HN
 go_cut [6] (fun x wx=>∃ P:Nat,x=.pointer (some ⟨P,0,none⟩)/\New w2 wx/\w2.heap.size<=P/\yne wx P y6h)
 case first=>
  have HN:=hid (New.refl w2);obtain ⟨⟨pa0,pa1,pa2,pa3⟩,pa4,pa5,pa6,pa7,pa8⟩:=BA.out.four;refine y00 11 (fun W=>W.cell? ⟨w.heap.size,0,none⟩=some (.int .i64 sa)/\W.cell? ⟨w.heap.size,1,none⟩=some (.slice aa la ca)/\W.cell? ⟨w.heap.size,2,none⟩=some (.int .i64 ta)/\W.cell? ⟨w.heap.size,3,none⟩=some (.slice ba ma na)) 12 #[false,false,false,false,false,false,false,false,false,false,false,false] rfl (by kernel_rfl) (by kernel_rfl) ?_;clear pa0 pa1 pa2 pa3 pa4 pa5 pa6 pa7 pa8;replace BA:=hid (BA.out.new (New.refl w2).drew);replace HX:=hid (HX.out.new (New.refl w2).drew);replace HN:=hid (HN.out.drew);obtain ⟨wdr,hwd⟩:∃ x,w2.drew=x:=⟨_,rfl⟩;rw[hwd] at HN BA HX⊢;clear hwd;refine tk 0 (by exact cW4 BA) ?_
  try simp only[PT]
  refine tk 1 (by exact cW4 BA) ?_
  try simp only[PT]
  refine y0q 2 (v:=?_) rfl (by kernel_rfl) (fun _ _ _ h=>h) (by exact cW4 BA) (Or.inl ⟨by first | kernel_rfl | rfl,?_⟩) ?_;rotate_left
  ·(intro W hW;(try dsimp only at hW);(go_simp;refine (if_pos (by decide)).trans ?_;refine congrArg (a₂:=ylu) (fun b:ByteArray=>Result.ok (Next.value (Value.string b)) W) ?_;decide +kernel);try with_reducible rfl)
  try simp only[PT]
  refine tk 7 (by exact cW4 BA) ?_
  try simp only[PT]
  refine y0h 3 10 rfl rfl (by kernel_rfl) (fun K hK=>?_) (fun K hK=>?_)
  ·skip
   go_simp;refine (HRD.out _).mono ?_;rintro e w3 ⟨v3,rfl,hn,hi⟩;have HI3:=hid hi;clear hi;replace BA:=bW BA hn;replace HX:=hid (HX.out.new hn);replace HN:=tW HN hn;clear hn;refine hK.out _ _ (fun _=>cW4 BA) ?_;clear hK K
   try simp only[PT]
   refine y0h 4 10 rfl rfl (by kernel_rfl) (fun K hK=>?_) (fun K hK=>?_)
   ·skip
    go_simp;refine (y09 2 _).mono ?_;rintro e w4 ⟨rfl,hn⟩;replace BA:=bW BA hn;replace HX:=hid (HX.out.new hn);replace HI3:=hid (HI3.out.new hn);replace HN:=tW HN hn;clear hn;refine hK.out _ _ (fun _=>cW4 BA) ?_;clear hK K
    try simp only[PT]
    refine y0h 5 10 rfl rfl (by kernel_rfl) (fun K hK=>?_) (fun K hK=>?_)
    ·skip
     go_simp;refine (HM2.out _ _ HI3.out).mono ?_;rintro e w5 ⟨v5,rfl,hn,hi⟩;clear HI3;have HI5:=hid hi;clear hi;replace BA:=bW BA hn;replace HX:=hid (HX.out.new hn);replace HN:=tW HN hn;clear hn;refine hK.out _ _ (fun _=>cW4 BA) ?_;clear hK K
     try simp only[PT]
     refine y0h 6 10 rfl rfl (by kernel_rfl) (fun K hK=>?_) (fun K hK=>?_)
     ·skip
      go_simp;refine (HWH.out _ _ HI5.out).mono ?_;rintro e w6 ⟨v6,rfl,hn,hf⟩;clear HI5;have HF6:=hid hf;clear hf;replace BA:=bW BA hn;replace HX:=hid (HX.out.new hn);replace HN:=tW HN hn;clear hn;refine hK.out _ _ (fun _=>cW4 BA) ?_;clear hK K
      try simp only[PT]
      refine y0h 8 10 rfl rfl (by kernel_rfl) (fun K hK=>?_) (fun K hK=>?_)
      ·skip
       go_simp;refine (HFM.out _ _ _ HF6.out HX.out).mono ?_;rintro e w7 ⟨v7,rfl,hn,hf⟩;clear HF6;have HF7:=hid hf;clear hf;replace BA:=bW BA hn;replace HX:=hid (HX.out.new hn);replace HN:=tW HN hn;clear hn;refine hK.out _ _ (fun _=>cW4 BA) ?_;clear hK K
       try simp only[PT]
       refine y0h 9 10 rfl rfl (by kernel_rfl) (fun K hK=>?_) (fun K hK=>?_)
       ·skip
        go_simp;refine (HFL.out _ _ HF7.out).mono ?_;rintro e w8 ⟨v8,rfl,hn,hi⟩;obtain ⟨s8,a8,l8,k8,rfl⟩:=hi.shape;clear HF7;have HI8:=hid hi;clear hi;replace BA:=bW BA hn;replace HX:=hid (HX.out.new hn);replace HN:=tW HN hn;clear hn;refine hK.out _ _ (fun _=>cW4 BA) ?_;clear hK K
        try simp only[PT]
        refine tk1 10 fun K hK=>?_;go_simp;have LBM:=hid (HN.out.size);obtain ⟨wa1,hwa,BM_,hn⟩:=y0j w8 113 #[.int .i64 0,.slice none 0 0];rw[hwa];clear hwa;have BM:=hid BM_;clear BM_;replace BA:=bW BA hn;replace HX:=hid (HX.out.new hn);replace HI8:=hid (HI8.out.new hn);replace HN:=tW HN hn;clear hn;refine hK.out _ _ (fun _=>cW4 BA) ?_;clear hK K
        try simp only[PT]
        refine tlW ?_;obtain ⟨⟨pa0,pa1,pa2,pa3⟩,pa4,pa5,pa6,pa7,pa8⟩:=BA.out.four;clear pa0 pa1 pa2 pa3 pa4 pa5 pa6 pa7 pa8;obtain ⟨u0,u1,u2,u3,u4⟩:=BM.out.two;go_wp2_with fail
        go_meet
        exact ⟨_,rfl,HN.out.put2 LBM.out _ _,LBM.out,⟨_,_,_,_,BM.out.put2 _ _,HI8.out.put2 BM.out _ _ _ _⟩⟩
       ·skip
        go_simp;have LBM:=hid (HN.out.size);obtain ⟨wa1,hwa,BM_,hn⟩:=y0j w7 113 #[.int .i64 0,.slice none 0 0];rw[hwa];clear hwa;have BM:=hid BM_;clear BM_;replace BA:=bW BA hn;replace HX:=hid (HX.out.new hn);replace HF7:=hid (HF7.out.new hn);replace HN:=tW HN hn;clear hn;refine hK.out _ _ (fun _=>cW4 BA) ?_;clear hK K
        try simp only[PT]
        refine tk1 9 fun K hK=>?_;go_simp;refine (HFL.out _ _ HF7.out).mono ?_;rintro e w8 ⟨v8,rfl,hn,hi⟩;obtain ⟨s8,a8,l8,k8,rfl⟩:=hi.shape;clear HF7;have HI8:=hid hi;clear hi;replace BA:=bW BA hn;replace HX:=hid (HX.out.new hn);replace BM:=bW BM hn;replace HN:=tW HN hn;clear hn;refine hK.out _ _ (fun _=>cW4 BA) ?_;clear hK K
        try simp only[PT]
        refine tlW ?_;obtain ⟨⟨pa0,pa1,pa2,pa3⟩,pa4,pa5,pa6,pa7,pa8⟩:=BA.out.four;clear pa0 pa1 pa2 pa3 pa4 pa5 pa6 pa7 pa8;obtain ⟨u0,u1,u2,u3,u4⟩:=BM.out.two;go_wp2_with fail
        go_meet
        exact ⟨_,rfl,HN.out.put2 LBM.out _ _,LBM.out,⟨_,_,_,_,BM.out.put2 _ _,HI8.out.put2 BM.out _ _ _ _⟩⟩
      ·skip
       go_simp;have LBM:=hid (HN.out.size);obtain ⟨wa1,hwa,BM_,hn⟩:=y0j w6 113 #[.int .i64 0,.slice none 0 0];rw[hwa];clear hwa;have BM:=hid BM_;clear BM_;replace BA:=bW BA hn;replace HX:=hid (HX.out.new hn);replace HF6:=hid (HF6.out.new hn);replace HN:=tW HN hn;clear hn;refine hK.out _ _ (fun _=>cW4 BA) ?_;clear hK K
       try simp only[PT]
       refine tk1 8 fun K hK=>?_;go_simp;refine (HFM.out _ _ _ HF6.out HX.out).mono ?_;rintro e w7 ⟨v7,rfl,hn,hf⟩;clear HF6;have HF7:=hid hf;clear hf;replace BA:=bW BA hn;replace HX:=hid (HX.out.new hn);replace BM:=bW BM hn;replace HN:=tW HN hn;clear hn;refine hK.out _ _ (fun _=>cW4 BA) ?_;clear hK K
       try simp only[PT]
       refine tk1 9 fun K hK=>?_;go_simp;refine (HFL.out _ _ HF7.out).mono ?_;rintro e w8 ⟨v8,rfl,hn,hi⟩;obtain ⟨s8,a8,l8,k8,rfl⟩:=hi.shape;clear HF7;have HI8:=hid hi;clear hi;replace BA:=bW BA hn;replace HX:=hid (HX.out.new hn);replace BM:=bW BM hn;replace HN:=tW HN hn;clear hn;refine hK.out _ _ (fun _=>cW4 BA) ?_;clear hK K
       try simp only[PT]
       refine tlW ?_;obtain ⟨⟨pa0,pa1,pa2,pa3⟩,pa4,pa5,pa6,pa7,pa8⟩:=BA.out.four;clear pa0 pa1 pa2 pa3 pa4 pa5 pa6 pa7 pa8;obtain ⟨u0,u1,u2,u3,u4⟩:=BM.out.two;go_wp2_with fail
       go_meet
       exact ⟨_,rfl,HN.out.put2 LBM.out _ _,LBM.out,⟨_,_,_,_,BM.out.put2 _ _,HI8.out.put2 BM.out _ _ _ _⟩⟩
     ·skip
      go_simp;have LBM:=hid (HN.out.size);obtain ⟨wa1,hwa,BM_,hn⟩:=y0j w5 113 #[.int .i64 0,.slice none 0 0];rw[hwa];clear hwa;have BM:=hid BM_;clear BM_;replace BA:=bW BA hn;replace HX:=hid (HX.out.new hn);replace HI5:=hid (HI5.out.new hn);replace HN:=tW HN hn;clear hn;refine hK.out _ _ (fun _=>cW4 BA) ?_;clear hK K
      try simp only[PT]
      refine tk1 6 fun K hK=>?_;go_simp;refine (HWH.out _ _ HI5.out).mono ?_;rintro e w6 ⟨v6,rfl,hn,hf⟩;clear HI5;have HF6:=hid hf;clear hf;replace BA:=bW BA hn;replace HX:=hid (HX.out.new hn);replace BM:=bW BM hn;replace HN:=tW HN hn;clear hn;refine hK.out _ _ (fun _=>cW4 BA) ?_;clear hK K
      try simp only[PT]
      refine tk1 8 fun K hK=>?_;go_simp;refine (HFM.out _ _ _ HF6.out HX.out).mono ?_;rintro e w7 ⟨v7,rfl,hn,hf⟩;clear HF6;have HF7:=hid hf;clear hf;replace BA:=bW BA hn;replace HX:=hid (HX.out.new hn);replace BM:=bW BM hn;replace HN:=tW HN hn;clear hn;refine hK.out _ _ (fun _=>cW4 BA) ?_;clear hK K
      try simp only[PT]
      refine tk1 9 fun K hK=>?_;go_simp;refine (HFL.out _ _ HF7.out).mono ?_;rintro e w8 ⟨v8,rfl,hn,hi⟩;obtain ⟨s8,a8,l8,k8,rfl⟩:=hi.shape;clear HF7;have HI8:=hid hi;clear hi;replace BA:=bW BA hn;replace HX:=hid (HX.out.new hn);replace BM:=bW BM hn;replace HN:=tW HN hn;clear hn;refine hK.out _ _ (fun _=>cW4 BA) ?_;clear hK K
      try simp only[PT]
      refine tlW ?_;obtain ⟨⟨pa0,pa1,pa2,pa3⟩,pa4,pa5,pa6,pa7,pa8⟩:=BA.out.four;clear pa0 pa1 pa2 pa3 pa4 pa5 pa6 pa7 pa8;obtain ⟨u0,u1,u2,u3,u4⟩:=BM.out.two;go_wp2_with fail
      go_meet
      exact ⟨_,rfl,HN.out.put2 LBM.out _ _,LBM.out,⟨_,_,_,_,BM.out.put2 _ _,HI8.out.put2 BM.out _ _ _ _⟩⟩
    ·skip
     go_simp;have LBM:=hid (HN.out.size);obtain ⟨wa1,hwa,BM_,hn⟩:=y0j w4 113 #[.int .i64 0,.slice none 0 0];rw[hwa];clear hwa;have BM:=hid BM_;clear BM_;replace BA:=bW BA hn;replace HX:=hid (HX.out.new hn);replace HI3:=hid (HI3.out.new hn);replace HN:=tW HN hn;clear hn;refine hK.out _ _ (fun _=>cW4 BA) ?_;clear hK K
     try simp only[PT]
     refine tk1 5 fun K hK=>?_;go_simp;refine (HM2.out _ _ HI3.out).mono ?_;rintro e w5 ⟨v5,rfl,hn,hi⟩;clear HI3;have HI5:=hid hi;clear hi;replace BA:=bW BA hn;replace HX:=hid (HX.out.new hn);replace BM:=bW BM hn;replace HN:=tW HN hn;clear hn;refine hK.out _ _ (fun _=>cW4 BA) ?_;clear hK K
     try simp only[PT]
     refine tk1 6 fun K hK=>?_;go_simp;refine (HWH.out _ _ HI5.out).mono ?_;rintro e w6 ⟨v6,rfl,hn,hf⟩;clear HI5;have HF6:=hid hf;clear hf;replace BA:=bW BA hn;replace HX:=hid (HX.out.new hn);replace BM:=bW BM hn;replace HN:=tW HN hn;clear hn;refine hK.out _ _ (fun _=>cW4 BA) ?_;clear hK K
     try simp only[PT]
     refine tk1 8 fun K hK=>?_;go_simp;refine (HFM.out _ _ _ HF6.out HX.out).mono ?_;rintro e w7 ⟨v7,rfl,hn,hf⟩;clear HF6;have HF7:=hid hf;clear hf;replace BA:=bW BA hn;replace HX:=hid (HX.out.new hn);replace BM:=bW BM hn;replace HN:=tW HN hn;clear hn;refine hK.out _ _ (fun _=>cW4 BA) ?_;clear hK K
     try simp only[PT]
     refine tk1 9 fun K hK=>?_;go_simp;refine (HFL.out _ _ HF7.out).mono ?_;rintro e w8 ⟨v8,rfl,hn,hi⟩;obtain ⟨s8,a8,l8,k8,rfl⟩:=hi.shape;clear HF7;have HI8:=hid hi;clear hi;replace BA:=bW BA hn;replace HX:=hid (HX.out.new hn);replace BM:=bW BM hn;replace HN:=tW HN hn;clear hn;refine hK.out _ _ (fun _=>cW4 BA) ?_;clear hK K
     try simp only[PT]
     refine tlW ?_;obtain ⟨⟨pa0,pa1,pa2,pa3⟩,pa4,pa5,pa6,pa7,pa8⟩:=BA.out.four;clear pa0 pa1 pa2 pa3 pa4 pa5 pa6 pa7 pa8;obtain ⟨u0,u1,u2,u3,u4⟩:=BM.out.two;go_wp2_with fail
     go_meet
     exact ⟨_,rfl,HN.out.put2 LBM.out _ _,LBM.out,⟨_,_,_,_,BM.out.put2 _ _,HI8.out.put2 BM.out _ _ _ _⟩⟩
   ·skip
    go_simp;have LBM:=hid (HN.out.size);obtain ⟨wa1,hwa,BM_,hn⟩:=y0j w3 113 #[.int .i64 0,.slice none 0 0];rw[hwa];clear hwa;have BM:=hid BM_;clear BM_;replace BA:=bW BA hn;replace HX:=hid (HX.out.new hn);replace HI3:=hid (HI3.out.new hn);replace HN:=tW HN hn;clear hn;refine hK.out _ _ (fun _=>cW4 BA) ?_;clear hK K
    try simp only[PT]
    refine tk1 4 fun K hK=>?_;go_simp;refine (y09 2 _).mono ?_;rintro e w4 ⟨rfl,hn⟩;replace BA:=bW BA hn;replace HX:=hid (HX.out.new hn);replace HI3:=hid (HI3.out.new hn);replace BM:=bW BM hn;replace HN:=tW HN hn;clear hn;refine hK.out _ _ (fun _=>cW4 BA) ?_;clear hK K
    try simp only[PT]
    refine tk1 5 fun K hK=>?_;go_simp;refine (HM2.out _ _ HI3.out).mono ?_;rintro e w5 ⟨v5,rfl,hn,hi⟩;clear HI3;have HI5:=hid hi;clear hi;replace BA:=bW BA hn;replace HX:=hid (HX.out.new hn);replace BM:=bW BM hn;replace HN:=tW HN hn;clear hn;refine hK.out _ _ (fun _=>cW4 BA) ?_;clear hK K
    try simp only[PT]
    refine tk1 6 fun K hK=>?_;go_simp;refine (HWH.out _ _ HI5.out).mono ?_;rintro e w6 ⟨v6,rfl,hn,hf⟩;clear HI5;have HF6:=hid hf;clear hf;replace BA:=bW BA hn;replace HX:=hid (HX.out.new hn);replace BM:=bW BM hn;replace HN:=tW HN hn;clear hn;refine hK.out _ _ (fun _=>cW4 BA) ?_;clear hK K
    try simp only[PT]
    refine tk1 8 fun K hK=>?_;go_simp;refine (HFM.out _ _ _ HF6.out HX.out).mono ?_;rintro e w7 ⟨v7,rfl,hn,hf⟩;clear HF6;have HF7:=hid hf;clear hf;replace BA:=bW BA hn;replace HX:=hid (HX.out.new hn);replace BM:=bW BM hn;replace HN:=tW HN hn;clear hn;refine hK.out _ _ (fun _=>cW4 BA) ?_;clear hK K
    try simp only[PT]
    refine tk1 9 fun K hK=>?_;go_simp;refine (HFL.out _ _ HF7.out).mono ?_;rintro e w8 ⟨v8,rfl,hn,hi⟩;obtain ⟨s8,a8,l8,k8,rfl⟩:=hi.shape;clear HF7;have HI8:=hid hi;clear hi;replace BA:=bW BA hn;replace HX:=hid (HX.out.new hn);replace BM:=bW BM hn;replace HN:=tW HN hn;clear hn;refine hK.out _ _ (fun _=>cW4 BA) ?_;clear hK K
    try simp only[PT]
    refine tlW ?_;obtain ⟨⟨pa0,pa1,pa2,pa3⟩,pa4,pa5,pa6,pa7,pa8⟩:=BA.out.four;clear pa0 pa1 pa2 pa3 pa4 pa5 pa6 pa7 pa8;obtain ⟨u0,u1,u2,u3,u4⟩:=BM.out.two;go_wp2_with fail
    go_meet
    exact ⟨_,rfl,HN.out.put2 LBM.out _ _,LBM.out,⟨_,_,_,_,BM.out.put2 _ _,HI8.out.put2 BM.out _ _ _ _⟩⟩
  ·skip
   go_simp;have LBM:=hid (HN.out.size);obtain ⟨wa1,hwa,BM_,hn⟩:=y0j wdr 113 #[.int .i64 0,.slice none 0 0];rw[hwa];clear hwa;have BM:=hid BM_;clear BM_;replace BA:=bW BA hn;replace HX:=hid (HX.out.new hn);replace HN:=tW HN hn;clear hn;refine hK.out _ _ (fun _=>cW4 BA) ?_;clear hK K
   try simp only[PT]
   refine tk1 3 fun K hK=>?_;go_simp;refine (HRD.out _).mono ?_;rintro e w3 ⟨v3,rfl,hn,hi⟩;have HI3:=hid hi;clear hi;replace BA:=bW BA hn;replace HX:=hid (HX.out.new hn);replace BM:=bW BM hn;replace HN:=tW HN hn;clear hn;refine hK.out _ _ (fun _=>cW4 BA) ?_;clear hK K
   try simp only[PT]
   refine tk1 4 fun K hK=>?_;go_simp;refine (y09 2 _).mono ?_;rintro e w4 ⟨rfl,hn⟩;replace BA:=bW BA hn;replace HX:=hid (HX.out.new hn);replace BM:=bW BM hn;replace HI3:=hid (HI3.out.new hn);replace HN:=tW HN hn;clear hn;refine hK.out _ _ (fun _=>cW4 BA) ?_;clear hK K
   try simp only[PT]
   refine tk1 5 fun K hK=>?_;go_simp;refine (HM2.out _ _ HI3.out).mono ?_;rintro e w5 ⟨v5,rfl,hn,hi⟩;clear HI3;have HI5:=hid hi;clear hi;replace BA:=bW BA hn;replace HX:=hid (HX.out.new hn);replace BM:=bW BM hn;replace HN:=tW HN hn;clear hn;refine hK.out _ _ (fun _=>cW4 BA) ?_;clear hK K
   try simp only[PT]
   refine tk1 6 fun K hK=>?_;go_simp;refine (HWH.out _ _ HI5.out).mono ?_;rintro e w6 ⟨v6,rfl,hn,hf⟩;clear HI5;have HF6:=hid hf;clear hf;replace BA:=bW BA hn;replace HX:=hid (HX.out.new hn);replace BM:=bW BM hn;replace HN:=tW HN hn;clear hn;refine hK.out _ _ (fun _=>cW4 BA) ?_;clear hK K
   try simp only[PT]
   refine tk1 8 fun K hK=>?_;go_simp;refine (HFM.out _ _ _ HF6.out HX.out).mono ?_;rintro e w7 ⟨v7,rfl,hn,hf⟩;clear HF6;have HF7:=hid hf;clear hf;replace BA:=bW BA hn;replace HX:=hid (HX.out.new hn);replace BM:=bW BM hn;replace HN:=tW HN hn;clear hn;refine hK.out _ _ (fun _=>cW4 BA) ?_;clear hK K
   try simp only[PT]
   refine tk1 9 fun K hK=>?_;go_simp;refine (HFL.out _ _ HF7.out).mono ?_;rintro e w8 ⟨v8,rfl,hn,hi⟩;obtain ⟨s8,a8,l8,k8,rfl⟩:=hi.shape;clear HF7;have HI8:=hid hi;clear hi;replace BA:=bW BA hn;replace HX:=hid (HX.out.new hn);replace BM:=bW BM hn;replace HN:=tW HN hn;clear hn;refine hK.out _ _ (fun _=>cW4 BA) ?_;clear hK K
   try simp only[PT]
   refine tlW ?_;obtain ⟨⟨pa0,pa1,pa2,pa3⟩,pa4,pa5,pa6,pa7,pa8⟩:=BA.out.four;clear pa0 pa1 pa2 pa3 pa4 pa5 pa6 pa7 pa8;obtain ⟨u0,u1,u2,u3,u4⟩:=BM.out.two;go_wp2_with fail
   go_meet
   exact ⟨_,rfl,HN.out.put2 LBM.out _ _,LBM.out,⟨_,_,_,_,BM.out.put2 _ _,HI8.out.put2 BM.out _ _ _ _⟩⟩
 case rest=>
  obtain ⟨G,rfl,hn,hG,sg,ag,lg,kg,bg,ig⟩:=hcut;obtain ⟨w3,hw3⟩:∃ x,x=wc:=⟨_,rfl⟩;rw[<-hw3] at hn bg ig⊢;clear hw3 BA HX;have lo2:=BO.out.lt;replace BP:=bW BP hn;replace BO:=bW BO hn;replace HI1:=hid (HI1.out.new hn);have HN:=hid (HN1.out.trans hn);clear HN1 hn;have lo3:=bg.lt;have BG:=hid bg;have IG:=hid ig;clear bg ig
  go_step
  go_upto_region 3 with (fail);have HN1:=HN;clear HN
  go_cut [7,8] (fun x y wx=>∃ S T:Nat,x=.pointer (some ⟨S,0,none⟩)/\y=.pointer (some ⟨T,0,none⟩)/\New w3 wx/\w3.heap.size<=S/\w3.heap.size<=T/\S≠T/\Box wx S 113 #[.int .i64 s1,.slice a1 l1 k1]/\Box wx T 113 #[.int .i64 s1,.slice a1 l1 k1])
  case first=>
   have hnw:New w3 (((w3.alloc (.cells #[.int .i64 s1,.slice a1 l1 k1] 113)).alloc (.cells #[.int .i64 s1,.slice a1 l1 k1] 113)).drew):=(((New.refl w3).alloc _).alloc _).drew;have hb0:Box (((w3.alloc (.cells #[.int .i64 s1,.slice a1 l1 k1] 113)).alloc (.cells #[.int .i64 s1,.slice a1 l1 k1] 113)).drew) w3.heap.size 113 #[.int .i64 s1,.slice a1 l1 k1]:=(Box.alloc w3 _ _ _ rfl).new (((New.refl _).alloc _).drew);have hb1:Box (((w3.alloc (.cells #[.int .i64 s1,.slice a1 l1 k1] 113)).alloc (.cells #[.int .i64 s1,.slice a1 l1 k1] 113)).drew) (w3.heap.size+1) 113 #[.int .i64 s1,.slice a1 l1 k1]:=(Box.alloc (w3.alloc (.cells #[.int .i64 s1,.slice a1 l1 k1] 113)) _ _ _ (by rw[size_alloc])).new ((New.refl _).drew);have HNW:=hid hnw;have HB0:=hid hb0;have HB1:=hid hb1;clear hnw hb0 hb1;obtain ⟨b0,b1,b2,b3,b4⟩:=BO.out.two
   go_region
   ·go_wp2_with fail
    go_meet
    first | exact ⟨w3.heap.size+1,w3.heap.size,rfl,rfl,HNW.out,by omega,by omega,by omega,HB1.out,HB0.out⟩ | exact ⟨w3.heap.size,w3.heap.size+1,rfl,rfl,HNW.out,by omega,by omega,by omega,HB0.out,HB1.out⟩
   ·go_wp2_with fail
    go_meet
    first | exact ⟨w3.heap.size+1,w3.heap.size,rfl,rfl,HNW.out,by omega,by omega,by omega,HB1.out,HB0.out⟩ | exact ⟨w3.heap.size,w3.heap.size+1,rfl,rfl,HNW.out,by omega,by omega,by omega,HB0.out,HB1.out⟩
  case rest=>
   obtain ⟨S,T,rfl,rfl,hn,hS,hT,hST,bs,bt⟩:=hcut;obtain ⟨w4,hw4⟩:∃ x,x=wc:=⟨_,rfl⟩;rw[<-hw4] at hn bs bt⊢;clear hw4;replace BP:=bW BP hn;replace BO:=bW BO hn;replace BG:=bW BG hn;replace HI1:=hid (HI1.out.new hn);replace IG:=hid (IG.out.new hn);have HN:=hid (HN1.out.trans hn);clear HN1 hn;have i1:=HI1;have BS:=hid bs;have BT:=hid bt;clear bs bt;obtain ⟨hr1,hr2,hr3,hr4,hr5,hr6,hr7⟩:=yl2;have hdv:=yog;have hps:=yon;have hze:=ymm;clear HFL HFM HWH HM2 HRD HTEN;have HR1:=hid hr1;have HR2:=hid hr2;have HR3:=hid hr3;have HR4:=hid hr4;have HR5:=hid hr5;have HR6:=hid hr6;have HR7:=hid hr7;have HDV:=hid hdv;have HPS:=hid hps;have HZE:=hid hze;clear hr1 hr2 hr3 hr4 hr5 hr6 hr7 hdv hps hze
   go_step
   go_wp2_with fail;have HN0:=HN;have BP0:=BP;have BO0:=BO;have BG0:=BG;have IG0:=IG;clear HN BP BO BG IG
   go_loopw [9] (fun i wr=>∃ (Y:Nat) (sS:Int) (aS:Option Addr) (lS kS:Nat) (sT:Int) (aT:Option Addr) (lT kT:Nat),Y<=20/\i=.int .i64 ((Y:Int)+1)/\Hid (New w wr)/\Hid (Box wr (w.heap.size+1) 113 #[.int .i64 0,.slice none 0 0])/\Hid (Box wr w1.heap.size 113 #[.int .i64 s1,.slice a1 l1 k1])/\Hid (Box wr G 113 #[.int .i64 sg,.slice ag lg kg])/\
    Hid (Box wr S 113 #[.int .i64 sS,.slice aS lS kS])/\Hid (Box wr T 113 #[.int .i64 sT,.slice aT lT kT])/\Hid (y06 wr (.agg #[.int .i64 s1,.slice a1 l1 k1]) y5t)/\Hid (y06 wr (.agg #[.int .i64 sg,.slice ag lg kg]) y6h)/\Hid (y06 wr (.agg #[.int .i64 sS,.slice aS lS kS]) (serS Y))/\Hid (y06 wr (.agg #[.int .i64 sT,.slice aT lT kT]) (serT Y))) (fun i _=>(21 - RowKit.intOf i).toNat)
   case atStart=>exact ⟨0,_,_,_,_,_,_,_,_,by omega,rfl,HN0,BP0,BO0,BG0,BS,BT,HI1,IG0,HI1,HI1⟩
   case round=>
    clear HN0 BP0 BO0 BG0 IG0 BS BT HI1 i1;obtain ⟨Y,sS,aS,lS,kS,sT,aT,lT,kT,hY,rfl,HN,BP,BO,BG,BS,BT,HIO,HIG,HIS,HIT⟩:=hrel;by_cases hlt:Y < 20
    ·have hp:=HPS.out Y hlt;obtain ⟨t,ht,htt⟩:∃ t,(serT Y).sign=t/\t=1:=⟨_,rfl,Int.sign_eq_one_of_pos hp⟩;subst htt;obtain ⟨D,hD,hDv,hD0,hD1⟩:=HDV.out Y hlt
     have hKi:(Y:Int) < 20:=by omega
     clear hp;have HT:=hid ht;have HD:=hid hD;clear ht hD;obtain ⟨t0,t1,t2,t3,t4⟩:=BT.out.two;go_wp2_with fail;refine (y0y _ (serT Y) _ HIT.out).mono ?_;rintro e w5 ⟨rfl,hn⟩;rw[HT.out];clear t0 t1 t2 t3 t4;replace BP:=bW BP hn;replace BO:=bW BO hn;replace BG:=bW BG hn;replace BS:=bW BS hn;replace BT:=bW BT hn;replace HIO:=hid (HIO.out.new hn);replace HIG:=hid (HIG.out.new hn);replace HIS:=hid (HIS.out.new hn);replace HIT:=hid (HIT.out.new hn);replace HN:=tW HN hn;clear hn;go_upto_region 7 with (fail);obtain ⟨t0,t1,t2,t3,t4⟩:=BT.out.two;obtain ⟨g0,g1,g2,g3,g4⟩:=BG.out.two;obtain ⟨o0,o1,o2,o3,o4⟩:=BO.out.two;clear t0 t1 t2 t3 t4;clear g0 g1 g2 g3 g4;clear o0 o1 o2 o3 o4;refine y00 17 (fun W=>(W.cell? ⟨T,0,none⟩=some (.int .i64 sT)/\W.cell? ⟨T,1,none⟩=some (.slice aT lT kT))/\(W.cell? ⟨G,0,none⟩=some (.int .i64 sg)/\W.cell? ⟨G,1,none⟩=some (.slice ag lg kg))/\(W.cell? ⟨w1.heap.size,0,none⟩=some (.int .i64 s1)/\W.cell? ⟨w1.heap.size,1,none⟩=some (.slice a1 l1 k1))) 18 #[false,false,false,false,false,false,false,false,false,false,false,false,false,false,false,false,false,false] rfl (by kernel_rfl) (by kernel_rfl) ?_;refine tk 0 (by exact ⟨cW2 BT,cW2 BG,cW2 BO⟩) ?_
     try simp only[PT]
     refine tk 1 (by exact ⟨cW2 BT,cW2 BG,cW2 BO⟩) ?_
     try simp only[PT]
     refine tk 3 (by exact ⟨cW2 BT,cW2 BG,cW2 BO⟩) ?_
     try simp only[PT]
     refine tk 5 (by exact ⟨cW2 BT,cW2 BG,cW2 BO⟩) ?_
     try simp only[PT]
     refine tk 7 (by exact ⟨cW2 BT,cW2 BG,cW2 BO⟩) ?_
     try simp only[PT]
     refine tk 9 (by exact ⟨cW2 BT,cW2 BG,cW2 BO⟩) ?_
     try simp only[PT]
     refine tk 10 (by exact ⟨cW2 BT,cW2 BG,cW2 BO⟩) ?_
     try simp only[PT]
     refine tk 11 (by exact ⟨cW2 BT,cW2 BG,cW2 BO⟩) ?_
     try simp only[PT]
     refine tk 12 (by exact ⟨cW2 BT,cW2 BG,cW2 BO⟩) ?_
     try simp only[PT]
     refine tk 13 (by exact ⟨cW2 BT,cW2 BG,cW2 BO⟩) ?_
     try simp only[PT]
     refine tk 14 (by exact ⟨cW2 BT,cW2 BG,cW2 BO⟩) ?_
     try simp only[PT]
     refine tk1 2 fun K hK=>?_;go_simp;refine (HR1.out Y hlt _ _ _ (HIT.out.new (New.refl _).drew) (HIG.out.new (New.refl _).drew)).mono ?_;rintro e w6 ⟨v6,rfl,hn,hi⟩;have hn:=hn.undrew;have HI6:=hid hi;clear hi;replace BP:=bW BP hn;replace BO:=bW BO hn;replace BG:=bW BG hn;replace BS:=bW BS hn;replace BT:=bW BT hn;replace HIO:=hid (HIO.out.new hn);replace HIG:=hid (HIG.out.new hn);replace HIS:=hid (HIS.out.new hn);replace HN:=tW HN hn;clear hn;refine hK.out _ _ (fun _=>⟨cW2 BT,cW2 BG,cW2 BO⟩) ?_;clear hK K
     try simp only[PT]
     refine tk1 4 fun K hK=>?_;go_simp;refine (HR2.out Y hlt _ _ _ HI6.out HIO.out).mono ?_;rintro e w7 ⟨v7,rfl,hn,hi⟩;clear HI6;have HI7:=hid hi;clear hi;replace BP:=bW BP hn;replace BO:=bW BO hn;replace BG:=bW BG hn;replace BS:=bW BS hn;replace BT:=bW BT hn;replace HIO:=hid (HIO.out.new hn);replace HIG:=hid (HIG.out.new hn);replace HIS:=hid (HIS.out.new hn);replace HN:=tW HN hn;clear hn;refine hK.out _ _ (fun _=>⟨cW2 BT,cW2 BG,cW2 BO⟩) ?_;clear hK K
     try simp only[PT]
     refine tk1 6 fun K hK=>?_;go_simp;refine (HR3.out Y hlt _ _ _ HI7.out HIG.out).mono ?_;rintro e w8 ⟨v8,rfl,hn,hi⟩;clear HI7;have HI8:=hid hi;clear hi;replace BP:=bW BP hn;replace BO:=bW BO hn;replace BG:=bW BG hn;replace BS:=bW BS hn;replace BT:=bW BT hn;replace HIO:=hid (HIO.out.new hn);replace HIG:=hid (HIG.out.new hn);replace HIS:=hid (HIS.out.new hn);replace HN:=tW HN hn;clear hn;refine hK.out _ _ (fun _=>⟨cW2 BT,cW2 BG,cW2 BO⟩) ?_;clear hK K
     try simp only[PT]
     refine tk1 8 fun K hK=>?_;go_simp;refine (HR4.out Y hlt _ _ _ HI8.out HIO.out).mono ?_;rintro e w9 ⟨v9,rfl,hn,hi⟩;clear HI8;have HI9:=hid hi;clear hi;replace BP:=bW BP hn;replace BO:=bW BO hn;replace BG:=bW BG hn;replace BS:=bW BS hn;replace BT:=bW BT hn;replace HIO:=hid (HIO.out.new hn);replace HIG:=hid (HIG.out.new hn);replace HIS:=hid (HIS.out.new hn);replace HN:=tW HN hn;clear hn;refine hK.out _ _ (fun _=>⟨cW2 BT,cW2 BG,cW2 BO⟩) ?_;clear hK K
     try simp only[PT]
     refine tk1 15 fun K hK=>?_;go_simp;rw[ymf hlt hDv hD0 hD1];refine (y09 D _).mono ?_;rintro e wa ⟨rfl,hn⟩;rw[<-HD.out];replace BP:=bW BP hn;replace BO:=bW BO hn;replace BG:=bW BG hn;replace BS:=bW BS hn;replace BT:=bW BT hn;replace HIO:=hid (HIO.out.new hn);replace HIG:=hid (HIG.out.new hn);replace HIS:=hid (HIS.out.new hn);replace HI9:=hid (HI9.out.new hn);replace HN:=tW HN hn;clear hn;refine hK.out _ _ (fun _=>⟨cW2 BT,cW2 BG,cW2 BO⟩) ?_;clear hK K
     try simp only[PT]
     refine tk1 16 fun K hK=>?_;go_simp;refine (HR5.out Y hlt _ _ HI9.out).mono ?_;rintro e wb ⟨vb,rfl,hn,hi⟩;obtain ⟨s7,a7,l7,k7,rfl⟩:=hi.shape;clear HI9;have HI7:=hid hi;clear hi;replace BP:=bW BP hn;replace BO:=bW BO hn;replace BG:=bW BG hn;replace BS:=bW BS hn;replace BT:=bW BT hn;replace HIO:=hid (HIO.out.new hn);replace HIG:=hid (HIG.out.new hn);replace HIS:=hid (HIS.out.new hn);replace HN:=tW HN hn;clear hn;refine hK.out _ _ (fun _=>⟨cW2 BT,cW2 BG,cW2 BO⟩) ?_;clear hK K
     try simp only[PT]
     refine tlW ?_;obtain ⟨t0,t1,t2,t3,t4⟩:=BT.out.two;obtain ⟨g0,g1,g2,g3,g4⟩:=BG.out.two;obtain ⟨o0,o1,o2,o3,o4⟩:=BO.out.two;clear g0 g1 g2 g3 g4 o0 o1 o2 o3 o4;go_upto_region 8 with (fail);clear t0 t1 t2 t3 t4;have BP_:=BP.out.away BT.out (by omega) (.int .i64 s7) (.slice a7 l7 k7);have BO_:=BO.out.away BT.out (by omega) (.int .i64 s7) (.slice a7 l7 k7);have BG_:=BG.out.away BT.out (by omega) (.int .i64 s7) (.slice a7 l7 k7);have BS_:=BS.out.away BT.out (by omega) (.int .i64 s7) (.slice a7 l7 k7);have HIO_:=HIO.out.put2 BT.out s7 a7 l7 k7;have HIG_:=HIG.out.put2 BT.out s7 a7 l7 k7;have HIS_:=HIS.out.put2 BT.out s7 a7 l7 k7;have HI7_:=HI7.out.put2 BT.out s7 a7 l7 k7;have HN_:=HN.out.putAt BT.out (by omega) (.int .i64 s7) (.slice a7 l7 k7);have BT_:=BT.out.put2 (.int .i64 s7) (.slice a7 l7 k7);clear BP BO BG BS HIO HIG HIS HI7 HN BT;have BP:=hid BP_;have BO:=hid BO_;have BG:=hid BG_;have BS:=hid BS_;have HIO:=hid HIO_;have HIG:=hid HIG_;have HIS:=hid HIS_;have HI7:=hid HI7_;have HN:=hid HN_;have BT:=hid BT_;clear BP_ BO_ BG_ BS_ HIO_ HIG_ HIS_ HI7_ HN_ BT_;obtain ⟨w5,hw5⟩:∃ u,((wb.setCell ⟨T,0,none⟩ (.int .i64 s7)).setCell ⟨T,1,none⟩ (.slice a7 l7 k7))=u:=⟨_,rfl⟩;rw[hw5] at BT BP BO BG BS HN HIO HIG HIS HI7⊢;clear hw5;rcases Nat.mod_two_eq_zero_or_one (Y+1) with hm | hm
     ·have hpar:((Y:Int)+1) % 2=0:=by omega
      have hnx:serS (Y+1)=serS Y+serT (Y+1):=if_neg (by omega);clear hm;have HNX:=hid hnx;clear hnx;obtain ⟨u0,u1,u2,u3,u4⟩:=BS.out.two;obtain ⟨t0,t1,t2,t3,t4⟩:=BT.out.two;go_wp2_with fail;refine (HR7.out Y hlt _ _ _ HIS.out HI7.out).mono ?_;rintro e wd ⟨vd,rfl,hn,hi⟩;rw[<-HNX.out] at hi;obtain ⟨s9,a9,l9,k9,rfl⟩:=hi.shape;have HI9:=hid hi;clear hi;clear u0 u1 u2 u3 u4 t0 t1 t2 t3 t4;replace BP:=bW BP hn;replace BO:=bW BO hn;replace BG:=bW BG hn;replace BS:=bW BS hn;replace BT:=bW BT hn;replace HIO:=hid (HIO.out.new hn);replace HIG:=hid (HIG.out.new hn);replace HI7:=hid (HI7.out.new hn);replace HN:=tW HN hn;clear hn;obtain ⟨u0,u1,u2,u3,u4⟩:=BS.out.two;go_wp2_with fail;clear u0 u1 u2 u3 u4;have BP_:=BP.out.away BS.out (by omega) (.int .i64 s9) (.slice a9 l9 k9);have BO_:=BO.out.away BS.out (by omega) (.int .i64 s9) (.slice a9 l9 k9);have BG_:=BG.out.away BS.out (by omega) (.int .i64 s9) (.slice a9 l9 k9);have BT_:=BT.out.away BS.out (by omega) (.int .i64 s9) (.slice a9 l9 k9);have HIO_:=HIO.out.put2 BS.out s9 a9 l9 k9;have HIG_:=HIG.out.put2 BS.out s9 a9 l9 k9;have HI7_:=HI7.out.put2 BS.out s9 a9 l9 k9;have HI9_:=HI9.out.put2 BS.out s9 a9 l9 k9;have HN_:=HN.out.putAt BS.out (by omega) (.int .i64 s9) (.slice a9 l9 k9);have BS_:=BS.out.put2 (.int .i64 s9) (.slice a9 l9 k9);clear BP BO BG BT HIO HIG HI7 HI9 HN BS;have BP:=hid BP_;have BO:=hid BO_;have BG:=hid BG_;have BT:=hid BT_;have HIO:=hid HIO_;have HIG:=hid HIG_;have HI7:=hid HI7_;have HI9:=hid HI9_;have HN:=hid HN_;have BS:=hid BS_;clear BP_ BO_ BG_ BT_ HIO_ HIG_ HI7_ HI9_ HN_ BS_;go_roundw
      case rel=>exact ⟨Y+1,s9,a9,l9,k9,s7,a7,l7,k7,by omega,by go_num,HN,BP,BO,BG,BS,BT,HIO,HIG,HI9,HI7⟩
      case measure=>simp[RowKit.intOf];omega
     ·have hpar:((Y:Int)+1) % 2=1:=by omega
      have hnx:serS (Y+1)=serS Y - serT (Y+1):=if_pos hm;clear hm;have HNX:=hid hnx;clear hnx;obtain ⟨u0,u1,u2,u3,u4⟩:=BS.out.two;obtain ⟨t0,t1,t2,t3,t4⟩:=BT.out.two;go_wp2_with fail;refine (HR6.out Y hlt _ _ _ HIS.out HI7.out).mono ?_;rintro e wd ⟨vd,rfl,hn,hi⟩;rw[<-HNX.out] at hi;obtain ⟨s9,a9,l9,k9,rfl⟩:=hi.shape;have HI9:=hid hi;clear hi;clear u0 u1 u2 u3 u4 t0 t1 t2 t3 t4;replace BP:=bW BP hn;replace BO:=bW BO hn;replace BG:=bW BG hn;replace BS:=bW BS hn;replace BT:=bW BT hn;replace HIO:=hid (HIO.out.new hn);replace HIG:=hid (HIG.out.new hn);replace HI7:=hid (HI7.out.new hn);replace HN:=tW HN hn;clear hn;obtain ⟨u0,u1,u2,u3,u4⟩:=BS.out.two;go_wp2_with fail;clear u0 u1 u2 u3 u4;have BP_:=BP.out.away BS.out (by omega) (.int .i64 s9) (.slice a9 l9 k9);have BO_:=BO.out.away BS.out (by omega) (.int .i64 s9) (.slice a9 l9 k9);have BG_:=BG.out.away BS.out (by omega) (.int .i64 s9) (.slice a9 l9 k9);have BT_:=BT.out.away BS.out (by omega) (.int .i64 s9) (.slice a9 l9 k9);have HIO_:=HIO.out.put2 BS.out s9 a9 l9 k9;have HIG_:=HIG.out.put2 BS.out s9 a9 l9 k9;have HI7_:=HI7.out.put2 BS.out s9 a9 l9 k9;have HI9_:=HI9.out.put2 BS.out s9 a9 l9 k9;have HN_:=HN.out.putAt BS.out (by omega) (.int .i64 s9) (.slice a9 l9 k9);have BS_:=BS.out.put2 (.int .i64 s9) (.slice a9 l9 k9);clear BP BO BG BT HIO HIG HI7 HI9 HN BS;have BP:=hid BP_;have BO:=hid BO_;have BG:=hid BG_;have BT:=hid BT_;have HIO:=hid HIO_;have HIG:=hid HIG_;have HI7:=hid HI7_;have HI9:=hid HI9_;have HN:=hid HN_;have BS:=hid BS_;clear BP_ BO_ BG_ BT_ HIO_ HIG_ HI7_ HI9_ HN_ BS_;go_roundw
      case rel=>exact ⟨Y+1,s9,a9,l9,k9,s7,a7,l7,k7,by omega,by go_num,HN,BP,BO,BG,BS,BT,HIO,HIG,HI9,HI7⟩
      case measure=>simp[RowKit.intOf];omega
    ·obtain rfl:Y=20:=by omega
     obtain ⟨t,ht,htt⟩:∃ t,(serT 20).sign=t/\t=0:=⟨_,rfl,by rw[HZE.out];rfl⟩;subst htt;have HT:=hid ht;clear ht;obtain ⟨t0,t1,t2,t3,t4⟩:=BT.out.two;go_wp2_with fail;refine (y0y _ (serT 20) _ HIT.out).mono ?_;rintro e w5 ⟨rfl,hn⟩;rw[HT.out];clear t0 t1 t2 t3 t4;replace BP:=bW BP hn;replace BS:=bW BS hn;replace HIS:=hid (HIS.out.new hn);replace HN:=tW HN hn;clear hn;obtain ⟨u0,u1,u2,u3,u4⟩:=BS.out.two;obtain ⟨p0,p1,p2,p3,p4⟩:=BP.out.two;go_wp2_with fail;refine bodyPost_ret (v:=.agg #[.int .i64 sS,.slice aS lS kS]) (by simp[results,Tryz.results253,go_sem,p0,p1]) rfl ?_;exact ⟨_,rfl,HN.out.putAt BP.out (by omega) _ _,HIS.out.put2 BP.out _ _ _ _⟩
end Go.Proofs.YtnjonlnemagomaaGreatDoor
