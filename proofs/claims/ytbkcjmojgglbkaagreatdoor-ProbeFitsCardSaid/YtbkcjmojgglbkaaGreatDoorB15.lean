/- Part B15. -/
import Derived.Test.YtbkcjmojgglbkaaGreatDoorB14
namespace Go.Proofs.YtbkcjmojgglbkaaGreatDoor
open Go.RowKit Big
open Go.Lib (hid)
set_option maxRecDepth 100000
set_option maxHeartbeats 8000000
theorem laid1 (w:World)(t:TypeId)(cs:Array Value):∃ x,w.alloc (.cells cs t)=x∧Box x w.heap.size t cs∧New w x:=⟨_,rfl,Box.alloc w _ t cs rfl,(New.refl w).alloc _⟩
def rawQ (s z:Int)(q:Rat):Int:=(q / stepQ s+(z:Rat)+((2:Int):Rat)⁻¹).floor
def clipC (n tp:Int):Int × Int:=if n < 0 then (0, -1) else if tp < n then (tp,1) else (n,0)
def CodePost (w:World)(n tp:Int)(e:Ending)(w':World):Prop:=e=.returned (.tuple #[.int .i64 (clipC n tp).1,.int .i64 (clipC n tp).2])∧New w w'
theorem Sm.of {z:Int}(lo:0≤z)(hi:z≤5000):Sm z:=⟨by omega,by omega⟩
theorem code_calls {b s z:Int}{g o:ByteArray}{qg qo:Rat}(h:AdcOk b s z g o qg qo)(vv:Value)(q:Rat)(w:World)(hq:IsFrac w vv q)(bq:FB 6000 q):
  Calls Tryz.prog 69 #[.agg #[.int .i64 b,.int .i64 s,.int .i64 z,.string g,.string o],vv] w (CodePost w (rawQ s z q) (2^b.toNat - 1)):=by
 have hlo:=h.blo;have hhi:=h.bhi;have hz1:=h.zlo;have hz2:=h.zhi;obtain ⟨tp,htp⟩:∃ tp:Int,2^b.toNat - 1=tp:=⟨_,rfl⟩;have htp1:=top_bd hlo hhi;rw[htp] at htp1 hz2⊢;have hst:=fun W=>step_calls b s z g o W h.slo h.shi;have hfb:=stepQ_fb21 h.slo h.shi;have hne:=stepQ_ne h.slo h.shi;obtain ⟨t,ht⟩:∃ t,stepQ s=t:=⟨_,rfl⟩;obtain ⟨n,hn0⟩:∃ n,rawQ s z q=n:=⟨_,rfl⟩;have hn1:=hn0;unfold rawQ at hn1;rw[ht] at hfb hne hn1;simp only[ht] at hst;rw[hn0];obtain ⟨hf2,hhf⟩:∃ x:Rat,((2:Int):Rat)⁻¹=x:=⟨_,rfl⟩
 have bh:FB 2 hf2:=by rw[←hhf];exact two_fb.inv two_ne
 have bz:FB 13 (z:Rat):=FB.int (by unfold BdK;exact Nat.lt_of_le_of_lt (show z.natAbs≤4095 by omega) (by decide)) (by omega);obtain ⟨x1,hx1⟩:∃ x1,q / t=x1:=⟨_,rfl⟩;obtain ⟨x2,hx2⟩:∃ x2,x1+(z:Rat)=x2:=⟨_,rfl⟩;obtain ⟨x3,hx3⟩:∃ x3,x2+hf2=x3:=⟨_,rfl⟩
 have bx1:FB 6021 x1:=by rw[←hx1];exact bq.div hfb hne
 have bx2:FB 6035 x2:=by rw[←hx2];exact bx1.add bz
 have bx3:FB 6038 x3:=by rw[←hx3];exact bx2.add bh
 rw[hhf,hx1,hx2,hx3]at hn1
 have hnb:FB 6040 (n:Rat):=by
  rw[←hn1];refine FB.int ?_ (by omega);rw[Rat.floor_def];exact (BdK.mono (show BdK 6038 (x3.num / (x3.den:Int)) from Nat.lt_of_le_of_lt (Int.natAbs_ediv_le_natAbs _ _) bx3.num) (by omega))
 obtain ⟨sq,aq,lq,kq,tq,bq',mq,nq,rfl⟩:=hq.shape;obtain ⟨pr,hpr⟩:∃ pr,clipC n tp=pr:=⟨_,rfl⟩;unfold CodePost;rw[hpr];clear h hn0;have HPR:=hid hpr;have HLO:=hid hlo;have HHI:=hid hhi;have HTP:=hid htp;have HTP1:=hid htp1;have HST:=hid hst;have HFB:=hid hfb;have HNE:=hid hne;have HT:=hid ht;have HN1:=hid hn1;have HHF:=hid hhf;have BDH:=hid bh;have BZ:=hid bz;have HX1:=hid hx1;have HX2:=hid hx2;have HX3:=hid hx3;have BX1:=hid bx1;have BX2:=hid bx2;have BX3:=hid bx3;have HQ:=hid hq;have BQ:=hid bq;have HZ1:=hid hz1;have HZ2:=hid hz2;have HNB:=hid hnb;clear hpr hlo hhi htp htp1 hst hfb hne ht hn1 hhf bh bz hx1 hx2 hx3 bx1 bx2 bx3 hq bq hz1 hz2 hnb;go_enter Tryz.func69,Tryz.ntmps69;go_wp2_with fail;obtain ⟨BA,BV,HN⟩:=lay2 w 32 #[.int .i64 b,.int .i64 s,.int .i64 z,.string g,.string o] 122 #[.int .i64 sq,.slice aq lq kq,.int .i64 tq,.slice bq' mq nq];refine (f_calls 2 _ (by omega) (by omega)).mono ?_;rintro e w1 ⟨v1,rfl,hn,hf⟩;have HF1:=hid hf;clear hf;replace BA:=bW BA hn;replace BV:=bW BV hn;replace HN:=tW HN hn;clear hn;go_wp2_with fail;refine (inv_calls _ _ 2 _ HF1.out two_fb (by omega) two_ne).mono ?_;rintro e w2 ⟨v2,rfl,hn,hf⟩;rw[HHF.out] at hf;obtain ⟨sh,ah,lh,kh,th,bh',mh,nh,rfl⟩:=hf.shape;clear HF1;have HF2:=hid hf;clear hf;replace BA:=bW BA hn;replace BV:=bW BV hn;replace HN:=tW HN hn;clear hn;go_wp2_with fail;have HN0:=HN;clear HN;obtain ⟨BH,HN⟩:=lay1 w2 122 #[.int .i64 sh,.slice ah lh kh,.int .i64 th,.slice bh' mh nh];replace BA:=hid (BA.out.new HN.out);replace BV:=hid (BV.out.new HN.out);replace HF2:=hid (HF2.out.new HN.out);have HN_:=HN0.out.trans HN.out;clear HN HN0;have HN:=hid HN_;clear HN_;obtain ⟨w3,hw3⟩:∃ w3,w2.alloc (.cells #[.int .i64 sh,.slice ah lh kh,.int .i64 th,.slice bh' mh nh] 122)=w3:=⟨_,rfl⟩;rw[hw3] at BH BA BV HF2 HN⊢;clear hw3;have HQ3:=hid (HQ.out.new HN.out);go_upto_region 2 with (fail)
 go_cut [7] (fun x wx=>∃ (B:Nat) (s9:Int) (a9:Option Addr) (l9 k9:Nat) (t9:Int) (b9:Option Addr) (m9 n9:Nat),x=.pointer (some ⟨B,0,none⟩)∧New w wx∧Box wx w.heap.size 32 #[.int .i64 b,.int .i64 s,.int .i64 z,.string g,.string o]∧Box wx B 122 #[.int .i64 s9,.slice a9 l9 k9,.int .i64 t9,.slice b9 m9 n9]∧IsFrac wx (.agg #[.int .i64 s9,.slice a9 l9 k9,.int .i64 t9,.slice b9 m9 n9]) (n:Rat))
 case first=>
  obtain ⟨⟨pa0,pa1,pa2,pa3,pa4⟩,pa5⟩:=BA.out.five;obtain ⟨⟨pv0,pv1,pv2,pv3⟩,pv4,pv5,pv6,pv7,pv8⟩:=BV.out.four;obtain ⟨⟨ph0,ph1,ph2,ph3⟩,ph4,ph5,ph6,ph7,ph8⟩:=BH.out.four;refine wp_region_T 13 (fun W=>(W.cell? ⟨w.heap.size,0,none⟩=some (.int .i64 b)∧W.cell? ⟨w.heap.size,1,none⟩=some (.int .i64 s)∧W.cell? ⟨w.heap.size,2,none⟩=some (.int .i64 z)∧W.cell? ⟨w.heap.size,3,none⟩=some (.string g)∧W.cell? ⟨w.heap.size,4,none⟩=some (.string o))∧(W.cell? ⟨w.heap.size+1,0,none⟩=some (.int .i64 sq)∧W.cell? ⟨w.heap.size+1,1,none⟩=some (.slice aq lq kq)∧W.cell? ⟨w.heap.size+1,2,none⟩=some (.int .i64 tq)∧W.cell? ⟨w.heap.size+1,3,none⟩=some (.slice bq' mq nq))∧(W.cell? ⟨w2.heap.size,0,none⟩=some (.int .i64 sh)∧W.cell? ⟨w2.heap.size,1,none⟩=some (.slice ah lh kh)∧W.cell? ⟨w2.heap.size,2,none⟩=some (.int .i64 th)∧W.cell? ⟨w2.heap.size,3,none⟩=some (.slice bh' mh nh))) 14 #[false,false,false,false,false,false,false,false,false,false,false,false,false,false] rfl (by kernel_rfl) (by kernel_rfl) ?_;clear pa0 pa1 pa2 pa3 pa4 pa5;clear pv0 pv1 pv2 pv3 pv4 pv5 pv6 pv7 pv8 ph0 ph1 ph2 ph3 ph4 ph5 ph6 ph7 ph8;replace BA:=hid (BA.out.new (New.refl w3).drew);replace BV:=hid (BV.out.new (New.refl w3).drew);replace BH:=hid (BH.out.new (New.refl w3).drew);replace HQ3:=hid (HQ3.out.new (New.refl w3).drew);replace HF2:=hid (HF2.out.new (New.refl w3).drew);replace HN:=hid (HN.out.drew);obtain ⟨wdr,hwd⟩:∃ x,w3.drew=x:=⟨_,rfl⟩;rw[hwd] at HN BA BV BH HQ3 HF2⊢;clear hwd;refine tk 0 (by exact ⟨cW5 BA,cW4 BV,cW4 BH⟩) ?_
  try simp only[PT]
  refine tk 1 (by exact ⟨cW5 BA,cW4 BV,cW4 BH⟩) ?_
  try simp only[PT]
  refine tk 4 (by exact ⟨cW5 BA,cW4 BV,cW4 BH⟩) ?_
  try simp only[PT]
  refine tk 5 (by exact ⟨cW5 BA,cW4 BV,cW4 BH⟩) ?_
  try simp only[PT]
  refine tk 8 (by exact ⟨cW5 BA,cW4 BV,cW4 BH⟩) ?_
  try simp only[PT]
  refine wpT_two 2 12 rfl rfl (by kernel_rfl) (fun K hK=>?_) (fun K hK=>?_)
  ·skip
   go_simp;refine (HST.out _).mono ?_;rintro e w4 ⟨v4,rfl,hn,hf⟩;have HF4:=hid hf;clear hf;replace BA:=bW BA hn;replace BV:=bW BV hn;replace BH:=bW BH hn;replace HQ3:=hid (HQ3.out.new hn);replace HF2:=hid (HF2.out.new hn);replace HN:=tW HN hn;clear hn;refine hK.out _ _ (fun _=>⟨cW5 BA,cW4 BV,cW4 BH⟩) ?_;clear hK K
   try simp only[PT]
   refine wpT_two 3 12 rfl rfl (by kernel_rfl) (fun K hK=>?_) (fun K hK=>?_)
   ·skip
    go_simp;refine (fdiv_calls _ _ q t 6000 21 _ HQ3.out HF4.out BQ.out HFB.out (by omega) HNE.out).mono ?_;rintro e w5 ⟨v5,rfl,hn,hf⟩;rw[HX1.out] at hf;clear HF4 HQ3;have HF5:=hid hf;clear hf;replace BA:=bW BA hn;replace BV:=bW BV hn;replace BH:=bW BH hn;replace HF2:=hid (HF2.out.new hn);replace HN:=tW HN hn;clear hn;refine hK.out _ _ (fun _=>⟨cW5 BA,cW4 BV,cW4 BH⟩) ?_;clear hK K
    try simp only[PT]
    refine wpT_two 6 12 rfl rfl (by kernel_rfl) (fun K hK=>?_) (fun K hK=>?_)
    ·skip
     go_simp;refine (f_calls z _ (by have:=HZ1.out;omega) (by have:=HZ2.out;have:=HTP1.out.2;omega)).mono ?_;rintro e w6 ⟨v6,rfl,hn,hf⟩;have HF6:=hid hf;clear hf;replace BA:=bW BA hn;replace BV:=bW BV hn;replace BH:=bW BH hn;replace HF2:=hid (HF2.out.new hn);replace HF5:=hid (HF5.out.new hn);replace HN:=tW HN hn;clear hn;refine hK.out _ _ (fun _=>⟨cW5 BA,cW4 BV,cW4 BH⟩) ?_;clear hK K
     try simp only[PT]
     refine wpT_two 7 12 rfl rfl (by kernel_rfl) (fun K hK=>?_) (fun K hK=>?_)
     ·skip
      go_simp;refine (fadd_calls _ _ x1 (z:Rat) 6021 13 _ HF5.out HF6.out BX1.out BZ.out (by omega)).mono ?_;rintro e w7 ⟨v7,rfl,hn,hf⟩;rw[HX2.out] at hf;clear HF5 HF6;have HF7:=hid hf;clear hf;replace BA:=bW BA hn;replace BV:=bW BV hn;replace BH:=bW BH hn;replace HF2:=hid (HF2.out.new hn);replace HN:=tW HN hn;clear hn;refine hK.out _ _ (fun _=>⟨cW5 BA,cW4 BV,cW4 BH⟩) ?_;clear hK K
      try simp only[PT]
      refine wpT_two 9 12 rfl rfl (by kernel_rfl) (fun K hK=>?_) (fun K hK=>?_)
      ·skip
       go_simp;refine (fadd_calls _ _ x2 hf2 6035 2 _ HF7.out HF2.out BX2.out BDH.out (by omega)).mono ?_;rintro e w8 ⟨v8,rfl,hn,hf⟩;rw[HX3.out] at hf;clear HF7 HF2;have HF8:=hid hf;clear hf;replace BA:=bW BA hn;replace BV:=bW BV hn;replace BH:=bW BH hn;replace HN:=tW HN hn;clear hn;refine hK.out _ _ (fun _=>⟨cW5 BA,cW4 BV,cW4 BH⟩) ?_;clear hK K
       try simp only[PT]
       refine wpT_two 10 12 rfl rfl (by kernel_rfl) (fun K hK=>?_) (fun K hK=>?_)
       ·skip
        go_simp;refine (floor_calls _ x3 6038 _ HF8.out BX3.out (by omega)).mono ?_;rintro e w9 ⟨v9,rfl,hn,hf⟩;rw[HN1.out] at hf;clear HF8;have HF9:=hid hf;clear hf;replace BA:=bW BA hn;replace BV:=bW BV hn;replace BH:=bW BH hn;replace HN:=tW HN hn;clear hn;refine hK.out _ _ (fun _=>⟨cW5 BA,cW4 BV,cW4 BH⟩) ?_;clear hK K
        try simp only[PT]
        refine wpT_two 11 12 rfl rfl (by kernel_rfl) (fun K hK=>?_) (fun K hK=>?_)
        ·skip
         go_simp;refine (whole_calls _ n _ HF9.out).mono ?_;rintro e w10 ⟨v10,rfl,hn,hf⟩;clear HF9;obtain ⟨s9,a9,l9,k9,t9,b9,m9,n9,rfl⟩:=hf.shape;have HF10:=hid hf;clear hf;replace BA:=bW BA hn;replace BV:=bW BV hn;replace BH:=bW BH hn;replace HN:=tW HN hn;clear hn;refine hK.out _ _ (fun _=>⟨cW5 BA,cW4 BV,cW4 BH⟩) ?_;clear hK K
         try simp only[PT]
         refine tk1 12 fun K hK=>?_;go_simp;have LBN:=hid (HN.out.size);have MBN:=hid (BA.out.lt);obtain ⟨wa1,hwa,BN_,hn⟩:=laid1 w10 122 #[.int .i64 0,.slice none 0 0,.int .i64 0,.slice none 0 0];rw[hwa];clear hwa;have BN:=hid BN_;clear BN_;replace BA:=bW BA hn;replace BV:=bW BV hn;replace BH:=bW BH hn;replace HF10:=hid (HF10.out.new hn);replace HN:=tW HN hn;clear hn;refine hK.out _ _ (fun _=>⟨cW5 BA,cW4 BV,cW4 BH⟩) ?_;clear hK K
         try simp only[PT]
         refine tlW ?_;obtain ⟨⟨pa0,pa1,pa2,pa3,pa4⟩,pa5⟩:=BA.out.five;obtain ⟨⟨pv0,pv1,pv2,pv3⟩,pv4,pv5,pv6,pv7,pv8⟩:=BV.out.four;obtain ⟨⟨ph0,ph1,ph2,ph3⟩,ph4,ph5,ph6,ph7,ph8⟩:=BH.out.four;obtain ⟨⟨pn0,pn1,pn2,pn3⟩,pn4,pn5,pn6,pn7,pn8⟩:=BN.out.four;go_wp2_with fail
         go_meet
         have hle:=LBN.out;have hlt:=MBN.out;exact ⟨_,_,_,_,_,_,_,_,_,rfl,HN.out.put4 (by omega) _ _ _ _,BA.out.other4 (by omega) _ _ _ _,BN.out.put4 _ _ _ _,HF10.out.put4 BN.out _ _ _ _ _ _ _ _⟩
        ·skip
         go_simp;have LBN:=hid (HN.out.size);have MBN:=hid (BA.out.lt);obtain ⟨wa1,hwa,BN_,hn⟩:=laid1 w9 122 #[.int .i64 0,.slice none 0 0,.int .i64 0,.slice none 0 0];rw[hwa];clear hwa;have BN:=hid BN_;clear BN_;replace BA:=bW BA hn;replace BV:=bW BV hn;replace BH:=bW BH hn;replace HF9:=hid (HF9.out.new hn);replace HN:=tW HN hn;clear hn;refine hK.out _ _ (fun _=>⟨cW5 BA,cW4 BV,cW4 BH⟩) ?_;clear hK K
         try simp only[PT]
         refine tk1 11 fun K hK=>?_;go_simp;refine (whole_calls _ n _ HF9.out).mono ?_;rintro e w10 ⟨v10,rfl,hn,hf⟩;clear HF9;obtain ⟨s9,a9,l9,k9,t9,b9,m9,n9,rfl⟩:=hf.shape;have HF10:=hid hf;clear hf;replace BA:=bW BA hn;replace BV:=bW BV hn;replace BH:=bW BH hn;replace BN:=bW BN hn;replace HN:=tW HN hn;clear hn;refine hK.out _ _ (fun _=>⟨cW5 BA,cW4 BV,cW4 BH⟩) ?_;clear hK K
         try simp only[PT]
         refine tlW ?_;obtain ⟨⟨pa0,pa1,pa2,pa3,pa4⟩,pa5⟩:=BA.out.five;obtain ⟨⟨pv0,pv1,pv2,pv3⟩,pv4,pv5,pv6,pv7,pv8⟩:=BV.out.four;obtain ⟨⟨ph0,ph1,ph2,ph3⟩,ph4,ph5,ph6,ph7,ph8⟩:=BH.out.four;obtain ⟨⟨pn0,pn1,pn2,pn3⟩,pn4,pn5,pn6,pn7,pn8⟩:=BN.out.four;go_wp2_with fail
         go_meet
         have hle:=LBN.out;have hlt:=MBN.out;exact ⟨_,_,_,_,_,_,_,_,_,rfl,HN.out.put4 (by omega) _ _ _ _,BA.out.other4 (by omega) _ _ _ _,BN.out.put4 _ _ _ _,HF10.out.put4 BN.out _ _ _ _ _ _ _ _⟩
       ·skip
        go_simp;have LBN:=hid (HN.out.size);have MBN:=hid (BA.out.lt);obtain ⟨wa1,hwa,BN_,hn⟩:=laid1 w8 122 #[.int .i64 0,.slice none 0 0,.int .i64 0,.slice none 0 0];rw[hwa];clear hwa;have BN:=hid BN_;clear BN_;replace BA:=bW BA hn;replace BV:=bW BV hn;replace BH:=bW BH hn;replace HF8:=hid (HF8.out.new hn);replace HN:=tW HN hn;clear hn;refine hK.out _ _ (fun _=>⟨cW5 BA,cW4 BV,cW4 BH⟩) ?_;clear hK K
        try simp only[PT]
        refine tk1 10 fun K hK=>?_;go_simp;refine (floor_calls _ x3 6038 _ HF8.out BX3.out (by omega)).mono ?_;rintro e w9 ⟨v9,rfl,hn,hf⟩;rw[HN1.out] at hf;clear HF8;have HF9:=hid hf;clear hf;replace BA:=bW BA hn;replace BV:=bW BV hn;replace BH:=bW BH hn;replace BN:=bW BN hn;replace HN:=tW HN hn;clear hn;refine hK.out _ _ (fun _=>⟨cW5 BA,cW4 BV,cW4 BH⟩) ?_;clear hK K
        try simp only[PT]
        refine tk1 11 fun K hK=>?_;go_simp;refine (whole_calls _ n _ HF9.out).mono ?_;rintro e w10 ⟨v10,rfl,hn,hf⟩;clear HF9;obtain ⟨s9,a9,l9,k9,t9,b9,m9,n9,rfl⟩:=hf.shape;have HF10:=hid hf;clear hf;replace BA:=bW BA hn;replace BV:=bW BV hn;replace BH:=bW BH hn;replace BN:=bW BN hn;replace HN:=tW HN hn;clear hn;refine hK.out _ _ (fun _=>⟨cW5 BA,cW4 BV,cW4 BH⟩) ?_;clear hK K
        try simp only[PT]
        refine tlW ?_;obtain ⟨⟨pa0,pa1,pa2,pa3,pa4⟩,pa5⟩:=BA.out.five;obtain ⟨⟨pv0,pv1,pv2,pv3⟩,pv4,pv5,pv6,pv7,pv8⟩:=BV.out.four;obtain ⟨⟨ph0,ph1,ph2,ph3⟩,ph4,ph5,ph6,ph7,ph8⟩:=BH.out.four;obtain ⟨⟨pn0,pn1,pn2,pn3⟩,pn4,pn5,pn6,pn7,pn8⟩:=BN.out.four;go_wp2_with fail
        go_meet
        have hle:=LBN.out;have hlt:=MBN.out;exact ⟨_,_,_,_,_,_,_,_,_,rfl,HN.out.put4 (by omega) _ _ _ _,BA.out.other4 (by omega) _ _ _ _,BN.out.put4 _ _ _ _,HF10.out.put4 BN.out _ _ _ _ _ _ _ _⟩
      ·skip
       go_simp;have LBN:=hid (HN.out.size);have MBN:=hid (BA.out.lt);obtain ⟨wa1,hwa,BN_,hn⟩:=laid1 w7 122 #[.int .i64 0,.slice none 0 0,.int .i64 0,.slice none 0 0];rw[hwa];clear hwa;have BN:=hid BN_;clear BN_;replace BA:=bW BA hn;replace BV:=bW BV hn;replace BH:=bW BH hn;replace HF2:=hid (HF2.out.new hn);replace HF7:=hid (HF7.out.new hn);replace HN:=tW HN hn;clear hn;refine hK.out _ _ (fun _=>⟨cW5 BA,cW4 BV,cW4 BH⟩) ?_;clear hK K
       try simp only[PT]
       refine tk1 9 fun K hK=>?_;go_simp;refine (fadd_calls _ _ x2 hf2 6035 2 _ HF7.out HF2.out BX2.out BDH.out (by omega)).mono ?_;rintro e w8 ⟨v8,rfl,hn,hf⟩;rw[HX3.out] at hf;clear HF7 HF2;have HF8:=hid hf;clear hf;replace BA:=bW BA hn;replace BV:=bW BV hn;replace BH:=bW BH hn;replace BN:=bW BN hn;replace HN:=tW HN hn;clear hn;refine hK.out _ _ (fun _=>⟨cW5 BA,cW4 BV,cW4 BH⟩) ?_;clear hK K
       try simp only[PT]
       refine tk1 10 fun K hK=>?_;go_simp;refine (floor_calls _ x3 6038 _ HF8.out BX3.out (by omega)).mono ?_;rintro e w9 ⟨v9,rfl,hn,hf⟩;rw[HN1.out] at hf;clear HF8;have HF9:=hid hf;clear hf;replace BA:=bW BA hn;replace BV:=bW BV hn;replace BH:=bW BH hn;replace BN:=bW BN hn;replace HN:=tW HN hn;clear hn;refine hK.out _ _ (fun _=>⟨cW5 BA,cW4 BV,cW4 BH⟩) ?_;clear hK K
       try simp only[PT]
       refine tk1 11 fun K hK=>?_;go_simp;refine (whole_calls _ n _ HF9.out).mono ?_;rintro e w10 ⟨v10,rfl,hn,hf⟩;clear HF9;obtain ⟨s9,a9,l9,k9,t9,b9,m9,n9,rfl⟩:=hf.shape;have HF10:=hid hf;clear hf;replace BA:=bW BA hn;replace BV:=bW BV hn;replace BH:=bW BH hn;replace BN:=bW BN hn;replace HN:=tW HN hn;clear hn;refine hK.out _ _ (fun _=>⟨cW5 BA,cW4 BV,cW4 BH⟩) ?_;clear hK K
       try simp only[PT]
       refine tlW ?_;obtain ⟨⟨pa0,pa1,pa2,pa3,pa4⟩,pa5⟩:=BA.out.five;obtain ⟨⟨pv0,pv1,pv2,pv3⟩,pv4,pv5,pv6,pv7,pv8⟩:=BV.out.four;obtain ⟨⟨ph0,ph1,ph2,ph3⟩,ph4,ph5,ph6,ph7,ph8⟩:=BH.out.four;obtain ⟨⟨pn0,pn1,pn2,pn3⟩,pn4,pn5,pn6,pn7,pn8⟩:=BN.out.four;go_wp2_with fail
       go_meet
       have hle:=LBN.out;have hlt:=MBN.out;exact ⟨_,_,_,_,_,_,_,_,_,rfl,HN.out.put4 (by omega) _ _ _ _,BA.out.other4 (by omega) _ _ _ _,BN.out.put4 _ _ _ _,HF10.out.put4 BN.out _ _ _ _ _ _ _ _⟩
     ·skip
      go_simp;have LBN:=hid (HN.out.size);have MBN:=hid (BA.out.lt);obtain ⟨wa1,hwa,BN_,hn⟩:=laid1 w6 122 #[.int .i64 0,.slice none 0 0,.int .i64 0,.slice none 0 0];rw[hwa];clear hwa;have BN:=hid BN_;clear BN_;replace BA:=bW BA hn;replace BV:=bW BV hn;replace BH:=bW BH hn;replace HF2:=hid (HF2.out.new hn);replace HF5:=hid (HF5.out.new hn);replace HF6:=hid (HF6.out.new hn);replace HN:=tW HN hn;clear hn;refine hK.out _ _ (fun _=>⟨cW5 BA,cW4 BV,cW4 BH⟩) ?_;clear hK K
      try simp only[PT]
      refine tk1 7 fun K hK=>?_;go_simp;refine (fadd_calls _ _ x1 (z:Rat) 6021 13 _ HF5.out HF6.out BX1.out BZ.out (by omega)).mono ?_;rintro e w7 ⟨v7,rfl,hn,hf⟩;rw[HX2.out] at hf;clear HF5 HF6;have HF7:=hid hf;clear hf;replace BA:=bW BA hn;replace BV:=bW BV hn;replace BH:=bW BH hn;replace HF2:=hid (HF2.out.new hn);replace BN:=bW BN hn;replace HN:=tW HN hn;clear hn;refine hK.out _ _ (fun _=>⟨cW5 BA,cW4 BV,cW4 BH⟩) ?_;clear hK K
      try simp only[PT]
      refine tk1 9 fun K hK=>?_;go_simp;refine (fadd_calls _ _ x2 hf2 6035 2 _ HF7.out HF2.out BX2.out BDH.out (by omega)).mono ?_;rintro e w8 ⟨v8,rfl,hn,hf⟩;rw[HX3.out] at hf;clear HF7 HF2;have HF8:=hid hf;clear hf;replace BA:=bW BA hn;replace BV:=bW BV hn;replace BH:=bW BH hn;replace BN:=bW BN hn;replace HN:=tW HN hn;clear hn;refine hK.out _ _ (fun _=>⟨cW5 BA,cW4 BV,cW4 BH⟩) ?_;clear hK K
      try simp only[PT]
      refine tk1 10 fun K hK=>?_;go_simp;refine (floor_calls _ x3 6038 _ HF8.out BX3.out (by omega)).mono ?_;rintro e w9 ⟨v9,rfl,hn,hf⟩;rw[HN1.out] at hf;clear HF8;have HF9:=hid hf;clear hf;replace BA:=bW BA hn;replace BV:=bW BV hn;replace BH:=bW BH hn;replace BN:=bW BN hn;replace HN:=tW HN hn;clear hn;refine hK.out _ _ (fun _=>⟨cW5 BA,cW4 BV,cW4 BH⟩) ?_;clear hK K
      try simp only[PT]
      refine tk1 11 fun K hK=>?_;go_simp;refine (whole_calls _ n _ HF9.out).mono ?_;rintro e w10 ⟨v10,rfl,hn,hf⟩;clear HF9;obtain ⟨s9,a9,l9,k9,t9,b9,m9,n9,rfl⟩:=hf.shape;have HF10:=hid hf;clear hf;replace BA:=bW BA hn;replace BV:=bW BV hn;replace BH:=bW BH hn;replace BN:=bW BN hn;replace HN:=tW HN hn;clear hn;refine hK.out _ _ (fun _=>⟨cW5 BA,cW4 BV,cW4 BH⟩) ?_;clear hK K
      try simp only[PT]
      refine tlW ?_;obtain ⟨⟨pa0,pa1,pa2,pa3,pa4⟩,pa5⟩:=BA.out.five;obtain ⟨⟨pv0,pv1,pv2,pv3⟩,pv4,pv5,pv6,pv7,pv8⟩:=BV.out.four;obtain ⟨⟨ph0,ph1,ph2,ph3⟩,ph4,ph5,ph6,ph7,ph8⟩:=BH.out.four;obtain ⟨⟨pn0,pn1,pn2,pn3⟩,pn4,pn5,pn6,pn7,pn8⟩:=BN.out.four;go_wp2_with fail
      go_meet
      have hle:=LBN.out;have hlt:=MBN.out;exact ⟨_,_,_,_,_,_,_,_,_,rfl,HN.out.put4 (by omega) _ _ _ _,BA.out.other4 (by omega) _ _ _ _,BN.out.put4 _ _ _ _,HF10.out.put4 BN.out _ _ _ _ _ _ _ _⟩
    ·skip
     go_simp;have LBN:=hid (HN.out.size);have MBN:=hid (BA.out.lt);obtain ⟨wa1,hwa,BN_,hn⟩:=laid1 w5 122 #[.int .i64 0,.slice none 0 0,.int .i64 0,.slice none 0 0];rw[hwa];clear hwa;have BN:=hid BN_;clear BN_;replace BA:=bW BA hn;replace BV:=bW BV hn;replace BH:=bW BH hn;replace HF2:=hid (HF2.out.new hn);replace HF5:=hid (HF5.out.new hn);replace HN:=tW HN hn;clear hn;refine hK.out _ _ (fun _=>⟨cW5 BA,cW4 BV,cW4 BH⟩) ?_;clear hK K
     try simp only[PT]
     refine tk1 6 fun K hK=>?_;go_simp;refine (f_calls z _ (by have:=HZ1.out;omega) (by have:=HZ2.out;have:=HTP1.out.2;omega)).mono ?_;rintro e w6 ⟨v6,rfl,hn,hf⟩;have HF6:=hid hf;clear hf;replace BA:=bW BA hn;replace BV:=bW BV hn;replace BH:=bW BH hn;replace HF2:=hid (HF2.out.new hn);replace HF5:=hid (HF5.out.new hn);replace BN:=bW BN hn;replace HN:=tW HN hn;clear hn;refine hK.out _ _ (fun _=>⟨cW5 BA,cW4 BV,cW4 BH⟩) ?_;clear hK K
     try simp only[PT]
     refine tk1 7 fun K hK=>?_;go_simp;refine (fadd_calls _ _ x1 (z:Rat) 6021 13 _ HF5.out HF6.out BX1.out BZ.out (by omega)).mono ?_;rintro e w7 ⟨v7,rfl,hn,hf⟩;rw[HX2.out] at hf;clear HF5 HF6;have HF7:=hid hf;clear hf;replace BA:=bW BA hn;replace BV:=bW BV hn;replace BH:=bW BH hn;replace HF2:=hid (HF2.out.new hn);replace BN:=bW BN hn;replace HN:=tW HN hn;clear hn;refine hK.out _ _ (fun _=>⟨cW5 BA,cW4 BV,cW4 BH⟩) ?_;clear hK K
     try simp only[PT]
     refine tk1 9 fun K hK=>?_;go_simp;refine (fadd_calls _ _ x2 hf2 6035 2 _ HF7.out HF2.out BX2.out BDH.out (by omega)).mono ?_;rintro e w8 ⟨v8,rfl,hn,hf⟩;rw[HX3.out] at hf;clear HF7 HF2;have HF8:=hid hf;clear hf;replace BA:=bW BA hn;replace BV:=bW BV hn;replace BH:=bW BH hn;replace BN:=bW BN hn;replace HN:=tW HN hn;clear hn;refine hK.out _ _ (fun _=>⟨cW5 BA,cW4 BV,cW4 BH⟩) ?_;clear hK K
     try simp only[PT]
     refine tk1 10 fun K hK=>?_;go_simp;refine (floor_calls _ x3 6038 _ HF8.out BX3.out (by omega)).mono ?_;rintro e w9 ⟨v9,rfl,hn,hf⟩;rw[HN1.out] at hf;clear HF8;have HF9:=hid hf;clear hf;replace BA:=bW BA hn;replace BV:=bW BV hn;replace BH:=bW BH hn;replace BN:=bW BN hn;replace HN:=tW HN hn;clear hn;refine hK.out _ _ (fun _=>⟨cW5 BA,cW4 BV,cW4 BH⟩) ?_;clear hK K
     try simp only[PT]
     refine tk1 11 fun K hK=>?_;go_simp;refine (whole_calls _ n _ HF9.out).mono ?_;rintro e w10 ⟨v10,rfl,hn,hf⟩;clear HF9;obtain ⟨s9,a9,l9,k9,t9,b9,m9,n9,rfl⟩:=hf.shape;have HF10:=hid hf;clear hf;replace BA:=bW BA hn;replace BV:=bW BV hn;replace BH:=bW BH hn;replace BN:=bW BN hn;replace HN:=tW HN hn;clear hn;refine hK.out _ _ (fun _=>⟨cW5 BA,cW4 BV,cW4 BH⟩) ?_;clear hK K
     try simp only[PT]
     refine tlW ?_;obtain ⟨⟨pa0,pa1,pa2,pa3,pa4⟩,pa5⟩:=BA.out.five;obtain ⟨⟨pv0,pv1,pv2,pv3⟩,pv4,pv5,pv6,pv7,pv8⟩:=BV.out.four;obtain ⟨⟨ph0,ph1,ph2,ph3⟩,ph4,ph5,ph6,ph7,ph8⟩:=BH.out.four;obtain ⟨⟨pn0,pn1,pn2,pn3⟩,pn4,pn5,pn6,pn7,pn8⟩:=BN.out.four;go_wp2_with fail
     go_meet
     have hle:=LBN.out;have hlt:=MBN.out;exact ⟨_,_,_,_,_,_,_,_,_,rfl,HN.out.put4 (by omega) _ _ _ _,BA.out.other4 (by omega) _ _ _ _,BN.out.put4 _ _ _ _,HF10.out.put4 BN.out _ _ _ _ _ _ _ _⟩
   ·skip
    go_simp;have LBN:=hid (HN.out.size);have MBN:=hid (BA.out.lt);obtain ⟨wa1,hwa,BN_,hn⟩:=laid1 w4 122 #[.int .i64 0,.slice none 0 0,.int .i64 0,.slice none 0 0];rw[hwa];clear hwa;have BN:=hid BN_;clear BN_;replace BA:=bW BA hn;replace BV:=bW BV hn;replace BH:=bW BH hn;replace HQ3:=hid (HQ3.out.new hn);replace HF2:=hid (HF2.out.new hn);replace HF4:=hid (HF4.out.new hn);replace HN:=tW HN hn;clear hn;refine hK.out _ _ (fun _=>⟨cW5 BA,cW4 BV,cW4 BH⟩) ?_;clear hK K
    try simp only[PT]
    refine tk1 3 fun K hK=>?_;go_simp;refine (fdiv_calls _ _ q t 6000 21 _ HQ3.out HF4.out BQ.out HFB.out (by omega) HNE.out).mono ?_;rintro e w5 ⟨v5,rfl,hn,hf⟩;rw[HX1.out] at hf;clear HF4 HQ3;have HF5:=hid hf;clear hf;replace BA:=bW BA hn;replace BV:=bW BV hn;replace BH:=bW BH hn;replace HF2:=hid (HF2.out.new hn);replace BN:=bW BN hn;replace HN:=tW HN hn;clear hn;refine hK.out _ _ (fun _=>⟨cW5 BA,cW4 BV,cW4 BH⟩) ?_;clear hK K
    try simp only[PT]
    refine tk1 6 fun K hK=>?_;go_simp;refine (f_calls z _ (by have:=HZ1.out;omega) (by have:=HZ2.out;have:=HTP1.out.2;omega)).mono ?_;rintro e w6 ⟨v6,rfl,hn,hf⟩;have HF6:=hid hf;clear hf;replace BA:=bW BA hn;replace BV:=bW BV hn;replace BH:=bW BH hn;replace HF2:=hid (HF2.out.new hn);replace BN:=bW BN hn;replace HF5:=hid (HF5.out.new hn);replace HN:=tW HN hn;clear hn;refine hK.out _ _ (fun _=>⟨cW5 BA,cW4 BV,cW4 BH⟩) ?_;clear hK K
    try simp only[PT]
    refine tk1 7 fun K hK=>?_;go_simp;refine (fadd_calls _ _ x1 (z:Rat) 6021 13 _ HF5.out HF6.out BX1.out BZ.out (by omega)).mono ?_;rintro e w7 ⟨v7,rfl,hn,hf⟩;rw[HX2.out] at hf;clear HF5 HF6;have HF7:=hid hf;clear hf;replace BA:=bW BA hn;replace BV:=bW BV hn;replace BH:=bW BH hn;replace HF2:=hid (HF2.out.new hn);replace BN:=bW BN hn;replace HN:=tW HN hn;clear hn;refine hK.out _ _ (fun _=>⟨cW5 BA,cW4 BV,cW4 BH⟩) ?_;clear hK K
    try simp only[PT]
    refine tk1 9 fun K hK=>?_;go_simp;refine (fadd_calls _ _ x2 hf2 6035 2 _ HF7.out HF2.out BX2.out BDH.out (by omega)).mono ?_;rintro e w8 ⟨v8,rfl,hn,hf⟩;rw[HX3.out] at hf;clear HF7 HF2;have HF8:=hid hf;clear hf;replace BA:=bW BA hn;replace BV:=bW BV hn;replace BH:=bW BH hn;replace BN:=bW BN hn;replace HN:=tW HN hn;clear hn;refine hK.out _ _ (fun _=>⟨cW5 BA,cW4 BV,cW4 BH⟩) ?_;clear hK K
    try simp only[PT]
    refine tk1 10 fun K hK=>?_;go_simp;refine (floor_calls _ x3 6038 _ HF8.out BX3.out (by omega)).mono ?_;rintro e w9 ⟨v9,rfl,hn,hf⟩;rw[HN1.out] at hf;clear HF8;have HF9:=hid hf;clear hf;replace BA:=bW BA hn;replace BV:=bW BV hn;replace BH:=bW BH hn;replace BN:=bW BN hn;replace HN:=tW HN hn;clear hn;refine hK.out _ _ (fun _=>⟨cW5 BA,cW4 BV,cW4 BH⟩) ?_;clear hK K
    try simp only[PT]
    refine tk1 11 fun K hK=>?_;go_simp;refine (whole_calls _ n _ HF9.out).mono ?_;rintro e w10 ⟨v10,rfl,hn,hf⟩;clear HF9;obtain ⟨s9,a9,l9,k9,t9,b9,m9,n9,rfl⟩:=hf.shape;have HF10:=hid hf;clear hf;replace BA:=bW BA hn;replace BV:=bW BV hn;replace BH:=bW BH hn;replace BN:=bW BN hn;replace HN:=tW HN hn;clear hn;refine hK.out _ _ (fun _=>⟨cW5 BA,cW4 BV,cW4 BH⟩) ?_;clear hK K
    try simp only[PT]
    refine tlW ?_;obtain ⟨⟨pa0,pa1,pa2,pa3,pa4⟩,pa5⟩:=BA.out.five;obtain ⟨⟨pv0,pv1,pv2,pv3⟩,pv4,pv5,pv6,pv7,pv8⟩:=BV.out.four;obtain ⟨⟨ph0,ph1,ph2,ph3⟩,ph4,ph5,ph6,ph7,ph8⟩:=BH.out.four;obtain ⟨⟨pn0,pn1,pn2,pn3⟩,pn4,pn5,pn6,pn7,pn8⟩:=BN.out.four;go_wp2_with fail
    go_meet
    have hle:=LBN.out;have hlt:=MBN.out;exact ⟨_,_,_,_,_,_,_,_,_,rfl,HN.out.put4 (by omega) _ _ _ _,BA.out.other4 (by omega) _ _ _ _,BN.out.put4 _ _ _ _,HF10.out.put4 BN.out _ _ _ _ _ _ _ _⟩
  ·skip
   go_simp;have LBN:=hid (HN.out.size);have MBN:=hid (BA.out.lt);obtain ⟨wa1,hwa,BN_,hn⟩:=laid1 wdr 122 #[.int .i64 0,.slice none 0 0,.int .i64 0,.slice none 0 0];rw[hwa];clear hwa;have BN:=hid BN_;clear BN_;replace BA:=bW BA hn;replace BV:=bW BV hn;replace BH:=bW BH hn;replace HQ3:=hid (HQ3.out.new hn);replace HF2:=hid (HF2.out.new hn);replace HN:=tW HN hn;clear hn;refine hK.out _ _ (fun _=>⟨cW5 BA,cW4 BV,cW4 BH⟩) ?_;clear hK K
   try simp only[PT]
   refine tk1 2 fun K hK=>?_;go_simp;refine (HST.out _).mono ?_;rintro e w4 ⟨v4,rfl,hn,hf⟩;have HF4:=hid hf;clear hf;replace BA:=bW BA hn;replace BV:=bW BV hn;replace BH:=bW BH hn;replace HQ3:=hid (HQ3.out.new hn);replace HF2:=hid (HF2.out.new hn);replace BN:=bW BN hn;replace HN:=tW HN hn;clear hn;refine hK.out _ _ (fun _=>⟨cW5 BA,cW4 BV,cW4 BH⟩) ?_;clear hK K
   try simp only[PT]
   refine tk1 3 fun K hK=>?_;go_simp;refine (fdiv_calls _ _ q t 6000 21 _ HQ3.out HF4.out BQ.out HFB.out (by omega) HNE.out).mono ?_;rintro e w5 ⟨v5,rfl,hn,hf⟩;rw[HX1.out] at hf;clear HF4 HQ3;have HF5:=hid hf;clear hf;replace BA:=bW BA hn;replace BV:=bW BV hn;replace BH:=bW BH hn;replace HF2:=hid (HF2.out.new hn);replace BN:=bW BN hn;replace HN:=tW HN hn;clear hn;refine hK.out _ _ (fun _=>⟨cW5 BA,cW4 BV,cW4 BH⟩) ?_;clear hK K
   try simp only[PT]
   refine tk1 6 fun K hK=>?_;go_simp;refine (f_calls z _ (by have:=HZ1.out;omega) (by have:=HZ2.out;have:=HTP1.out.2;omega)).mono ?_;rintro e w6 ⟨v6,rfl,hn,hf⟩;have HF6:=hid hf;clear hf;replace BA:=bW BA hn;replace BV:=bW BV hn;replace BH:=bW BH hn;replace HF2:=hid (HF2.out.new hn);replace BN:=bW BN hn;replace HF5:=hid (HF5.out.new hn);replace HN:=tW HN hn;clear hn;refine hK.out _ _ (fun _=>⟨cW5 BA,cW4 BV,cW4 BH⟩) ?_;clear hK K
   try simp only[PT]
   refine tk1 7 fun K hK=>?_;go_simp;refine (fadd_calls _ _ x1 (z:Rat) 6021 13 _ HF5.out HF6.out BX1.out BZ.out (by omega)).mono ?_;rintro e w7 ⟨v7,rfl,hn,hf⟩;rw[HX2.out] at hf;clear HF5 HF6;have HF7:=hid hf;clear hf;replace BA:=bW BA hn;replace BV:=bW BV hn;replace BH:=bW BH hn;replace HF2:=hid (HF2.out.new hn);replace BN:=bW BN hn;replace HN:=tW HN hn;clear hn;refine hK.out _ _ (fun _=>⟨cW5 BA,cW4 BV,cW4 BH⟩) ?_;clear hK K
   try simp only[PT]
   refine tk1 9 fun K hK=>?_;go_simp;refine (fadd_calls _ _ x2 hf2 6035 2 _ HF7.out HF2.out BX2.out BDH.out (by omega)).mono ?_;rintro e w8 ⟨v8,rfl,hn,hf⟩;rw[HX3.out] at hf;clear HF7 HF2;have HF8:=hid hf;clear hf;replace BA:=bW BA hn;replace BV:=bW BV hn;replace BH:=bW BH hn;replace BN:=bW BN hn;replace HN:=tW HN hn;clear hn;refine hK.out _ _ (fun _=>⟨cW5 BA,cW4 BV,cW4 BH⟩) ?_;clear hK K
   try simp only[PT]
   refine tk1 10 fun K hK=>?_;go_simp;refine (floor_calls _ x3 6038 _ HF8.out BX3.out (by omega)).mono ?_;rintro e w9 ⟨v9,rfl,hn,hf⟩;rw[HN1.out] at hf;clear HF8;have HF9:=hid hf;clear hf;replace BA:=bW BA hn;replace BV:=bW BV hn;replace BH:=bW BH hn;replace BN:=bW BN hn;replace HN:=tW HN hn;clear hn;refine hK.out _ _ (fun _=>⟨cW5 BA,cW4 BV,cW4 BH⟩) ?_;clear hK K
   try simp only[PT]
   refine tk1 11 fun K hK=>?_;go_simp;refine (whole_calls _ n _ HF9.out).mono ?_;rintro e w10 ⟨v10,rfl,hn,hf⟩;clear HF9;obtain ⟨s9,a9,l9,k9,t9,b9,m9,n9,rfl⟩:=hf.shape;have HF10:=hid hf;clear hf;replace BA:=bW BA hn;replace BV:=bW BV hn;replace BH:=bW BH hn;replace BN:=bW BN hn;replace HN:=tW HN hn;clear hn;refine hK.out _ _ (fun _=>⟨cW5 BA,cW4 BV,cW4 BH⟩) ?_;clear hK K
   try simp only[PT]
   refine tlW ?_;obtain ⟨⟨pa0,pa1,pa2,pa3,pa4⟩,pa5⟩:=BA.out.five;obtain ⟨⟨pv0,pv1,pv2,pv3⟩,pv4,pv5,pv6,pv7,pv8⟩:=BV.out.four;obtain ⟨⟨ph0,ph1,ph2,ph3⟩,ph4,ph5,ph6,ph7,ph8⟩:=BH.out.four;obtain ⟨⟨pn0,pn1,pn2,pn3⟩,pn4,pn5,pn6,pn7,pn8⟩:=BN.out.four;go_wp2_with fail
   go_meet
   have hle:=LBN.out;have hlt:=MBN.out;exact ⟨_,_,_,_,_,_,_,_,_,rfl,HN.out.put4 (by omega) _ _ _ _,BA.out.other4 (by omega) _ _ _ _,BN.out.put4 _ _ _ _,HF10.out.put4 BN.out _ _ _ _ _ _ _ _⟩
 case rest=>
  obtain ⟨B,s9,a9,l9,k9,t9,b9,m9,n9,rfl,hn,hba,hbn,hf⟩:=hcut;clear HN BA BV BH HQ3 HF2;have HN:=hid hn;have BA:=hid hba;have BN:=hid hbn;have HF:=hid hf;clear hn hba hbn hf;obtain ⟨sg,hsg⟩:∃ sg,n.sign=sg:=⟨_,rfl⟩
  have hsg2:((n:Rat)).num.sign=sg:=by rw[Rat.num_intCast];exact hsg
  have HSG2:=hid hsg2;clear hsg2
  go_step
  obtain ⟨⟨p0,p1,p2,p3⟩,p4,p5,p6,p7,p8⟩:=BN.out.four;go_wp2_with fail;refine (fsign_calls _ _ _ HF.out).mono ?_;rintro e w4 ⟨rfl,hn⟩;rw[HSG2.out];clear p0 p1 p2 p3 p4 p5 p6 p7 p8;replace BA:=bW BA hn;replace BN:=bW BN hn;replace HF:=hid (HF.out.new hn);replace HN:=tW HN hn;clear hn;by_cases h0:n < 0
  ·have hs:sg < 0:=by rw[←hsg];exact Int.sign_neg_iff.2 h0
   have hp:pr=(0, -1):=by rw[←HPR.out];unfold clipC;rw[if_pos h0]
   have H0:=hid h0;have HSG:=hid hsg;have HP:=hid hp;clear h0 hsg hp;go_wp2_with fail;go_ret2;exact ⟨by rw[HP.out];rfl,HN.out⟩
  ·have hs:¬sg < 0:=by rw[←hsg];intro h;exact h0 (Int.sign_neg_iff.1 h)
   obtain ⟨sc,hsc⟩:∃ sc,(crossed (n:Rat) (tp:Rat)).sign=sc:=⟨_,rfl⟩
   have hpos:(0 < sc) ↔ tp < n:=by
    rw[←hsc,crossed_pos];exact Rat.intCast_lt_intCast
   have bt:FB 13 (tp:Rat):=FB.int (by unfold BdK;exact Nat.lt_of_le_of_lt (show tp.natAbs≤4095 by have:=HTP1.out;omega) (by decide)) (by omega);have H0:=hid h0;have HSG:=hid hsg;have HSC:=hid hsc;have BT:=hid bt;have HPOS:=hid hpos;clear h0 hsg hsc bt hpos;go_wp2_with fail;obtain ⟨⟨p0,p1,p2,p3⟩,p4,p5,p6,p7,p8⟩:=BN.out.four;obtain ⟨⟨pa0,pa1,pa2,pa3,pa4⟩,pa5⟩:=BA.out.five;clear pa0 pa1 pa2 pa3 pa4 pa5;clear p0 p1 p2 p3 p4 p5 p6 p7 p8;refine wp_region_T 6 (fun W=>(W.cell? ⟨w.heap.size,0,none⟩=some (.int .i64 b)∧W.cell? ⟨w.heap.size,1,none⟩=some (.int .i64 s)∧W.cell? ⟨w.heap.size,2,none⟩=some (.int .i64 z)∧W.cell? ⟨w.heap.size,3,none⟩=some (.string g)∧W.cell? ⟨w.heap.size,4,none⟩=some (.string o))∧(W.cell? ⟨B,0,none⟩=some (.int .i64 s9)∧W.cell? ⟨B,1,none⟩=some (.slice a9 l9 k9)∧W.cell? ⟨B,2,none⟩=some (.int .i64 t9)∧W.cell? ⟨B,3,none⟩=some (.slice b9 m9 n9))) 7 #[false,false,false,false,false,false,false] rfl (by kernel_rfl) (by kernel_rfl) ?_;refine tk 0 (by exact ⟨cW5 BA,cW4 BN⟩) ?_
   try simp only[PT]
   refine tk 1 (by exact ⟨cW5 BA,cW4 BN⟩) ?_
   try simp only[PT]
   refine tk1 2 fun K hK=>?_;go_simp;refine (top_calls b s z g o _ HLO.out HHI.out).mono ?_;rintro e w5 ⟨rfl,hn⟩;rw[HTP.out];have hn:=hn.undrew;replace BA:=bW BA hn;replace BN:=bW BN hn;replace HF:=hid (HF.out.new hn);replace HN:=tW HN hn;clear hn;refine hK.out _ _ (fun _=>⟨cW5 BA,cW4 BN⟩) ?_;clear hK K
   try simp only[PT]
   refine tk1 3 fun K hK=>?_;go_simp;refine (f_calls tp _ (by have:=HTP1.out;omega) (by have:=HTP1.out;omega)).mono ?_;rintro e w6 ⟨v6,rfl,hn,hf⟩;have HF6:=hid hf;clear hf;replace BA:=bW BA hn;replace BN:=bW BN hn;replace HF:=hid (HF.out.new hn);replace HN:=tW HN hn;clear hn;refine hK.out _ _ (fun _=>⟨cW5 BA,cW4 BN⟩) ?_;clear hK K
   try simp only[PT]
   refine tk1 4 fun K hK=>?_;go_simp;refine (fcmp_calls _ _ (n:Rat) (tp:Rat) 6040 13 _ HF.out HF6.out HNB.out BT.out (by omega)).mono ?_;rintro e w7 ⟨rfl,hn⟩;rw[HSC.out];clear HF6;replace BA:=bW BA hn;replace BN:=bW BN hn;replace HF:=hid (HF.out.new hn);replace HN:=tW HN hn;clear hn;refine hK.out _ _ (fun _=>⟨cW5 BA,cW4 BN⟩) ?_;clear hK K
   try simp only[PT]
   refine tk 5 (by exact ⟨cW5 BA,cW4 BN⟩) ?_
   try simp only[PT]
   refine tlW ?_;obtain ⟨⟨pa0,pa1,pa2,pa3,pa4⟩,pa5⟩:=BA.out.five;obtain ⟨⟨p0,p1,p2,p3⟩,p4,p5,p6,p7,p8⟩:=BN.out.four;by_cases h1:tp < n
   ·have hs2:0 < sc:=HPOS.out.2 h1
    have hp:pr=(tp,1):=by rw[←HPR.out];unfold clipC;rw[if_neg (show ¬n < 0 by have:=H0.out;omega),if_pos h1]
    have H1:=hid h1;have HP:=hid hp;clear h1 hp;go_wp2_with fail;refine (top_calls b s z g o _ HLO.out HHI.out).mono ?_;rintro e w8 ⟨rfl,hn⟩;rw[HTP.out];clear p0 p1 p2 p3 p4 p5 p6 p7 p8;clear pa0 pa1 pa2 pa3 pa4 pa5;replace BA:=bW BA hn;replace BN:=bW BN hn;replace HF:=hid (HF.out.new hn);replace HN:=tW HN hn;clear hn;go_wp2_with fail;go_ret2;exact ⟨by rw[HP.out];rfl,HN.out⟩
   ·have hs2:¬0 < sc:=fun h=>h1 (HPOS.out.1 h)
    have hp:pr=(n,0):=by rw[←HPR.out];unfold clipC;rw[if_neg (show ¬n < 0 by have:=H0.out;omega),if_neg h1]
    have hsm:Sm n:=Sm.of (by have:=H0.out;omega) (by have:=HTP1.out;omega);have H1:=hid h1;have HSM:=hid hsm;have HP:=hid hp;clear h1 hsm hp;go_wp2_with fail;have hx:=HF.out.parts.1;rw[Rat.num_intCast] at hx;refine (small_calls _ n _ hx HSM.out).mono ?_;rintro e w8 ⟨rfl,hn⟩;clear hx;clear p0 p1 p2 p3 p4 p5 p6 p7 p8;clear pa0 pa1 pa2 pa3 pa4 pa5;replace BA:=bW BA hn;replace BN:=bW BN hn;replace HF:=hid (HF.out.new hn);replace HN:=tW HN hn;clear hn;go_wp2_with fail;go_ret2;exact ⟨by rw[HP.out];rfl,HN.out⟩
def NoSpan (w:World)(n:Int)(e:Ending)(w':World):Prop:=e=.returned (.tuple #[.agg #[.string ⟨#[]⟩,.string ⟨#[]⟩],.int .i64 n])∧New w w'
theorem interval_clip (adc:Value) (b s z:Int) (g o:ByteArray) (code:Int) (x y:Rat) (n:Int) (h0:n≠0) (w:World) (he:Env w) (hadc:adc=.agg #[.int .i64 b,.int .i64 s,.int .i64 z,.string g,.string o])
  (hen:∀ W,Env W→Calls Tryz.prog 88 #[adc,.int .i64 code] W (EndsPost W x y n)):
  Calls Tryz.prog 21 #[adc,.int .i64 code] w (NoSpan w n):=by
 subst hadc
 have ht:(n != 0)=true:=by simpa using h0
 have HEN:=hid hen;have HE:=hid he;have H0:=hid h0;clear hen he h0;go_enter Tryz.func21,Tryz.ntmps21;go_wp2_with fail;obtain ⟨BA,BP,HN⟩:=lay2 w 32 #[.int .i64 b,.int .i64 s,.int .i64 z,.string g,.string o] 28 #[.string ⟨#[]⟩,.string ⟨#[]⟩];refine (HEN.out _ (HE.out.new HN.out)).mono ?_;rintro e w1 ⟨v1,v2,rfl,hn,hf,hf2⟩;obtain ⟨s5,a5,l5,k5,t5,b5,m5,n5,rfl⟩:=hf.shape;obtain ⟨s6,a6,l6,k6,t6,b6,m6,n6,rfl⟩:=hf2.shape;clear hf hf2;replace BP:=bW BP hn;replace HN:=tW HN hn;clear hn;obtain ⟨p0,p1,p2,p3,p4⟩:=BP.out.two;have p5:=Nat.lt_add_right 1 p4;have p6:=Nat.lt_add_right 1 p5;go_wp2_with fail;refine bodyPost_ret (v:=.tuple #[.agg #[.string ⟨#[]⟩,.string ⟨#[]⟩],.int .i64 n]) (by simp[results,Tryz.results21,go_sem,p0,p1,p4,p5]) rfl ?_;refine ⟨rfl,?_⟩;have hN:=HN.out
 repeat first
  | with_reducible exact New.refl _
  | with_reducible refine New.drewN ?_ _
  | with_reducible refine New.drew ?_
  | with_reducible refine New.alloc ?_ _
  | (with_reducible refine New.setCell ?_ ?_ _;rotate_left;(show _≤_+_);omega)
  | with_reducible assumption
end Go.Proofs.YtbkcjmojgglbkaaGreatDoor
