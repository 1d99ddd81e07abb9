/- Part B36. -/
import Derived.Test.YtnjonlnemagomaaGreatDoorB16
import Derived.Test.YtnjonlnemagomaaGreatDoorB35
namespace Go.Proofs.YtnjonlnemagomaaGreatDoor
open Go.RowKit Big
open Go.Lib (hid)
set_option maxRecDepth 100000
set_option maxHeartbeats 8000000
theorem rt_bd {x r:Int}{k:Nat}(h:IsRt x r)(hb:BdK k x):BdK k r:=by
 have h1:=h.2.1
 have h3:r.natAbs<=x.natAbs:=by
  have h4:r<=r*r:=by
   rcases Int.lt_or_le r 1 with h5 | h5
   ·have:r=0:=by have:=h.1;omega
    subst this;omega
   ·have:=Int.mul_le_mul_of_nonneg_right h5 (Int.le_trans (by omega) h5);omega
  have:=h.1;omega
 unfold BdK at *;omega
theorem yi2 (s:ByteArray)(q:Rat)(n d m:Int)(hs:s.data.toList=y02 q)(hf:Fits q)(hb:FB 700 q)(hl:s.size<=100000)(q0:0<=q.num)(rtn:IsRt q.num n)(rtd:IsRt q.den d)(hne:¬(n*n=q.num/\d*d=q.den))(rtm:IsRt (q*((1000000:Int):Rat)).floor m)(w:World)(he:Env w):
  Calls Tryz.prog 31 #[.string s] w (y17 w (rs (Rat.divInt m 1000)) (rs (Rat.divInt (m+1) 1000)) 0):=by
 have hck:=fun W hW=>y33 s W hW hl;rw[hs,y18 hf] at hck;have hfr:=fun W hW=>y0c s q W hW hs (by omega);obtain ⟨t,ht,hti⟩:∃ t,q.num.sign=t/\¬t < 0:=⟨_,rfl,fun h=>by have:=Int.sign_neg_iff.1 h;omega⟩;have htb:decide (t < 0)=false:=decide_eq_false hti;have hsq:=fun W va hx=>yfq va q n d 700 W hx q0 rtn rtd hb (by omega)
 rw[show (decide (n*n=q.num) && decide (d*d=(q.den:Int)))=false by
  rw[Bool.and_eq_false_iff,decide_eq_false_iff_not,decide_eq_false_iff_not]
  exact Decidable.not_and_iff_not_or_not.1 hne] at hsq
 have kq:FB 21 ((1000000:Int):Rat):=FB.int (by unfold BdK;decide) (by omega);have hF:=fun W=>y9l 1000000 W (by omega) (by omega);have hmu:=fun W va vb h1 h2=>y3n va vb q ((1000000:Int):Rat) 700 21 W h1 h2 hb kq (by omega);have kp:=hb.mul kq;have hfl:=fun W va h=>y1z va (q*((1000000:Int):Rat)) 721 W h kp (by omega)
 have kf:BdK 722 (q*((1000000:Int):Rat)).floor:=by have:=(yc8 kp (by omega)).num;rwa [Rat.num_intCast] at this
 have hs2:=fun W va h=>y6v va (q*((1000000:Int):Rat)).floor m 722 W h rtm kf (by omega);have km:=rt_bd rtm kf
 have k1000:BdK 10 1000:=by unfold BdK;decide
 have k1:BdK 10 1:=by unfold BdK;decide
 have hmk:=fun W va vb h1 h2=>y12 va vb m 1000 W h1 h2 (km.bd (by omega)) (k1000.bd (by omega)) (by omega);have had:=fun W va vb h1 h2=>y1r va vb m 1 W h1 h2 (km.bd (by omega)) (k1.bd (by omega));have km1:BdK 723 (m+1):=km.add (k1.mono (by omega));have hmk2:=fun W va vb h1 h2=>y12 va vb (m+1) 1000 W h1 h2 (km1.bd (by omega)) (k1000.bd (by omega)) (by omega);have hsp:=fun W va vb h1 h2 hW=>y56 va vb (Rat.divInt m 1000) (Rat.divInt (m+1) 1000) W h1 h2 ((FB.divInt km (k1000.mono (by omega)) (by omega)).mono (by omega)) ((FB.divInt km1 (k1000.mono (by omega)) (by omega)).mono (by omega)) hW;obtain ⟨q6,hq6⟩:∃ x,((1000000:Int):Rat)=x:=⟨_,rfl⟩;simp only[hq6] at hF hmu hfl hs2;obtain ⟨qm,hqm⟩:∃ x,q*q6=x:=⟨_,rfl⟩;simp only[hqm] at hmu hfl hs2;obtain ⟨z,hz⟩:∃ x,qm.floor=x:=⟨_,rfl⟩;simp only[hz] at hfl hs2;obtain ⟨m1,hm1⟩:∃ x,m+1=x:=⟨_,rfl⟩;simp only[hm1] at had hmk2 hsp;rw[hm1];obtain ⟨x1,hx1⟩:∃ x,Rat.divInt m 1000=x:=⟨_,rfl⟩;obtain ⟨x2,hx2⟩:∃ x,Rat.divInt m1 1000=x:=⟨_,rfl⟩;simp only[hx1] at hmk hsp;simp only[hx2] at hmk2 hsp;obtain ⟨X,hX⟩:∃ X,rs x1=X:=⟨_,rfl⟩;obtain ⟨Y,hY⟩:∃ X,rs x2=X:=⟨_,rfl⟩;unfold y17 at hsp⊢;rw[hX,hY] at hsp;rw[hx1,hx2,hX,hY];have i1000:∀ W,y06 W (.agg #[.int .i64 1000,.slice none 0 0]) 1000:=fun W=>.small rfl (by omega) (by omega);have i1:∀ W,y06 W (.agg #[.int .i64 1,.slice none 0 0]) 1:=fun W=>.small rfl (by omega) (by omega);clear hX hY hx1 hx2 hm1 hz hqm hq6 km km1 k1000 k1 kf kp kq hs hf hb hl q0 rtn rtd hne rtm;have HE:=hid he;have HCK:=hid hck;have HFR:=hid hfr;have HSG:=hid ht;have HSQ:=hid hsq;have HSP:=hid hsp;have HF6:=hid hF;have HMU:=hid hmu;have HFL:=hid hfl;have HS2:=hid hs2;have HMK:=hid hmk;have HAD:=hid had;have HMK2:=hid hmk2;have I1000:=hid i1000;have IONE:=hid i1;clear he hck hfr ht hsq hsp hF hmu hfl hs2 hmk had hmk2 i1000 i1;go_enter Tryz.func31,Tryz.ntmps31;go_upto_region 1 with (fail);obtain ⟨BP,HN⟩:=lay1 w 53 #[.string ⟨#[]⟩,.string ⟨#[]⟩];go_wp2_with fail;refine (HCK.out _ (HE.out.new HN.out)).mono ?_;rintro e w1 ⟨rfl,hn⟩;replace BP:=bW BP hn;replace HN:=tW HN hn;clear hn;go_upto_region 4 with (fail);go_wp2_with fail;refine (HFR.out _ (HE.out.new HN.out)).mono ?_;rintro e w2 ⟨v2,rfl,hn,hf⟩;obtain ⟨s2,a2,l2,c2,t2,d2,m2,k2,rfl⟩:=hf.shape;have HF:=hid hf;clear hf;replace BP:=bW BP hn;replace HN:=tW HN hn;clear hn;go_upto_region 5 with (fail);have HN0:=HN;clear HN;obtain ⟨BX,HN⟩:=lay1 w2 115 #[.int .i64 s2,.slice a2 l2 c2,.int .i64 t2,.slice d2 m2 k2];replace BP:=hid (BP.out.new HN.out);replace HF:=hid (HF.out.new HN.out);have HN_:=HN0.out.trans HN.out;clear HN HN0;have HN:=hid HN_;clear HN_;obtain ⟨⟨pa0,pa1,pa2,pa3⟩,pa4,pa5,pa6,pa7,pa8⟩:=BX.out.four;go_wp2_with fail;refine (y2m _ q _ HF.out).mono ?_;rintro e w3 ⟨rfl,hn⟩;rw[HSG.out];clear pa0 pa1 pa2 pa3 pa4 pa5 pa6 pa7 pa8;replace BP:=bW BP hn;replace BX:=bW BX hn;replace HF:=hid (HF.out.new hn);replace HN:=tW HN hn;clear hn;go_upto_region 7 with (fail);obtain ⟨⟨pa0,pa1,pa2,pa3⟩,pa4,pa5,pa6,pa7,pa8⟩:=BX.out.four;go_wp2_with fail;refine (HSQ.out _ _ HF.out).mono ?_;rintro e w4 ⟨s5,a5,l5,c5,t5,d5,m5,k5,rfl,hn,hi1,hi2⟩;clear pa0 pa1 pa2 pa3 pa4 pa5 pa6 pa7 pa8;have HI1:=hid hi1;have HI2:=hid hi2;clear hi1 hi2;replace BP:=bW BP hn;replace BX:=bW BX hn;replace HF:=hid (HF.out.new hn);replace HN:=tW HN hn;clear hn;go_upto_region 8 with (fail);have HN0:=HN;clear HN;obtain ⟨BR,HN⟩:=lay1 w4 115 #[.int .i64 s5,.slice a5 l5 c5,.int .i64 t5,.slice d5 m5 k5];replace BP:=hid (BP.out.new HN.out);replace BX:=hid (BX.out.new HN.out);replace HF:=hid (HF.out.new HN.out);replace HI1:=hid (HI1.out.new HN.out);replace HI2:=hid (HI2.out.new HN.out);have HN_:=HN0.out.trans HN.out;clear HN HN0;have HN:=hid HN_;clear HN_;clear BR HI1 HI2;obtain ⟨w5,hw5⟩:∃ x,w4.alloc (.cells #[.int .i64 s5,.slice a5 l5 c5,.int .i64 t5,.slice d5 m5 k5] 115)=x:=⟨_,rfl⟩;rw[hw5] at BP BX HF HN⊢;clear hw5;go_upto_region 10 with (fail);have HN1:=HN;clear HN;have BPL:=hid BP.out.lt
 go_cut [8] (fun x wx=>∃ (P:Nat),x=.pointer (some ⟨P,0,none⟩)/\New w5 wx/\w5.heap.size<=P/\yjh wx P m)
 case first=>
  have HN:=hid (New.refl w5);obtain ⟨⟨pa0,pa1,pa2,pa3⟩,pa4,pa5,pa6,pa7,pa8⟩:=BX.out.four;refine y00 6 (fun W=>W.cell? ⟨w2.heap.size,0,none⟩=some (.int .i64 s2)/\W.cell? ⟨w2.heap.size,1,none⟩=some (.slice a2 l2 c2)/\W.cell? ⟨w2.heap.size,2,none⟩=some (.int .i64 t2)/\W.cell? ⟨w2.heap.size,3,none⟩=some (.slice d2 m2 k2)) 7 #[false,false,false,false,false,false,false] rfl (by kernel_rfl) (by kernel_rfl) ?_;clear pa0 pa1 pa2 pa3 pa4 pa5 pa6 pa7 pa8;replace BX:=hid (BX.out.new (New.refl w5).drew);replace HF:=hid (HF.out.new (New.refl w5).drew);replace HN:=hid (HN.out.drew);obtain ⟨wdr,hwd⟩:∃ x,w5.drew=x:=⟨_,rfl⟩;rw[hwd] at HN BX HF⊢;clear hwd;refine tk 0 (by exact cW4 BX) ?_
  try simp only[PT]
  refine y0h 1 5 rfl rfl (by kernel_rfl) (fun K hK=>?_) (fun K hK=>?_)
  ·skip
   go_simp;refine (HF6.out _).mono ?_;rintro e w6 ⟨v6,rfl,hn,hf⟩;have HF2:=hid hf;clear hf;replace BX:=bW BX hn;replace HF:=hid (HF.out.new hn);replace HN:=tW HN hn;clear hn;refine hK.out _ _ (fun _=>cW4 BX) ?_;clear hK K
   try simp only[PT]
   refine y0h 2 5 rfl rfl (by kernel_rfl) (fun K hK=>?_) (fun K hK=>?_)
   ·skip
    go_simp;refine (HMU.out _ _ _ HF.out HF2.out).mono ?_;rintro e w7 ⟨v7,rfl,hn,hf⟩;clear HF2;have HF3:=hid hf;clear hf;replace BX:=bW BX hn;replace HF:=hid (HF.out.new hn);replace HN:=tW HN hn;clear hn;refine hK.out _ _ (fun _=>cW4 BX) ?_;clear hK K
    try simp only[PT]
    refine y0h 3 5 rfl rfl (by kernel_rfl) (fun K hK=>?_) (fun K hK=>?_)
    ·skip
     go_simp;refine (HFL.out _ _ HF3.out).mono ?_;rintro e w8 ⟨v8,rfl,hn,hi⟩;clear HF3;have HI4:=hid hi;clear hi;replace BX:=bW BX hn;replace HF:=hid (HF.out.new hn);replace HN:=tW HN hn;clear hn;refine hK.out _ _ (fun _=>cW4 BX) ?_;clear hK K
     try simp only[PT]
     refine y0h 4 5 rfl rfl (by kernel_rfl) (fun K hK=>?_) (fun K hK=>?_)
     ·skip
      go_simp;refine (HS2.out _ _ HI4.out).mono ?_;rintro e w9 ⟨v9,rfl,hn,hi⟩;obtain ⟨s9,a9,l9,k9,rfl⟩:=hi.shape;clear HI4;have HI9:=hid hi;clear hi;replace BX:=bW BX hn;replace HF:=hid (HF.out.new hn);replace HN:=tW HN hn;clear hn;refine hK.out _ _ (fun _=>cW4 BX) ?_;clear hK K
      try simp only[PT]
      refine tk1 5 fun K hK=>?_;go_simp;have LBM:=hid (HN.out.size);obtain ⟨wa1,hwa,BM_,hn⟩:=y0j w9 113 #[.int .i64 0,.slice none 0 0];rw[hwa];clear hwa;have BM:=hid BM_;clear BM_;replace BX:=bW BX hn;replace HF:=hid (HF.out.new hn);replace HI9:=hid (HI9.out.new hn);replace HN:=tW HN hn;clear hn;refine hK.out _ _ (fun _=>cW4 BX) ?_;clear hK K
      try simp only[PT]
      refine tlW ?_;obtain ⟨⟨pa0,pa1,pa2,pa3⟩,pa4,pa5,pa6,pa7,pa8⟩:=BX.out.four;obtain ⟨u0,u1,u2,u3,u4⟩:=BM.out.two;go_wp2_with fail
      go_meet
      exact ⟨_,rfl,HN.out.putAt BM.out LBM.out _ _,LBM.out,⟨_,_,_,_,BM.out.put2 _ _,HI9.out.put2 BM.out _ _ _ _⟩⟩
     ·skip
      go_simp;have LBM:=hid (HN.out.size);obtain ⟨wa1,hwa,BM_,hn⟩:=y0j w8 113 #[.int .i64 0,.slice none 0 0];rw[hwa];clear hwa;have BM:=hid BM_;clear BM_;replace BX:=bW BX hn;replace HF:=hid (HF.out.new hn);replace HI4:=hid (HI4.out.new hn);replace HN:=tW HN hn;clear hn;refine hK.out _ _ (fun _=>cW4 BX) ?_;clear hK K
      try simp only[PT]
      refine tk1 4 fun K hK=>?_;go_simp;refine (HS2.out _ _ HI4.out).mono ?_;rintro e w9 ⟨v9,rfl,hn,hi⟩;obtain ⟨s9,a9,l9,k9,rfl⟩:=hi.shape;clear HI4;have HI9:=hid hi;clear hi;replace BX:=bW BX hn;replace HF:=hid (HF.out.new hn);replace BM:=bW BM hn;replace HN:=tW HN hn;clear hn;refine hK.out _ _ (fun _=>cW4 BX) ?_;clear hK K
      try simp only[PT]
      refine tlW ?_;obtain ⟨⟨pa0,pa1,pa2,pa3⟩,pa4,pa5,pa6,pa7,pa8⟩:=BX.out.four;obtain ⟨u0,u1,u2,u3,u4⟩:=BM.out.two;go_wp2_with fail
      go_meet
      exact ⟨_,rfl,HN.out.putAt BM.out LBM.out _ _,LBM.out,⟨_,_,_,_,BM.out.put2 _ _,HI9.out.put2 BM.out _ _ _ _⟩⟩
    ·skip
     go_simp;have LBM:=hid (HN.out.size);obtain ⟨wa1,hwa,BM_,hn⟩:=y0j w7 113 #[.int .i64 0,.slice none 0 0];rw[hwa];clear hwa;have BM:=hid BM_;clear BM_;replace BX:=bW BX hn;replace HF:=hid (HF.out.new hn);replace HF3:=hid (HF3.out.new hn);replace HN:=tW HN hn;clear hn;refine hK.out _ _ (fun _=>cW4 BX) ?_;clear hK K
     try simp only[PT]
     refine tk1 3 fun K hK=>?_;go_simp;refine (HFL.out _ _ HF3.out).mono ?_;rintro e w8 ⟨v8,rfl,hn,hi⟩;clear HF3;have HI4:=hid hi;clear hi;replace BX:=bW BX hn;replace HF:=hid (HF.out.new hn);replace BM:=bW BM hn;replace HN:=tW HN hn;clear hn;refine hK.out _ _ (fun _=>cW4 BX) ?_;clear hK K
     try simp only[PT]
     refine tk1 4 fun K hK=>?_;go_simp;refine (HS2.out _ _ HI4.out).mono ?_;rintro e w9 ⟨v9,rfl,hn,hi⟩;obtain ⟨s9,a9,l9,k9,rfl⟩:=hi.shape;clear HI4;have HI9:=hid hi;clear hi;replace BX:=bW BX hn;replace HF:=hid (HF.out.new hn);replace BM:=bW BM hn;replace HN:=tW HN hn;clear hn;refine hK.out _ _ (fun _=>cW4 BX) ?_;clear hK K
     try simp only[PT]
     refine tlW ?_;obtain ⟨⟨pa0,pa1,pa2,pa3⟩,pa4,pa5,pa6,pa7,pa8⟩:=BX.out.four;obtain ⟨u0,u1,u2,u3,u4⟩:=BM.out.two;go_wp2_with fail
     go_meet
     exact ⟨_,rfl,HN.out.putAt BM.out LBM.out _ _,LBM.out,⟨_,_,_,_,BM.out.put2 _ _,HI9.out.put2 BM.out _ _ _ _⟩⟩
   ·skip
    go_simp;have LBM:=hid (HN.out.size);obtain ⟨wa1,hwa,BM_,hn⟩:=y0j w6 113 #[.int .i64 0,.slice none 0 0];rw[hwa];clear hwa;have BM:=hid BM_;clear BM_;replace BX:=bW BX hn;replace HF:=hid (HF.out.new hn);replace HF2:=hid (HF2.out.new hn);replace HN:=tW HN hn;clear hn;refine hK.out _ _ (fun _=>cW4 BX) ?_;clear hK K
    try simp only[PT]
    refine tk1 2 fun K hK=>?_;go_simp;refine (HMU.out _ _ _ HF.out HF2.out).mono ?_;rintro e w7 ⟨v7,rfl,hn,hf⟩;clear HF2;have HF3:=hid hf;clear hf;replace BX:=bW BX hn;replace HF:=hid (HF.out.new hn);replace BM:=bW BM hn;replace HN:=tW HN hn;clear hn;refine hK.out _ _ (fun _=>cW4 BX) ?_;clear hK K
    try simp only[PT]
    refine tk1 3 fun K hK=>?_;go_simp;refine (HFL.out _ _ HF3.out).mono ?_;rintro e w8 ⟨v8,rfl,hn,hi⟩;clear HF3;have HI4:=hid hi;clear hi;replace BX:=bW BX hn;replace HF:=hid (HF.out.new hn);replace BM:=bW BM hn;replace HN:=tW HN hn;clear hn;refine hK.out _ _ (fun _=>cW4 BX) ?_;clear hK K
    try simp only[PT]
    refine tk1 4 fun K hK=>?_;go_simp;refine (HS2.out _ _ HI4.out).mono ?_;rintro e w9 ⟨v9,rfl,hn,hi⟩;obtain ⟨s9,a9,l9,k9,rfl⟩:=hi.shape;clear HI4;have HI9:=hid hi;clear hi;replace BX:=bW BX hn;replace HF:=hid (HF.out.new hn);replace BM:=bW BM hn;replace HN:=tW HN hn;clear hn;refine hK.out _ _ (fun _=>cW4 BX) ?_;clear hK K
    try simp only[PT]
    refine tlW ?_;obtain ⟨⟨pa0,pa1,pa2,pa3⟩,pa4,pa5,pa6,pa7,pa8⟩:=BX.out.four;obtain ⟨u0,u1,u2,u3,u4⟩:=BM.out.two;go_wp2_with fail
    go_meet
    exact ⟨_,rfl,HN.out.putAt BM.out LBM.out _ _,LBM.out,⟨_,_,_,_,BM.out.put2 _ _,HI9.out.put2 BM.out _ _ _ _⟩⟩
  ·skip
   go_simp;have LBM:=hid (HN.out.size);obtain ⟨wa1,hwa,BM_,hn⟩:=y0j wdr 113 #[.int .i64 0,.slice none 0 0];rw[hwa];clear hwa;have BM:=hid BM_;clear BM_;replace BX:=bW BX hn;replace HF:=hid (HF.out.new hn);replace HN:=tW HN hn;clear hn;refine hK.out _ _ (fun _=>cW4 BX) ?_;clear hK K
   try simp only[PT]
   refine tk1 1 fun K hK=>?_;go_simp;refine (HF6.out _).mono ?_;rintro e w6 ⟨v6,rfl,hn,hf⟩;have HF2:=hid hf;clear hf;replace BX:=bW BX hn;replace HF:=hid (HF.out.new hn);replace BM:=bW BM hn;replace HN:=tW HN hn;clear hn;refine hK.out _ _ (fun _=>cW4 BX) ?_;clear hK K
   try simp only[PT]
   refine tk1 2 fun K hK=>?_;go_simp;refine (HMU.out _ _ _ HF.out HF2.out).mono ?_;rintro e w7 ⟨v7,rfl,hn,hf⟩;clear HF2;have HF3:=hid hf;clear hf;replace BX:=bW BX hn;replace HF:=hid (HF.out.new hn);replace BM:=bW BM hn;replace HN:=tW HN hn;clear hn;refine hK.out _ _ (fun _=>cW4 BX) ?_;clear hK K
   try simp only[PT]
   refine tk1 3 fun K hK=>?_;go_simp;refine (HFL.out _ _ HF3.out).mono ?_;rintro e w8 ⟨v8,rfl,hn,hi⟩;clear HF3;have HI4:=hid hi;clear hi;replace BX:=bW BX hn;replace HF:=hid (HF.out.new hn);replace BM:=bW BM hn;replace HN:=tW HN hn;clear hn;refine hK.out _ _ (fun _=>cW4 BX) ?_;clear hK K
   try simp only[PT]
   refine tk1 4 fun K hK=>?_;go_simp;refine (HS2.out _ _ HI4.out).mono ?_;rintro e w9 ⟨v9,rfl,hn,hi⟩;obtain ⟨s9,a9,l9,k9,rfl⟩:=hi.shape;clear HI4;have HI9:=hid hi;clear hi;replace BX:=bW BX hn;replace HF:=hid (HF.out.new hn);replace BM:=bW BM hn;replace HN:=tW HN hn;clear hn;refine hK.out _ _ (fun _=>cW4 BX) ?_;clear hK K
   try simp only[PT]
   refine tlW ?_;obtain ⟨⟨pa0,pa1,pa2,pa3⟩,pa4,pa5,pa6,pa7,pa8⟩:=BX.out.four;obtain ⟨u0,u1,u2,u3,u4⟩:=BM.out.two;go_wp2_with fail
   go_meet
   exact ⟨_,rfl,HN.out.putAt BM.out LBM.out _ _,LBM.out,⟨_,_,_,_,BM.out.put2 _ _,HI9.out.put2 BM.out _ _ _ _⟩⟩
 case rest=>
  obtain ⟨P,rfl,hn,hP,s9,a9,l9,k9,hb9,hi9⟩:=hcut;obtain ⟨w10,hw10⟩:∃ x,x=wc:=⟨_,rfl⟩;rw[<-hw10] at hn hb9 hi9⊢;clear hw10
  have hne:w.heap.size≠P:=by have:=BPL.out;omega
  replace BP:=bW BP hn;have HN:=hid (HN1.out.trans hn);clear HN1 hn hP BPL BX HF;have BM:=hid hb9;have IM:=hid hi9;have HNE:=hid hne;clear hb9 hi9 hne;go_upto_region 11 with (fail);obtain ⟨pb0,pb1,pb2,pb3,pb4⟩:=BM.out.two;refine y00 12 (fun W=>W.cell? ⟨P,0,none⟩=some (.int .i64 s9)/\W.cell? ⟨P,1,none⟩=some (.slice a9 l9 k9)) 13 #[false,false,false,false,false,false,false,false,false,false,false,false,false] rfl (by kernel_rfl) (by kernel_rfl) ?_;refine tk 0 (by exact ⟨pb0,pb1⟩) ?_
  try simp only[PE,PT]
  refine tk 3 (by exact ⟨pb0,pb1⟩) ?_
  try simp only[PE,PT]
  refine tk1 1 fun K hK=>?_
  try simp only[PE]
  go_simp;refine (y09 1000 _).mono ?_;rintro e y1 ⟨rfl,hn⟩;have hn:=hn.undrew;clear pb0 pb1 pb2 pb3 pb4;replace BP:=bW BP hn;replace BM:=bW BM hn;replace IM:=hid (IM.out.new hn);replace HN:=tW HN hn;clear hn;obtain ⟨pb0,pb1,pb2,pb3,pb4⟩:=BM.out.two;refine hK.out _ _ (fun _=>⟨pb0,pb1⟩) ?_;clear hK K
  try simp only[PE,PT]
  refine tk1 2 fun K hK=>?_
  try simp only[PE]
  go_simp;refine (HMK.out _ _ _ IM.out (I1000.out _)).mono ?_;rintro e y2 ⟨v12,rfl,hn,hf⟩;have HG1:=hid hf;clear hf;clear pb0 pb1 pb2 pb3 pb4;replace BP:=bW BP hn;replace BM:=bW BM hn;replace IM:=hid (IM.out.new hn);replace HN:=tW HN hn;clear hn;obtain ⟨pb0,pb1,pb2,pb3,pb4⟩:=BM.out.two;refine hK.out _ _ (fun _=>⟨pb0,pb1⟩) ?_;clear hK K
  try simp only[PE,PT]
  refine tk1 4 fun K hK=>?_
  try simp only[PE]
  go_simp;refine (y09 1 _).mono ?_;rintro e y3 ⟨rfl,hn⟩;clear pb0 pb1 pb2 pb3 pb4;replace BP:=bW BP hn;replace BM:=bW BM hn;replace IM:=hid (IM.out.new hn);replace HG1:=hid (HG1.out.new hn);replace HN:=tW HN hn;clear hn;obtain ⟨pb0,pb1,pb2,pb3,pb4⟩:=BM.out.two;refine hK.out _ _ (fun _=>⟨pb0,pb1⟩) ?_;clear hK K
  try simp only[PE,PT]
  refine tk1 5 fun K hK=>?_
  try simp only[PE]
  go_simp;refine (HAD.out _ _ _ IM.out (IONE.out _)).mono ?_;rintro e y4 ⟨v14,rfl,hn,hi⟩;have HI5:=hid hi;clear hi;clear pb0 pb1 pb2 pb3 pb4;replace BP:=bW BP hn;replace BM:=bW BM hn;replace IM:=hid (IM.out.new hn);replace HG1:=hid (HG1.out.new hn);replace HN:=tW HN hn;clear hn;obtain ⟨pb0,pb1,pb2,pb3,pb4⟩:=BM.out.two;refine hK.out _ _ (fun _=>⟨pb0,pb1⟩) ?_;clear hK K
  try simp only[PE,PT]
  refine tk1 6 fun K hK=>?_
  try simp only[PE]
  go_simp;refine (y09 1000 _).mono ?_;rintro e y5 ⟨rfl,hn⟩;clear pb0 pb1 pb2 pb3 pb4;replace BP:=bW BP hn;replace BM:=bW BM hn;replace IM:=hid (IM.out.new hn);replace HG1:=hid (HG1.out.new hn);replace HI5:=hid (HI5.out.new hn);replace HN:=tW HN hn;clear hn;obtain ⟨pb0,pb1,pb2,pb3,pb4⟩:=BM.out.two;refine hK.out _ _ (fun _=>⟨pb0,pb1⟩) ?_;clear hK K
  try simp only[PE,PT]
  refine tk1 7 fun K hK=>?_
  try simp only[PE]
  go_simp;refine (HMK2.out _ _ _ HI5.out (I1000.out _)).mono ?_;rintro e y6 ⟨v16,rfl,hn,hf⟩;clear HI5;have HG2:=hid hf;clear hf;clear pb0 pb1 pb2 pb3 pb4;replace BP:=bW BP hn;replace BM:=bW BM hn;replace HG1:=hid (HG1.out.new hn);replace HN:=tW HN hn;clear hn;obtain ⟨pb0,pb1,pb2,pb3,pb4⟩:=BM.out.two;refine hK.out _ _ (fun _=>⟨pb0,pb1⟩) ?_;clear hK K
  try simp only[PE,PT]
  refine tk1 8 fun K hK=>?_
  try simp only[PE]
  go_simp;refine (HSP.out _ _ _ HG1.out HG2.out (HE.out.new HN.out)).mono ?_;rintro e y7 ⟨rfl,hn⟩;clear HG1 HG2;clear pb0 pb1 pb2 pb3 pb4;replace BP:=bW BP hn;replace BM:=bW BM hn;replace HN:=tW HN hn;clear hn;obtain ⟨pb0,pb1,pb2,pb3,pb4⟩:=BM.out.two;obtain ⟨p0,p1,p2,p3,p4⟩:=BP.out.two;refine hK.out _ _ (fun _=>⟨pb0,pb1⟩) ?_;clear hK K
  try simp only[PE,PT]
  refine tk 9 (by exact ⟨pb0,pb1⟩) ?_
  try simp only[PE,PT]
  refine tk 10 (by exact ⟨pb0,pb1⟩) ?_
  try simp only[PE,PT]
  refine tk1 11 fun K hK=>?_
  try simp only[PE]
  go_simp;clear pb0 pb1 pb2 pb3 pb4 p0 p1 p2 p3 p4;have BM_:=BM.out.otheri HNE.out (.string X) (.string Y);have BP_:=BP.out.put2 (.string X) (.string Y);have HN_:=HN.out.put2 (B:=w.heap.size) (by omega) (.string X) (.string Y);clear BM BP HN;have BM:=hid BM_;have BP:=hid BP_;have HN:=hid HN_;clear BM_ BP_ HN_;obtain ⟨pb0,pb1,pb2,pb3,pb4⟩:=BM.out.two;refine hK.out _ _ (fun _=>⟨pb0,pb1⟩) ?_;clear hK K
  try simp only[PE,PT]
  refine tlW ?_;clear pb0 pb1 pb2 pb3 pb4;obtain ⟨p0,p1,p2,p3,p4⟩:=BP.out.two;go_wp2_with fail;refine bodyPost_ret (v:=.tuple #[.agg #[.string X,.string Y],.int .i64 0]) (by simp[results,Tryz.results31,go_sem,p0,p1]) rfl ?_;exact ⟨rfl,HN.out⟩
end Go.Proofs.YtnjonlnemagomaaGreatDoor
