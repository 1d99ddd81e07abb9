/- Part A29. -/
import Derived.Test.YtnjonlnemagomaaGreatDoorA28
namespace Go.Proofs.YtnjonlnemagomaaGreatDoor
open Go.RowKit Big Go.Lib
set_option maxRecDepth 100000
set_option maxHeartbeats 8000000
theorem rt_bd {x r:Int}{k:Nat}(h:IsRt x r)(hb:BdK k x):BdK k r:=by
 have h1:=h.2.1
 have h3:r.natAbs≤x.natAbs:=by
  have h4:r≤r*r:=by
   rcases Int.lt_or_le r 1 with h5 | h5
   ·have:r=0:=by have:=h.1;omega
    subst this;omega
   ·have:=Int.mul_le_mul_of_nonneg_right h5 (Int.le_trans (by omega) h5);omega
  have:=h.1;omega
 unfold BdK at *;omega
theorem nroot_near (s:ByteArray)(q:Rat)(n d m:Int)(hs:s.data.toList=ratText q)(hf:Fits q)(hb:FB 700 q)(hl:s.size≤100000)(q0:0≤q.num)(rtn:IsRt q.num n)(rtd:IsRt q.den d)(hne:¬(n*n=q.num∧d*d=q.den))(rtm:IsRt (q*((1000000:Int):Rat)).floor m)(w:World)(he:Env w):
  Calls Tryz.prog 31 #[.string s] w (SpPost w (rs (Rat.divInt m 1000)) (rs (Rat.divInt (m+1) 1000)) 0):=by
 have hck:=fun W hW=>check_calls s W hW hl;rw[hs,ratErr_ratText hf] at hck;have hfr:=fun W hW=>from_calls s q W hW hs (by omega);obtain ⟨t,ht,hti⟩:∃ t,q.num.sign=t∧¬t < 0:=⟨_,rfl,fun h=>by have:=Int.sign_neg_iff.1 h;omega⟩;have htb:decide (t < 0)=false:=decide_eq_false hti;have hsq:=fun W va hx=>fsqrt_calls va q n d 700 W hx q0 rtn rtd hb (by omega)
 rw[show (decide (n*n=q.num) && decide (d*d=(q.den:Int)))=false by
  rw[Bool.and_eq_false_iff,decide_eq_false_iff_not,decide_eq_false_iff_not]
  exact Decidable.not_and_iff_not_or_not.1 hne] at hsq
 have kq:FB 21 ((1000000:Int):Rat):=FB.int (by unfold BdK;decide) (by omega);have hF:=fun W=>f_calls 1000000 W (by omega) (by omega);have hmu:=fun W va vb h1 h2=>fmul_calls va vb q ((1000000:Int):Rat) 700 21 W h1 h2 hb kq (by omega);have kp:=hb.mul kq;have hfl:=fun W va h=>floor_calls va (q*((1000000:Int):Rat)) 721 W h kp (by omega)
 have kf:BdK 722 (q*((1000000:Int):Rat)).floor:=by have:=(floor_fb kp (by omega)).num;rwa [Rat.num_intCast] at this
 have hs2:=fun W va h=>nsqrt_calls va (q*((1000000:Int):Rat)).floor m 722 W h rtm kf (by omega);have km:=rt_bd rtm kf
 have k1000:BdK 10 1000:=by unfold BdK;decide
 have k1:BdK 10 1:=by unfold BdK;decide
 have hmk:=fun W va vb h1 h2=>make_calls va vb m 1000 W h1 h2 (km.bd (by omega)) (k1000.bd (by omega)) (by omega);have had:=fun W va vb h1 h2=>add_calls va vb m 1 W h1 h2 (km.bd (by omega)) (k1.bd (by omega));have km1:BdK 723 (m+1):=km.add (k1.mono (by omega));have hmk2:=fun W va vb h1 h2=>make_calls va vb (m+1) 1000 W h1 h2 (km1.bd (by omega)) (k1000.bd (by omega)) (by omega);have hsp:=fun W va vb h1 h2 hW=>nspan_calls va vb (Rat.divInt m 1000) (Rat.divInt (m+1) 1000) W h1 h2 ((FB.divInt km (k1000.mono (by omega)) (by omega)).mono (by omega)) ((FB.divInt km1 (k1000.mono (by omega)) (by omega)).mono (by omega)) hW;obtain ⟨q6,hq6⟩:∃ x,((1000000:Int):Rat)=x:=⟨_,rfl⟩;simp only[hq6] at hF hmu hfl hs2;obtain ⟨qm,hqm⟩:∃ x,q*q6=x:=⟨_,rfl⟩;simp only[hqm] at hmu hfl hs2;obtain ⟨z,hz⟩:∃ x,qm.floor=x:=⟨_,rfl⟩;simp only[hz] at hfl hs2;obtain ⟨m1,hm1⟩:∃ x,m+1=x:=⟨_,rfl⟩;simp only[hm1] at had hmk2 hsp;rw[hm1];obtain ⟨x1,hx1⟩:∃ x,Rat.divInt m 1000=x:=⟨_,rfl⟩;obtain ⟨x2,hx2⟩:∃ x,Rat.divInt m1 1000=x:=⟨_,rfl⟩;simp only[hx1] at hmk hsp;simp only[hx2] at hmk2 hsp;obtain ⟨X,hX⟩:∃ X,rs x1=X:=⟨_,rfl⟩;obtain ⟨Y,hY⟩:∃ X,rs x2=X:=⟨_,rfl⟩;unfold SpPost at hsp⊢;rw[hX,hY] at hsp;rw[hx1,hx2,hX,hY];have i1000:∀ W,IsInt W (.agg #[.int .i64 1000,.slice none 0 0]) 1000:=fun W=>.small rfl (by omega) (by omega);have i1:∀ W,IsInt W (.agg #[.int .i64 1,.slice none 0 0]) 1:=fun W=>.small rfl (by omega) (by omega);clear hX hY hx1 hx2 hm1 hz hqm hq6 km km1 k1000 k1 kf kp kq hs hf hb hl q0 rtn rtd hne rtm;have HE:=hid he;have HCK:=hid hck;have HFR:=hid hfr;have HSG:=hid ht;have HSQ:=hid hsq;have HSP:=hid hsp;have HF6:=hid hF;have HMU:=hid hmu;have HFL:=hid hfl;have HS2:=hid hs2;have HMK:=hid hmk;have HAD:=hid had;have HMK2:=hid hmk2;have I1000:=hid i1000;have IONE:=hid i1;clear he hck hfr ht hsq hsp hF hmu hfl hs2 hmk had hmk2 i1000 i1;go_enter Tryz.func31,Tryz.ntmps31;go_upto_region 1 with (fail);obtain ⟨BP,HN⟩:=lay1 w 53 #[.string ⟨#[]⟩,.string ⟨#[]⟩];go_wp2_with fail;refine (HCK.out _ (HE.out.new HN.out)).mono ?_;rintro e w1 ⟨rfl,hn⟩;replace BP:=hid (BP.out.new hn);replace HN:=hid (HN.out.trans hn);clear hn;go_upto_region 4 with (fail);go_wp2_with fail;refine (HFR.out _ (HE.out.new HN.out)).mono ?_;rintro e w2 ⟨v2,rfl,hn,hf⟩;obtain ⟨s2,a2,l2,c2,t2,d2,m2,k2,rfl⟩:=hf.shape;have HF:=hid hf;clear hf;replace BP:=hid (BP.out.new hn);replace HN:=hid (HN.out.trans hn);clear hn;go_upto_region 5 with (fail);have HN0:=HN;clear HN;obtain ⟨BX,HN⟩:=lay1 w2 115 #[.int .i64 s2,.slice a2 l2 c2,.int .i64 t2,.slice d2 m2 k2];replace BP:=hid (BP.out.new HN.out);replace HF:=hid (HF.out.new HN.out);have HN_:=HN0.out.trans HN.out;clear HN HN0;have HN:=hid HN_;clear HN_;obtain ⟨⟨pa0,pa1,pa2,pa3⟩,pa4,pa5,pa6,pa7,pa8⟩:=BX.out.four;go_wp2_with fail;refine (fsign_calls _ q _ HF.out).mono ?_;rintro e w3 ⟨rfl,hn⟩;rw[HSG.out];clear pa0 pa1 pa2 pa3 pa4 pa5 pa6 pa7 pa8;replace BP:=hid (BP.out.new hn);replace BX:=hid (BX.out.new hn);replace HF:=hid (HF.out.new hn);replace HN:=hid (HN.out.trans hn);clear hn;go_upto_region 7 with (fail);obtain ⟨⟨pa0,pa1,pa2,pa3⟩,pa4,pa5,pa6,pa7,pa8⟩:=BX.out.four;go_wp2_with fail;refine (HSQ.out _ _ HF.out).mono ?_;rintro e w4 ⟨s5,a5,l5,c5,t5,d5,m5,k5,rfl,hn,hi1,hi2⟩;clear pa0 pa1 pa2 pa3 pa4 pa5 pa6 pa7 pa8;have HI1:=hid hi1;have HI2:=hid hi2;clear hi1 hi2;replace BP:=hid (BP.out.new hn);replace BX:=hid (BX.out.new hn);replace HF:=hid (HF.out.new hn);replace HN:=hid (HN.out.trans hn);clear hn;go_upto_region 8 with (fail);have HN0:=HN;clear HN;obtain ⟨BR,HN⟩:=lay1 w4 115 #[.int .i64 s5,.slice a5 l5 c5,.int .i64 t5,.slice d5 m5 k5];replace BP:=hid (BP.out.new HN.out);replace BX:=hid (BX.out.new HN.out);replace HF:=hid (HF.out.new HN.out);replace HI1:=hid (HI1.out.new HN.out);replace HI2:=hid (HI2.out.new HN.out);have HN_:=HN0.out.trans HN.out;clear HN HN0;have HN:=hid HN_;clear HN_;clear BR HI1 HI2;obtain ⟨w5,hw5⟩:∃ x,w4.alloc (.cells #[.int .i64 s5,.slice a5 l5 c5,.int .i64 t5,.slice d5 m5 k5] 115)=x:=⟨_,rfl⟩;rw[hw5] at BP BX HF HN⊢;clear hw5;go_upto_region 10 with (fail);have HN1:=HN;clear HN;have BPL:=hid BP.out.lt
 go_cut [8] (fun x wx=>∃ (P:Nat),x=.pointer (some ⟨P,0,none⟩)∧New w5 wx∧w5.heap.size≤P∧IntAt wx P m)
 case first=>
  have HN:=hid (New.refl w5);obtain ⟨⟨pa0,pa1,pa2,pa3⟩,pa4,pa5,pa6,pa7,pa8⟩:=BX.out.four;refine wp_region_T 6 (fun W=>W.cell? ⟨w2.heap.size,0,none⟩=some (.int .i64 s2)∧W.cell? ⟨w2.heap.size,1,none⟩=some (.slice a2 l2 c2)∧W.cell? ⟨w2.heap.size,2,none⟩=some (.int .i64 t2)∧W.cell? ⟨w2.heap.size,3,none⟩=some (.slice d2 m2 k2)) 7 #[false,false,false,false,false,false,false] rfl (by kernel_rfl) (by kernel_rfl) ?_;clear pa0 pa1 pa2 pa3 pa4 pa5 pa6 pa7 pa8;replace BX:=hid (BX.out.new (New.refl w5).drew);replace HF:=hid (HF.out.new (New.refl w5).drew);replace HN:=hid (HN.out.drew);obtain ⟨wdr,hwd⟩:∃ x,w5.drew=x:=⟨_,rfl⟩;rw[hwd] at HN BX HF⊢;clear hwd;obtain ⟨⟨pa0,pa1,pa2,pa3⟩,pa4,pa5,pa6,pa7,pa8⟩:=BX.out.four;refine tk 0 (by exact ⟨pa0,pa1,pa2,pa3⟩) ?_
  try simp only[PT]
  refine wpT_two 1 5 rfl rfl (by kernel_rfl) (fun K hK=>?_) (fun K hK=>?_)
  ·skip
   go_simp;refine (HF6.out _).mono ?_;rintro e w6 ⟨v6,rfl,hn,hf⟩;have HF2:=hid hf;clear hf;clear pa0 pa1 pa2 pa3 pa4 pa5 pa6 pa7 pa8;replace BX:=hid (BX.out.new hn);replace HF:=hid (HF.out.new hn);replace HN:=hid (HN.out.trans hn);clear hn;obtain ⟨⟨pa0,pa1,pa2,pa3⟩,pa4,pa5,pa6,pa7,pa8⟩:=BX.out.four;refine hK.out _ _ (fun _=>?_) ?_
   ·exact ⟨pa0,pa1,pa2,pa3⟩
   clear hK K
   try simp only[PT]
   refine wpT_two 2 5 rfl rfl (by kernel_rfl) (fun K hK=>?_) (fun K hK=>?_)
   ·skip
    go_simp;refine (HMU.out _ _ _ HF.out HF2.out).mono ?_;rintro e w7 ⟨v7,rfl,hn,hf⟩;clear HF2;have HF3:=hid hf;clear hf;clear pa0 pa1 pa2 pa3 pa4 pa5 pa6 pa7 pa8;replace BX:=hid (BX.out.new hn);replace HF:=hid (HF.out.new hn);replace HN:=hid (HN.out.trans hn);clear hn;obtain ⟨⟨pa0,pa1,pa2,pa3⟩,pa4,pa5,pa6,pa7,pa8⟩:=BX.out.four;refine hK.out _ _ (fun _=>?_) ?_
    ·exact ⟨pa0,pa1,pa2,pa3⟩
    clear hK K
    try simp only[PT]
    refine wpT_two 3 5 rfl rfl (by kernel_rfl) (fun K hK=>?_) (fun K hK=>?_)
    ·skip
     go_simp;refine (HFL.out _ _ HF3.out).mono ?_;rintro e w8 ⟨v8,rfl,hn,hi⟩;clear HF3;have HI4:=hid hi;clear hi;clear pa0 pa1 pa2 pa3 pa4 pa5 pa6 pa7 pa8;replace BX:=hid (BX.out.new hn);replace HF:=hid (HF.out.new hn);replace HN:=hid (HN.out.trans hn);clear hn;obtain ⟨⟨pa0,pa1,pa2,pa3⟩,pa4,pa5,pa6,pa7,pa8⟩:=BX.out.four;refine hK.out _ _ (fun _=>?_) ?_
     ·exact ⟨pa0,pa1,pa2,pa3⟩
     clear hK K
     try simp only[PT]
     refine wpT_two 4 5 rfl rfl (by kernel_rfl) (fun K hK=>?_) (fun K hK=>?_)
     ·skip
      go_simp;refine (HS2.out _ _ HI4.out).mono ?_;rintro e w9 ⟨v9,rfl,hn,hi⟩;obtain ⟨s9,a9,l9,k9,rfl⟩:=hi.shape;clear HI4;have HI9:=hid hi;clear hi;clear pa0 pa1 pa2 pa3 pa4 pa5 pa6 pa7 pa8;replace BX:=hid (BX.out.new hn);replace HF:=hid (HF.out.new hn);replace HN:=hid (HN.out.trans hn);clear hn;obtain ⟨⟨pa0,pa1,pa2,pa3⟩,pa4,pa5,pa6,pa7,pa8⟩:=BX.out.four;refine hK.out _ _ (fun _=>?_) ?_
      ·exact ⟨pa0,pa1,pa2,pa3⟩
      clear hK K
      try simp only[PT]
      refine wpT_one 5 rfl (by kernel_rfl) (fun K hK=>?_);go_simp;clear pa0 pa1 pa2 pa3 pa4 pa5 pa6 pa7 pa8;have LBM:=hid (HN.out.size);obtain ⟨wa1,hwa,BM_,hn⟩:=laid1 w9 113 #[.int .i64 0,.slice none 0 0];rw[hwa];clear hwa;have BM:=hid BM_;clear BM_;replace BX:=hid (BX.out.new hn);replace HF:=hid (HF.out.new hn);replace HI9:=hid (HI9.out.new hn);replace HN:=hid (HN.out.trans hn);clear hn;obtain ⟨⟨pa0,pa1,pa2,pa3⟩,pa4,pa5,pa6,pa7,pa8⟩:=BX.out.four;refine hK.out _ _ (fun _=>?_) ?_
      ·exact ⟨pa0,pa1,pa2,pa3⟩
      clear hK K
      try simp only[PT]
      refine wpT_tail rfl (by kernel_rfl) ?_;simp only[List.drop_succ_cons,List.drop_zero];obtain ⟨u0,u1,u2,u3,u4⟩:=BM.out.two;go_wp2_with fail
      go_meet
      exact ⟨_,rfl,HN.out.putAt BM.out LBM.out _ _,LBM.out,⟨_,_,_,_,BM.out.put2 _ _,HI9.out.put2 BM.out _ _ _ _⟩⟩
     ·skip
      go_simp;clear pa0 pa1 pa2 pa3 pa4 pa5 pa6 pa7 pa8;have LBM:=hid (HN.out.size);obtain ⟨wa1,hwa,BM_,hn⟩:=laid1 w8 113 #[.int .i64 0,.slice none 0 0];rw[hwa];clear hwa;have BM:=hid BM_;clear BM_;replace BX:=hid (BX.out.new hn);replace HF:=hid (HF.out.new hn);replace HI4:=hid (HI4.out.new hn);replace HN:=hid (HN.out.trans hn);clear hn;obtain ⟨⟨pa0,pa1,pa2,pa3⟩,pa4,pa5,pa6,pa7,pa8⟩:=BX.out.four;refine hK.out _ _ (fun _=>?_) ?_
      ·exact ⟨pa0,pa1,pa2,pa3⟩
      clear hK K
      try simp only[PT]
      refine wpT_one 4 rfl (by kernel_rfl) (fun K hK=>?_);go_simp;refine (HS2.out _ _ HI4.out).mono ?_;rintro e w9 ⟨v9,rfl,hn,hi⟩;obtain ⟨s9,a9,l9,k9,rfl⟩:=hi.shape;clear HI4;have HI9:=hid hi;clear hi;clear pa0 pa1 pa2 pa3 pa4 pa5 pa6 pa7 pa8;replace BX:=hid (BX.out.new hn);replace HF:=hid (HF.out.new hn);replace BM:=hid (BM.out.new hn);replace HN:=hid (HN.out.trans hn);clear hn;obtain ⟨⟨pa0,pa1,pa2,pa3⟩,pa4,pa5,pa6,pa7,pa8⟩:=BX.out.four;refine hK.out _ _ (fun _=>?_) ?_
      ·exact ⟨pa0,pa1,pa2,pa3⟩
      clear hK K
      try simp only[PT]
      refine wpT_tail rfl (by kernel_rfl) ?_;simp only[List.drop_succ_cons,List.drop_zero];obtain ⟨u0,u1,u2,u3,u4⟩:=BM.out.two;go_wp2_with fail
      go_meet
      exact ⟨_,rfl,HN.out.putAt BM.out LBM.out _ _,LBM.out,⟨_,_,_,_,BM.out.put2 _ _,HI9.out.put2 BM.out _ _ _ _⟩⟩
    ·skip
     go_simp;clear pa0 pa1 pa2 pa3 pa4 pa5 pa6 pa7 pa8;have LBM:=hid (HN.out.size);obtain ⟨wa1,hwa,BM_,hn⟩:=laid1 w7 113 #[.int .i64 0,.slice none 0 0];rw[hwa];clear hwa;have BM:=hid BM_;clear BM_;replace BX:=hid (BX.out.new hn);replace HF:=hid (HF.out.new hn);replace HF3:=hid (HF3.out.new hn);replace HN:=hid (HN.out.trans hn);clear hn;obtain ⟨⟨pa0,pa1,pa2,pa3⟩,pa4,pa5,pa6,pa7,pa8⟩:=BX.out.four;refine hK.out _ _ (fun _=>?_) ?_
     ·exact ⟨pa0,pa1,pa2,pa3⟩
     clear hK K
     try simp only[PT]
     refine wpT_one 3 rfl (by kernel_rfl) (fun K hK=>?_);go_simp;refine (HFL.out _ _ HF3.out).mono ?_;rintro e w8 ⟨v8,rfl,hn,hi⟩;clear HF3;have HI4:=hid hi;clear hi;clear pa0 pa1 pa2 pa3 pa4 pa5 pa6 pa7 pa8;replace BX:=hid (BX.out.new hn);replace HF:=hid (HF.out.new hn);replace BM:=hid (BM.out.new hn);replace HN:=hid (HN.out.trans hn);clear hn;obtain ⟨⟨pa0,pa1,pa2,pa3⟩,pa4,pa5,pa6,pa7,pa8⟩:=BX.out.four;refine hK.out _ _ (fun _=>?_) ?_
     ·exact ⟨pa0,pa1,pa2,pa3⟩
     clear hK K
     try simp only[PT]
     refine wpT_one 4 rfl (by kernel_rfl) (fun K hK=>?_);go_simp;refine (HS2.out _ _ HI4.out).mono ?_;rintro e w9 ⟨v9,rfl,hn,hi⟩;obtain ⟨s9,a9,l9,k9,rfl⟩:=hi.shape;clear HI4;have HI9:=hid hi;clear hi;clear pa0 pa1 pa2 pa3 pa4 pa5 pa6 pa7 pa8;replace BX:=hid (BX.out.new hn);replace HF:=hid (HF.out.new hn);replace BM:=hid (BM.out.new hn);replace HN:=hid (HN.out.trans hn);clear hn;obtain ⟨⟨pa0,pa1,pa2,pa3⟩,pa4,pa5,pa6,pa7,pa8⟩:=BX.out.four;refine hK.out _ _ (fun _=>?_) ?_
     ·exact ⟨pa0,pa1,pa2,pa3⟩
     clear hK K
     try simp only[PT]
     refine wpT_tail rfl (by kernel_rfl) ?_;simp only[List.drop_succ_cons,List.drop_zero];obtain ⟨u0,u1,u2,u3,u4⟩:=BM.out.two;go_wp2_with fail
     go_meet
     exact ⟨_,rfl,HN.out.putAt BM.out LBM.out _ _,LBM.out,⟨_,_,_,_,BM.out.put2 _ _,HI9.out.put2 BM.out _ _ _ _⟩⟩
   ·skip
    go_simp;clear pa0 pa1 pa2 pa3 pa4 pa5 pa6 pa7 pa8;have LBM:=hid (HN.out.size);obtain ⟨wa1,hwa,BM_,hn⟩:=laid1 w6 113 #[.int .i64 0,.slice none 0 0];rw[hwa];clear hwa;have BM:=hid BM_;clear BM_;replace BX:=hid (BX.out.new hn);replace HF:=hid (HF.out.new hn);replace HF2:=hid (HF2.out.new hn);replace HN:=hid (HN.out.trans hn);clear hn;obtain ⟨⟨pa0,pa1,pa2,pa3⟩,pa4,pa5,pa6,pa7,pa8⟩:=BX.out.four;refine hK.out _ _ (fun _=>?_) ?_
    ·exact ⟨pa0,pa1,pa2,pa3⟩
    clear hK K
    try simp only[PT]
    refine wpT_one 2 rfl (by kernel_rfl) (fun K hK=>?_);go_simp;refine (HMU.out _ _ _ HF.out HF2.out).mono ?_;rintro e w7 ⟨v7,rfl,hn,hf⟩;clear HF2;have HF3:=hid hf;clear hf;clear pa0 pa1 pa2 pa3 pa4 pa5 pa6 pa7 pa8;replace BX:=hid (BX.out.new hn);replace HF:=hid (HF.out.new hn);replace BM:=hid (BM.out.new hn);replace HN:=hid (HN.out.trans hn);clear hn;obtain ⟨⟨pa0,pa1,pa2,pa3⟩,pa4,pa5,pa6,pa7,pa8⟩:=BX.out.four;refine hK.out _ _ (fun _=>?_) ?_
    ·exact ⟨pa0,pa1,pa2,pa3⟩
    clear hK K
    try simp only[PT]
    refine wpT_one 3 rfl (by kernel_rfl) (fun K hK=>?_);go_simp;refine (HFL.out _ _ HF3.out).mono ?_;rintro e w8 ⟨v8,rfl,hn,hi⟩;clear HF3;have HI4:=hid hi;clear hi;clear pa0 pa1 pa2 pa3 pa4 pa5 pa6 pa7 pa8;replace BX:=hid (BX.out.new hn);replace HF:=hid (HF.out.new hn);replace BM:=hid (BM.out.new hn);replace HN:=hid (HN.out.trans hn);clear hn;obtain ⟨⟨pa0,pa1,pa2,pa3⟩,pa4,pa5,pa6,pa7,pa8⟩:=BX.out.four;refine hK.out _ _ (fun _=>?_) ?_
    ·exact ⟨pa0,pa1,pa2,pa3⟩
    clear hK K
    try simp only[PT]
    refine wpT_one 4 rfl (by kernel_rfl) (fun K hK=>?_);go_simp;refine (HS2.out _ _ HI4.out).mono ?_;rintro e w9 ⟨v9,rfl,hn,hi⟩;obtain ⟨s9,a9,l9,k9,rfl⟩:=hi.shape;clear HI4;have HI9:=hid hi;clear hi;clear pa0 pa1 pa2 pa3 pa4 pa5 pa6 pa7 pa8;replace BX:=hid (BX.out.new hn);replace HF:=hid (HF.out.new hn);replace BM:=hid (BM.out.new hn);replace HN:=hid (HN.out.trans hn);clear hn;obtain ⟨⟨pa0,pa1,pa2,pa3⟩,pa4,pa5,pa6,pa7,pa8⟩:=BX.out.four;refine hK.out _ _ (fun _=>?_) ?_
    ·exact ⟨pa0,pa1,pa2,pa3⟩
    clear hK K
    try simp only[PT]
    refine wpT_tail rfl (by kernel_rfl) ?_;simp only[List.drop_succ_cons,List.drop_zero];obtain ⟨u0,u1,u2,u3,u4⟩:=BM.out.two;go_wp2_with fail
    go_meet
    exact ⟨_,rfl,HN.out.putAt BM.out LBM.out _ _,LBM.out,⟨_,_,_,_,BM.out.put2 _ _,HI9.out.put2 BM.out _ _ _ _⟩⟩
  ·skip
   go_simp;clear pa0 pa1 pa2 pa3 pa4 pa5 pa6 pa7 pa8;have LBM:=hid (HN.out.size);obtain ⟨wa1,hwa,BM_,hn⟩:=laid1 wdr 113 #[.int .i64 0,.slice none 0 0];rw[hwa];clear hwa;have BM:=hid BM_;clear BM_;replace BX:=hid (BX.out.new hn);replace HF:=hid (HF.out.new hn);replace HN:=hid (HN.out.trans hn);clear hn;obtain ⟨⟨pa0,pa1,pa2,pa3⟩,pa4,pa5,pa6,pa7,pa8⟩:=BX.out.four;refine hK.out _ _ (fun _=>?_) ?_
   ·exact ⟨pa0,pa1,pa2,pa3⟩
   clear hK K
   try simp only[PT]
   refine wpT_one 1 rfl (by kernel_rfl) (fun K hK=>?_);go_simp;refine (HF6.out _).mono ?_;rintro e w6 ⟨v6,rfl,hn,hf⟩;have HF2:=hid hf;clear hf;clear pa0 pa1 pa2 pa3 pa4 pa5 pa6 pa7 pa8;replace BX:=hid (BX.out.new hn);replace HF:=hid (HF.out.new hn);replace BM:=hid (BM.out.new hn);replace HN:=hid (HN.out.trans hn);clear hn;obtain ⟨⟨pa0,pa1,pa2,pa3⟩,pa4,pa5,pa6,pa7,pa8⟩:=BX.out.four;refine hK.out _ _ (fun _=>?_) ?_
   ·exact ⟨pa0,pa1,pa2,pa3⟩
   clear hK K
   try simp only[PT]
   refine wpT_one 2 rfl (by kernel_rfl) (fun K hK=>?_);go_simp;refine (HMU.out _ _ _ HF.out HF2.out).mono ?_;rintro e w7 ⟨v7,rfl,hn,hf⟩;clear HF2;have HF3:=hid hf;clear hf;clear pa0 pa1 pa2 pa3 pa4 pa5 pa6 pa7 pa8;replace BX:=hid (BX.out.new hn);replace HF:=hid (HF.out.new hn);replace BM:=hid (BM.out.new hn);replace HN:=hid (HN.out.trans hn);clear hn;obtain ⟨⟨pa0,pa1,pa2,pa3⟩,pa4,pa5,pa6,pa7,pa8⟩:=BX.out.four;refine hK.out _ _ (fun _=>?_) ?_
   ·exact ⟨pa0,pa1,pa2,pa3⟩
   clear hK K
   try simp only[PT]
   refine wpT_one 3 rfl (by kernel_rfl) (fun K hK=>?_);go_simp;refine (HFL.out _ _ HF3.out).mono ?_;rintro e w8 ⟨v8,rfl,hn,hi⟩;clear HF3;have HI4:=hid hi;clear hi;clear pa0 pa1 pa2 pa3 pa4 pa5 pa6 pa7 pa8;replace BX:=hid (BX.out.new hn);replace HF:=hid (HF.out.new hn);replace BM:=hid (BM.out.new hn);replace HN:=hid (HN.out.trans hn);clear hn;obtain ⟨⟨pa0,pa1,pa2,pa3⟩,pa4,pa5,pa6,pa7,pa8⟩:=BX.out.four;refine hK.out _ _ (fun _=>?_) ?_
   ·exact ⟨pa0,pa1,pa2,pa3⟩
   clear hK K
   try simp only[PT]
   refine wpT_one 4 rfl (by kernel_rfl) (fun K hK=>?_);go_simp;refine (HS2.out _ _ HI4.out).mono ?_;rintro e w9 ⟨v9,rfl,hn,hi⟩;obtain ⟨s9,a9,l9,k9,rfl⟩:=hi.shape;clear HI4;have HI9:=hid hi;clear hi;clear pa0 pa1 pa2 pa3 pa4 pa5 pa6 pa7 pa8;replace BX:=hid (BX.out.new hn);replace HF:=hid (HF.out.new hn);replace BM:=hid (BM.out.new hn);replace HN:=hid (HN.out.trans hn);clear hn;obtain ⟨⟨pa0,pa1,pa2,pa3⟩,pa4,pa5,pa6,pa7,pa8⟩:=BX.out.four;refine hK.out _ _ (fun _=>?_) ?_
   ·exact ⟨pa0,pa1,pa2,pa3⟩
   clear hK K
   try simp only[PT]
   refine wpT_tail rfl (by kernel_rfl) ?_;simp only[List.drop_succ_cons,List.drop_zero];obtain ⟨u0,u1,u2,u3,u4⟩:=BM.out.two;go_wp2_with fail
   go_meet
   exact ⟨_,rfl,HN.out.putAt BM.out LBM.out _ _,LBM.out,⟨_,_,_,_,BM.out.put2 _ _,HI9.out.put2 BM.out _ _ _ _⟩⟩
 case rest=>
  obtain ⟨P,rfl,hn,hP,s9,a9,l9,k9,hb9,hi9⟩:=hcut;obtain ⟨w10,hw10⟩:∃ x,x=wc:=⟨_,rfl⟩;rw[←hw10] at hn hb9 hi9⊢;clear hw10
  have hne:w.heap.size≠P:=by have:=BPL.out;omega
  replace BP:=hid (BP.out.new hn);have HN:=hid (HN1.out.trans hn);clear HN1 hn hP BPL BX HF;have BM:=hid hb9;have IM:=hid hi9;have HNE:=hid hne;clear hb9 hi9 hne;go_upto_region 11 with (fail);obtain ⟨pb0,pb1,pb2,pb3,pb4⟩:=BM.out.two;refine wp_region_T 12 (fun W=>W.cell? ⟨P,0,none⟩=some (.int .i64 s9)∧W.cell? ⟨P,1,none⟩=some (.slice a9 l9 k9)) 13 #[false,false,false,false,false,false,false,false,false,false,false,false,false] rfl (by kernel_rfl) (by kernel_rfl) ?_;refine tk 0 (by exact ⟨pb0,pb1⟩) ?_
  try simp only[List.getElem_toArray,List.getElem_cons_zero,Act.put,List.setIfInBounds_toArray,List.set_cons_zero,List.set_cons_succ]
  refine tk 3 (by exact ⟨pb0,pb1⟩) ?_
  try simp only[List.getElem_toArray,List.getElem_cons_zero,List.getElem_cons_succ,Act.put,List.setIfInBounds_toArray,List.set_cons_zero,List.set_cons_succ]
  refine wpT_one 1 rfl (by kernel_rfl) (fun K hK=>?_)
  try simp only[List.getElem_toArray,List.getElem_cons_zero,List.getElem_cons_succ]
  go_simp;refine (of_calls 1000 _).mono ?_;rintro e y1 ⟨rfl,hn⟩;have hn:=hn.undrew;clear pb0 pb1 pb2 pb3 pb4;replace BP:=hid (BP.out.new hn);replace BM:=hid (BM.out.new hn);replace IM:=hid (IM.out.new hn);replace HN:=hid (HN.out.trans hn);clear hn;obtain ⟨pb0,pb1,pb2,pb3,pb4⟩:=BM.out.two;refine hK.out _ _ (fun _=>?_) ?_
  ·exact ⟨pb0,pb1⟩
  clear hK K
  try simp only[List.setIfInBounds_toArray,List.set_cons_zero,List.set_cons_succ]
  refine wpT_one 2 rfl (by kernel_rfl) (fun K hK=>?_)
  try simp only[List.getElem_toArray,List.getElem_cons_zero,List.getElem_cons_succ]
  go_simp;refine (HMK.out _ _ _ IM.out (I1000.out _)).mono ?_;rintro e y2 ⟨v12,rfl,hn,hf⟩;have HG1:=hid hf;clear hf;clear pb0 pb1 pb2 pb3 pb4;replace BP:=hid (BP.out.new hn);replace BM:=hid (BM.out.new hn);replace IM:=hid (IM.out.new hn);replace HN:=hid (HN.out.trans hn);clear hn;obtain ⟨pb0,pb1,pb2,pb3,pb4⟩:=BM.out.two;refine hK.out _ _ (fun _=>?_) ?_
  ·exact ⟨pb0,pb1⟩
  clear hK K
  try simp only[List.setIfInBounds_toArray,List.set_cons_zero,List.set_cons_succ]
  refine wpT_one 4 rfl (by kernel_rfl) (fun K hK=>?_)
  try simp only[List.getElem_toArray,List.getElem_cons_zero,List.getElem_cons_succ]
  go_simp;refine (of_calls 1 _).mono ?_;rintro e y3 ⟨rfl,hn⟩;clear pb0 pb1 pb2 pb3 pb4;replace BP:=hid (BP.out.new hn);replace BM:=hid (BM.out.new hn);replace IM:=hid (IM.out.new hn);replace HG1:=hid (HG1.out.new hn);replace HN:=hid (HN.out.trans hn);clear hn;obtain ⟨pb0,pb1,pb2,pb3,pb4⟩:=BM.out.two;refine hK.out _ _ (fun _=>?_) ?_
  ·exact ⟨pb0,pb1⟩
  clear hK K
  try simp only[List.setIfInBounds_toArray,List.set_cons_zero,List.set_cons_succ]
  refine wpT_one 5 rfl (by kernel_rfl) (fun K hK=>?_)
  try simp only[List.getElem_toArray,List.getElem_cons_zero,List.getElem_cons_succ]
  go_simp;refine (HAD.out _ _ _ IM.out (IONE.out _)).mono ?_;rintro e y4 ⟨v14,rfl,hn,hi⟩;have HI5:=hid hi;clear hi;clear pb0 pb1 pb2 pb3 pb4;replace BP:=hid (BP.out.new hn);replace BM:=hid (BM.out.new hn);replace IM:=hid (IM.out.new hn);replace HG1:=hid (HG1.out.new hn);replace HN:=hid (HN.out.trans hn);clear hn;obtain ⟨pb0,pb1,pb2,pb3,pb4⟩:=BM.out.two;refine hK.out _ _ (fun _=>?_) ?_
  ·exact ⟨pb0,pb1⟩
  clear hK K
  try simp only[List.setIfInBounds_toArray,List.set_cons_zero,List.set_cons_succ]
  refine wpT_one 6 rfl (by kernel_rfl) (fun K hK=>?_)
  try simp only[List.getElem_toArray,List.getElem_cons_zero,List.getElem_cons_succ]
  go_simp;refine (of_calls 1000 _).mono ?_;rintro e y5 ⟨rfl,hn⟩;clear pb0 pb1 pb2 pb3 pb4;replace BP:=hid (BP.out.new hn);replace BM:=hid (BM.out.new hn);replace IM:=hid (IM.out.new hn);replace HG1:=hid (HG1.out.new hn);replace HI5:=hid (HI5.out.new hn);replace HN:=hid (HN.out.trans hn);clear hn;obtain ⟨pb0,pb1,pb2,pb3,pb4⟩:=BM.out.two;refine hK.out _ _ (fun _=>?_) ?_
  ·exact ⟨pb0,pb1⟩
  clear hK K
  try simp only[List.setIfInBounds_toArray,List.set_cons_zero,List.set_cons_succ]
  refine wpT_one 7 rfl (by kernel_rfl) (fun K hK=>?_)
  try simp only[List.getElem_toArray,List.getElem_cons_zero,List.getElem_cons_succ]
  go_simp;refine (HMK2.out _ _ _ HI5.out (I1000.out _)).mono ?_;rintro e y6 ⟨v16,rfl,hn,hf⟩;clear HI5;have HG2:=hid hf;clear hf;clear pb0 pb1 pb2 pb3 pb4;replace BP:=hid (BP.out.new hn);replace BM:=hid (BM.out.new hn);replace HG1:=hid (HG1.out.new hn);replace HN:=hid (HN.out.trans hn);clear hn;obtain ⟨pb0,pb1,pb2,pb3,pb4⟩:=BM.out.two;refine hK.out _ _ (fun _=>?_) ?_
  ·exact ⟨pb0,pb1⟩
  clear hK K
  try simp only[List.setIfInBounds_toArray,List.set_cons_zero,List.set_cons_succ]
  refine wpT_one 8 rfl (by kernel_rfl) (fun K hK=>?_)
  try simp only[List.getElem_toArray,List.getElem_cons_zero,List.getElem_cons_succ]
  go_simp;refine (HSP.out _ _ _ HG1.out HG2.out (HE.out.new HN.out)).mono ?_;rintro e y7 ⟨rfl,hn⟩;clear HG1 HG2;clear pb0 pb1 pb2 pb3 pb4;replace BP:=hid (BP.out.new hn);replace BM:=hid (BM.out.new hn);replace HN:=hid (HN.out.trans hn);clear hn;obtain ⟨pb0,pb1,pb2,pb3,pb4⟩:=BM.out.two;obtain ⟨p0,p1,p2,p3,p4⟩:=BP.out.two;refine hK.out _ _ (fun _=>?_) ?_
  ·exact ⟨pb0,pb1⟩
  clear hK K
  try simp only[List.setIfInBounds_toArray,List.set_cons_zero,List.set_cons_succ]
  refine tk 9 (by exact ⟨pb0,pb1⟩) ?_
  try simp only[List.getElem_toArray,List.getElem_cons_zero,List.getElem_cons_succ,Act.put,List.setIfInBounds_toArray,List.set_cons_zero,List.set_cons_succ]
  refine tk 10 (by exact ⟨pb0,pb1⟩) ?_
  try simp only[List.getElem_toArray,List.getElem_cons_zero,List.getElem_cons_succ,Act.put,List.setIfInBounds_toArray,List.set_cons_zero,List.set_cons_succ]
  refine wpT_one 11 rfl (by kernel_rfl) (fun K hK=>?_)
  try simp only[List.getElem_toArray,List.getElem_cons_zero,List.getElem_cons_succ]
  go_simp;clear pb0 pb1 pb2 pb3 pb4 p0 p1 p2 p3 p4;have BM_:=BM.out.otheri HNE.out (.string X) (.string Y);have BP_:=BP.out.put2 (.string X) (.string Y);have HN_:=HN.out.put2 (B:=w.heap.size) (by omega) (.string X) (.string Y);clear BM BP HN;have BM:=hid BM_;have BP:=hid BP_;have HN:=hid HN_;clear BM_ BP_ HN_;obtain ⟨pb0,pb1,pb2,pb3,pb4⟩:=BM.out.two;refine hK.out _ _ (fun _=>?_) ?_
  ·exact ⟨pb0,pb1⟩
  clear hK K
  try simp only[List.setIfInBounds_toArray,List.set_cons_zero,List.set_cons_succ]
  refine wpT_tail rfl (by kernel_rfl) ?_;simp only[List.drop_succ_cons,List.drop_zero];clear pb0 pb1 pb2 pb3 pb4;obtain ⟨p0,p1,p2,p3,p4⟩:=BP.out.two;go_wp2_with fail;refine bodyPost_ret (v:=.tuple #[.agg #[.string X,.string Y],.int .i64 0]) (by simp[results,Tryz.results31,go_sem,p0,p1]) rfl ?_;exact ⟨rfl,HN.out⟩
def fq (x:Nat):Rat:=Rat.divInt (Flo.sval Ieee.single x) (2^149)
theorem pos_float {x:Nat}(h:x < 2139095040):Flo.sgn Ieee.single x=false∧Flo.rung Ieee.single x=x∧Flo.Fin Ieee.single x∧Flo.sval Ieee.single x=(Flo.V Ieee.single x:Int):=by
 have hr:Flo.rung Ieee.single x=x:=by unfold Flo.rung;rw[Flo.ssw];omega
 have hs:Flo.sgn Ieee.single x=false:=by unfold Flo.sgn;rw[Flo.ssw];simp;omega
 refine ⟨hs,hr,by unfold Flo.Fin;rw[hr,Flo.sinf];exact h,?_⟩;unfold Flo.sval;rw[hs,hr];rfl
theorem neg_float {r:Nat}(h:r < 2139095040):Flo.sgn Ieee.single (2147483648+r)=true∧Flo.rung Ieee.single (2147483648+r)=r∧Flo.Fin Ieee.single (2147483648+r)∧Flo.sval Ieee.single (2147483648+r)= -(Flo.V Ieee.single r:Int):=by
 have hr:Flo.rung Ieee.single (2147483648+r)=r:=by unfold Flo.rung;rw[Flo.ssw];omega
 have hs:Flo.sgn Ieee.single (2147483648+r)=true:=by
  unfold Flo.sgn;rw[Flo.ssw]
  have:(2147483648+r) / 2147483648=1:=by omega
  rw[this];rfl
 refine ⟨hs,hr,by unfold Flo.Fin;rw[hr,Flo.sinf];exact h,?_⟩;unfold Flo.sval;rw[hs,hr];rfl
theorem cmp_gt (a b:Int):(some (compare a b)==some Ordering.gt)=decide (b < a):=by
 rw[Flo.compare_int];by_cases h1:a < b
 ·rw[if_pos h1,decide_eq_false (by omega)];rfl
 ·rw[if_neg h1];by_cases h2:a=b
  ·rw[if_pos h2,decide_eq_false (by omega)];rfl
  ·rw[if_neg h2,decide_eq_true (by omega)];rfl
theorem cmp_eq (a b:Int):(some (compare a b)==some Ordering.eq)=decide (a=b):=by
 rw[Flo.compare_int];by_cases h1:a < b
 ·rw[if_pos h1,decide_eq_false (by omega)];rfl
 ·rw[if_neg h1];by_cases h2:a=b
  ·rw[if_pos h2,decide_eq_true h2];rfl
  ·rw[if_neg h2,decide_eq_false h2];rfl
theorem ord_pos {x y:Nat}(hx:x < 2139095040)(hy:y < 2139095040):FloatKind.f32.format.order x y=some (compare (Flo.V Ieee.single x:Int) (Flo.V Ieee.single y:Int)):=by
 have:=Flo.order_fin Ieee.single (pos_float hx).2.2.1 (pos_float hy).2.2.1;rw[(pos_float hx).2.2.2,(pos_float hy).2.2.2] at this;exact this
theorem part_step {z U:Nat}(hU:U=2^149)(hz:Flo.V Ieee.single z < 16777216*U)(hn:¬Flo.V Ieee.single z % U=0):Flo.V Ieee.single z*2 < 16777216*U∧z≠0∧z < 1258291200:=by
 have h1:z < 1258291200:=by
  rcases Nat.lt_or_ge z 1258291200 with h | h
  ·exact h
  ·exfalso;apply hn
   have hb:¬z < 8388608:=by omega
   unfold Flo.V;rw[Flo.sbin,if_neg hb];obtain ⟨k,hk⟩:∃ k,z / 8388608 - 1=149+k:=⟨z / 8388608 - 150,by omega⟩;rw[hk,Nat.pow_add,←hU,Nat.mul_comm U,←Nat.mul_assoc];exact Nat.mul_mod_left _ _
 refine ⟨?_,?_,h1⟩
 ·have h2:=Flo.V_lt Ieee.single h1
  have h3:Flo.V Ieee.single 1258291200=8388608*U:=by rw[hU];decide +kernel
  rw[h3]at h2;omega
 ·intro h;rw[h,Flo.V_zero] at hn;exact hn (Nat.zero_mod _)
theorem stepQ_div (j i:Nat):stepQ ((j:Int) - (i:Int))=Rat.divInt (2^j) (2^i):=by
 unfold stepQ;split
 ·have e:(-((j:Int) - (i:Int))).toNat=i - j:=by omega
  rw[e,int_divInt,Rat.inv_divInt];have:=Rat.divInt_mul_right (n:=1) (d:=(2:Int)^(i - j)) (a:=(2:Int)^j) (Int.ne_of_gt (Int.pow_pos (by decide)));rw[←this,Int.one_mul,←Int.pow_add];congr 2;omega
 ·have e:((j:Int) - (i:Int)).toNat=j - i:=by omega
  rw[e,int_divInt];have:=Rat.divInt_mul_right (n:=(2:Int)^(j - i)) (d:=1) (a:=(2:Int)^i) (Int.ne_of_gt (Int.pow_pos (by decide)));rw[←this,Int.one_mul,←Int.pow_add];congr 2;omega
theorem part_val {x n i j:Nat}(hx:x < 2139095040)(h:Flo.V Ieee.single x*2^i=n*2^149*2^j):((n:Int):Rat)*stepQ ((j:Int) - (i:Int))=fq x:=by
 unfold fq;rw[stepQ_div,int_divInt,Rat.divInt_mul_divInt,(pos_float hx).2.2.2];have h1:(1:Int)*2^i≠0:=Int.mul_ne_zero (by decide) (Int.ne_of_gt (Int.pow_pos (by decide)));have h2:(2:Int)^149≠0:=Int.ne_of_gt (Int.pow_pos (by decide));rw[Rat.divInt_eq_divInt_iff h1 h2]
 have h3:((Flo.V Ieee.single x*2^i:Nat):Int)=((n*2^149*2^j:Nat):Int):=by rw[h]
 rw[Int.natCast_mul,Int.natCast_mul,Int.natCast_mul,Int.natCast_pow,Int.natCast_pow,Int.natCast_pow]at h3;rw[Int.one_mul];rw[Int.mul_right_comm] at h3;exact h3.symm
theorem fq_neg {r:Nat}(h:r < 2139095040):fq (2147483648+r)= -fq r:=by
 unfold fq;rw[(neg_float h).2.2.2,(pos_float h).2.2.2,Rat.neg_divInt]
end Go.Proofs.YtnjonlnemagomaaGreatDoor
namespace Go.Proofs.YtnjonlnemagomaaGreatDoor.Flo
set_option maxRecDepth 100000
set_option maxHeartbeats 8000000
open Ieee
def sw (s:Bool)(x:Nat):Nat:=if s then 2147483648+x else x
theorem sw_word (s:Bool)(x:Nat):single.word s x=sw s x:=by
 unfold Format.word sw;rw[ssw]
theorem sw_fin (s:Bool){x:Nat}(h:x < 2139095040):sgn single (sw s x)=s∧rung single (sw s x)=x∧Fin single (sw s x)∧sval single (sw s x)=if s then -(V single x:Int) else (V single x:Int):=by
 cases s
 ·exact pos_float h
 ·exact neg_float h
theorem sread_sw (s:Bool){x:Nat}(h:x < 2139095040):∃ m k:Nat,single.read (sw s x)=.number s m (-149+(k:Int))∧m*2^k=V single x:=by
 obtain ⟨h1,h2,h3, -⟩:=sw_fin s h;obtain ⟨m,k,h4,h5⟩:=read_fin single h3;rw[h1,slp] at h4;rw[h2] at h5;exact ⟨m,k,h4,h5⟩
theorem sdouble_sw (s:Bool){x:Nat}(h0:x≠0)(h:x < 2130706432):single.mul (sw s x) 1073741824=some (sw s (dbl x)):=by
 obtain ⟨m,k,h1,h2⟩:=sread_sw s (x:=x) (by omega)
 have h3:single.read 1073741824=.number false 8388608 (-22):=by decide
 have hm:m≠0:=by
  intro hm;rw[hm,Nat.zero_mul] at h2;have:=V_lt single (r:=0) (r':=x) (by omega);rw[V_zero] at this;omega
 unfold Format.mul;rw[h1,h3];show some (single.nearest (s ^^ false) (m*8388608) (-149+(k:Int)+ -22))=_;rw[Bool.xor_false];congr 1;have:=nearest_rung s (m:=m*8388608) (r:=dbl x) (p:= -149+(k:Int)+ -22) (Nat.mul_ne_zero hm (by decide)) (by unfold dbl;split <;> omega);rw[V_dbl,←h2,sw_word] at this;rw[this]
 have e8:(8388608:Nat)=2^23:=by decide
 rw[e8,Nat.mul_assoc,←Nat.pow_add,show 2*(m*2^k)=m*2^(k+1) by rw[Nat.pow_succ];rw[←Nat.mul_assoc m];omega,Nat.mul_assoc,←Nat.pow_add];congr 2;omega
theorem shalve_sw (s:Bool){x y:Nat}(hxy:x=y+8388608)(hlo:16777216≤x)(h:x < 2139095040):single.div (sw s x) 1073741824=some (sw s y):=by
 have h3:single.read 1073741824=.number false 8388608 (-22):=by decide
 have hV:V single x=2*V single y:=by
  rw[hxy];exact V_up (x:=y) (by omega)
 have h1:single.read (sw s x)=.number s (8388608+x % 8388608) (-149+((x / 8388608 - 1:Nat):Int)):=by
  unfold Format.read sw;simp only;rw[ssw,sbin,sinf,slp]
  cases s
  ·have e1:x / 2147483648 % 2=0:=by omega
   have e2:x % 2147483648=x:=by omega
   simp only[Bool.false_eq_true,if_false];rw[e1,e2,if_neg (by omega),if_pos h];rfl
  ·have e1:(2147483648+x) / 2147483648 % 2=1:=by omega
   have e2:(2147483648+x) % 2147483648=x:=by omega
   simp only[if_true];rw[e1,e2,if_neg (by omega),if_pos h];rfl
 have h2:(8388608+x % 8388608)*2^(x / 8388608 - 1)=V single x:=by
  unfold V;rw[sbin,if_neg (by omega)]
 unfold Format.div;rw[h1,h3];obtain ⟨m,hme⟩:∃ m,8388608+x % 8388608=m:=⟨_,rfl⟩;obtain ⟨k,hk⟩:∃ k,x / 8388608 - 1=k:=⟨_,rfl⟩
 have hml:8388608≤m:=by omega
 have hmh:m < 16777216:=by omega
 rw[hme,hk]at h2⊢
 have hm0:m≠0:=by omega
 have hM:m.log2=23:=by
  have a1:=(Nat.le_log2 hm0 (k:=23)).2 (by omega);have a2:=log2_small hm0 hmh;omega
 have e0:(8388608:Nat).log2=23:=by decide
 have e1:m <<< (single.fractionBits+2+(8388608:Nat).log2 - m.log2)=8388608*(4*m):=by
  rw[hM,e0,sfb,Nat.shiftLeft_eq];show m*2^25=_;omega
 have e2:8388608*(4*m) / 8388608=4*m:=Nat.mul_div_cancel_left _ (by decide);have e3:8388608*(4*m) % 8388608=0:=Nat.mul_mod_right _ _;unfold Datum.quotient;simp only[show ¬(8388608:Nat)=0 by decide,if_false,Option.map_some];rw[e1,e2,e3,hM,e0,sfb];show some (single.nearest (s ^^ false) (2*(4*m)+0) _)=_;rw[Bool.xor_false];refine congrArg some ?_;have:=nearest_rung s (m:=2*(4*m)+0) (r:=y) (p:= -149+(k:Int) - -22 - ((23+2+23 - 23:Nat):Int) - 1) (by omega) (by omega);rw[this,sw_word]
 have hk1:1≤k:=by omega
 obtain ⟨j,rfl⟩:∃ j,k=j+1:=⟨k - 1,by omega⟩
 have hv:V single y=m*2^j:=by
  rw[Nat.pow_succ,←Nat.mul_assoc]at h2;omega
 have e8:2*(4*m)+0=m*2^3:=by omega
 have e9:3+(-149+((j+1:Nat):Int) - -22 - ((23+2+23 - 23:Nat):Int) - 1+149).toNat=j+(-149 - (-149+((j+1:Nat):Int) - -22 - ((23+2+23 - 23:Nat):Int) - 1)).toNat:=by omega
 rw[hv,e8,Nat.mul_assoc,←Nat.pow_add,Nat.mul_assoc,←Nat.pow_add,e9]
theorem stoInt_sw (s:Bool){x:Nat}(h:x < 1266679808):floatToIntVal .f32 (sw s x) .i64=some (if s then -((V single x / 2^149:Nat):Int) else ((V single x / 2^149:Nat):Int)):=by
 obtain ⟨m,k,h1,h2⟩:=sread_sw s (x:=x) (by omega)
 have hv:V single x < 16777216*2^149:=by
  rw[←one_unit];exact V_lt single h
 have hlt:V single x / 2^149 < 16777216:=Nat.div_lt_of_lt_mul (by rw[Nat.mul_comm];exact hv)
 have e:(FloatKind.f32.decode (sw s x)).toInt .zero=some (if s then -((V single x / 2^149:Nat):Int) else ((V single x / 2^149:Nat):Int)):=by
  show (single.read (sw s x)).toInt .zero=_;rw[h1];show some (Ieee.signed s (Toward.zero.cut s (m <<< (-149+(k:Int)).toNat) (-(-149+(k:Int))).toNat) 0)=_;rw[zcut,signed_val,Nat.pow_zero,Nat.mul_one,Nat.shiftLeft_eq,←h2]
  have e5:m*2^(-149+(k:Int)).toNat / 2^(-(-149+(k:Int))).toNat=m*2^k / 2^149:=by
   rcases Nat.le_total k 149 with h3 | h3
   ·have e1:(-149+(k:Int)).toNat=0:=by omega
    have e2:(-(-149+(k:Int))).toNat=149 - k:=by omega
    rw[e1,e2,Nat.pow_zero,Nat.mul_one]
    have e3:2^149=2^(149 - k)*2^k:=by rw[←Nat.pow_add];congr 1;omega
    rw[e3,Nat.mul_div_mul_right _ _ (Nat.two_pow_pos k)]
   ·have e1:(-149+(k:Int)).toNat=k - 149:=by omega
    have e2:(-(-149+(k:Int))).toNat=0:=by omega
    rw[e1,e2,Nat.pow_zero,Nat.div_one]
    have e3:2^k=2^(k - 149)*2^149:=by rw[←Nat.pow_add];congr 1;omega
    rw[e3,←Nat.mul_assoc,Nat.mul_div_cancel _ (Nat.two_pow_pos 149)]
  rw[e5]
 obtain ⟨y,hy⟩:∃ y,V single x / 2^149=y:=⟨_,rfl⟩;rw[hy] at e hlt⊢;unfold floatToIntVal;rw[e]
 have a:IntKind.i64.min= -9223372036854775808:=by decide
 have b:IntKind.i64.max=9223372036854775807:=by decide
 have h5:IntKind.i64.min≤(if s then -(y:Int) else (y:Int))∧(if s then -(y:Int) else (y:Int))≤IntKind.i64.max:=by
  rw[a,b]
  cases s
  ·rw[if_neg (by decide)];omega
  ·rw[if_pos rfl];omega
 simp only;rw[if_pos h5]
theorem swhole (s:Bool){z:Nat}(h:z < 1266679808):∃ (r n:Nat) (N:Int),n < 16777216∧N.natAbs=n∧n=V single z / 2^149∧N=(if s then -(n:Int) else (n:Int))∧floatToIntVal .f32 (sw s z) .i64=some N∧floatOfInt .f32 N=r∧(FloatKind.f32.format.order (sw s z) r != some .eq)=!decide (V single z=n*2^149):=by
 have hv:V single z < 16777216*2^149:=by
  rw[←one_unit];exact V_lt single h
 have hlt:V single z / 2^149 < 16777216:=Nat.div_lt_of_lt_mul (by rw[Nat.mul_comm];exact hv);have hi:=stoInt_sw s h;obtain ⟨n,hn⟩:∃ n,V single z / 2^149=n:=⟨_,rfl⟩;rw[hn] at hi hlt⊢;obtain ⟨N,hN⟩:∃ N:Int,(if s then -(n:Int) else (n:Int))=N:=⟨_,rfl⟩;rw[hN] at hi
 have hNn:N.natAbs=n:=by
  rw[←hN]
  cases s
  ·rw[if_neg (by decide)];omega
  ·rw[if_pos rfl];omega
 have hof:floatOfInt .f32 N=vol N 0:=rfl;obtain ⟨h1,h2⟩:=vol_val (d:=N) (s:=0) (by omega) (by omega) (by omega)
 have e0:((0:Int)+149).toNat=149:=by decide
 rw[e0]at h2;refine ⟨vol N 0,n,N,hlt,hNn,rfl,hN.symm,hi,hof,?_⟩;have ho:=order_fin single (sw_fin s (x:=z) (by omega)).2.2.1 h1;rw[(sw_fin s (x:=z) (by omega)).2.2.2,h2] at ho;show (single.order _ _ != _)=_;unfold bne;rw[ho,cmp_eq];congr 1;rw[decide_eq_decide,←hN];have hU:((2:Int)^149)=((2^149:Nat):Int):=(Int.natCast_pow 2 149).symm;rw[hU];generalize (2:Nat)^149=U;generalize V single z=y
 cases s
 ·rw[if_neg (by decide),if_neg (by decide),←Int.natCast_mul];exact Int.natCast_inj
 ·rw[if_pos rfl,if_pos rfl,Int.neg_mul,Int.neg_inj,←Int.natCast_mul];exact Int.natCast_inj
theorem xor_top {x:Nat}(h:x < 2147483648):x ^^^ 2147483648=2147483648+x:=by
 have e:(2147483648:Nat)=2^31:=by decide
 rw[e]at h⊢;apply Nat.eq_of_testBit_eq;intro i;rw[Nat.testBit_xor,Nat.testBit_two_pow];rcases Nat.lt_trichotomy i 31 with h1 | h1 | h1
 ·rw[Nat.testBit_two_pow_add_gt h1];have:decide (31=i)=false:=decide_eq_false (by omega);rw[this,Bool.xor_false]
 ·subst h1;rw[Nat.testBit_two_pow_add_eq];simp
 ·have e1:x.testBit i=false:=Nat.testBit_lt_two_pow (Nat.lt_of_lt_of_le h (Nat.pow_le_pow_right (by decide) (by omega)));have e2:(2^31+x).testBit i=false:=Nat.testBit_lt_two_pow (Nat.lt_of_lt_of_le (m:=2^32) (by omega) (Nat.pow_le_pow_right (by decide) (by omega)));have e3:decide (31=i)=false:=decide_eq_false (by omega);rw[e1,e2,e3];rfl
theorem neg_sw (s:Bool){x:Nat}(h:x < 2147483648):Op.negFloat .f32 (sw s x)=sw (!s) x:=by
 show (sw s x) ^^^ 2147483648=_;unfold sw
 cases s
 ·exact xor_top h
 ·show (2147483648+x) ^^^ 2147483648=x;rw[←xor_top h,Nat.xor_assoc,Nat.xor_self,Nat.xor_zero]
theorem wpList_neg32 {P:Program} {w:World} {ops:Array Oper} {rest:List Oper} {o:Oper} {a:Act} {Q:Exit→Act→World→Prop} {F G:Nat} {t:TypeId} {x:Operand}
  (hg:o.guard=none) (hop:o.op=Go.Op.unOp .neg t x) (hx:a.eval x=.float .f32 F) (hn:Op.negFloat .f32 F=G) (h:wpList P ops Q rest (a.put o.dst (.float .f32 G)) w):wpList P ops Q (o::rest) a w:=by
 refine wpList_plain hg fun K' hK'=>?_;unfold Oper.wp;simp[execOp,hop,hx,Op.unary,hn];exact hK' _ _ h
theorem max_sw (s:Bool){x:Nat}(h:x < 2139095040){P:Program}(ts:Array TypeId)(t:TypeId)(W:World):(Builtin.max_ ts t #[.float .f32 (sw s x),.float .f32 (sw (!s) x)]).run P W=.ok (.float .f32 x) W:=by
 have ho:=order_fin single (sw_fin s h).2.2.1 (sw_fin (!s) h).2.2.1;rw[(sw_fin s h).2.2.2,(sw_fin (!s) h).2.2.2,compare_int] at ho;have ho2:FloatKind.f32.format.order (sw s x) (sw (!s) x)=_:=ho;rcases Nat.eq_zero_or_pos x with h0 | h0
 ·subst h0
  have d2:FloatKind.f32.format.order (sw s 0) (sw (!s) 0)=some .eq:=by cases s <;> decide +kernel
  have d1:(FloatKind.f32.decode (sw s 0)).neg=s:=by cases s <;> decide +kernel
  clear ho ho2
  cases s
  ·simp[Builtin.max_,Builtin.max2,d1];rfl
  ·simp[Builtin.max_,Builtin.max2,d1];rfl
 ·have hp:=V_lt single h0;rw[V_zero] at hp
  cases s
  ·have hx:¬((V single x:Int) < -(V single x:Int)):=by omega
   have hx2:¬((V single x:Int)= -(V single x:Int)):=by omega
   simp only[Bool.not_false,if_true,Bool.false_eq_true,if_false]at ho2;rw[if_neg hx,if_neg hx2] at ho2;simp[Builtin.max_,Builtin.max2,ho2];rfl
  ·have hx:(-(V single x:Int) < (V single x:Int)):=by omega
   simp only[Bool.not_true,if_true,Bool.false_eq_true,if_false]at ho2;rw[if_pos hx] at ho2;simp[Builtin.max_,Builtin.max2,ho2];rfl
end Go.Proofs.YtnjonlnemagomaaGreatDoor.Flo
